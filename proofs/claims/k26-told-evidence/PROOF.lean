import PyProof.Rows.All
import Wide.All
import OpenK.AllK
import Wide.FinOn
import HandS.ForMost
import HandS.ForExc
import HandS.ExcInit
import HandS.ExcField
import HandS.TryMany
import HandS.Deep
import HandS.DictComp
import HandS.DictTup
import HandS.Rev
import HandS.Conv
import HandS.SortInts
import HandS.SortRule
import HandS.IsInst
import HandS.Flow
import HandS.TupLe
import HandS.Zip
import HandS.Strs
import HandS.Style
import HandS.TupAny
import HandS.TupMul
import KE.DataMinMax
import KE.KTupSum
import KE.DataCmp
import KE.GoesEnum
import PySem.Challenge.RW_quiremarks_k26_told_evidence_of_sequence
set_option Elab.async false
set_option linter.all false
set_option maxRecDepth 100000
set_option maxHeartbeats 4000000
/-! Qm: a small evaluator of pure Python values over a small heap. Q0: values, syntax, evaluation. -/
namespace Qm
open PySem (Str)

/-- a value: lists (lst) that nobody changes any more, tuples, dicts (t: keyed by tuples) as trees; ref: a thing of the small heap that can change; scr: the law's script -/
inductive PV where
  | non | bl (b : Bool) | int (i : Int) | str (s : Str)
  | tup (xs : List PV) | lst (xs : List PV) | dic (t : Bool) (ks vs : List PV)
  | ref (n : Nat) | scr (ns : List Int)
  deriving Inhabited

mutual
def PV.beq : PV → PV → Bool
  | .non, .non => true
  | .bl a, .bl b => a == b
  | .int a, .int b => a == b
  | .str a, .str b => a == b
  | .tup a, .tup b => PV.beqs a b
  | .lst a, .lst b => PV.beqs a b
  | .dic t a b, .dic u c d => (t == u) && PV.beqs a c && PV.beqs b d
  | .ref a, .ref b => a == b
  | .scr a, .scr b => a == b
  | _, _ => false
def PV.beqs : List PV → List PV → Bool
  | [], [] => true
  | x :: xs, y :: ys => PV.beq x y && PV.beqs xs ys
  | _, _ => false
end
mutual
theorem PV.beq_self : ∀ x : PV, PV.beq x x = true
  | .non => by simp [PV.beq]
  | .bl _ => by simp [PV.beq]
  | .int _ => by simp [PV.beq]
  | .str _ => by simp [PV.beq]
  | .tup a => by simp [PV.beq, PV.beqs_self a]
  | .lst a => by simp [PV.beq, PV.beqs_self a]
  | .dic _ a b => by simp [PV.beq, PV.beqs_self a, PV.beqs_self b]
  | .ref _ => by simp [PV.beq]
  | .scr _ => by simp [PV.beq]
theorem PV.beqs_self : ∀ x : List PV, PV.beqs x x = true
  | [] => by simp [PV.beqs]
  | x :: xs => by simp [PV.beqs, PV.beq_self x, PV.beqs_self xs]
end
mutual
theorem PV.eq_of_beq : ∀ x y : PV, PV.beq x y = true → x = y
  | .non, y, h => by cases y <;> simp [PV.beq] at h ⊢
  | .bl _, y, h => by cases y <;> simp [PV.beq] at h ⊢; exact h
  | .int _, y, h => by cases y <;> simp [PV.beq] at h ⊢; exact h
  | .str _, y, h => by cases y <;> simp [PV.beq] at h ⊢; exact h
  | .tup a, y, h => by cases y <;> simp [PV.beq] at h ⊢; exact PV.eqs_of_beqs _ _ h
  | .lst a, y, h => by cases y <;> simp [PV.beq] at h ⊢; exact PV.eqs_of_beqs _ _ h
  | .dic _ a b, y, h => by
    cases y <;> simp [PV.beq] at h ⊢
    exact ⟨h.1.1, PV.eqs_of_beqs _ _ h.1.2, PV.eqs_of_beqs _ _ h.2⟩
  | .ref _, y, h => by cases y <;> simp [PV.beq] at h ⊢; exact h
  | .scr _, y, h => by cases y <;> simp [PV.beq] at h ⊢; exact h
theorem PV.eqs_of_beqs : ∀ x y : List PV, PV.beqs x y = true → x = y
  | [], y, h => by cases y <;> simp [PV.beqs] at h ⊢
  | x :: xs, y, h => by
    cases y with
    | nil => simp [PV.beqs] at h
    | cons z zs =>
      simp [PV.beqs] at h
      rw [PV.eq_of_beq _ _ h.1, PV.eqs_of_beqs _ _ h.2]
end
instance : DecidableEq PV := fun x y => if h : PV.beq x y = true then .isTrue (PV.eq_of_beq x y h) else .isFalse fun e => h (e ▸ PV.beq_self x)

/-- a thing of the small heap: a list, a dict, an instance (of the class numbered c, its fields) -/
inductive MO where
  | lst (xs : List PV) | dic (t : Bool) (ks vs : List PV) | ins (c : Nat) (fs : List (Nat × PV))
  deriving DecidableEq, Inhabited
abbrev MHp := List MO
abbrev Env := List (Option PV)
/-- an exception: its class's number, its fields -/
structure MX where
  cls : Nat
  fs : List PV
  deriving DecidableEq
inductive Res (α : Type) where
  | ok (a : α) (h : MHp) | exn (x : MX) (h : MHp) | stuck
inductive SRes where
  | nx (σ : Env) (h : MHp) | rt (v : PV) (h : MHp) | bk (σ : Env) (h : MHp) | ct (σ : Env) (h : MHp) | ex (x : MX) (σ : Env) (h : MHp) | stuck
def Res.bind {α β : Type} (r : Res α) (f : α → MHp → Res β) : Res β :=
  match r with
  | .ok a h => f a h
  | .exn x h => .exn x h
  | .stuck => .stuck
@[simp] theorem Res.bind_ok {α β : Type} (a : α) (h : MHp) (f : α → MHp → Res β) : (Res.ok a h).bind f = f a h := rfl
@[simp] theorem Res.bind_exn {α β : Type} (x : MX) (h : MHp) (f : α → MHp → Res β) : (Res.exn x h).bind f = .exn x h := rfl
@[simp] theorem Res.bind_stuck {α β : Type} (f : α → MHp → Res β) : (Res.stuck : Res α).bind f = .stuck := rfl
def ofOpt {α : Type} (o : Option α) (h : MHp) : Res α := match o with | some a => .ok a h | none => .stuck
@[simp] theorem ofOpt_some {α : Type} (a : α) (h : MHp) : ofOpt (some a) h = .ok a h := rfl
@[simp] theorem ofOpt_none {α : Type} (h : MHp) : ofOpt (none : Option α) h = .stuck := rfl

abbrev big : Nat := 16777216

/-! ### operations by values -/
inductive BO where
  | add | sub | mul | fdv | mod | pow
  deriving DecidableEq
inductive CO where
  | eq | ne | lt | le | gt | ge | isN | notN | isin | notin
  deriving DecidableEq
/-- the items of a list, a tuple -/
def itemsT : PV → MHp → Option (List PV)
  | .tup xs, _ => some xs
  | .lst xs, _ => some xs
  | .ref n, h => match h[n]? with | some (.lst xs) => some xs | _ => none
  | _, _ => none
/-- the items of a list -/
def itemsL : PV → MHp → Option (List PV)
  | .lst xs, _ => some xs
  | .ref n, h => match h[n]? with | some (.lst xs) => some xs | _ => none
  | _, _ => none
/-- a dict -/
def asDic : PV → MHp → Option (Bool × List PV × List PV)
  | .dic t ks vs, _ => some (t, ks, vs)
  | .ref n, h => match h[n]? with | some (.dic t ks vs) => some (t, ks, vs) | _ => none
  | _, _ => none
def repN (xs : List PV) : Nat → List PV
  | 0 => []
  | n + 1 => xs ++ repN xs n
def small64 (i : Int) : Bool := decide (-(2 ^ 64) < i ∧ i < 2 ^ 64)
def smallR (i : Int) : Bool := decide (-(2 ^ 62) ≤ i ∧ i < 2 ^ 62)
def bopI : BO → Int → Int → Option PV
  | .add, i, j => some (.int (i + j))
  | .sub, i, j => some (.int (i - j))
  | .mul, i, j => if small64 j || small64 i then some (.int (i * j)) else none
  | .fdv, i, j => if decide (0 < j) && decide (j < 1073741824) then some (.int (i / j)) else none
  | .mod, i, j => if decide (0 < j) then some (.int (i % j)) else none
  | .pow, i, j => if decide (0 ≤ j) && decide (j ≤ 1000000) && decide (i.natAbs < 2 ^ 64) then some (.int (i ^ j.toNat)) else none
def addS (x y : PV) (h : MHp) : Option PV :=
  match x, y with
  | .tup a, .tup b => if decide (a.length + b.length ≤ big) then some (.tup (a ++ b)) else none
  | .str a, .str b => if decide (a.length + b.length ≤ big) then some (.str (a ++ b)) else none
  | x, y => match itemsL x h, itemsL y h with
    | some a, some b => if decide (a.length + b.length ≤ big) then some (.lst (a ++ b)) else none
    | _, _ => none
def mulS (x : PV) (j : Int) (h : MHp) : Option PV :=
  if smallR j then
    match x with
    | .tup a => if decide (2 ≤ j) && decide (j ≤ 1000) && decide (a ≠ []) && decide (a.length ≤ 1000) then some (.tup (repN a j.toNat)) else none
    | .str _ => none
    | x => match itemsL x h with
      | some a => if decide (a.length * j.toNat ≤ big) then some (.lst (repN a j.toNat)) else none
      | _ => none
  else none
def mulJ (x y : PV) (h : MHp) : Option PV := match y with | .int j => mulS x j h | _ => none
def bopS (o : BO) (x y : PV) (h : MHp) : Option PV :=
  match o with
  | .add => addS x y h
  | .mul => mulJ x y h
  | _ => none
def bop (o : BO) (x y : PV) (h : MHp) : Option PV :=
  match x, y with
  | .int i, .int j => bopI o i j
  | x, y => bopS o x y h

/-- the items of a list that + or * makes anew -/
def bopL (o : BO) (x y : PV) (h : MHp) : Option (List PV) :=
  match o with
  | .add => match itemsL x h, itemsL y h with
    | some a, some b => if decide (a.length + b.length ≤ big) then some (a ++ b) else none
    | _, _ => none
  | .mul => match itemsL x h, y with
    | some a, .int j => if smallR j && decide (a.length * j.toNat ≤ big) then some (repN a j.toNat) else none
    | _, _ => none
  | _ => none
/-! ### equality, order -/
mutual
def peq : PV → PV → Bool
  | .non, .non => true
  | .bl a, .bl b => a == b
  | .bl a, .int j => (if a then 1 else 0) == j
  | .int i, .bl b => i == (if b then 1 else 0)
  | .int i, .int j => i == j
  | .str a, .str b => a == b
  | .tup a, .tup b => peqs a b
  | .lst a, .lst b => peqs a b
  | _, _ => false
def peqs : List PV → List PV → Bool
  | [], [] => true
  | x :: xs, y :: ys => peq x y && peqs xs ys
  | _, _ => false
end
-- how deep; none: no data (a thing of the heap, a dict within)
mutual
def dep : PV → Option Nat
  | .non => some 0
  | .bl _ => some 0
  | .int _ => some 0
  | .str s => if s.cps.all (· < 0x110000) then some 0 else none
  | .tup xs => (deps xs).map (· + 1)
  | .lst xs => (deps xs).map (· + 1)
  | _ => none
def deps : List PV → Option Nat
  | [] => some 0
  | x :: xs => match dep x, deps xs with | some a, some b => some (max a b) | _, _ => none
end
/-- data of a depth at most 60 -/
def flatD (x : PV) : Bool := match dep x with | some n => decide (n ≤ 60) | none => false
def eqD (x y : PV) : Option Bool := if flatD x && flatD y then some (peq x y) else none
/-- a list as data: its items -/
def dataOf (x : PV) (h : MHp) : PV := match x with | .ref n => (match h[n]? with | some (.lst xs) => .lst xs | _ => x) | _ => x
-- the order of data; what may be compared
mutual
def alikeP : PV → PV → Bool
  | .non, .non => true
  | .bl _, .bl _ => true
  | .int _, .int _ => true
  | .str _, .str _ => true
  | .lst a, .lst b => alikePs a b
  | .tup a, .tup b => alikePs a b
  | _, _ => false
def alikePs : List PV → List PV → Bool
  | x :: xs, y :: ys => alikeP x y && alikePs xs ys
  | [], _ => true
  | _ :: _, [] => true
end
mutual
def pLt : PV → PV → Bool
  | .bl a, .bl b => !a && b
  | .int i, .int j => decide (i < j)
  | .str a, .str b => decide (a.cps.toList < b.cps.toList)
  | .lst a, .lst b => pLts a b
  | .tup a, .tup b => pLts a b
  | _, _ => false
def pLts : List PV → List PV → Bool
  | [], [] => false
  | [], _ :: _ => true
  | _ :: _, [] => false
  | x :: xs, y :: ys => if peq x y then pLts xs ys else pLt x y
end
/-- a key of such a dict -/
def keyOk (t : Bool) (x : PV) : Bool :=
  match t, x with
  | false, .int _ => true
  | false, .str _ => true
  | true, .tup xs => xs.all fun z => match z with | .int _ => true | _ => false
  | _, _ => false
def isinZ (x : PV) (z : Str) : Option Bool := match x with | .str w => if w.length = 1 then some (z.cps.toList.contains (w.cps.getD 0 0)) else none | _ => none
def isinR (x y : PV) (h : MHp) : Option Bool :=
  match itemsT y h with
  | some xs => if flatD x && xs.all flatD then some (xs.any fun z => peq z x) else none
  | none => match asDic y h with
    | some (t, ks, _) => if keyOk t x then some (ks.any fun z => peq z x) else none
    | none => none
def isinS (x y : PV) (h : MHp) : Option Bool :=
  match y with
  | .str z => isinZ x z
  | y => isinR x y h
def ordI : CO → Int → Int → Option Bool
  | .lt, i, j => some (decide (i < j))
  | .le, i, j => some (decide (i ≤ j))
  | .gt, i, j => some (decide (j < i))
  | .ge, i, j => some (decide (j ≤ i))
  | _, _, _ => none
def ordT : CO → List PV → List PV → Option Bool
  | .lt, a, b => some (pLts a b)
  | .gt, a, b => some (pLts b a)
  | .le, a, b => some (!pLts b a)
  | .ge, a, b => some (!pLts a b)
  | _, _, _ => none
def ordS (o : CO) (x y : PV) : Option Bool :=
  match x, y with
  | .int i, .int j => ordI o i j
  | .tup a, .tup b => if flatD (.tup a) && flatD (.tup b) && alikePs a b then ordT o a b else none
  | _, _ => none
def cop (o : CO) (x y : PV) (h : MHp) : Option Bool :=
  match o with
  | .eq => eqD (dataOf x h) (dataOf y h)
  | .ne => (eqD (dataOf x h) (dataOf y h)).map not
  | .isN => match y with | .non => some (decide (x = .non)) | .bl b => (match x with | .bl a => some (decide (a = b)) | _ => none) | _ => none
  | .notN => match y with | .non => some (!decide (x = .non)) | .bl b => (match x with | .bl a => some (!decide (a = b)) | _ => none) | _ => none
  | .isin => isinS x y h
  | .notin => (isinS x y h).map not
  | o => ordS o x y
def truthR (x : PV) (h : MHp) : Option Bool :=
  match itemsT x h with
  | some xs => some (!xs.isEmpty)
  | none => match asDic x h with
    | some (false, ks, _) => some (!ks.isEmpty)
    | _ => none
def truth (x : PV) (h : MHp) : Option Bool :=
  match x with
  | .non => some false
  | .bl b => some b
  | .int i => some (i != 0)
  | .str s => some (s.length != 0)
  | x => truthR x h
/-- a place counted from the end if it is negative -/
def ixN (n : Nat) (i : Int) : Option Nat := if 0 ≤ i then (if i < n then some i.toNat else none) else if -(n : Int) ≤ i then some (i + n).toNat else none
def atI {α : Type} (xs : List α) (i : Int) : Option α := (ixN xs.length i).bind fun j => xs[j]?
def lookK : List PV → List PV → PV → Option PV
  | k :: ks, v :: vs, x => if peq k x then some v else lookK ks vs x
  | _, _, _ => none
def indexI (xs : List PV) (i : PV) : Option PV := match i with | .int i => atI xs i | _ => none
def indexZ (z : Str) (i : PV) : Option PV := match i with | .int i => (atI z.cps.toList i).map fun c => .str ⟨#[c]⟩ | _ => none
def indexR (x i : PV) (h : MHp) : Option PV :=
  match itemsT x h with
  | some xs => indexI xs i
  | none => match asDic x h with
    | some (t, ks, vs) => if keyOk t i then lookK ks vs i else none
    | none => none
def index (x i : PV) (h : MHp) : Option PV :=
  match x with
  | .str z => indexZ z i
  | x => indexR x i h
def sIx (n d : Nat) : Option Int → Nat
  | none => d
  | some i => if i < 0 then (i + (n : Int)).toNat else min i.toNat n
def cut {α : Type} (xs : List α) (lo hi : Option Int) : List α := (xs.drop (sIx xs.length 0 lo)).take (sIx xs.length xs.length hi - sIx xs.length 0 lo)
def slice (x : PV) (lo hi : Option Int) (h : MHp) : Option PV :=
  match x with
  | .str z => some (.str ⟨(cut z.cps.toList lo hi).toArray⟩)
  | .tup xs => some (.tup (cut xs lo hi))
  | x => match itemsL x h with
    | some xs => some (.lst (cut xs lo hi))
    | none => none
def revS (x : PV) (h : MHp) : Option PV :=
  match x with
  | .tup xs => some (.tup xs.reverse)
  | x => match itemsL x h with
    | some xs => some (.lst xs.reverse)
    | none => none

/-! ### built-in functions by values -/
inductive Bi where
  | len | abs | int | sum | min1 | max1 | min2 | max2 | all | any | tuple | str
  deriving DecidableEq
/-- those that make a new list -/
inductive Bl where
  | list | sorted
  deriving DecidableEq
def bools : List PV → Option (List Bool)
  | [] => some []
  | .bl b :: r => (bools r).map (b :: ·)
  | _ => none
/-- the least one, the first of several -/
def minI : Int → List Int → Int
  | x, [] => x
  | x, y :: r => minI (if y < x then y else x) r
def maxI : Int → List Int → Int
  | x, [] => x
  | x, y :: r => maxI (if x < y then y else x) r
def insI (x : Int) : List Int → List Int
  | [] => [x]
  | y :: r => if x ≤ y then x :: y :: r else y :: insI x r
def sortI : List Int → List Int
  | [] => []
  | x :: r => insI x (sortI r)
def intsOf : List PV → Option (List Int)
  | [] => some []
  | .int i :: r => (intsOf r).map (i :: ·)
  | _ => none
/-- by the first place where they differ; the shorter first -/
def lexL : List Int → List Int → Bool
  | [], [] => false
  | [], _ :: _ => true
  | _ :: _, [] => false
  | x :: xs, y :: ys => if x = y then lexL xs ys else decide (x < y)
def intsL : List PV → Option (List (List Int))
  | [] => some []
  | .tup xs :: r => match intsOf xs, intsL r with | some a, some b => some (a :: b) | _, _ => none
  | _ => none
def insL (x : List Int) : List (List Int) → List (List Int)
  | [] => [x]
  | y :: r => if lexL y x then y :: insL x r else x :: y :: r
def sortL : List (List Int) → List (List Int)
  | [] => []
  | x :: r => insL x (sortL r)
def sortedP (xs : List PV) : Option (List PV) :=
  match intsOf xs with
  | some ns => some ((sortI ns).map .int)
  | none => match intsL xs with
    | some ls => if decide (ls.length < 2) || ls.all (fun l => !l.isEmpty) then some ((sortL ls).map fun ns => .tup (ns.map .int)) else none
    | none => none
def lenR (x : PV) (h : MHp) : Option PV :=
  match itemsT x h with
  | some xs => some (.int xs.length)
  | none => none
def lenP (x : PV) (h : MHp) : Option PV :=
  match x with
  | .str s => some (.int s.length)
  | x => lenR x h
def isNon : PV → Bool
  | .non => true
  | _ => false
def okOrd (l : List PV) : Bool := l.all flatD && l.all (fun x => !isNon x) && l.all fun x => l.all fun y => alikeP x y
def minV (x : PV) (r : List PV) : PV := r.foldl (fun a y => if pLt y a then y else a) x
def maxV (x : PV) (r : List PV) : PV := r.foldl (fun a y => if pLt a y then y else a) x
def minP : List PV → Option PV
  | x :: r => if okOrd (x :: r) then some (minV x r) else none
  | [] => none
def maxP : List PV → Option PV
  | x :: r => if okOrd (x :: r) then some (maxV x r) else none
  | [] => none
def sumP (xs : List PV) : Option PV := (intsOf xs).map fun ns => .int ns.sum
def absP (x : PV) : Option PV := match x with | .int i => some (.int (if i < 0 then -i else i)) | _ => none
def intP (x : PV) : Option PV := match x with | .int i => some (.int i) | .bl k => some (.int (if k then 1 else 0)) | _ => none
def strP (x : PV) : Option PV := match x with | .int i => if decide (i.natAbs < 2 ^ 64) then some (.str (Str.ofString (toString i))) else none | _ => none
def bi1 (b : Bi) (x : PV) (h : MHp) : Option PV :=
  match b with
  | .len => lenP x h
  | .abs => absP x
  | .int => intP x
  | .sum => (itemsT x h).bind sumP
  | .min1 => (itemsT x h).bind minP
  | .max1 => (itemsT x h).bind maxP
  | .all => (itemsL x h).bind fun xs => (bools xs).map fun bs => .bl (bs.all id)
  | .any => (itemsL x h).bind fun xs => (bools xs).map fun bs => .bl (bs.any id)
  | .tuple => (itemsT x h).map .tup
  | .str => none
  | _ => none
def bl1 (b : Bl) (x : PV) (h : MHp) : Option (List PV) :=
  match b with
  | .list => match x with
    | .scr ns => some (ns.map .int)
    | x => itemsT x h
  | .sorted => (itemsL x h).bind sortedP
def blS (b : Bl) (xs : List PV) (h : MHp) : Option (List PV) := match xs with | [x] => bl1 b x h | _ => none
def bi2 (b : Bi) (x y : PV) : Option PV :=
  match b, x, y with
  | .min2, .int i, .int j => some (.int (if j < i then j else i))
  | .max2, .int i, .int j => some (.int (if j > i then j else i))
  | _, _, _ => none
def biS (b : Bi) (xs : List PV) (h : MHp) : Option PV :=
  match xs with
  | [x] => bi1 b x h
  | [x, y] => bi2 b x y
  | _ => none
/-- the built-in classes that isinstance asks for -/
inductive Ty where
  | int | bool | str | tuple | list
  deriving DecidableEq
def isTy (t : Ty) (x : PV) (h : MHp) : Option Bool :=
  match x with
  | .non => some false
  | .bl _ => some (decide (t = .int) || decide (t = .bool))
  | .int _ => some (decide (t = .int))
  | .str _ => some (decide (t = .str))
  | .tup _ => some (decide (t = .tuple))
  | .lst _ => some (decide (t = .list))
  | .dic _ _ _ => some false
  | .ref n => match h[n]? with | some (.lst _) => some (decide (t = .list)) | some (.dic _ _ _) => some false | _ => none
  | .scr _ => none
/-! ### methods of built-in types -/
inductive Mt where
  | append | extend | pop | popAt | get | index | count | join | values
  deriving DecidableEq
/-- where a flat thing stands first -/
def findP (x : PV) : List PV → Nat → Option Nat
  | [], _ => none
  | y :: r, n => if peq y x then some n else findP x r (n + 1)
def repV : List PV → List PV → PV → PV → List PV
  | k :: ks, v :: vs, x, y => (if peq k x then y else v) :: repV ks vs x y
  | _, vs, _, _ => vs
def setK (ks vs : List PV) (x y : PV) : List PV × List PV := if (ks.any fun z => peq z x) then (ks, repV ks vs x y) else (ks ++ [x], vs ++ [y])
def mth (m : Mt) (x : PV) (args : List PV) (h : MHp) : Option (PV × MHp) :=
  match m, args with
  | .append, [y] => match x with
    | .ref n => match h[n]? with | some (.lst xs) => if decide (xs.length < big) then some (.non, h.set n (.lst (xs ++ [y]))) else none | _ => none
    | _ => none
  | .extend, [y] => match x with
    | .ref n => match h[n]? with
      | some (.lst xs) => (itemsL y h).bind fun ys => if decide (xs.length + ys.length ≤ big) then some (.non, h.set n (.lst (xs ++ ys))) else none
      | _ => none
    | _ => none
  | .pop, [] => match x with
    | .ref n => match h[n]? with | some (.lst xs) => (xs[xs.length - 1]?).map fun y => (y, h.set n (.lst xs.dropLast)) | _ => none
    | _ => none
  | .popAt, [.int i] => match x with
    | .ref n => match h[n]? with
      | some (.lst xs) => (ixN xs.length i).bind fun k => (xs[k]?).map fun y => (y, h.set n (.lst (xs.eraseIdx k)))
      | _ => none
    | _ => none
  | .get, [k, d] => (asDic x h).bind fun (t, ks, vs) => if keyOk t k then some ((lookK ks vs k).getD d, h) else none
  | .index, [y] => (itemsL x h).bind fun xs => if flatD y && xs.all flatD then (findP y xs 0).map fun (k : Nat) => (PV.int (k : Int), h) else none
  | .count, [.int y] => match x with
    | .tup xs => (intsOf xs).map fun ns => (.int (ns.count y), h)
    | _ => none
  | .values, [] => (asDic x h).map fun (_, _, vs) => (.lst vs, h)
  | _, _ => none
/-- the method is the receiver's -/
def rcv (m : Mt) (x : PV) (h : MHp) : Bool :=
  match m with
  | .get => true
  | .count => true
  | .join => true
  | .values => true
  | _ => (itemsL x h).isSome
/-- o[i] = v -/
def storeIx (o i v : PV) (h : MHp) : Option MHp :=
  match o with
  | .ref n => match h[n]? with
    | some (.lst xs) => match i with | .int i => (ixN xs.length i).map fun k => h.set n (.lst (xs.set k v)) | _ => none
    | some (.dic t ks vs) => if keyOk t i && decide (ks.length < big) then some (h.set n (.dic t (setK ks vs i v).1 (setK ks vs i v).2)) else none
    | _ => none
  | _ => none

/-! ### targets -/
mutual
inductive MT where
  | nm (i : Nat) | tp (ts : MTs)
inductive MTs where
  | nil | cons (t : MT) (r : MTs)
end
mutual
def asgT : MT → PV → Env → Option Env
  | .nm i, v, σ => some (σ.set i (some v))
  | .tp ts, .tup xs, σ => asgTs ts xs σ
  | .tp ts, .lst xs, σ => asgTs ts xs σ
  | .tp _, _, _ => none
def asgTs : MTs → List PV → Env → Option Env
  | .nil, [], σ => some σ
  | .cons t r, x :: xs, σ => (asgT t x σ).bind fun σ' => asgTs r xs σ'
  | _, _, _ => none
end

/-! ### syntax -/
mutual
inductive ME where
  | var (i : Nat)
  | cst (v : PV)
  | glb (k : Nat)
  | bin (o : BO) (a b : ME)
  | bnm (o : BO) (a b : ME)
  | neg (a : ME)
  | not (a : ME)
  | cmp (o : CO) (a b : ME)
  | chn (o p : CO) (a b c : ME)
  | and (es : MEs)
  | or (es : MEs)
  | ife (c a b : ME)
  | ix (a i : ME)
  | sl (a : ME) (lo hi : MOp)
  | rev (a : ME)
  | tup (es : MEs)
  | lst (m : Bool) (es : MEs)
  | dc0 (m t : Bool)
  | dc1 (m : Bool) (k v : ME)
  | call (f : Nat) (es : MEs)
  | bif (b : Bi) (es : MEs)
  | bil (b : Bl) (m : Bool) (es : MEs)
  | lrg (m : Bool) (es : MEs)
  | isi (t : Ty) (a : ME)
  | mth (m : Mt) (o : ME) (es : MEs)
  | lc (own : List Nat) (elt : ME) (tg : MT) (it : MI) (ifs : MEs)
  | lcm (own : List Nat) (elt : ME) (tg : MT) (it : MI) (ifs : MEs)
  | xfl (f : Nat)
  | xis (c : Nat)
inductive MEs where
  | nil | cons (e : ME) (r : MEs)
inductive MOp where
  | no | some (e : ME)
inductive MI where
  | seq (e : ME) | rng (es : MEs) | enu (e : ME) | zip (a b : ME) | rvd (e : ME) | itm (e : ME)
end
mutual
inductive MS where
  | asg (t : MT) (e : ME)
  | aug (i : Nat) (o : BO) (e : ME)
  | stx (o i e : ME)
  | exp (e : ME)
  | ite (c : ME) (a b : MSs)
  | for (t : MT) (it : MI) (b : MSs)
  | whl (n : Nat) (c : ME) (b : MSs)
  | ret (e : ME)
  | retN
  | rai (c : Nat) (es : MEs)
  | try (b : MSs) (c : Nat) (i : Option Nat) (s : MSs)
  | pas | brk | cnt
inductive MSs where
  | nil | cons (s : MS) (r : MSs)
end

/-! ### the program -/
structure FnD where
  np : Nat
  nl : Nat
  raw : Bool
  body : MSs
/-- the program: the constants of the top; the classes of exceptions (each with those above it); the defs by their numbers -/
structure Prog where
  con : Nat → Option PV
  fld : Nat → List Nat
  sub : Nat → Nat → Bool
  fns : Nat → Option FnD
/-- the field numbered f, by the class's list of its fields' numbers -/
def lookF : List Nat → List PV → Nat → Option PV
  | k :: ks, v :: vs, f => if k = f then some v else lookF ks vs f
  | _, _, _ => none
abbrev Fn := Nat → List PV → MHp → Res PV
structure Wk where
  items : List PV
  src : List (Nat × MO)
def srcOk : List (Nat × MO) → MHp → Bool
  | [], _ => true
  | (n, o) :: r, h => decide (h[n]? = some o) && srcOk r h
def srcOf (x : PV) (xs : List PV) : List (Nat × MO) := match x with | .ref n => [(n, .lst xs)] | _ => []
def srcOfD (x : PV) (t : Bool) (ks vs : List PV) : List (Nat × MO) := match x with | .ref n => [(n, .dic t ks vs)] | _ => []
def wipeE (σ : Env) : List Nat → Env
  | [] => σ
  | v :: vs => (wipeE σ vs).set v none
def rngI (lo : Int) (n : Nat) : List PV := (List.range n).map fun (k : Nat) => .int (lo + (k : Int))
def rngC (lo c : Int) (n : Nat) : List PV := (List.range n).map fun (k : Nat) => .int (lo + (k : Int) * c)
/-- the ints of a range -/
def rangeOf : List PV → Option (List PV)
  | [.int j] => if smallR j && decide (j.toNat ≤ big) then some (rngI 0 j.toNat) else none
  | [.int i, .int j] => if smallR i && smallR j && decide ((j - i).toNat ≤ big) then some (rngI i (j - i).toNat) else none
  | [.int i, .int j, .int c] =>
    if smallR i && smallR j && decide (0 < c) && decide (c < 1000) && decide ((j - i).toNat ≤ big) then some (rngC i c ((j - i + c - 1) / c).toNat)
    else if smallR i && smallR j && decide (c = -1) && decide ((i - j).toNat ≤ big) then some (rngC i (-1) (i - j).toNat)
    else none
  | _ => none
def enumL : Nat → List PV → List PV
  | _, [] => []
  | n, x :: r => .tup [.int n, x] :: enumL (n + 1) r
def zipL : List PV → List PV → List PV
  | x :: xs, y :: ys => .tup [x, y] :: zipL xs ys
  | _, _ => []
def itemsZ (x y : PV) (h : MHp) : Option Wk :=
  match x, y with
  | .tup a, .tup b => some ⟨zipL a b, []⟩
  | x, y => match itemsL x h, itemsL y h with
    | some a, some b => some ⟨zipL a b, srcOf x a ++ srcOf y b⟩
    | _, _ => none
/-- a new thing of the small heap, or a list that nobody will change -/
def newL (m : Bool) (xs : List PV) (h : MHp) : Res PV := if m then .ok (.ref h.length) (h ++ [.lst xs]) else .ok (.lst xs) h
/-- a comprehension's loop -/
def loopC (fe : Env → MHp → Res PV) (ft : Env → MHp → Res Bool) (tg : MT) (src : List (Nat × MO)) : List PV → Env → MHp → Res (List PV)
  | [], _, h => if srcOk src h then .ok [] h else .stuck
  | x :: xs, σ, h =>
    if srcOk src h then
      match asgT tg x σ with
      | none => .stuck
      | some σ' => (ft σ' h).bind fun b h1 =>
        if b then (fe σ' h1).bind fun y h2 => (loopC fe ft tg src xs σ h2).bind fun ys h3 => .ok (y :: ys) h3
        else loopC fe ft tg src xs σ h1
    else .stuck
/-- .. the list stands in the small heap at n -/
def loopM (fe : Env → MHp → Res PV) (ft : Env → MHp → Res Bool) (tg : MT) (src : List (Nat × MO)) (n : Nat) : List PV → Env → MHp → Option MHp
  | [], _, h => if srcOk src h then some h else none
  | x :: xs, σ, h =>
    if srcOk src h then
      match asgT tg x σ with
      | none => none
      | some σ' => match ft σ' h with
        | .ok true h1 => match fe σ' h1 with
          | .ok y h2 => match h2[n]? with
            | some (.lst acc) => loopM fe ft tg src n xs σ (h2.set n (.lst (acc ++ [y])))
            | _ => none
          | _ => none
        | .ok false h1 => loopM fe ft tg src n xs σ h1
        | _ => none
    else none
def loopF (fb : Env → MHp → SRes) (tg : MT) (src : List (Nat × MO)) : List PV → Env → MHp → SRes
  | [], σ, h => if srcOk src h then .nx σ h else .stuck
  | x :: xs, σ, h =>
    if srcOk src h then
      match asgT tg x σ with
      | none => .stuck
      | some σ' => match fb σ' h with
        | .nx σ1 h1 => loopF fb tg src xs σ1 h1
        | .ct σ1 h1 => loopF fb tg src xs σ1 h1
        | .bk σ1 h1 => .nx σ1 h1
        | r => r
    else .stuck
def ofRes (r : Res Bool) (σ : Env) (f : Bool → MHp → SRes) : SRes :=
  match r with
  | .ok b h => f b h
  | .exn x h => .ex x σ h
  | .stuck => .stuck
def ofResV {α : Type} (r : Res α) (σ : Env) (f : α → MHp → SRes) : SRes :=
  match r with
  | .ok b h => f b h
  | .exn x h => .ex x σ h
  | .stuck => .stuck
def loopW (fc : Env → MHp → Res Bool) (fb : Env → MHp → SRes) : Nat → Env → MHp → SRes
  | 0, _, _ => .stuck
  | n + 1, σ, h => ofRes (fc σ h) σ fun b h1 =>
    if b then
      match fb σ h1 with
      | .nx σ1 h2 => loopW fc fb n σ1 h2
      | .ct σ1 h2 => loopW fc fb n σ1 h2
      | .bk σ1 h2 => .nx σ1 h2
      | r => r
    else .nx σ h1

mutual
def ev (P : Prog) (F : Fn) (cx : Option MX) : ME → Env → MHp → Res PV
  | .var i, σ, h => match σ[i]? with | some (some v) => .ok v h | _ => .stuck
  | .cst v, _, h => .ok v h
  | .glb k, _, h => ofOpt (P.con k) h
  | .bin o a b, σ, h => (ev P F cx a σ h).bind fun x h1 => (ev P F cx b σ h1).bind fun y h2 => ofOpt (bop o x y h2) h2
  | .bnm o a b, σ, h => (ev P F cx a σ h).bind fun x h1 => (ev P F cx b σ h1).bind fun y h2 =>
    (ofOpt (bopL o x y h2) h2).bind fun xs h3 => newL true xs h3
  | .neg a, σ, h => (ev P F cx a σ h).bind fun x h1 => match x with | .int i => .ok (.int (-i)) h1 | _ => .stuck
  | .not a, σ, h => (ev P F cx a σ h).bind fun x h1 => (ofOpt (truth x h1) h1).bind fun b h2 => .ok (.bl (!b)) h2
  | .cmp o a b, σ, h => (ev P F cx a σ h).bind fun x h1 => (ev P F cx b σ h1).bind fun y h2 => (ofOpt (cop o x y h2) h2).bind fun k h3 => .ok (.bl k) h3
  | .chn o p a b c, σ, h => (ev P F cx a σ h).bind fun x h1 => (ev P F cx b σ h1).bind fun y h2 => (ofOpt (cop o x y h2) h2).bind fun k h3 =>
    if k then (ev P F cx c σ h3).bind fun z h4 => (ofOpt (cop p y z h4) h4).bind fun k h5 => .ok (.bl k) h5 else .ok (.bl false) h3
  | .and es, σ, h => evAnd P F cx es σ h
  | .or es, σ, h => evOr P F cx es σ h
  | .ife c a b, σ, h => (ev P F cx c σ h).bind fun x h1 => (ofOpt (truth x h1) h1).bind fun k h2 => if k then ev P F cx a σ h2 else ev P F cx b σ h2
  | .ix a i, σ, h => (ev P F cx a σ h).bind fun x h1 => (ev P F cx i σ h1).bind fun y h2 => ofOpt (index x y h2) h2
  | .sl a lo hi, σ, h => (ev P F cx a σ h).bind fun x h1 => (evO P F cx lo σ h1).bind fun l h2 => (evO P F cx hi σ h2).bind fun u h3 => ofOpt (slice x l u h3) h3
  | .rev a, σ, h => (ev P F cx a σ h).bind fun x h1 => ofOpt (revS x h1) h1
  | .tup es, σ, h => (evs P F cx es σ h).bind fun xs h1 => if decide (xs.length ≤ big) then .ok (.tup xs) h1 else .stuck
  | .lst m es, σ, h => (evs P F cx es σ h).bind fun xs h1 => if decide (xs.length ≤ big) then newL m xs h1 else .stuck
  | .dc0 m t, _, h => if m then .ok (.ref h.length) (h ++ [.dic t [] []]) else .ok (.dic t [] []) h
  | .dc1 m k v, σ, h => match ev P F cx k σ h with
    | .ok x h1 => (match ev P F cx v σ h1 with
      | .ok y h2 => if keyOk false x then (if m then .ok (.ref h2.length) (h2 ++ [.dic false [x] [y]]) else .ok (.dic false [x] [y]) h2) else .stuck
      | _ => .stuck)
    | _ => .stuck
  | .call f es, σ, h => (evs P F cx es σ h).bind fun xs h1 => F f xs h1
  | .bif b es, σ, h => (evs P F cx es σ h).bind fun xs h1 => ofOpt (biS b xs h1) h1
  | .bil b m es, σ, h => (evs P F cx es σ h).bind fun xs h1 => (ofOpt (blS b xs h1) h1).bind fun ys h2 => newL m ys h2
  | .lrg m es, σ, h => (evs P F cx es σ h).bind fun xs h1 => (ofOpt (rangeOf xs) h1).bind fun ys h2 => newL m ys h2
  | .isi t a, σ, h => (ev P F cx a σ h).bind fun x h1 => (ofOpt (isTy t x h1) h1).bind fun k h2 => .ok (.bl k) h2
  | .mth m o es, σ, h => (ev P F cx o σ h).bind fun x h1 => if rcv m x h1 then (evs P F cx es σ h1).bind fun xs h2 =>
    (match mth m x xs h2 with | some (v, h3) => .ok v h3 | none => .stuck) else .stuck
  | .lc own elt tg it ifs, σ, h => (evI P F cx it σ h).bind fun r h1 =>
    match loopC (ev P F cx elt) (evT P F cx ifs) tg r.src r.items (wipeE σ own) h1 with
    | .ok ys h2 => .ok (.lst ys) h2
    | _ => .stuck
  | .lcm own elt tg it ifs, σ, h => (evI P F cx it σ h).bind fun r h1 =>
    match loopM (ev P F cx elt) (evT P F cx ifs) tg r.src h1.length r.items (wipeE σ own) (h1 ++ [.lst []]) with
    | some h2 => .ok (.ref h1.length) h2
    | none => .stuck
  | .xfl f, _, h => match cx with | some x => ofOpt (lookF (P.fld x.cls) x.fs f) h | none => .stuck
  | .xis c, _, h => match cx with | some x => .ok (.bl (P.sub x.cls c)) h | none => .stuck
def evs (P : Prog) (F : Fn) (cx : Option MX) : MEs → Env → MHp → Res (List PV)
  | .nil, _, h => .ok [] h
  | .cons e r, σ, h => (ev P F cx e σ h).bind fun x h1 => (evs P F cx r σ h1).bind fun xs h2 => .ok (x :: xs) h2
def evAnd (P : Prog) (F : Fn) (cx : Option MX) : MEs → Env → MHp → Res PV
  | .nil, _, _ => .stuck
  | .cons e r, σ, h => (ev P F cx e σ h).bind fun x h1 => match r with
    | .nil => .ok x h1
    | .cons _ _ => (ofOpt (truth x h1) h1).bind fun k h2 => if k then evAnd P F cx r σ h2 else .ok x h2
def evOr (P : Prog) (F : Fn) (cx : Option MX) : MEs → Env → MHp → Res PV
  | .nil, _, _ => .stuck
  | .cons e r, σ, h => (ev P F cx e σ h).bind fun x h1 => match r with
    | .nil => .ok x h1
    | .cons _ _ => (ofOpt (truth x h1) h1).bind fun k h2 => if k then .ok x h2 else evOr P F cx r σ h2
def evO (P : Prog) (F : Fn) (cx : Option MX) : MOp → Env → MHp → Res (Option Int)
  | .no, _, h => .ok none h
  | .some e, σ, h => (ev P F cx e σ h).bind fun x h1 => match x with | .int i => .ok (some i) h1 | _ => .stuck
/-- the tests of a comprehension (none or one) -/
def evT (P : Prog) (F : Fn) (cx : Option MX) : MEs → Env → MHp → Res Bool
  | .nil, _, h => .ok true h
  | .cons e .nil, σ, h => (ev P F cx e σ h).bind fun x h1 => ofOpt (truth x h1) h1
  | .cons _ (.cons _ _), _, _ => .stuck
def evI (P : Prog) (F : Fn) (cx : Option MX) : MI → Env → MHp → Res Wk
  | .seq e, σ, h => (ev P F cx e σ h).bind fun x h1 => (ofOpt (itemsT x h1) h1).bind fun xs h2 => .ok ⟨xs, srcOf x xs⟩ h2
  | .rng es, σ, h => (evs P F cx es σ h).bind fun xs h1 => (ofOpt (rangeOf xs) h1).bind fun ys h2 => .ok ⟨ys, []⟩ h2
  | .enu e, σ, h => (ev P F cx e σ h).bind fun x h1 => (ofOpt (itemsT x h1) h1).bind fun xs h2 => .ok ⟨enumL 0 xs, srcOf x xs⟩ h2
  | .zip a b, σ, h => (ev P F cx a σ h).bind fun x h1 => (ev P F cx b σ h1).bind fun y h2 => ofOpt (itemsZ x y h2) h2
  | .rvd e, σ, h => (ev P F cx e σ h).bind fun x h1 => (ofOpt (itemsT x h1) h1).bind fun xs h2 => .ok ⟨xs.reverse, srcOf x xs⟩ h2
  | .itm e, σ, h => (ev P F cx e σ h).bind fun x h1 => (ofOpt (asDic x h1) h1).bind fun d h2 => .ok ⟨zipL d.2.1 d.2.2, srcOfD x d.1 d.2.1 d.2.2⟩ h2
end

mutual
def ex (P : Prog) (F : Fn) (cx : Option MX) : MS → Env → MHp → SRes
  | .asg t e, σ, h => ofResV (ev P F cx e σ h) σ fun x h1 => match asgT t x σ with | some σ' => .nx σ' h1 | none => .stuck
  | .aug i o e, σ, h => match σ[i]? with
    | some (some x) => ofResV (ev P F cx e σ h) σ fun y h1 => match x, y with
      | .int a, .int b => match bopI o a b with | some z => .nx (σ.set i (some z)) h1 | none => .stuck
      | _, _ => .stuck
    | _ => .stuck
  | .stx o i e, σ, h => ofResV (ev P F cx e σ h) σ fun v h1 => ofResV (ev P F cx o σ h1) σ fun x h2 => ofResV (ev P F cx i σ h2) σ fun y h3 =>
    match storeIx x y v h3 with | some h4 => .nx σ h4 | none => .stuck
  | .exp e, σ, h => ofResV (ev P F cx e σ h) σ fun _ h1 => .nx σ h1
  | .ite c a b, σ, h => ofResV (ev P F cx c σ h) σ fun x h1 => match truth x h1 with | some true => exs P F cx a σ h1 | some false => exs P F cx b σ h1 | none => .stuck
  | .for t it b, σ, h => ofResV (evI P F cx it σ h) σ fun r h1 => loopF (exs P F cx b) t r.src r.items σ h1
  | .whl n c b, σ, h => loopW (fun σ h => (ev P F cx c σ h).bind fun x h1 => ofOpt (truth x h1) h1) (exs P F cx b) n σ h
  | .ret e, σ, h => ofResV (ev P F cx e σ h) σ fun x h1 => .rt x h1
  | .retN, _, h => .rt .non h
  | .rai c es, σ, h => match cx with
    | none => ofResV (evs P F cx es σ h) σ fun xs h1 => .ex ⟨c, xs⟩ σ h1
    | some _ => .stuck
  | .try b c i s, σ, h => match cx with
    | none => match exs P F none b σ h with
      | .ex x σ1 h1 => if P.sub x.cls c then
          match exs P F (some x) s (match i with | some j => σ1.set j none | none => σ1) h1 with
          | .nx σ2 h2 => .nx (match i with | some j => σ2.set j none | none => σ2) h2
          | .rt v h2 => .rt v h2
          | _ => .stuck
        else .ex x σ1 h1
      | r => r
    | some _ => .stuck
  | .pas, σ, h => .nx σ h
  | .brk, σ, h => .bk σ h
  | .cnt, σ, h => .ct σ h
def exs (P : Prog) (F : Fn) (cx : Option MX) : MSs → Env → MHp → SRes
  | .nil, σ, h => .nx σ h
  | .cons s r, σ, h => match ex P F cx s σ h with
    | .nx σ1 h1 => exs P F cx r σ1 h1
    | x => x
end

/-! ### a call: what is handed back: things of the callee's own become trees -/
mutual
def frzT (g : Nat → Option PV) : PV → Option PV
  | .non => some .non
  | .bl b => some (.bl b)
  | .int i => some (.int i)
  | .str s => some (.str s)
  | .tup xs => (frzTs g xs).map .tup
  | .lst xs => (frzTs g xs).map .lst
  | .dic t ks vs => match frzTs g ks, frzTs g vs with | some a, some b => some (.dic t a b) | _, _ => none
  | .scr _ => none
  | .ref n => g n
def frzTs (g : Nat → Option PV) : List PV → Option (List PV)
  | [] => some []
  | x :: xs => match frzT g x, frzTs g xs with | some a, some b => some (a :: b) | _, _ => none
end
def frzG (base : Nat) (h : MHp) : Nat → Nat → Option PV
  | 0, _ => none
  | k + 1, n => if n < base then some (.ref n) else match h[n]? with
    | some (.lst xs) => (frzTs (frzG base h k) xs).map .lst
    | some (.dic t ks vs) => match frzTs (frzG base h k) ks, frzTs (frzG base h k) vs with | some a, some b => some (.dic t a b) | _, _ => none
    | _ => none
def frz (base : Nat) (h : MHp) (x : PV) : Option PV := frzT (frzG base h 4) x
def frzs (base : Nat) (h : MHp) (x : List PV) : Option (List PV) := frzTs (frzG base h 4) x
mutual
def nor : PV → Bool
  | .non => true
  | .bl _ => true
  | .int _ => true
  | .str _ => true
  | .tup xs => nors xs
  | .lst xs => nors xs
  | .dic _ ks vs => nors ks && nors vs
  | .scr _ => false
  | .ref _ => false
def nors : List PV → Bool
  | [] => true
  | x :: xs => nor x && nors xs
end
def norO : MO → Bool
  | .lst xs => nors xs
  | .dic _ ks vs => nors ks && nors vs
  | .ins _ _ => false
/-- the caller's things stand as they were, or hold trees alone -/
def keepOk : MHp → MHp → Bool
  | [], _ => true
  | o :: r, o' :: r' => (decide (o' = o) || norO o') && keepOk r r'
  | _ :: _, [] => false
/-- the end of a call that began at the heap h -/
def leave (raw : Bool) (h h' : MHp) (v : PV) : Res PV :=
  if raw then .ok v h' else if keepOk h h' then ofOpt (frz h.length h' v) (h'.take h.length) else .stuck
def leaveX (raw : Bool) (h h' : MHp) (x : MX) : Res PV :=
  if raw then .exn x h' else if keepOk h h' then (match frzs h.length h' x.fs with | some fs => .exn ⟨x.cls, fs⟩ (h'.take h.length) | none => .stuck) else .stuck
/-- the end of a call with trees alone: the callee had a small heap of its own -/
def leaveT (h h' : MHp) (v : PV) : Res PV := ofOpt (frz 0 h' v) h
def leaveTX (h h' : MHp) (x : MX) : Res PV := match frzs 0 h' x.fs with | some fs => .exn ⟨x.cls, fs⟩ h | none => .stuck
def runFn (P : Prog) (F : Fn) (fd : FnD) (args : List PV) (h : MHp) : Res PV :=
  if args.length = fd.np then
    if !fd.raw && nors args then
      match exs P F none fd.body (args.map some ++ List.replicate (fd.nl - fd.np) none) [] with
      | .nx _ h' => leaveT h h' .non
      | .rt v h' => leaveT h h' v
      | .ex x _ h' => leaveTX h h' x
      | _ => .stuck
    else
      match exs P F none fd.body (args.map some ++ List.replicate (fd.nl - fd.np) none) h with
      | .nx _ h' => leave fd.raw h h' .non
      | .rt v h' => leave fd.raw h h' v
      | .ex x _ h' => leaveX fd.raw h h' x
      | _ => .stuck
  else .stuck
/-- the defs, called at most n deep -/
def callN (P : Prog) : Nat → Fn
  | 0 => fun _ _ _ => .stuck
  | n + 1 => fun f args h => match P.fns f with
    | some fd => runFn P (callN P n) fd args h
    | none => .stuck
end Qm

/-! S0: how the values and the small heap of Qm stand in HandS's abstract heap. -/
namespace Qm
open PySem PySem.Spec PyProof.Rows L2

def keyP : Key → PV
  | .inl i => .int i
  | .inr s => .str s
/-- the written part; what stands hidden (a comprehension's list in the making): no value names it -/
structure KZ where
  f : PySem.W.Frag
  z : List Addr
def Off (K : KZ) (M : List Addr) (a : Addr) : Prop := a ∉ M ∧ a ∉ K.z
section
variable (K : KZ)
/-- a tuple's place: tracked and none of the small heap's, or of the module -/
def TupAt (M : List Addr) (H : Hp) (a : Addr) (vs : List V) : Prop :=
  (vs.length ≤ sizeLine ∧ Off K M a ∧ H a = some (.tup vs)) ∨
    ∃ (o : Obj) (its : Array Value) (n : Nat), K.f.lookup a = some o ∧ o.cls = .type "tuple" ∧ o.data = .seq its n ∧ its.size ≤ sizeLine ∧ Vals vs its.toList ∧ ∃ s, vs[0]? = some (.str s)
def ScrAt (M : List Addr) (H : Hp) (a : Addr) (ns : List Int) : Prop :=
  ns.length ≤ 1000 ∧ ((Off K M a ∧ Rd H a (.lst (ns.map V.int))) ∨
    ∃ (o : Obj) (its : Array Value) (n : Nat), K.f.lookup a = some o ∧ o.cls = .type "list" ∧ o.dict = none ∧ o.data = .seq its n ∧ its.size ≤ sizeLine ∧ Vals (ns.map V.int) its.toList)
/-- what stands as a dict -/
def DK (t : Bool) (ks : List PV) (ws : List V) (u : HO) : Prop :=
  if t = true then ∃ kvs : List (List Key × V), u = .dT kvs ∧ ks = kvs.map (fun p => .tup (p.1.map keyP)) ∧ ws = kvs.map (·.2)
  else ∃ kvs : List (Key × V), u = .dK kvs ∧ ks = kvs.map (fun p => keyP p.1) ∧ ws = kvs.map (·.2)
mutual
def RV (M : List Addr) (H : Hp) : PV → V → Prop
  | .non, v => v = .non
  | .bl b, v => v = .bl b
  | .int i, v => v = .int i
  | .str s, v => v = .str s ∧ s.length ≤ sizeLine
  | .tup xs, v => ∃ a vs, v = .ref a ∧ TupAt K M H a vs ∧ RVs M H xs vs
  | .lst xs, v => ∃ a vs, v = .ref a ∧ vs.length ≤ sizeLine ∧ Off K M a ∧ H a = some (.lst vs) ∧ RVs M H xs vs
  | .dic t ks ws, v => ∃ a us u, v = .ref a ∧ Off K M a ∧ H a = some u ∧ DK t ks us u ∧ RVs M H ws us
  | .ref n, v => ∃ a, v = .ref a ∧ M[n]? = some a
  | .scr ns, v => ∃ a, v = .ref a ∧ ScrAt K M H a ns
def RVs (M : List Addr) (H : Hp) : List PV → List V → Prop
  | [], vs => vs = []
  | x :: xs, vs => ∃ v r, vs = v :: r ∧ RV M H x v ∧ RVs M H xs r
end
/-- a thing of the small heap -/
def ORel (M : List Addr) (H : Hp) (o : MO) (u : Option HO) : Prop :=
  match o with
  | .lst xs => ∃ vs, u = some (.lst vs) ∧ vs.length ≤ sizeLine ∧ RVs K M H xs vs
  | .dic t ks ws => ∃ us x, u = some x ∧ DK t ks us x ∧ RVs K M H ws us
  | .ins _ _ => False
structure HRel (M : List Addr) (H : Hp) (h : MHp) : Prop where
  len : M.length = h.length
  nd : M.Nodup
  zs : ∀ a ∈ K.z, a ∉ M ∧ H a ≠ none
  at_ : ∀ (n : Nat) (a : Addr) (o : MO), M[n]? = some a → h[n]? = some o → ORel K M H o (H a)
def ERel (M : List Addr) (H : Hp) (σ : L2.St) (env : Env) : Prop :=
  env.length = σ.length ∧ ∀ (i : Nat) (p : PV), env[i]? = some (some p) → ∃ v, σ[i]? = some (some v) ∧ RV K M H p v
end
/-- what may happen to the heap: the small heap's things may change, the others stay; what is new was free -/
structure Ext (M : List Addr) (H : Hp) (M' : List Addr) (H' : Hp) : Prop where
  pre : ∃ l, M' = M ++ l
  keep : ∀ a o, a ∉ M → H a = some o → H' a = some o
  new : ∀ a, a ∈ M' → a ∈ M ∨ H a = none
section
variable {K : KZ} {M M' M1 M2 : List Addr} {H H' H1 H2 : Hp}
theorem Ext.refl : Ext M H M H := ⟨⟨[], by simp⟩, fun _ _ _ e => e, fun _ h => .inl h⟩
theorem Ext.mem (x : Ext M H M' H') {a : Addr} (h : a ∈ M) : a ∈ M' := by
  obtain ⟨l, e⟩ := x.pre
  rw [e]; exact List.mem_append_left _ h
theorem Ext.out (x : Ext M H M' H') {a : Addr} {o : HO} (h : a ∉ M) (e : H a = some o) : a ∉ M' := fun z => by
  rcases x.new a z with q | q
  · exact h q
  · rw [q] at e; cases e
theorem Ext.trans (x : Ext M H M1 H1) (y : Ext M1 H1 M2 H2) : Ext M H M2 H2 where
  pre := by
    obtain ⟨l, e⟩ := x.pre
    obtain ⟨l', e'⟩ := y.pre
    exact ⟨l ++ l', by rw [e', e, List.append_assoc]⟩
  keep := fun a o n e => y.keep a o (x.out n e) (x.keep a o n e)
  new := fun a h => by
    rcases y.new a h with q | q
    · exact x.new a q
    · by_cases hm : a ∈ M
      · exact .inl hm
      · refine .inr ?_
        cases e : H a with
        | none => rfl
        | some o => rw [x.keep a o hm e] at q; cases q
theorem Ext.get (x : Ext M H M' H') {n : Nat} {a : Addr} (e : M[n]? = some a) : M'[n]? = some a := by
  obtain ⟨l, el⟩ := x.pre
  rw [el, List.getElem?_append_left (List.getElem?_eq_some_iff.mp e).1]
  exact e
theorem Ext.rd (x : Ext M H M' H') {a : Addr} {u : HO} (n : Off K M a) (e : H a = some u) : Off K M' a ∧ H' a = some u := ⟨⟨x.out n.1 e, n.2⟩, x.keep _ _ n.1 e⟩
theorem Ext.zs (x : Ext M H M' H') {l : List Addr} (h : ∀ a ∈ l, a ∉ M ∧ H a ≠ none) : ∀ a ∈ l, a ∉ M' ∧ H' a ≠ none := fun a ha => by
  obtain ⟨n, e⟩ := h a ha
  cases q : H a with
  | none => exact (e q).elim
  | some u => exact ⟨x.out n q, by rw [x.keep _ _ n q]; exact fun z => nomatch z⟩
theorem TupAt.ext (x : Ext M H M' H') {a : Addr} {vs : List V} (r : TupAt K M H a vs) : TupAt K M' H' a vs := by
  rcases r with ⟨z, n, r⟩ | r
  · exact .inl ⟨z, x.rd n r⟩
  · exact .inr r
theorem ScrAt.ext (x : Ext M H M' H') {a : Addr} {ns : List Int} (r : ScrAt K M H a ns) : ScrAt K M' H' a ns := by
  obtain ⟨z, r⟩ := r
  refine ⟨z, ?_⟩
  rcases r with ⟨n, e | ⟨o, e⟩⟩ | r
  · exact .inl ⟨(x.rd n e).1, .inl (x.rd n e).2⟩
  · exact .inl ⟨(x.rd n e).1, .inr ⟨o, (x.rd n e).2⟩⟩
  · exact .inr r
mutual
theorem RV.ext (x : Ext M H M' H') : ∀ {p : PV} {v : V}, RV K M H p v → RV K M' H' p v
  | .non, _, h => by rw [RV] at h ⊢; exact h
  | .bl _, _, h => by rw [RV] at h ⊢; exact h
  | .int _, _, h => by rw [RV] at h ⊢; exact h
  | .str _, _, h => by rw [RV] at h ⊢; exact h
  | .tup xs, _, h => by
    rw [RV] at h ⊢
    obtain ⟨a, vs, e, t, r⟩ := h
    exact ⟨a, vs, e, t.ext x, RVs.ext x r⟩
  | .lst xs, _, h => by
    rw [RV] at h ⊢
    obtain ⟨a, vs, e, z, n, t, r⟩ := h
    exact ⟨a, vs, e, z, (x.rd n t).1, (x.rd n t).2, RVs.ext x r⟩
  | .dic _ _ _, _, h => by
    rw [RV] at h ⊢
    obtain ⟨a, us, u, e, n, t, d, r⟩ := h
    exact ⟨a, us, u, e, (x.rd n t).1, (x.rd n t).2, d, RVs.ext x r⟩
  | .ref _, _, h => by
    rw [RV] at h ⊢
    obtain ⟨a, e, q⟩ := h
    exact ⟨a, e, x.get q⟩
  | .scr _, _, h => by
    rw [RV] at h ⊢
    obtain ⟨a, e, q⟩ := h
    exact ⟨a, e, q.ext x⟩
theorem RVs.ext (x : Ext M H M' H') : ∀ {p : List PV} {v : List V}, RVs K M H p v → RVs K M' H' p v
  | [], _, h => by rw [RVs] at h ⊢; exact h
  | _ :: _, _, h => by
    rw [RVs] at h ⊢
    obtain ⟨v, r, e, h1, h2⟩ := h
    exact ⟨v, r, e, RV.ext x h1, RVs.ext x h2⟩
end
theorem ORel.ext (x : Ext M H M' H') {o : MO} {u : Option HO} (r : ORel K M H o u) : ORel K M' H' o u := by
  cases o with
  | lst xs => obtain ⟨vs, e, z, r⟩ := r; exact ⟨vs, e, z, r.ext x⟩
  | dic t ks ws => obtain ⟨us, y, e, d, r⟩ := r; exact ⟨us, y, e, d, r.ext x⟩
  | ins _ _ => exact r
theorem ERel.ext (x : Ext M H M' H') {σ : L2.St} {env : Env} (r : ERel K M H σ env) : ERel K M' H' σ env :=
  ⟨r.1, fun i p e => let ⟨v, e1, r1⟩ := r.2 i p e; ⟨v, e1, r1.ext x⟩⟩
theorem RVs.len : ∀ {p : List PV} {v : List V}, RVs K M H p v → v.length = p.length
  | [], _, h => by rw [RVs] at h; subst h; rfl
  | _ :: _, _, h => by
    rw [RVs] at h
    obtain ⟨v, r, e, h1, h2⟩ := h
    subst e
    simp [RVs.len h2]
theorem RVs.get : ∀ {p : List PV} {v : List V} {i : Nat} {x : PV}, RVs K M H p v → p[i]? = some x → ∃ y, v[i]? = some y ∧ RV K M H x y
  | [], _, _, _, _, e => by simp at e
  | x :: xs, v, i, y, h, e => by
    rw [RVs] at h
    obtain ⟨w, r, e1, h1, h2⟩ := h
    subst e1
    cases i with
    | zero => simp at e; subst e; exact ⟨w, by simp, h1⟩
    | succ i =>
      obtain ⟨z, e2, r2⟩ := RVs.get (i := i) h2 (by simpa using e)
      exact ⟨z, by simpa using e2, r2⟩
theorem RVs.nil : RVs K M H [] [] := by rw [RVs]
theorem RVs.cons {x : PV} {v : V} {xs : List PV} {vs : List V} (h : RV K M H x v) (t : RVs K M H xs vs) : RVs K M H (x :: xs) (v :: vs) := by
  rw [RVs]; exact ⟨v, vs, rfl, h, t⟩
theorem RVs.one {x : PV} {v : V} (h : RV K M H x v) : RVs K M H [x] [v] := .cons h .nil
theorem RVs.append : ∀ {p q : List PV} {v w : List V}, RVs K M H p v → RVs K M H q w → RVs K M H (p ++ q) (v ++ w)
  | [], _, _, _, h, t => by rw [RVs] at h; subst h; exact t
  | _ :: _, _, _, _, h, t => by
    rw [RVs] at h
    obtain ⟨v, r, e, h1, h2⟩ := h
    subst e
    exact .cons h1 (RVs.append h2 t)
theorem RVs.set : ∀ {p : List PV} {v : List V} {x : PV} {y : V} (i : Nat), RVs K M H p v → RV K M H x y → RVs K M H (p.set i x) (v.set i y)
  | [], _, _, _, _, h, _ => by rw [RVs] at h; subst h; simp; exact .nil
  | _ :: _, _, _, _, i, h, t => by
    rw [RVs] at h
    obtain ⟨v, r, e, h1, h2⟩ := h
    subst e
    cases i with
    | zero => exact .cons t h2
    | succ i => exact .cons h1 (RVs.set i h2 t)
theorem RVs.drop : ∀ {p : List PV} {v : List V} (n : Nat), RVs K M H p v → RVs K M H (p.drop n) (v.drop n)
  | _, _, 0, h => h
  | [], _, _ + 1, h => by rw [RVs] at h; subst h; exact .nil
  | _ :: _, _, n + 1, h => by
    rw [RVs] at h
    obtain ⟨v, r, e, h1, h2⟩ := h
    subst e
    exact RVs.drop n h2
theorem RVs.take : ∀ {p : List PV} {v : List V} (n : Nat), RVs K M H p v → RVs K M H (p.take n) (v.take n)
  | _, _, 0, h => .nil
  | [], _, _ + 1, h => by rw [RVs] at h; subst h; exact .nil
  | _ :: _, _, n + 1, h => by
    rw [RVs] at h
    obtain ⟨v, r, e, h1, h2⟩ := h
    subst e
    exact .cons h1 (RVs.take n h2)
theorem RVs.reverse : ∀ {p : List PV} {v : List V}, RVs K M H p v → RVs K M H p.reverse v.reverse
  | [], _, h => by rw [RVs] at h; subst h; exact .nil
  | _ :: _, _, h => by
    rw [RVs] at h
    obtain ⟨v, r, e, h1, h2⟩ := h
    subst e
    rw [List.reverse_cons, List.reverse_cons]
    exact (RVs.reverse h2).append (.one h1)
theorem RVs.eraseIdx : ∀ {p : List PV} {v : List V} (i : Nat), RVs K M H p v → RVs K M H (p.eraseIdx i) (v.eraseIdx i)
  | [], _, _, h => by rw [RVs] at h; subst h; exact .nil
  | _ :: _, _, i, h => by
    rw [RVs] at h
    obtain ⟨v, r, e, h1, h2⟩ := h
    subst e
    cases i with
    | zero => exact h2
    | succ i => exact .cons h1 (RVs.eraseIdx i h2)
theorem RVs.dropLast {p : List PV} {v : List V} (h : RVs K M H p v) : RVs K M H p.dropLast v.dropLast := by
  rw [List.dropLast_eq_take, List.dropLast_eq_take, h.len]
  exact h.take _
theorem RVs.rep {p : List PV} {v : List V} (h : RVs K M H p v) : ∀ n : Nat, RVs K M H (repN p n) (List.replicate n v).flatten
  | 0 => by rw [repN]; exact .nil
  | n + 1 => by
    rw [repN, List.replicate_succ, List.flatten_cons]
    exact h.append (RVs.rep h n)
theorem RVs.ints : ∀ {ns : List Int}, RVs K M H (ns.map PV.int) (ns.map V.int)
  | [] => .nil
  | n :: ns => .cons (by rw [RV]) RVs.ints
/-! ### what is read -/
theorem TupAt.seq {a : Addr} {vs : List V} (t : TupAt K M H a vs) : SqT K.f H a vs := by
  rcases t with ⟨_, _, r⟩ | ⟨o, its, n, h1, h2, h3, h4, h5, _⟩
  · exact .inl (.inl r)
  · exact .inr ⟨o, its, n, h1, h2, h3, h4, h5⟩
theorem TupAt.len {a : Addr} {vs : List V} (t : TupAt K M H a vs) : vs.length ≤ sizeLine := by
  rcases t with ⟨z, _⟩ | ⟨o, its, n, h1, h2, h3, h4, h5, _⟩
  · exact z
  · have := h5.length; simp at this; omega
/-- a list's items -/
theorem itemsL_ok {h : MHp} (hr : HRel K M H h) {x : PV} {v : V} {xs : List PV} (r : RV K M H x v) (e : itemsL x h = some xs) : ∃ a vs, v = .ref a ∧ vs.length ≤ sizeLine ∧ H a = some (.lst vs) ∧ RVs K M H xs vs := by
  cases x with
  | lst ys =>
    rw [RV] at r
    obtain ⟨a, vs, e1, z, n, t, q⟩ := r
    simp only [itemsL, Option.some.injEq] at e
    subst e
    exact ⟨a, vs, e1, z, t, q⟩
  | ref n =>
    rw [RV] at r
    obtain ⟨a, e1, em⟩ := r
    simp only [itemsL] at e
    split at e
    · rename_i ys eh
      cases e
      have := hr.at_ n a _ em eh
      obtain ⟨vs, e2, z, q⟩ := this
      exact ⟨a, vs, e1, z, e2, q⟩
    · cases e
  | _ => simp [itemsL] at e
theorem itemsT_ok {h : MHp} (hr : HRel K M H h) {x : PV} {v : V} {xs : List PV} (r : RV K M H x v) (e : itemsT x h = some xs) :
    ∃ a vs, v = .ref a ∧ vs.length ≤ sizeLine ∧ ((∃ ys, x = .tup ys) ∧ SqT K.f H a vs ∨ itemsL x h = some xs ∧ H a = some (.lst vs)) ∧ RVs K M H xs vs := by
  cases x with
  | tup ys =>
    rw [RV] at r
    obtain ⟨a, vs, e1, t, q⟩ := r
    simp only [itemsT, Option.some.injEq] at e
    subst e
    exact ⟨a, vs, e1, t.len, .inl ⟨⟨_, rfl⟩, t.seq⟩, q⟩
  | lst ys =>
    have e' : itemsL (.lst ys) h = some xs := e
    obtain ⟨a, vs, h1, h2, h3, h4⟩ := itemsL_ok hr r e'
    exact ⟨a, vs, h1, h2, .inr ⟨e', h3⟩, h4⟩
  | ref n =>
    have e' : itemsL (.ref n) h = some xs := e
    obtain ⟨a, vs, h1, h2, h3, h4⟩ := itemsL_ok hr r e'
    exact ⟨a, vs, h1, h2, .inr ⟨e', h3⟩, h4⟩
  | _ => simp [itemsT] at e
theorem asDic_ok {h : MHp} (hr : HRel K M H h) {x : PV} {v : V} {t : Bool} {ks ws : List PV} (r : RV K M H x v) (e : asDic x h = some (t, ks, ws)) : ∃ a us u, v = .ref a ∧ H a = some u ∧ DK t ks us u ∧ RVs K M H ws us := by
  cases x with
  | dic t' ks' ws' =>
    rw [RV] at r
    obtain ⟨a, us, u, e1, n, z, d, q⟩ := r
    simp only [asDic, Option.some.injEq, Prod.mk.injEq] at e
    obtain ⟨rfl, rfl, rfl⟩ := e
    exact ⟨a, us, u, e1, z, d, q⟩
  | ref n =>
    rw [RV] at r
    obtain ⟨a, e1, em⟩ := r
    simp only [asDic] at e
    split at e
    · rename_i t' ks' ws' eh
      cases e
      obtain ⟨us, u, e2, d, q⟩ := hr.at_ n a _ em eh
      exact ⟨a, us, u, e1, e2, d, q⟩
    · cases e
  | _ => simp [asDic] at e

/-! ### the small heap grows, changes -/
theorem Ext.laid {p : Addr} {o : HO} (hp : H p = none) : Ext M H M (upd H p o) :=
  ⟨⟨[], by simp⟩, fun a u _ e => by rw [upd_ne (ne_of_none e hp)]; exact e, fun _ h => .inl h⟩
theorem HRel.mem {h : MHp} (hr : HRel K M H h) {a : Addr} (m : a ∈ M) : H a ≠ none := by
  obtain ⟨n, hn⟩ := List.getElem?_of_mem m
  have hl : n < h.length := by rw [← hr.len]; exact (List.getElem?_eq_some_iff.mp hn).1
  have := hr.at_ n a _ hn (List.getElem?_eq_getElem hl)
  intro z
  rw [z] at this
  cases q : h[n] with
  | lst xs => rw [q] at this; obtain ⟨_, e, _⟩ := this; cases e
  | dic t ks ws => rw [q] at this; obtain ⟨_, _, e, _⟩ := this; cases e
  | ins _ _ => rw [q] at this; exact this
theorem HRel.fresh {h : MHp} (hr : HRel K M H h) {p : Addr} (hp : H p = none) : p ∉ M := fun m => hr.mem m hp
theorem HRel.off {h : MHp} (hr : HRel K M H h) {p : Addr} (hp : H p = none) : Off K M p := ⟨hr.fresh hp, fun z => (hr.zs p z).2 hp⟩
/-- a thing that is none of the small heap's is laid -/
theorem HRel.laid {h : MHp} (hr : HRel K M H h) {p : Addr} {o : HO} (hp : H p = none) : HRel K M (upd H p o) h :=
  ⟨hr.len, hr.nd, (Ext.laid hp).zs hr.zs, fun n a u e1 e2 => by
    have hne : a ≠ p := fun z => hr.fresh hp (z ▸ List.mem_of_getElem? e1)
    rw [upd_ne hne]
    exact (hr.at_ n a u e1 e2).ext (Ext.laid hp)⟩
theorem HRel.ext {h : MHp} (hr : HRel K M H h) {H' : Hp} (x : Ext M H M H') (k : ∀ a ∈ M, H' a = H a) : HRel K M H' h :=
  ⟨hr.len, hr.nd, x.zs hr.zs, fun n a u e1 e2 => by
    rw [k a (List.mem_of_getElem? e1)]
    exact (hr.at_ n a u e1 e2).ext x⟩
/-- a thing is laid in the small heap -/
theorem Ext.push {p : Addr} {o : HO} (hp : H p = none) : Ext M H (M ++ [p]) (upd H p o) :=
  ⟨⟨[p], rfl⟩, fun a u _ e => by rw [upd_ne (ne_of_none e hp)]; exact e, fun a m => by
    rcases List.mem_append.mp m with m | m
    · exact .inl m
    · simp at m; subst m; exact .inr hp⟩
theorem HRel.push {h : MHp} (hr : HRel K M H h) {p : Addr} {o : HO} {mo : MO} (hp : H p = none) (new : ORel K M H mo (some o)) : HRel K (M ++ [p]) (upd H p o) (h ++ [mo]) := by
  have hf := hr.fresh hp
  refine ⟨by simp [hr.len], List.nodup_append.mpr ⟨hr.nd, by simp, fun a ha b hb => by simp at hb; subst hb; exact fun z => hf (z ▸ ha)⟩, (Ext.push hp).zs hr.zs, fun n a u e1 e2 => ?_⟩
  by_cases hn : n < M.length
  · rw [List.getElem?_append_left hn] at e1
    rw [List.getElem?_append_left (by rw [← hr.len]; exact hn)] at e2
    have hne : a ≠ p := fun z => hf (z ▸ List.mem_of_getElem? e1)
    rw [upd_ne hne]
    exact (hr.at_ n a u e1 e2).ext (Ext.push hp)
  · have hn' : n = M.length := by
      have := (List.getElem?_eq_some_iff.mp e1).1
      simp at this
      omega
    subst hn'
    rw [List.getElem?_append_right (Nat.le_refl _)] at e1
    rw [hr.len, List.getElem?_append_right (Nat.le_refl _)] at e2
    simp at e1 e2
    subst e1; subst e2
    rw [upd_same]
    exact new.ext (Ext.push hp)
/-- a thing of the small heap is changed -/
theorem Ext.chg {a : Addr} {o : HO} (hm : a ∈ M) : Ext M H M (upd H a o) :=
  ⟨⟨[], by simp⟩, fun b u n e => by rw [upd_ne (fun z => n (by subst z; exact hm))]; exact e, fun _ h => .inl h⟩
theorem HRel.chg {h : MHp} (hr : HRel K M H h) {n : Nat} {a : Addr} {o : HO} {mo : MO} (hn : M[n]? = some a) (new : ORel K M H mo (some o)) : HRel K M (upd H a o) (h.set n mo) := by
  have hm := List.mem_of_getElem? hn
  refine ⟨by simp [hr.len], hr.nd, (Ext.chg hm).zs hr.zs, fun m b u e1 e2 => ?_⟩
  by_cases e : m = n
  · subst e
    rw [hn] at e1; cases e1
    have hl : m < h.length := by rw [← hr.len]; exact (List.getElem?_eq_some_iff.mp hn).1
    rw [List.getElem?_set_self hl] at e2
    cases e2
    rw [upd_same]
    exact new.ext (Ext.chg hm)
  · rw [List.getElem?_set_ne (Ne.symm e)] at e2
    have hne : b ≠ a := fun z => e (by
      subst z
      obtain ⟨l1, q1⟩ := List.getElem?_eq_some_iff.mp e1
      obtain ⟨l2, q2⟩ := List.getElem?_eq_some_iff.mp hn
      exact (List.getElem_inj hr.nd).mp (q1.trans q2.symm))
    rw [upd_ne hne]
    exact (hr.at_ m b u e1 e2).ext (Ext.chg hm)
/-! ### what is hidden -/
def KZ.hide (K : KZ) (D : Addr) : KZ := ⟨K.f, D :: K.z⟩
theorem Off.of {D a : Addr} (h : Off (K.hide D) M a) : Off K M a := ⟨h.1, fun z => h.2 (List.mem_cons_of_mem _ z)⟩
theorem Off.ne {D a : Addr} (h : Off K M a) (hd : D ∈ K.z) : a ≠ D := fun z => h.2 (z ▸ hd)
theorem Off.hids {z' : List Addr} {a : Addr} {u : HO} (h : Off K M a) (e : H a = some u) (n : ∀ a ∈ z', a ∈ K.z ∨ H a = none) : Off ⟨K.f, z'⟩ M a := ⟨h.1, fun z => by
  rcases n a z with q | q
  · exact h.2 q
  · rw [q] at e; cases e⟩
theorem Off.hid {D a : Addr} {u : HO} (h : Off K M a) (e : H a = some u) (n : H D = none) : Off (K.hide D) M a := ⟨h.1, fun z => by
  rcases List.mem_cons.mp z with z | z
  · rw [z, n] at e; cases e
  · exact h.2 z⟩
mutual
theorem RV.unhide {D : Addr} : ∀ {p : PV} {v : V}, RV (K.hide D) M H p v → RV K M H p v
  | .non, _, h => by rw [RV] at h ⊢; exact h
  | .bl _, _, h => by rw [RV] at h ⊢; exact h
  | .int _, _, h => by rw [RV] at h ⊢; exact h
  | .str _, _, h => by rw [RV] at h ⊢; exact h
  | .tup xs, _, h => by
    rw [RV] at h ⊢
    obtain ⟨a, vs, e, t, r⟩ := h
    refine ⟨a, vs, e, ?_, RVs.unhide r⟩
    rcases t with ⟨z, n, t⟩ | t
    · exact .inl ⟨z, n.of, t⟩
    · exact .inr t
  | .lst xs, _, h => by
    rw [RV] at h ⊢
    obtain ⟨a, vs, e, z, n, t, r⟩ := h
    exact ⟨a, vs, e, z, n.of, t, RVs.unhide r⟩
  | .dic _ _ _, _, h => by
    rw [RV] at h ⊢
    obtain ⟨a, us, u, e, n, t, d, r⟩ := h
    exact ⟨a, us, u, e, n.of, t, d, RVs.unhide r⟩
  | .ref _, _, h => by rw [RV] at h ⊢; exact h
  | .scr _, _, h => by
    rw [RV] at h ⊢
    obtain ⟨a, e, z, q⟩ := h
    refine ⟨a, e, z, ?_⟩
    rcases q with ⟨n, q⟩ | q
    · exact .inl ⟨n.of, q⟩
    · exact .inr q
theorem RVs.unhide {D : Addr} : ∀ {p : List PV} {v : List V}, RVs (K.hide D) M H p v → RVs K M H p v
  | [], _, h => by rw [RVs] at h ⊢; exact h
  | _ :: _, _, h => by
    rw [RVs] at h ⊢
    obtain ⟨v, r, e, h1, h2⟩ := h
    exact ⟨v, r, e, RV.unhide h1, RVs.unhide h2⟩
end
mutual
theorem RV.hids {z' : List Addr} (n : ∀ a ∈ z', a ∈ K.z ∨ H a = none) : ∀ {p : PV} {v : V}, RV K M H p v → RV ⟨K.f, z'⟩ M H p v
  | .non, _, h => by rw [RV] at h ⊢; exact h
  | .bl _, _, h => by rw [RV] at h ⊢; exact h
  | .int _, _, h => by rw [RV] at h ⊢; exact h
  | .str _, _, h => by rw [RV] at h ⊢; exact h
  | .tup xs, _, h => by
    rw [RV] at h ⊢
    obtain ⟨a, vs, e, t, r⟩ := h
    refine ⟨a, vs, e, ?_, RVs.hids n r⟩
    rcases t with ⟨z, m, t⟩ | t
    · exact .inl ⟨z, m.hids t n, t⟩
    · exact .inr t
  | .lst xs, _, h => by
    rw [RV] at h ⊢
    obtain ⟨a, vs, e, z, m, t, r⟩ := h
    exact ⟨a, vs, e, z, m.hids t n, t, RVs.hids n r⟩
  | .dic _ _ _, _, h => by
    rw [RV] at h ⊢
    obtain ⟨a, us, u, e, m, t, d, r⟩ := h
    exact ⟨a, us, u, e, m.hids t n, t, d, RVs.hids n r⟩
  | .ref _, _, h => by rw [RV] at h ⊢; exact h
  | .scr _, _, h => by
    rw [RV] at h ⊢
    obtain ⟨a, e, z, q⟩ := h
    refine ⟨a, e, z, ?_⟩
    rcases q with ⟨m, q | ⟨o, q⟩⟩ | q
    · exact .inl ⟨m.hids q n, .inl q⟩
    · exact .inl ⟨m.hids q n, .inr ⟨o, q⟩⟩
    · exact .inr q
theorem RVs.hids {z' : List Addr} (n : ∀ a ∈ z', a ∈ K.z ∨ H a = none) : ∀ {p : List PV} {v : List V}, RVs K M H p v → RVs ⟨K.f, z'⟩ M H p v
  | [], _, h => by rw [RVs] at h ⊢; exact h
  | _ :: _, _, h => by
    rw [RVs] at h ⊢
    obtain ⟨v, r, e, h1, h2⟩ := h
    exact ⟨v, r, e, RV.hids n h1, RVs.hids n h2⟩
end
theorem RV.hid {D : Addr} (n : H D = none) {p : PV} {v : V} (r : RV K M H p v) : RV (K.hide D) M H p v := RV.hids (fun a ha => by
  rcases List.mem_cons.mp ha with rfl | ha
  · exact .inr n
  · exact .inl ha) r
theorem RVs.hid {D : Addr} (n : H D = none) {p : List PV} {v : List V} (r : RVs K M H p v) : RVs (K.hide D) M H p v := RVs.hids (fun a ha => by
  rcases List.mem_cons.mp ha with rfl | ha
  · exact .inr n
  · exact .inl ha) r
mutual
/-- what is hidden is written -/
theorem RV.hwr {D : Addr} {o : HO} (hd : D ∈ K.z) : ∀ {p : PV} {v : V}, RV K M H p v → RV K M (upd H D o) p v
  | .non, _, h => by rw [RV] at h ⊢; exact h
  | .bl _, _, h => by rw [RV] at h ⊢; exact h
  | .int _, _, h => by rw [RV] at h ⊢; exact h
  | .str _, _, h => by rw [RV] at h ⊢; exact h
  | .tup xs, _, h => by
    rw [RV] at h ⊢
    obtain ⟨a, vs, e, t, r⟩ := h
    refine ⟨a, vs, e, ?_, RVs.hwr hd r⟩
    rcases t with ⟨z, m, t⟩ | t
    · exact .inl ⟨z, m, by rw [upd_ne (m.ne hd)]; exact t⟩
    · exact .inr t
  | .lst xs, _, h => by
    rw [RV] at h ⊢
    obtain ⟨a, vs, e, z, m, t, r⟩ := h
    exact ⟨a, vs, e, z, m, by rw [upd_ne (m.ne hd)]; exact t, RVs.hwr hd r⟩
  | .dic _ _ _, _, h => by
    rw [RV] at h ⊢
    obtain ⟨a, us, u, e, m, t, d, r⟩ := h
    exact ⟨a, us, u, e, m, by rw [upd_ne (m.ne hd)]; exact t, d, RVs.hwr hd r⟩
  | .ref _, _, h => by rw [RV] at h ⊢; exact h
  | .scr _, _, h => by
    rw [RV] at h ⊢
    obtain ⟨a, e, z, q⟩ := h
    refine ⟨a, e, z, ?_⟩
    rcases q with ⟨m, q | ⟨o', q⟩⟩ | q
    · exact .inl ⟨m, .inl (by rw [upd_ne (m.ne hd)]; exact q)⟩
    · exact .inl ⟨m, .inr ⟨o', by rw [upd_ne (m.ne hd)]; exact q⟩⟩
    · exact .inr q
theorem RVs.hwr {D : Addr} {o : HO} (hd : D ∈ K.z) : ∀ {p : List PV} {v : List V}, RVs K M H p v → RVs K M (upd H D o) p v
  | [], _, h => by rw [RVs] at h ⊢; exact h
  | _ :: _, _, h => by
    rw [RVs] at h ⊢
    obtain ⟨v, r, e, h1, h2⟩ := h
    exact ⟨v, r, e, RV.hwr hd h1, RVs.hwr hd h2⟩
end
theorem HRel.hwr {h : MHp} {D : Addr} {o : HO} (hd : D ∈ K.z) (hr : HRel K M H h) : HRel K M (upd H D o) h :=
  ⟨hr.len, hr.nd, fun a ha => ⟨(hr.zs a ha).1, by
      by_cases c : a = D
      · subst c; rw [upd_same]; exact fun z => nomatch z
      · rw [upd_ne c]; exact (hr.zs a ha).2⟩,
    fun n a u e1 e2 => by
      have hne : a ≠ D := fun z => (hr.zs D hd).1 (z ▸ List.mem_of_getElem? e1)
      rw [upd_ne hne]
      have := hr.at_ n a u e1 e2
      cases u with
      | lst xs => obtain ⟨vs, e, z, r⟩ := this; exact ⟨vs, e, z, r.hwr hd⟩
      | dic t ks ws => obtain ⟨us, y, e, d, r⟩ := this; exact ⟨us, y, e, d, r.hwr hd⟩
      | ins _ _ => exact this⟩
theorem HRel.unhide {h : MHp} {D : Addr} (hr : HRel (K.hide D) M H h) : HRel K M H h :=
  ⟨hr.len, hr.nd, fun a ha => hr.zs a (List.mem_cons_of_mem _ ha), fun n a u e1 e2 => by
    have := hr.at_ n a u e1 e2
    cases u with
    | lst xs => obtain ⟨vs, e, z, r⟩ := this; exact ⟨vs, e, z, r.unhide⟩
    | dic t ks ws => obtain ⟨us, y, e, d, r⟩ := this; exact ⟨us, y, e, d, r.unhide⟩
    | ins _ _ => exact this⟩
/-- a hidden thing is laid -/
theorem HRel.hide {h : MHp} {D : Addr} {o : HO} (hr : HRel K M H h) (n : H D = none) : HRel (K.hide D) M (upd H D o) h :=
  ⟨hr.len, hr.nd, fun a ha => by
      rcases List.mem_cons.mp ha with rfl | ha
      · exact ⟨hr.fresh n, by rw [upd_same]; exact fun z => nomatch z⟩
      · have := hr.zs a ha
        have c : a ≠ D := fun z => this.2 (by rw [z]; exact n)
        exact ⟨this.1, by rw [upd_ne c]; exact this.2⟩,
    fun k a u e1 e2 => by
      have hne : a ≠ D := fun z => hr.fresh n (z ▸ List.mem_of_getElem? e1)
      rw [upd_ne hne]
      have := hr.at_ k a u e1 e2
      have hd : D ∈ (K.hide D).z := List.mem_cons_self
      cases u with
      | lst xs => obtain ⟨vs, e, z, r⟩ := this; exact ⟨vs, e, z, (r.hid n).hwr hd⟩
      | dic t ks ws => obtain ⟨us, y, e, d, r⟩ := this; exact ⟨us, y, e, d, (r.hid n).hwr hd⟩
      | ins _ _ => exact this⟩
theorem ERel.hide {D : Addr} {o : HO} {σ : L2.St} {env : Env} (r : ERel K M H σ env) (n : H D = none) : ERel (K.hide D) M (upd H D o) σ env :=
  ⟨r.1, fun i p e => let ⟨v, e1, r1⟩ := r.2 i p e; ⟨v, e1, (r1.hid n).hwr List.mem_cons_self⟩⟩
theorem ERel.hwr {D : Addr} {o : HO} {σ : L2.St} {env : Env} (hd : D ∈ K.z) (r : ERel K M H σ env) : ERel K M (upd H D o) σ env :=
  ⟨r.1, fun i p e => let ⟨v, e1, r1⟩ := r.2 i p e; ⟨v, e1, r1.hwr hd⟩⟩
end
end Qm

/-! S1: readings by an evaluation; operators. -/
namespace Qm
open PySem PySem.Spec PyProof.Rows L2

/-- the written part, the classes of the exceptions by their numbers, their fields' names -/
structure XC where
  K : KZ
  ca : Nat → Option Addr
  fld : Nat → List Str
/-- an exception as it flies -/
def XRel (C : XC) (M : List Addr) (H : Hp) (x : MX) (cls : Value) (d : Option Addr) : Prop :=
  ∃ (a dd : Addr) (fs : List (Str × V)), C.ca x.cls = some a ∧ cls = .ref a ∧ d = some dd ∧ dd ∉ M ∧ H dd = some (.xd fs) ∧ x.fs.length = (C.fld x.cls).length ∧
    ∀ (i : Nat) (p : PV) (n : Str), x.fs[i]? = some p → (C.fld x.cls)[i]? = some n → ∃ v, fs.lookup n = some v ∧ RV C.K M H p v
def Out (C : XC) (E : XK) (Q : VK) (M : List Addr) (H : Hp) (r : Res PV) : Prop :=
  match r with
  | .ok p h' => ∀ v H' M', Ext M H M' H' → HRel C.K M' H' h' → RV C.K M' H' p v → Q v H'
  | .exn x h' => ∀ cls d H' M', Ext M H M' H' → HRel C.K M' H' h' → XRel C M' H' x cls d → E cls d H'
  | .stuck => False
def OutA (C : XC) (E : XK) (Q : List V → Hp → Prop) (M : List Addr) (H : Hp) (r : Res (List PV)) : Prop :=
  match r with
  | .ok p h' => ∀ v H' M', Ext M H M' H' → HRel C.K M' H' h' → RVs C.K M' H' p v → Q v H'
  | .exn x h' => ∀ cls d H' M', Ext M H M' H' → HRel C.K M' H' h' → XRel C M' H' x cls d → E cls d H'
  | .stuck => False
def OutB (C : XC) (E : XK) (Q : Bool → Hp → Prop) (M : List Addr) (H : Hp) (r : Res Bool) : Prop :=
  match r with
  | .ok p h' => ∀ H' M', Ext M H M' H' → HRel C.K M' H' h' → Q p H'
  | .exn x h' => ∀ cls d H' M', Ext M H M' H' → HRel C.K M' H' h' → XRel C M' H' x cls d → E cls d H'
  | .stuck => False
section
variable {C : XC} {E : XK} {Q : VK} {M M1 : List Addr} {H H1 : Hp}
theorem Out.shift {r : Res PV} (o : Out C E Q M H r) (x : Ext M H M1 H1) : Out C E Q M1 H1 r := by
  cases r with
  | ok p h' => exact fun v H' M' y => o v H' M' (x.trans y)
  | exn e h' => exact fun c d H' M' y => o c d H' M' (x.trans y)
  | stuck => exact o
theorem OutA.shift {Q : List V → Hp → Prop} {r : Res (List PV)} (o : OutA C E Q M H r) (x : Ext M H M1 H1) : OutA C E Q M1 H1 r := by
  cases r with
  | ok p h' => exact fun v H' M' y => o v H' M' (x.trans y)
  | exn e h' => exact fun c d H' M' y => o c d H' M' (x.trans y)
  | stuck => exact o
theorem OutB.shift {Q : Bool → Hp → Prop} {r : Res Bool} (o : OutB C E Q M H r) (x : Ext M H M1 H1) : OutB C E Q M1 H1 r := by
  cases r with
  | ok p h' => exact fun H' M' y => o H' M' (x.trans y)
  | exn e h' => exact fun c d H' M' y => o c d H' M' (x.trans y)
  | stuck => exact o
end
abbrev Sem1 := Env → MHp → Res PV
abbrev SemA := Env → MHp → Res (List PV)
def RdE (C : XC) (W : WX) (f : Sem1) : TE := fun σ H Q => ∃ M h env, HRel C.K M H h ∧ ERel C.K M H σ env ∧ Out C (WE W σ) Q M H (f env h)
def RdA (C : XC) (W : WX) (f : SemA) : TA := fun σ H Q => ∃ M h env, HRel C.K M H h ∧ ERel C.K M H σ env ∧ OutA C (WE W σ) Q M H (f env h)
/-- a test: by the value's truth -/
def tst (f : Sem1) : Env → MHp → Res Bool := fun env h => (f env h).bind fun x h1 => ofOpt (truth x h1) h1
def RdT (C : XC) (W : WX) (f : Env → MHp → Res Bool) : TT := fun σ H Q => ∃ M h env, HRel C.K M H h ∧ ERel C.K M H σ env ∧ OutB C (WE W σ) Q M H (f env h)
/-- any end -/
def Fin (C : XC) (E : XK) {α : Type} (T : α → List Addr → Hp → MHp → Prop) (M : List Addr) (H : Hp) (r : Res α) : Prop :=
  match r with
  | .ok p h' => T p M H h'
  | .exn x h' => ∀ cls d H' M', Ext M H M' H' → HRel C.K M' H' h' → XRel C M' H' x cls d → E cls d H'
  | .stuck => False
section
variable {C : XC} {W : WX} {σ : L2.St} {M : List Addr} {H : Hp} {h : MHp} {env : Env}
/-- one part first: then the rest from what it gives -/
theorem RdE.step {f : Sem1} {β : Type} {g : PV → MHp → Res β} {O : List Addr → Hp → Res β → Prop} {R : VK} (hr : HRel C.K M H h) (er : ERel C.K M H σ env)
    (o : O M H ((f env h).bind g)) (sh : ∀ M1 H1 r, Ext M H M1 H1 → O M H r → O M1 H1 r) (ox : ∀ x h', O M H (.exn x h') → ∀ cls d H' M', Ext M H M' H' → HRel C.K M' H' h' → XRel C M' H' x cls d → WE W σ cls d H') (os : ¬ O M H .stuck)
    (k : ∀ v H1 M1 h1 p, Ext M H M1 H1 → HRel C.K M1 H1 h1 → ERel C.K M1 H1 σ env → RV C.K M1 H1 p v → O M1 H1 (g p h1) → R v H1) : RdE C W f σ H R := by
  refine ⟨M, h, env, hr, er, ?_⟩
  cases e : f env h with
  | ok p h1 =>
    rw [e] at o
    exact fun v H1 M1 x hr1 rv => k v H1 M1 h1 p x hr1 (er.ext x) rv (sh _ _ _ x o)
  | exn x h1 =>
    rw [e] at o
    exact ox x h1 o
  | stuck =>
    rw [e] at o
    exact (os o).elim
theorem RdE.go {f : Sem1} {g : PV → MHp → Res PV} {Q R : VK} (hr : HRel C.K M H h) (er : ERel C.K M H σ env) (o : Out C (WE W σ) Q M H ((f env h).bind g))
    (k : ∀ v H1 M1 h1 p, Ext M H M1 H1 → HRel C.K M1 H1 h1 → ERel C.K M1 H1 σ env → RV C.K M1 H1 p v → Out C (WE W σ) Q M1 H1 (g p h1) → R v H1) : RdE C W f σ H R :=
  RdE.step (O := fun M H r => Out C (WE W σ) Q M H r) hr er o (fun _ _ _ x o => o.shift x) (fun _ _ o => o) (fun z => z) k
theorem RdE.goB {f : Sem1} {g : PV → MHp → Res Bool} {Q : Bool → Hp → Prop} {R : VK} (hr : HRel C.K M H h) (er : ERel C.K M H σ env) (o : OutB C (WE W σ) Q M H ((f env h).bind g))
    (k : ∀ v H1 M1 h1 p, Ext M H M1 H1 → HRel C.K M1 H1 h1 → ERel C.K M1 H1 σ env → RV C.K M1 H1 p v → OutB C (WE W σ) Q M1 H1 (g p h1) → R v H1) : RdE C W f σ H R :=
  RdE.step (O := fun M H r => OutB C (WE W σ) Q M H r) hr er o (fun _ _ _ x o => o.shift x) (fun _ _ o => o) (fun z => z) k
theorem RdE.goA {f : Sem1} {g : PV → MHp → Res (List PV)} {Q : List V → Hp → Prop} {R : VK} (hr : HRel C.K M H h) (er : ERel C.K M H σ env) (o : OutA C (WE W σ) Q M H ((f env h).bind g))
    (k : ∀ v H1 M1 h1 p, Ext M H M1 H1 → HRel C.K M1 H1 h1 → ERel C.K M1 H1 σ env → RV C.K M1 H1 p v → OutA C (WE W σ) Q M1 H1 (g p h1) → R v H1) : RdE C W f σ H R :=
  RdE.step (O := fun M H r => OutA C (WE W σ) Q M H r) hr er o (fun _ _ _ x o => o.shift x) (fun _ _ o => o) (fun z => z) k
/-- arguments first -/
theorem RdA.go {f : SemA} {g : List PV → MHp → Res PV} {Q : VK} {R : List V → Hp → Prop} (hr : HRel C.K M H h) (er : ERel C.K M H σ env) (o : Out C (WE W σ) Q M H ((f env h).bind g))
    (k : ∀ v H1 M1 h1 p, Ext M H M1 H1 → HRel C.K M1 H1 h1 → ERel C.K M1 H1 σ env → RVs C.K M1 H1 p v → Out C (WE W σ) Q M1 H1 (g p h1) → R v H1) : RdA C W f σ H R := by
  refine ⟨M, h, env, hr, er, ?_⟩
  cases e : f env h with
  | ok p h1 =>
    rw [e] at o
    exact fun v H1 M1 x hr1 rv => k v H1 M1 h1 p x hr1 (er.ext x) rv (o.shift x)
  | exn x h1 =>
    rw [e] at o
    exact o
  | stuck =>
    rw [e] at o
    exact o.elim
theorem RdA.goA {f : SemA} {g : List PV → MHp → Res (List PV)} {Q : List V → Hp → Prop} {R : List V → Hp → Prop} (hr : HRel C.K M H h) (er : ERel C.K M H σ env) (o : OutA C (WE W σ) Q M H ((f env h).bind g))
    (k : ∀ v H1 M1 h1 p, Ext M H M1 H1 → HRel C.K M1 H1 h1 → ERel C.K M1 H1 σ env → RVs C.K M1 H1 p v → OutA C (WE W σ) Q M1 H1 (g p h1) → R v H1) : RdA C W f σ H R := by
  refine ⟨M, h, env, hr, er, ?_⟩
  cases e : f env h with
  | ok p h1 =>
    rw [e] at o
    exact fun v H1 M1 x hr1 rv => k v H1 M1 h1 p x hr1 (er.ext x) rv (o.shift x)
  | exn x h1 =>
    rw [e] at o
    exact o
  | stuck =>
    rw [e] at o
    exact o.elim
end
theorem pe_weak {X : Cx} {e : Expr} {t t' : TE} (a : PE X e t) (w : ∀ σ H Q, t' σ H Q → t σ H Q) : PE X e t' := ⟨fun pins s σ H Q I q => a.run pins s σ H Q I (w σ H Q q)⟩
theorem pt_weak {X : Cx} {e : Expr} {t t' : TT} (a : PT X e t) (w : ∀ σ H Q, t' σ H Q → t σ H Q) : PT X e t' := ⟨fun pins s σ H Q I q => a.run pins s σ H Q I (w σ H Q q)⟩
theorem pw_weak {X : Cx} {e : Expr} {t t' : TT} (a : PW X e t) (w : ∀ σ H Q, t' σ H Q → t σ H Q) : PW X e t' := ⟨fun wh pins s σ H Q I q => a.run wh pins s σ H Q I (w σ H Q q)⟩
theorem pa_weak {X : Cx} {e : List Expr} {t t' : TA} (a : PA X e t) (w : ∀ σ H Q, t' σ H Q → t σ H Q) : PA X e t' := ⟨fun pos pins s σ H Q I q => a.run pos pins s σ H Q I (w σ H Q q)⟩

/-! ### the reading of a value op, by values -/
/-- what an operation of two values asks: its answer z in Qm, and the wish at every heap that has grown by the answer alone -/
def r2 (C : XC) (f : PV → PV → MHp → Option PV) : R2 := fun x y H Q => ∃ M h p q z, HRel C.K M H h ∧ RV C.K M H p x ∧ RV C.K M H q y ∧ f p q h = some z ∧
  ∀ v H' M', Ext M H M' H' → HRel C.K M' H' h → RV C.K M' H' z v → Q v H'
def r1 (C : XC) (f : PV → MHp → Option PV) : V → Hp → VK → Prop := fun x H Q => ∃ M h p z, HRel C.K M H h ∧ RV C.K M H p x ∧ f p h = some z ∧
  ∀ v H' M', Ext M H M' H' → HRel C.K M' H' h → RV C.K M' H' z v → Q v H'
section
variable {X : Cx} {C : XC} {W : WX} {a b : Expr} {fa fb : Sem1} {pos : Pos}
/-- two parts, then a value op -/
theorem two {f : PV → PV → MHp → Option PV} {σ : L2.St} {H : Hp} {Q : VK} (o : RdE C W (fun env h => (fa env h).bind fun x h1 => (fb env h1).bind fun y h2 => ofOpt (f x y h2) h2) σ H Q) :
    tOp (r2 C f) (RdE C W fa) (RdE C W fb) σ H Q := by
  obtain ⟨M, h, env, hr, er, o⟩ := o
  refine RdE.go hr er o fun v H1 M1 h1 p x1 hr1 er1 rv o1 => ?_
  refine RdE.go hr1 er1 o1 fun u H2 M2 h2 q x2 hr2 er2 ru o2 => ?_
  cases e : f p q h2 with
  | none => rw [e] at o2; exact o2.elim
  | some z =>
    rw [e] at o2
    exact ⟨M2, h2, p, q, z, hr2, rv.ext x2, ru, e, o2⟩
theorem one {f : PV → MHp → Option PV} {σ : L2.St} {H : Hp} {Q : VK} (o : RdE C W (fun env h => (fa env h).bind fun x h1 => ofOpt (f x h1) h1) σ H Q) :
    tUn (r1 C f) (RdE C W fa) σ H Q := by
  obtain ⟨M, h, env, hr, er, o⟩ := o
  refine RdE.go hr er o fun v H1 M1 h1 p x1 hr1 er1 rv o1 => ?_
  cases e : f p h1 with
  | none => rw [e] at o1; exact o1.elim
  | some z =>
    rw [e] at o1
    exact ⟨M1, h1, p, z, hr1, rv, e, o1⟩
end

/-! ### + - * // % ** -/
def oper : BO → Operator
  | .add => .Add | .sub => .Sub | .mul => .Mult | .fdv => .FloorDiv | .mod => .Mod | .pow => .Pow
theorem big_eq : big = sizeLine := by rw [sizeLine_eq]
section
variable {C : XC} {M : List Addr} {H : Hp} {h : MHp}
theorem rv_int {i : Int} {v : V} (r : RV C.K M H (.int i) v) : v = .int i := by rw [RV] at r; exact r
theorem rv_bl {i : Bool} {v : V} (r : RV C.K M H (.bl i) v) : v = .bl i := by rw [RV] at r; exact r
theorem rv_non {v : V} (r : RV C.K M H .non v) : v = .non := by rw [RV] at r; exact r
theorem rv_str {i : Str} {v : V} (r : RV C.K M H (.str i) v) : v = .str i ∧ i.length ≤ sizeLine := by rw [RV] at r; exact r
theorem rv_tup {xs : List PV} {v : V} (r : RV C.K M H (.tup xs) v) : ∃ a vs, v = .ref a ∧ TupAt C.K M H a vs ∧ RVs C.K M H xs vs := by rw [RV] at r; exact r
/-- a new tuple, a new list that nobody changes -/
theorem rv_newT {xs : List PV} {vs : List V} {p : Addr} (hr : HRel C.K M H h) (hp : H p = none) (z : vs.length ≤ sizeLine) (r : RVs C.K M H xs vs) : RV C.K M (upd H p (.tup vs)) (.tup xs) (.ref p) := by
  rw [RV]
  exact ⟨p, vs, rfl, .inl ⟨z, hr.off hp, upd_same⟩, r.ext (Ext.laid hp)⟩
theorem rv_newL {xs : List PV} {vs : List V} {p : Addr} (hr : HRel C.K M H h) (hp : H p = none) (z : vs.length ≤ sizeLine) (r : RVs C.K M H xs vs) : RV C.K M (upd H p (.lst vs)) (.lst xs) (.ref p) := by
  rw [RV]
  exact ⟨p, vs, rfl, z, hr.off hp, upd_same, r.ext (Ext.laid hp)⟩
/-- the end: a new list that nobody changes -/
theorem end_newL {xs : List PV} {vs : List V} {Q : VK} (hr : HRel C.K M H h) (z : vs.length ≤ sizeLine) (r : RVs C.K M H xs vs)
    (k : ∀ v H' M', Ext M H M' H' → HRel C.K M' H' h → RV C.K M' H' (.lst xs) v → Q v H') : ∀ p, H p = none → Q (.ref p) (upd H p (.lst vs)) :=
  fun p hp => k _ _ M (Ext.laid hp) (hr.laid hp) (rv_newL hr hp z r)
theorem end_newT {xs : List PV} {vs : List V} {Q : VK} (hr : HRel C.K M H h) (z : vs.length ≤ sizeLine) (r : RVs C.K M H xs vs)
    (k : ∀ v H' M', Ext M H M' H' → HRel C.K M' H' h → RV C.K M' H' (.tup xs) v → Q v H') : ∀ p, H p = none → Q (.ref p) (upd H p (.tup vs)) :=
  fun p hp => k _ _ M (Ext.laid hp) (hr.laid hp) (rv_newT hr hp z r)
theorem rv_i {i : Int} : RV C.K M H (.int i) (.int i) := by rw [RV]
theorem rv_b {i : Bool} : RV C.K M H (.bl i) (.bl i) := by rw [RV]
theorem rv_n : RV C.K M H .non .non := by rw [RV]
end
section
variable {X : Cx} {C : XC}
theorem bop_int {o : BO} {i j : Int} {z : PV} (e : bopI o i j = some z) : OpR X (binaryOp (oper o)) (fun x y H Q => x = .int i ∧ y = .int j ∧ ∃ k, z = .int k ∧ Q (.int k) H) := by
  intro pins s σ H x y v u Q I rx ry q
  obtain ⟨rfl, rfl, k, rfl, q⟩ := q
  cases o with
  | add =>
    simp only [bopI, Option.some.injEq, PV.int.injEq] at e
    subst e
    exact op_add pins s σ H _ _ v u Q I rx ry ⟨_, _, rfl, rfl, q⟩
  | sub =>
    simp only [bopI, Option.some.injEq, PV.int.injEq] at e
    subst e
    exact op_sub pins s σ H _ _ v u Q I rx ry ⟨_, _, rfl, rfl, q⟩
  | mul =>
    simp only [bopI] at e
    split at e
    · rename_i c
      simp only [Option.some.injEq, PV.int.injEq] at e
      subst e
      refine op_mul pins s σ H _ _ v u Q I rx ry ⟨_, _, rfl, rfl, ?_, q⟩
      rw [Bool.or_eq_true] at c
      rcases c with c | c
      · exact .inr (of_decide_eq_true c)
      · exact .inl (of_decide_eq_true c)
    · cases e
  | fdv =>
    simp only [bopI] at e
    split at e
    · rename_i c
      simp only [Option.some.injEq, PV.int.injEq] at e
      subst e
      rw [Bool.and_eq_true] at c
      exact op_fdiv pins s σ H _ _ v u Q I rx ry ⟨_, _, rfl, rfl, ⟨of_decide_eq_true c.1, of_decide_eq_true c.2⟩, q⟩
    · cases e
  | mod =>
    simp only [bopI] at e
    split at e
    · rename_i c
      simp only [Option.some.injEq, PV.int.injEq] at e
      subst e
      exact op_mod pins s σ H _ _ v u Q I rx ry ⟨_, _, rfl, rfl, of_decide_eq_true c, q⟩
    · cases e
  | pow =>
    simp only [bopI] at e
    split at e
    · rename_i c
      simp only [Option.some.injEq, PV.int.injEq] at e
      subst e
      rw [Bool.and_eq_true, Bool.and_eq_true] at c
      exact op_pow pins s σ H _ _ v u Q I rx ry ⟨_, _, rfl, rfl, ⟨of_decide_eq_true c.1.1, of_decide_eq_true c.1.2, of_decide_eq_true c.2⟩, q⟩
    · cases e
theorem bopI_int {o : BO} {i j : Int} {z : PV} (e : bopI o i j = some z) : ∃ k, z = .int k := by
  cases o <;> simp only [bopI] at e <;> first
    | (simp only [Option.some.injEq] at e; exact ⟨_, e.symm⟩)
    | (split at e
       · simp only [Option.some.injEq] at e; exact ⟨_, e.symm⟩
       · cases e)
theorem len_rep (xs : List PV) : ∀ n, (repN xs n).length = n * xs.length
  | 0 => by simp [repN]
  | n + 1 => by rw [repN, List.length_append, len_rep xs n, Nat.succ_mul, Nat.add_comm]
theorem op_bop (hK : X.K = C.K.f) {o : BO} : OpR X (binaryOp (oper o)) (r2 C (bop o)) := by
  intro pins s σ H x y v u Q I rx ry q
  obtain ⟨M, h, p, q', z, hr, rp, rq, e, k⟩ := q
  have lists : ∀ {a b : List PV}, itemsL p h = some a → itemsL q' h = some b → (if decide (a.length + b.length ≤ big) = true then some (PV.lst (a ++ b)) else none) = some z →
      wpAny (model X.prog X.w) X.A (binaryOp .Add v u) (EP X pins σ Q) X.xe s := fun {a b} ha hb ez => by
    split at ez
    · rename_i c
      cases ez
      obtain ⟨l, vs, rfl, _, hl, rvs⟩ := itemsL_ok hr rp ha
      obtain ⟨l2, ws, rfl, _, hl2, rws⟩ := itemsL_ok hr rq hb
      have c' : vs.length + ws.length ≤ sizeLine := by rw [rvs.len, rws.len, ← big_eq]; exact of_decide_eq_true c
      exact op_cat pins s σ H _ _ v u Q I rx ry ⟨l, l2, vs, ws, rfl, rfl, hl, hl2, c', end_newL hr (by rw [List.length_append]; exact c') (rvs.append rws) k⟩
    · cases ez
  have reps : ∀ {j : Int} {a : List PV}, q' = .int j → itemsL p h = some a → smallR j = true → (if decide (a.length * j.toNat ≤ big) = true then some (PV.lst (repN a j.toNat)) else none) = some z →
      wpAny (model X.prog X.w) X.A (binaryOp .Mult v u) (EP X pins σ Q) X.xe s := fun {j a} hq ha sj ez => by
    split at ez
    · rename_i c
      cases ez
      subst hq
      obtain ⟨l, vs, rfl, _, hl, rvs⟩ := itemsL_ok hr rp ha
      have ey := rv_int rq
      subst ey
      have c' : vs.length * j.toNat ≤ sizeLine := by rw [rvs.len, ← big_eq]; exact of_decide_eq_true c
      have sj' := of_decide_eq_true sj
      exact op_rep pins s σ H _ _ v u Q I rx ry ⟨l, j, vs, rfl, rfl, hl, by omega, by omega, c', end_newL hr (by rw [PyProof.Rows.lm_len_rep_flat, Nat.mul_comm]; exact c') (rvs.rep _) k⟩
    · cases ez
  by_cases hi : ∃ i j, p = .int i ∧ q' = .int j
  · obtain ⟨i, j, rfl, rfl⟩ := hi
    have e' : bopI o i j = some z := e
    obtain ⟨n, rfl⟩ := bopI_int e'
    exact bop_int e' pins s σ H x y v u Q I rx ry ⟨rv_int rp, rv_int rq, n, rfl, k _ _ M Ext.refl hr rv_i⟩
  · have e2 : bopS o p q' h = some z := by
      unfold bop at e
      split at e
      · exact (hi ⟨_, _, rfl, rfl⟩).elim
      · exact e
    cases o with
    | add =>
      replace e2 : addS p q' h = some z := e2
      show wpAny _ _ (binaryOp .Add v u) _ _ _
      unfold addS at e2
      split at e2
      · rename_i a b
        split at e2
        · rename_i c
          cases e2
          obtain ⟨l, vs, rfl, tl, rvs⟩ := rv_tup rp
          obtain ⟨l2, ws, rfl, tl2, rws⟩ := rv_tup rq
          have c' : vs.length + ws.length ≤ sizeLine := by rw [rvs.len, rws.len, ← big_eq]; exact of_decide_eq_true c
          refine op_catA pins s σ H _ _ v u Q I rx ry ⟨l, l2, vs, ws, rfl, rfl, by rw [hK]; exact tl.seq, by rw [hK]; exact tl2.seq, c', fun z => ?_, fun z1 z2 => ?_, fun _ _ => end_newT hr (by rw [List.length_append]; exact c') (rvs.append rws) k⟩
          · subst z
            have ea : a = [] := by have := rvs.len; simp at this; exact List.eq_nil_of_length_eq_zero this.symm
            subst ea
            exact k _ _ M Ext.refl hr rq
          · subst z2
            have eb : b = [] := by have := rws.len; simp at this; exact List.eq_nil_of_length_eq_zero this.symm
            subst eb
            rw [List.append_nil] at k
            exact k _ _ M Ext.refl hr rp
        · cases e2
      · rename_i a b
        split at e2
        · rename_i c
          cases e2
          obtain ⟨rfl, z1⟩ := rv_str rp
          obtain ⟨rfl, z2⟩ := rv_str rq
          have c' : a.length + b.length ≤ sizeLine := by rw [← big_eq]; exact of_decide_eq_true c
          refine op_add_str pins s σ H _ _ v u Q I rx ry ⟨a, b, rfl, rfl, c', k _ _ M Ext.refl hr ?_⟩
          rw [RV]
          exact ⟨rfl, by rw [PySem.Str.length_append]; exact c'⟩
        · cases e2
      · split at e2
        · rename_i a b ha hb
          exact lists ha hb e2
        · cases e2
    | mul =>
      replace e2 : mulJ p q' h = some z := e2
      show wpAny _ _ (binaryOp .Mult v u) _ _ _
      unfold mulJ at e2
      split at e2
      · rename_i j
        unfold mulS at e2
        split at e2
        · rename_i sj
          split at e2
          · rename_i a
            split at e2
            · rename_i c
              cases e2
              rw [Bool.and_eq_true, Bool.and_eq_true, Bool.and_eq_true] at c
              have c1 := of_decide_eq_true c.1.1.1
              have c2 := of_decide_eq_true c.1.1.2
              have c3 := of_decide_eq_true c.1.2
              have c4 := of_decide_eq_true c.2
              obtain ⟨l, vs, rfl, tl, rvs⟩ := rv_tup rp
              have ey := rv_int rq
              subst ey
              have hne : vs ≠ [] := fun z => c3 (by subst z; have := rvs.len; simp at this; exact List.eq_nil_of_length_eq_zero this.symm)
              have hz : vs.length ≤ 1000 := by rw [rvs.len]; exact c4
              refine op_repT pins s σ H _ _ v u Q I rx ry ⟨l, j, vs, rfl, rfl, by rw [hK]; exact tl.seq, hne, c1, c2, hz, end_newT hr ?_ (rvs.rep _) k⟩
              rw [PyProof.Rows.lm_len_rep_flat, sizeLine_eq]
              have : j.toNat * vs.length ≤ 1000 * 1000 := Nat.mul_le_mul (by omega) hz
              omega
            · cases e2
          · cases e2
          · split at e2
            · rename_i a ha
              exact reps rfl ha sj e2
            · cases e2
        · cases e2
      · cases e2
    | sub => cases e2
    | fdv => cases e2
    | mod => cases e2
    | pow => cases e2
end
end Qm

/-! S2: data, comparisons, truth, places, slices. -/
namespace Qm
open PySem PySem.Spec PyProof.Rows L2

mutual
def dat : PV → PyData
  | .non => .none
  | .bl b => .bool b
  | .int i => .int i
  | .str s => .str s
  | .tup xs => .tuple (dats xs)
  | .lst xs => .list (dats xs)
  | _ => .none
def dats : List PV → List PyData
  | [] => []
  | x :: xs => dat x :: dats xs
end
theorem dats_map : ∀ xs, dats xs = xs.map dat
  | [] => by simp [dats]
  | x :: xs => by simp [dats, dats_map xs]
mutual
theorem dat_ok : ∀ {x : PV} {n : Nat}, dep x = some n → (dat x).canLay0 = true ∧ (dat x).depth = n
  | .non, n, h => by simp [dep] at h; subst h; simp [dat, PyData.canLay0, PyData.depth]
  | .bl _, n, h => by simp [dep] at h; subst h; simp [dat, PyData.canLay0, PyData.depth]
  | .int _, n, h => by simp [dep] at h; subst h; simp [dat, PyData.canLay0, PyData.depth]
  | .str s, n, h => by
    simp only [dep] at h
    split at h
    · rename_i c; cases h; exact ⟨by simp only [dat, PyData.canLay0]; exact c, by simp [dat, PyData.depth]⟩
    · cases h
  | .tup xs, n, h => by
    simp only [dep, Option.map_eq_some_iff] at h
    obtain ⟨m, hm, rfl⟩ := h
    have := dats_ok hm
    simp [dat, PyData.canLay0, PyData.depth, this]
  | .lst xs, n, h => by
    simp only [dep, Option.map_eq_some_iff] at h
    obtain ⟨m, hm, rfl⟩ := h
    have := dats_ok hm
    simp [dat, PyData.canLay0, PyData.depth, this]
  | .dic _ _ _, n, h => by simp [dep] at h
  | .ref _, n, h => by simp [dep] at h
  | .scr _, n, h => by simp [dep] at h
theorem dats_ok : ∀ {x : List PV} {n : Nat}, deps x = some n → PyData.canLayAll0 (dats x) = true ∧ PyData.depthAll (dats x) = n
  | [], n, h => by simp [deps] at h; subst h; simp [dats, PyData.canLayAll0, PyData.depthAll]
  | x :: xs, n, h => by
    simp only [deps] at h
    split at h
    · rename_i a b ha hb
      cases h
      have h1 := dat_ok ha
      have h2 := dats_ok hb
      simp [dats, PyData.canLayAll0, PyData.depthAll, h1, h2]
    · cases h
end
mutual
theorem peq_eqv : ∀ {x y : PV} {n m : Nat}, dep x = some n → dep y = some m → peq x y = PyData.eqv (dat x) (dat y)
  | .non, y, _, _, _, hy => by cases y <;> simp [dep] at hy <;> simp [peq, dat, PyData.eqv]
  | .bl _, y, _, _, _, hy => by cases y <;> simp [dep] at hy <;> simp [peq, dat, PyData.eqv]
  | .int _, y, _, _, _, hy => by cases y <;> simp [dep] at hy <;> simp [peq, dat, PyData.eqv]
  | .str _, y, _, _, _, hy => by cases y <;> simp [dep] at hy <;> simp [peq, dat, PyData.eqv]
  | .tup xs, y, _, _, hx, hy => by
    cases y with
    | tup ys =>
      simp only [dep, Option.map_eq_some_iff] at hx hy
      obtain ⟨_, hx, _⟩ := hx
      obtain ⟨_, hy, _⟩ := hy
      simp only [peq, dat, PyData.eqv]
      exact peqs_eqv hx hy
    | dic _ _ _ => simp [dep] at hy
    | ref _ => simp [dep] at hy
    | scr _ => simp [dep] at hy
    | _ => simp [peq, dat, PyData.eqv]
  | .lst xs, y, _, _, hx, hy => by
    cases y with
    | lst ys =>
      simp only [dep, Option.map_eq_some_iff] at hx hy
      obtain ⟨_, hx, _⟩ := hx
      obtain ⟨_, hy, _⟩ := hy
      simp only [peq, dat, PyData.eqv]
      exact peqs_eqv hx hy
    | dic _ _ _ => simp [dep] at hy
    | ref _ => simp [dep] at hy
    | scr _ => simp [dep] at hy
    | _ => simp [peq, dat, PyData.eqv]
  | .dic _ _ _, _, _, _, h, _ => by simp [dep] at h
  | .ref _, _, _, _, h, _ => by simp [dep] at h
  | .scr _, _, _, _, h, _ => by simp [dep] at h
theorem peqs_eqv : ∀ {x y : List PV} {n m : Nat}, deps x = some n → deps y = some m → peqs x y = PyData.eqvAll (dats x) (dats y)
  | [], y, _, _, _, _ => by cases y <;> simp [peqs, dats, PyData.eqvAll]
  | x :: xs, y, _, _, hx, hy => by
    cases y with
    | nil => simp [peqs, dats, PyData.eqvAll]
    | cons y ys =>
      simp only [deps] at hx hy
      split at hx
      · rename_i a b ha hb
        split at hy
        · rename_i c d hc hd
          simp only [peqs, dats, PyData.eqvAll]
          rw [peq_eqv ha hc, peqs_eqv hb hd]
        · cases hy
      · cases hx
end
theorem flat_dep {x : PV} (h : flatD x = true) : ∃ n, dep x = some n ∧ n ≤ 60 := by
  unfold flatD at h
  split at h
  · rename_i n e; exact ⟨n, e, of_decide_eq_true h⟩
  · cases h
theorem flat_shaped {x : PV} (h : flatD x = true) : SeqAt.shaped (dat x) = true := by
  obtain ⟨n, e, z⟩ := flat_dep h
  have := dat_ok e
  unfold SeqAt.shaped
  rw [this.1, this.2]
  simp
  omega
section
variable {C : XC} {M : List Addr} {H : Hp} {h : MHp}
mutual
theorem dat_rv : ∀ {x : PV} {n : Nat} {v : V}, dep x = some n → RV C.K M H x v → Dp C.K.f H v (dat x)
  | .non, _, _, _, r => by rw [rv_non r, dat]; exact .non
  | .bl _, _, _, _, r => by rw [rv_bl r, dat]; exact .bl _
  | .int _, _, _, _, r => by rw [rv_int r, dat]; exact .int _
  | .str _, _, _, _, r => by rw [(rv_str r).1, dat]; exact .str _
  | .tup xs, _, _, e, r => by
    obtain ⟨a, vs, rfl, t, rs⟩ := rv_tup r
    simp only [dep, Option.map_eq_some_iff] at e
    obtain ⟨_, e, _⟩ := e
    rw [dat]
    exact .tup t.seq (dats_rv e rs)
  | .lst xs, _, _, e, r => by
    rw [RV] at r
    obtain ⟨a, vs, rfl, z, _, t, rs⟩ := r
    simp only [dep, Option.map_eq_some_iff] at e
    obtain ⟨_, e, _⟩ := e
    rw [dat]
    exact .lst (SqL.of t) (dats_rv e rs)
  | .dic _ _ _, _, _, h, _ => by simp [dep] at h
  | .ref _, _, _, h, _ => by simp [dep] at h
  | .scr _, _, _, h, _ => by simp [dep] at h
theorem dats_rv : ∀ {x : List PV} {n : Nat} {v : List V}, deps x = some n → RVs C.K M H x v → DpAll C.K.f H v (dats x)
  | [], _, _, _, r => by rw [RVs] at r; subst r; rw [dats]; exact .nil
  | x :: xs, _, _, e, r => by
    rw [RVs] at r
    obtain ⟨v, vs, rfl, r1, r2⟩ := r
    simp only [deps] at e
    split at e
    · rename_i a b ha hb
      rw [dats]
      exact .cons (dat_rv ha r1) (dats_rv hb r2)
    · cases e
end
/-- a list of the small heap as data, too -/
theorem dataOf_rv (hr : HRel C.K M H h) {x : PV} {v : V} (f : flatD (dataOf x h) = true) (r : RV C.K M H x v) : Dp C.K.f H v (dat (dataOf x h)) := by
  obtain ⟨n, e, _⟩ := flat_dep f
  cases x with
  | ref k =>
    rw [RV] at r
    obtain ⟨a, rfl, em⟩ := r
    unfold dataOf at e ⊢
    simp only at e ⊢
    split at e
    · rename_i xs eh
      obtain ⟨vs, e2, _, rs⟩ := hr.at_ k a _ em eh
      simp only [dep, Option.map_eq_some_iff] at e
      obtain ⟨_, e, _⟩ := e
      rw [dat]
      exact .lst (SqL.of e2) (dats_rv e rs)
    · simp [dep] at e
  | _ => exact dat_rv e r
end

/-! ### comparisons -/
def cmpO : CO → CmpOp
  | .eq => .Eq | .ne => .NotEq | .lt => .Lt | .le => .LtE | .gt => .Gt | .ge => .GtE | .isN => .Is | .notN => .IsNot | .isin => .In | .notin => .NotIn
section
variable {X : Cx} {C : XC}
theorem fin_b {M : List Addr} {H : Hp} {h : MHp} {b : Bool} {Q : VK} (hr : HRel C.K M H h) (k : ∀ v H' M', Ext M H M' H' → HRel C.K M' H' h → RV C.K M' H' (.bl b) v → Q v H') : Q (.bl b) H := k _ _ M Ext.refl hr rv_b
def copV (o : CO) (x y : PV) (h : MHp) : Option PV := (cop o x y h).map .bl
theorem canLayAll_of_all : ∀ {xs : List PV}, xs.all flatD = true → PyData.canLayAll0 (dats xs) = true ∧ PyData.depthAll (dats xs) ≤ 60 ∧ ∃ n, deps xs = some n
  | [], _ => by simp [dats, PyData.canLayAll0, PyData.depthAll, deps]
  | x :: xs, h => by
    simp only [List.all_cons, Bool.and_eq_true] at h
    obtain ⟨n, e, z⟩ := flat_dep h.1
    obtain ⟨h1, h2, m, em⟩ := canLayAll_of_all h.2
    have := dat_ok e
    simp [dats, PyData.canLayAll0, PyData.depthAll, this, h1, deps, e, em]
    omega
theorem any_eqv {x : PV} (fx : flatD x = true) : ∀ {xs : List PV}, xs.all flatD = true → (xs.any fun z => peq z x) = (dats xs).any fun z => PyData.eqv z (dat x)
  | [], _ => by simp [dats]
  | y :: xs, h => by
    simp only [List.all_cons, Bool.and_eq_true] at h
    obtain ⟨n, e, _⟩ := flat_dep fx
    obtain ⟨m, e2, _⟩ := flat_dep h.1
    simp only [List.any_cons, dats]
    rw [peq_eqv e2 e, any_eqv fx h.2]
theorem in_seq (hK : X.K = C.K.f) (hu : X.A.units + 70 < cLine) {M : List Addr} {H : Hp} {h : MHp} {x y : PV} {xs : List PV} {v w : V} {u u' : Value} {pins : List (Addr × Obj)} {s : Shared} {σ : L2.St} {Q : VK} (I : Inv X pins σ H s) (hr : HRel C.K M H h)
    (rx : RV C.K M H x v) (ry : RV C.K M H y w) (r1 : RelV v u) (r2 : RelV w u') (e : itemsT y h = some xs) (fx : flatD x = true) (fs : xs.all flatD = true) :
    (Q (.bl (xs.any fun z => peq z x)) H → wpAny (model X.prog X.w) X.A (compareOp .In u u') (EP X pins σ Q) X.xe s) ∧
    (Q (.bl (!(xs.any fun z => peq z x))) H → wpAny (model X.prog X.w) X.A (compareOp .NotIn u u') (EP X pins σ Q) X.xe s) := by
  obtain ⟨n, ex, zx⟩ := flat_dep fx
  obtain ⟨c1, c2, m, em⟩ := canLayAll_of_all fs
  obtain ⟨a, vs, ew, z, alt, rs⟩ := itemsT_ok hr ry e
  have dx : Dp X.K H v (dat x) := by rw [hK]; exact dat_rv ex rx
  have ds : DpAll X.K H vs (dats xs) := by rw [hK]; exact dats_rv em rs
  have cx : (dat x).canLay0 = true := (dat_ok ex).1
  have dd : (dat x).depth ≤ 60 := by rw [(dat_ok ex).2]; exact zx
  have hroom : X.A.units + 1 + min (PyData.depthAll (dats xs)) (dat x).depth < cLine := by
    have := Nat.min_le_right (PyData.depthAll (dats xs)) (dat x).depth
    omega
  rw [any_eqv fx fs]
  obtain ⟨as, q1⟩ := Dp.reads I (dat x) v u dx r1
  rcases alt with ⟨_, ht⟩ | ⟨_, hl⟩
  · have dy : Dp X.K H w (.tuple (dats xs)) := by rw [ew]; rw [← hK] at ht; exact .tup ht ds
    obtain ⟨bs, q2⟩ := Dp.reads I (.tuple (dats xs)) w u' dy r2
    exact ⟨fun q => SeqAt.in_tuple_reads q2 q1 c1 cx hroom ⟨.bl _, H, I, rfl, q⟩, fun q => SeqAt.notIn_tuple_reads q2 q1 c1 cx hroom ⟨.bl _, H, I, rfl, q⟩⟩
  · have dy : Dp X.K H w (.list (dats xs)) := by rw [ew]; exact .lst (SqL.of hl) ds
    obtain ⟨bs, q2⟩ := Dp.reads I (.list (dats xs)) w u' dy r2
    exact ⟨fun q => SeqAt.in_list_reads q2 q1 c1 cx hroom ⟨.bl _, H, I, rfl, q⟩, fun q => SeqAt.notIn_list_reads q2 q1 c1 cx hroom ⟨.bl _, H, I, rfl, q⟩⟩
end

/-! ### dicts by keys -/
section
variable {C : XC} {M : List Addr} {H : Hp} {h : MHp} {κ : Type} [DecidableEq κ]
theorem look_some {f : κ → PV} (inj : ∀ a b, peq (f a) (f b) = decide (a = b)) {k : κ} {z : PV} : ∀ {kvs : List (κ × V)} {ws : List PV}, RVs C.K M H ws (kvs.map (·.2)) → lookK (kvs.map fun p => f p.1) ws (f k) = some z → ∃ v, valV kvs k = some v ∧ RV C.K M H z v
  | [], ws, r, e => by simp [lookK] at e
  | (a, b) :: kvs, ws, r, e => by
    cases ws with
    | nil => simp [lookK] at e
    | cons w ws =>
      rw [List.map_cons, RVs] at r
      obtain ⟨v, vs, ev, r1, r2⟩ := r
      injection ev with e1 e2
      subst e1; subst e2
      simp only [List.map_cons, lookK] at e
      rw [inj] at e
      by_cases c : a = k
      · rw [if_pos (decide_eq_true c)] at e
        cases e
        exact ⟨b, valV_pos c, r1⟩
      · rw [if_neg (by simp [c])] at e
        obtain ⟨v', h1, h2⟩ := look_some inj r2 e
        exact ⟨v', by rw [valV_neg c]; exact h1, h2⟩
theorem look_none {f : κ → PV} (inj : ∀ a b, peq (f a) (f b) = decide (a = b)) {k : κ} : ∀ {kvs : List (κ × V)} {ws : List PV}, RVs C.K M H ws (kvs.map (·.2)) → lookK (kvs.map fun p => f p.1) ws (f k) = none → valV kvs k = none
  | [], ws, r, e => valV_nil
  | (a, b) :: kvs, ws, r, e => by
    cases ws with
    | nil => rw [RVs] at r; simp at r
    | cons w ws =>
      rw [List.map_cons, RVs] at r
      obtain ⟨v, vs, ev, r1, r2⟩ := r
      injection ev with e1 e2
      subst e1; subst e2
      simp only [List.map_cons, lookK] at e
      rw [inj] at e
      by_cases c : a = k
      · rw [if_pos (decide_eq_true c)] at e
        cases e
      · rw [if_neg (by simp [c])] at e
        rw [valV_neg c]
        exact look_none inj r2 e
theorem any_look {f : κ → PV} (inj : ∀ a b, peq (f a) (f b) = decide (a = b)) {k : κ} : ∀ {kvs : List (κ × V)}, ((kvs.map fun p => f p.1).any fun z => peq z (f k)) = (valV kvs k).isSome
  | [] => rfl
  | (a, b) :: kvs => by
    simp only [List.map_cons, List.any_cons]
    rw [inj, any_look inj]
    by_cases c : a = k
    · rw [valV_pos c]; simp [c]
    · rw [valV_neg c]; simp [c]
end
theorem str_beq {a b : Str} : (a == b) = decide (a = b) := by
  by_cases c : a = b
  · subst c; simp
  · rw [decide_eq_false c]; exact beq_false_of_ne c
theorem key_inj (a b : Key) : peq (keyP a) (keyP b) = decide (a = b) := by
  cases a <;> cases b <;> simp [keyP, peq, key_ll, key_rr, key_lr, key_rl, str_beq, Bool.beq_eq_decide_eq]
def kInt (l : List Int) : List Key := l.map .inl
theorem keys_inj : ∀ (a b : List Key), peqs (a.map keyP) (b.map keyP) = decide (a = b)
  | [], [] => by simp [peqs]
  | [], _ :: _ => by simp [peqs]
  | _ :: _, [] => by simp [peqs]
  | a :: as, b :: bs => by
    simp only [List.map_cons, peqs]
    rw [key_inj, keys_inj as bs]
    by_cases c : a = b
    · subst c; simp
    · simp [c]
theorem tkey_inj (a b : List Key) : peq (.tup (a.map keyP)) (.tup (b.map keyP)) = decide (a = b) := by rw [peq, keys_inj]
section
variable {C : XC} {M : List Addr} {H : Hp} {h : MHp}
theorem ints_all : ∀ {xs : List PV} {vs : List V}, (xs.all fun z => match z with | .int _ => true | _ => false) = true → RVs C.K M H xs vs → ∃ k : List Key, xs = k.map keyP ∧ vs = k.map kV
  | [], vs, _, r => by rw [RVs] at r; subst r; exact ⟨[], rfl, rfl⟩
  | x :: xs, vs, e, r => by
    rw [RVs] at r
    obtain ⟨v, vs', rfl, r1, r2⟩ := r
    simp only [List.all_cons, Bool.and_eq_true] at e
    obtain ⟨k, e1, e2⟩ := ints_all e.2 r2
    obtain ⟨e0, _⟩ := e
    cases x with
    | int i => exact ⟨.inl i :: k, by simp [keyP, e1], by rw [rv_int r1]; simp [kV, e2]⟩
    | _ => simp at e0
/-- a key by the abstract heap -/
theorem key_false {x : PV} {v : V} (e : keyOk false x = true) (r : RV C.K M H x v) : ∃ k : Key, x = keyP k ∧ v = kV k := by
  cases x with
  | int i => exact ⟨.inl i, rfl, rv_int r⟩
  | str s => exact ⟨.inr s, rfl, (rv_str r).1⟩
  | _ => simp [keyOk] at e
theorem key_true {x : PV} {v : V} (e : keyOk true x = true) (r : RV C.K M H x v) : ∃ (k : List Key) (b : Addr), x = .tup (k.map keyP) ∧ v = .ref b ∧ H b = some (.tup (k.map kV)) := by
  cases x with
  | tup xs =>
    obtain ⟨a, vs, rfl, t, rs⟩ := rv_tup r
    obtain ⟨k, e1, e2⟩ := ints_all e rs
    rcases t with ⟨_, _, t⟩ | ⟨_, _, _, _, _, _, _, _, s, es⟩
    · exact ⟨k, a, by rw [e1], rfl, by rw [← e2]; exact t⟩
    · rw [e2] at es
      exfalso
      have hk : (xs.all fun z => match z with | .int _ => true | _ => false) = true := e
      cases k with
      | nil => simp at es
      | cons k0 k =>
        simp at es
        cases k0 with
        | inl i => simp [kV] at es
        | inr z => rw [e1] at hk; simp [keyP] at hk
  | _ => simp [keyOk] at e
/-- what the dict at a gives for a key -/
theorem dget_ok {t : Bool} {ks ws : List PV} {us : List V} {u : HO} {a : Addr} {x : PV} {v : V} (ea : H a = some u) (d : DK t ks us u) (rw_ : RVs C.K M H ws us) (ek : keyOk t x = true) (r : RV C.K M H x v) :
    ∃ o, DGet H a v o ∧ o.isSome = (ks.any fun z => peq z x) ∧ (∀ z, lookK ks ws x = some z → ∃ y, o = some y ∧ RV C.K M H z y) ∧ (lookK ks ws x = none → o = none) := by
  cases t with
  | false =>
    obtain ⟨kvs, rfl, rfl, rfl⟩ := (show ∃ kvs : List (Key × V), u = .dK kvs ∧ ks = kvs.map (fun p => keyP p.1) ∧ us = kvs.map (·.2) from d)
    obtain ⟨k, rfl, rfl⟩ := key_false ek r
    exact ⟨_, DGet.k ea, (any_look key_inj).symm, fun z e => look_some key_inj rw_ e, fun e => look_none key_inj rw_ e⟩
  | true =>
    obtain ⟨kvs, rfl, rfl, rfl⟩ := (show ∃ kvs : List (List Key × V), u = .dT kvs ∧ ks = kvs.map (fun p => .tup (p.1.map keyP)) ∧ us = kvs.map (·.2) from d)
    obtain ⟨k, b, rfl, rfl, eb⟩ := key_true ek r
    exact ⟨_, DGet.t ea eb, (any_look (f := fun p : List Key => .tup (p.map keyP)) tkey_inj).symm, fun z e => look_some (f := fun p : List Key => .tup (p.map keyP)) tkey_inj rw_ e, fun e => look_none (f := fun p : List Key => .tup (p.map keyP)) tkey_inj rw_ e⟩
end
section
variable {X : Cx} {C : XC}
/-- x in y, x not in y -/
theorem in_any (hK : X.K = C.K.f) (hu : X.A.units + 70 < cLine) {M : List Addr} {H : Hp} {h : MHp} {x y : PV} {b : Bool} {v w : V} {u u' : Value} {pins : List (Addr × Obj)} {s : Shared} {σ : L2.St} {Q : VK} (I : Inv X pins σ H s) (hr : HRel C.K M H h)
    (rx : RV C.K M H x v) (ry : RV C.K M H y w) (r1 : RelV v u) (r2 : RelV w u') (e : isinS x y h = some b) :
    (Q (.bl b) H → wpAny (model X.prog X.w) X.A (compareOp .In u u') (EP X pins σ Q) X.xe s) ∧
    (Q (.bl (!b)) H → wpAny (model X.prog X.w) X.A (compareOp .NotIn u u') (EP X pins σ Q) X.xe s) := by
  have rest : isinR x y h = some b → (Q (.bl b) H → wpAny (model X.prog X.w) X.A (compareOp .In u u') (EP X pins σ Q) X.xe s) ∧
    (Q (.bl (!b)) H → wpAny (model X.prog X.w) X.A (compareOp .NotIn u u') (EP X pins σ Q) X.xe s) := fun e => by
    unfold isinR at e
    split at e
    · rename_i xs exs
      split at e
      · rename_i c
        cases e
        rw [Bool.and_eq_true] at c
        exact in_seq hK hu I hr rx ry r1 r2 exs c.1 c.2
      · cases e
    · split at e
      · rename_i t ks ws ed
        split at e
        · rename_i c
          cases e
          obtain ⟨a, us, uo, rfl, ea, d, rs⟩ := asDic_ok hr ry ed
          obtain ⟨o, g, eo, _, _⟩ := dget_ok ea d rs c rx
          obtain rfl : u' = Value.ref a := r2
          rw [← eo]
          exact ⟨fun q => d_in (by omega) I g r1 fun s' I' => ⟨.bl _, H, I', rfl, q⟩, fun q => d_notIn (by omega) I g r1 fun s' I' => ⟨.bl _, H, I', rfl, q⟩⟩
        · cases e
      · cases e
  cases y with
  | str z =>
    replace e : isinZ x z = some b := e
    unfold isinZ at e
    split at e
    · rename_i w'
      split at e
      · rename_i c
        cases e
        obtain ⟨rfl, _⟩ := rv_str rx
        obtain ⟨rfl, _⟩ := rv_str ry
        obtain ⟨arr⟩ := w'
        have hs : arr = #[arr.getD 0 0] := by
          have c' : arr.size = 1 := c
          obtain ⟨l⟩ := arr
          simp at c'
          match l, c' with
          | [n], _ => rfl
        have ec : (z.cps.toList.contains (arr.getD 0 0)) = decide (arr.getD 0 0 ∈ z.cps.toList) := by
          by_cases m : arr.getD 0 0 ∈ z.cps.toList
          · rw [decide_eq_true m]; exact List.contains_iff_mem.mpr m
          · rw [decide_eq_false m]; simpa using m
        show (Q (.bl (z.cps.toList.contains (arr.getD 0 0))) H → _) ∧ (Q (.bl (!(z.cps.toList.contains (arr.getD 0 0)))) H → _)
        rw [ec]
        exact ⟨fun q => op_in_sign pins s σ H _ _ u u' Q I r1 r2 ⟨_, _, by rw [← hs], rfl, q⟩, fun q => op_notIn_sign pins s σ H _ _ u u' Q I r1 r2 ⟨_, _, by rw [← hs], rfl, q⟩⟩
      · cases e
    · cases e
  | _ => exact rest e
end
end Qm

/-! S2a: the order of data; the least, the greatest; sums. -/
namespace Qm
open PySem PySem.Spec PyProof.Rows L2 PySem.W
theorem deps_cons {x : PV} {xs : List PV} {n : Nat} (h : deps (x :: xs) = some n) : ∃ a b, dep x = some a ∧ deps xs = some b := by
  rw [deps] at h
  split at h
  · rename_i a b ha hb; exact ⟨_, _, ha, hb⟩
  · cases h
mutual
theorem alike_dat : ∀ {x y : PV} {n m : Nat}, dep x = some n → dep y = some m → alike (dat x) (dat y) = alikeP x y
  | .non, y, n, m, hx, hy => by cases y <;> simp [dep] at hy <;> simp [dat, alike, alikeP]
  | .bl _, y, n, m, hx, hy => by cases y <;> simp [dep] at hy <;> simp [dat, alike, alikeP]
  | .int _, y, n, m, hx, hy => by cases y <;> simp [dep] at hy <;> simp [dat, alike, alikeP]
  | .str _, y, n, m, hx, hy => by cases y <;> simp [dep] at hy <;> simp [dat, alike, alikeP]
  | .tup a, y, n, m, hx, hy => by
    cases y with
    | tup b =>
      simp [dep] at hx hy
      obtain ⟨i, hi, _⟩ := hx
      obtain ⟨j, hj, _⟩ := hy
      simp [dat, alike, alikeP, alikes_dat hi hj]
    | _ => simp [dep] at hy <;> simp [dat, alike, alikeP]
  | .lst a, y, n, m, hx, hy => by
    cases y with
    | lst b =>
      simp [dep] at hx hy
      obtain ⟨i, hi, _⟩ := hx
      obtain ⟨j, hj, _⟩ := hy
      simp [dat, alike, alikeP, alikes_dat hi hj]
    | _ => simp [dep] at hy <;> simp [dat, alike, alikeP]
  | .dic _ _ _, _, _, _, hx, _ => by simp [dep] at hx
  | .ref _, _, _, _, hx, _ => by simp [dep] at hx
  | .scr _, _, _, _, hx, _ => by simp [dep] at hx
theorem alikes_dat : ∀ {x y : List PV} {n m : Nat}, deps x = some n → deps y = some m → alikeAll (dats x) (dats y) = alikePs x y
  | [], [], _, _, _, _ => by simp [dats, alikeAll, alikePs]
  | [], _ :: _, _, _, _, _ => by simp [dats, alikeAll, alikePs]
  | _ :: _, [], _, _, _, _ => by simp [dats, alikeAll, alikePs]
  | x :: xs, y :: ys, n, m, hx, hy => by
    obtain ⟨a, b, ha, hb⟩ := deps_cons hx
    obtain ⟨c, d, hc, hd⟩ := deps_cons hy
    simp [dats, alikeAll, alikePs, alike_dat ha hc, alikes_dat hb hd]
end
theorem dataLt_none : dataLt .none .none = false := rfl
mutual
theorem lt_dat : ∀ {x y : PV} {n m : Nat}, dep x = some n → dep y = some m → alikeP x y = true → dataLt (dat x) (dat y) = pLt x y
  | .non, y, n, m, hx, hy, h => by cases y <;> simp [alikeP] at h <;> simp [dat, pLt, dataLt_none]
  | .bl a, y, n, m, hx, hy, h => by
    cases y <;> simp [alikeP] at h
    rename_i b
    simp only [dat, pLt, dataLt_bool]
    cases a <;> cases b <;> rfl
  | .int a, y, n, m, hx, hy, h => by
    cases y <;> simp [alikeP] at h
    simp only [dat, pLt, dataLt_int]
  | .str a, y, n, m, hx, hy, h => by
    cases y <;> simp [alikeP] at h
    simp only [dat, pLt, dataLt_str]
  | .tup a, y, n, m, hx, hy, h => by
    cases y with
    | tup b =>
      simp [dep] at hx hy
      obtain ⟨i, hi, _⟩ := hx
      obtain ⟨j, hj, _⟩ := hy
      rw [alikeP] at h
      rw [dat, dat, dataLt_tuple, pLt]
      exact lts_dat hi hj h
    | _ => simp [alikeP] at h
  | .lst a, y, n, m, hx, hy, h => by
    cases y with
    | lst b =>
      simp [dep] at hx hy
      obtain ⟨i, hi, _⟩ := hx
      obtain ⟨j, hj, _⟩ := hy
      rw [alikeP] at h
      rw [dat, dat, dataLt_list, pLt]
      exact lts_dat hi hj h
    | _ => simp [alikeP] at h
  | .dic _ _ _, _, _, _, hx, _, _ => by simp [dep] at hx
  | .ref _, _, _, _, hx, _, _ => by simp [dep] at hx
  | .scr _, _, _, _, hx, _, _ => by simp [dep] at hx
theorem lts_dat : ∀ {x y : List PV} {n m : Nat}, deps x = some n → deps y = some m → alikePs x y = true → PyProof.Rows.lexLt itemOrd (keyToksAll (dats x)) (keyToksAll (dats y)) = pLts x y
  | [], [], _, _, _, _, _ => by simp only [dats, pLts]; rfl
  | [], y :: ys, _, _, _, _, _ => by simp only [dats, pLts]; rw [toks_all_cons]; rfl
  | x :: xs, [], _, _, _, _, _ => by simp only [dats, pLts]; rw [toks_all_cons]; rfl
  | x :: xs, y :: ys, n, m, hx, hy, h => by
    obtain ⟨a, b, ha, hb⟩ := deps_cons hx
    obtain ⟨c, d, hc, hd⟩ := deps_cons hy
    rw [alikePs, Bool.and_eq_true] at h
    have al : alike (dat x) (dat y) = true := by rw [alike_dat ha hc]; exact h.1
    have eq := peq_eqv ha hc
    rw [pLts]
    cases e : peq x y with
    | true =>
      rw [if_pos rfl]
      rw [e] at eq
      simp only [dats]
      rw [dataLt_all_yes al eq.symm]
      exact lts_dat hb hd h.2
    | false =>
      rw [if_neg (by decide)]
      rw [e] at eq
      simp only [dats]
      rw [dataLt_all_no al eq.symm]
      exact lt_dat ha hc h.1
end
mutual
theorem dat_inj : ∀ {x y : PV} {n m : Nat}, dep x = some n → dep y = some m → dat x = dat y → x = y
  | .non, y, n, m, hx, hy, h => by cases y <;> simp [dep] at hy <;> simp [dat] at h ⊢
  | .bl _, y, n, m, hx, hy, h => by cases y <;> simp [dep] at hy <;> simp [dat] at h ⊢ <;> exact h
  | .int _, y, n, m, hx, hy, h => by cases y <;> simp [dep] at hy <;> simp [dat] at h ⊢ <;> exact h
  | .str _, y, n, m, hx, hy, h => by cases y <;> simp [dep] at hy <;> simp [dat] at h ⊢ <;> exact h
  | .tup a, y, n, m, hx, hy, h => by
    cases y with
    | tup b =>
      simp [dep] at hx hy
      obtain ⟨i, hi, _⟩ := hx
      obtain ⟨j, hj, _⟩ := hy
      simp only [dat, PyData.tuple.injEq] at h
      rw [dats_inj hi hj h]
    | _ => simp [dep] at hy <;> simp [dat] at h
  | .lst a, y, n, m, hx, hy, h => by
    cases y with
    | lst b =>
      simp [dep] at hx hy
      obtain ⟨i, hi, _⟩ := hx
      obtain ⟨j, hj, _⟩ := hy
      simp only [dat, PyData.list.injEq] at h
      rw [dats_inj hi hj h]
    | _ => simp [dep] at hy <;> simp [dat] at h
  | .dic _ _ _, _, _, _, hx, _, _ => by simp [dep] at hx
  | .ref _, _, _, _, hx, _, _ => by simp [dep] at hx
  | .scr _, _, _, _, hx, _, _ => by simp [dep] at hx
theorem dats_inj : ∀ {x y : List PV} {n m : Nat}, deps x = some n → deps y = some m → dats x = dats y → x = y
  | [], [], _, _, _, _, _ => rfl
  | [], _ :: _, _, _, _, _, h => by simp [dats] at h
  | _ :: _, [], _, _, _, _, h => by simp [dats] at h
  | x :: xs, y :: ys, n, m, hx, hy, h => by
    obtain ⟨a, b, ha, hb⟩ := deps_cons hx
    obtain ⟨c, d, hc, hd⟩ := deps_cons hy
    simp only [dats, List.cons.injEq] at h
    rw [dat_inj ha hc h.1, dats_inj hb hd h.2]
end
theorem dat_none {x : PV} {n : Nat} (h : dep x = some n) (e : dat x = .none) : isNon x = true := by
  cases x <;> simp [dep] at h <;> simp [dat] at e <;> rfl
structure OkO (l : List PV) : Prop where
  fl : ∀ x ∈ l, ∃ n, dep x = some n ∧ n ≤ 60
  al : ∀ x ∈ l, ∀ y ∈ l, alikeP x y = true
  nn : ∀ x ∈ l, isNon x = false
theorem okO {l : List PV} (h : okOrd l = true) : OkO l := by
  unfold okOrd at h
  rw [Bool.and_eq_true, Bool.and_eq_true] at h
  refine ⟨fun x hx => flat_dep (List.all_eq_true.mp h.1.1 x hx), fun x hx y hy => List.all_eq_true.mp (List.all_eq_true.mp h.2 x hx) y hy, fun x hx => ?_⟩
  have := List.all_eq_true.mp h.1.2 x hx
  simpa using this
theorem OkO.alike {l : List PV} (h : OkO l) : AlikeAll (dats l) := by
  rw [dats_map]
  refine ⟨fun x hx y hy => ?_, fun x hx => ?_⟩
  · obtain ⟨a, ha, rfl⟩ := List.mem_map.mp hx
    obtain ⟨b, hb, rfl⟩ := List.mem_map.mp hy
    obtain ⟨_, d1, _⟩ := h.fl a ha
    obtain ⟨_, d2, _⟩ := h.fl b hb
    rw [alike_dat d1 d2]; exact h.al a ha b hb
  · obtain ⟨a, ha, rfl⟩ := List.mem_map.mp hx
    obtain ⟨_, d1, _⟩ := h.fl a ha
    intro e
    have := dat_none d1 e
    rw [h.nn a ha] at this; cases this
theorem OkO.depth : ∀ {l : List PV}, (∀ x ∈ l, ∃ n, dep x = some n ∧ n ≤ 60) → PyData.depthAll (dats l) ≤ 60 ∧ ∃ n, deps l = some n
  | [], _ => ⟨by simp [dats, PyData.depthAll], 0, rfl⟩
  | x :: r, h => by
    obtain ⟨n, e, hn⟩ := h x List.mem_cons_self
    obtain ⟨h2, m, em⟩ := OkO.depth (l := r) fun y hy => h y (List.mem_cons_of_mem _ hy)
    have := (dat_ok e).2
    exact ⟨by simp only [dats, PyData.depthAll]; omega, max n m, by rw [deps, e, em]⟩
theorem fold_mem {f : PV → PV → Bool} : ∀ (r : List PV) (x : PV), r.foldl (fun a y => if f a y then y else a) x ∈ x :: r
  | [], x => List.mem_cons_self
  | y :: r, x => by
    rw [List.foldl_cons]
    rcases List.mem_cons.mp (fold_mem (f := f) r (if f x y then y else x)) with h | h
    · rw [h]; split
      · exact List.mem_cons_of_mem _ List.mem_cons_self
      · exact List.mem_cons_self
    · exact List.mem_cons_of_mem _ (List.mem_cons_of_mem _ h)
theorem minV_mem (x : PV) (r : List PV) : minV x r ∈ x :: r := fold_mem (f := fun a y => pLt y a) r x
theorem maxV_mem (x : PV) (r : List PV) : maxV x r ∈ x :: r := fold_mem (f := fun a y => pLt a y) r x
theorem minD_dat : ∀ (r : List PV) (x : PV), OkO (x :: r) → minD (dat x) (dats r) = dat (minV x r)
  | [], x, _ => by simp [dats, minD, minV]
  | y :: r, x, h => by
    obtain ⟨_, d1, _⟩ := h.fl x List.mem_cons_self
    obtain ⟨_, d2, _⟩ := h.fl y (List.mem_cons_of_mem _ List.mem_cons_self)
    have e := lt_dat d2 d1 (h.al y (List.mem_cons_of_mem _ List.mem_cons_self) x List.mem_cons_self)
    have sub : ∀ z, z ∈ (if pLt y x then y else x) :: r → z ∈ x :: y :: r := fun z hz => by
      rcases List.mem_cons.mp hz with rfl | hz
      · split
        · exact List.mem_cons_of_mem _ List.mem_cons_self
        · exact List.mem_cons_self
      · exact List.mem_cons_of_mem _ (List.mem_cons_of_mem _ hz)
    have ih := minD_dat r (if pLt y x then y else x) ⟨fun z hz => h.fl z (sub z hz), fun z hz w hw => h.al z (sub z hz) w (sub w hw), fun z hz => h.nn z (sub z hz)⟩
    unfold minD minV at ih ⊢
    simp only [dats, List.foldl_cons]
    rw [e, ← ih]
    congr 1
    split <;> rfl
theorem maxD_dat : ∀ (r : List PV) (x : PV), OkO (x :: r) → maxD (dat x) (dats r) = dat (maxV x r)
  | [], x, _ => by simp [dats, maxD, maxV]
  | y :: r, x, h => by
    obtain ⟨_, d1, _⟩ := h.fl x List.mem_cons_self
    obtain ⟨_, d2, _⟩ := h.fl y (List.mem_cons_of_mem _ List.mem_cons_self)
    have e := lt_dat d1 d2 (h.al x List.mem_cons_self y (List.mem_cons_of_mem _ List.mem_cons_self))
    have sub : ∀ z, z ∈ (if pLt x y then y else x) :: r → z ∈ x :: y :: r := fun z hz => by
      rcases List.mem_cons.mp hz with rfl | hz
      · split
        · exact List.mem_cons_of_mem _ List.mem_cons_self
        · exact List.mem_cons_self
      · exact List.mem_cons_of_mem _ (List.mem_cons_of_mem _ hz)
    have ih := maxD_dat r (if pLt x y then y else x) ⟨fun z hz => h.fl z (sub z hz), fun z hz w hw => h.al z (sub z hz) w (sub w hw), fun z hz => h.nn z (sub z hz)⟩
    unfold maxD maxV at ih ⊢
    simp only [dats, List.foldl_cons]
    rw [e, ← ih]
    congr 1
    split <;> rfl
end Qm

/-! S2b: comparisons. -/
namespace Qm
open PySem PySem.Spec PyProof.Rows L2
section
variable {X : Cx} {C : XC}
theorem alikes_comm : ∀ {a c : List PV} {n m : Nat}, deps a = some n → deps c = some m → alikePs a c = true → alikePs c a = true := fun {a c n m} h1 h2 h => by
  rw [← alikes_dat h2 h1, PySem.W.alikeAll_comm, alikes_dat h1 h2]; exact h
theorem tup_data {pins : List (Addr × Obj)} {s : Shared} {σ : L2.St} {H : Hp} {M : List Addr} {a c : List PV} {x y : V} {v u : Value} (hK : X.K = C.K.f) (I : Inv X pins σ H s) (f1 : flatD (.tup a) = true) (f2 : flatD (.tup c) = true) (al : alikePs a c = true)
    (rp : RV C.K M H (.tup a) x) (rq : RV C.K M H (.tup c) y) (rx : RelV x v) (ry : RelV y u) : ∃ as bs, Reads s.heap v (dat (.tup a)) as ∧ Reads s.heap u (dat (.tup c)) bs ∧ PySem.W.alike (dat (.tup a)) (dat (.tup c)) = true ∧ dat (.tup a) ≠ .none ∧
      min (dat (.tup a)).depth (dat (.tup c)).depth ≤ 60 ∧ PySem.W.dataLt (dat (.tup a)) (dat (.tup c)) = pLts a c ∧ PySem.W.dataLt (dat (.tup c)) (dat (.tup a)) = pLts c a := by
  obtain ⟨n, e1, h1⟩ := flat_dep f1
  obtain ⟨m, e2, h2⟩ := flat_dep f2
  obtain ⟨as, r1⟩ := Dp.reads I (dat (.tup a)) x v (by rw [hK]; exact dat_rv e1 rp) rx
  obtain ⟨bs, r2⟩ := Dp.reads I (dat (.tup c)) y u (by rw [hK]; exact dat_rv e2 rq) ry
  have al1 : alikeP (.tup a) (.tup c) = true := by rw [alikeP]; exact al
  have al2 : alikeP (.tup c) (.tup a) = true := by
    rw [alikeP]
    obtain ⟨i, d1, _⟩ := Option.map_eq_some_iff.mp (show (deps a).map (· + 1) = some n from by rw [dep] at e1; exact e1)
    obtain ⟨j, d2, _⟩ := Option.map_eq_some_iff.mp (show (deps c).map (· + 1) = some m from by rw [dep] at e2; exact e2)
    exact alikes_comm d1 d2 al
  refine ⟨as, bs, r1, r2, by rw [alike_dat e1 e2]; exact al1, by rw [dat]; exact fun z => (nomatch z), ?_, ?_, ?_⟩
  · rw [(dat_ok e1).2, (dat_ok e2).2]; omega
  · rw [lt_dat e1 e2 al1, pLt]
  · rw [lt_dat e2 e1 al2, pLt]
theorem op_cop (hK : X.K = C.K.f) (hu : X.A.units + 70 < cLine) {o : CO} : OpR X (compareOp (cmpO o)) (r2 C (copV o)) := by
  intro pins s σ H x y v u Q I rx ry q
  obtain ⟨M, h, p, q', z, hr, rp, rq, e, k⟩ := q
  simp only [copV, Option.map_eq_some_iff] at e
  obtain ⟨b, e, rfl⟩ := e
  have fin : Q (.bl b) H := k _ _ M Ext.refl hr rv_b
  have ord : ∀ (oo : CO), ordS oo p q' = some b → (∃ i j, p = .int i ∧ q' = .int j ∧ ordI oo i j = some b) ∨ ∃ a c, p = .tup a ∧ q' = .tup c ∧ flatD (.tup a) = true ∧ flatD (.tup c) = true ∧ alikePs a c = true ∧ ordT oo a c = some b := fun oo e2 => by
    unfold ordS at e2
    split at e2
    · exact .inl ⟨_, _, rfl, rfl, e2⟩
    · split at e2
      · rename_i c
        rw [Bool.and_eq_true, Bool.and_eq_true] at c
        exact .inr ⟨_, _, rfl, rfl, c.1.1, c.1.2, c.2, e2⟩
      · cases e2
    · cases e2
  have eqs : ∀ {b' : Bool}, eqD (dataOf p h) (dataOf q' h) = some b' → Dp X.K H x (dat (dataOf p h)) ∧ Dp X.K H y (dat (dataOf q' h)) ∧ SeqAt.shaped (dat (dataOf p h)) = true ∧ SeqAt.shaped (dat (dataOf q' h)) = true ∧ PyData.eqv (dat (dataOf p h)) (dat (dataOf q' h)) = b' := fun {b'} e => by
    unfold eqD at e
    split at e
    · rename_i c
      cases e
      rw [Bool.and_eq_true] at c
      obtain ⟨n, e1, _⟩ := flat_dep c.1
      obtain ⟨m, e2, _⟩ := flat_dep c.2
      rw [hK]
      exact ⟨dataOf_rv hr c.1 rp, dataOf_rv hr c.2 rq, flat_shaped c.1, flat_shaped c.2, (peq_eqv e1 e2).symm⟩
    · cases e
  cases o with
  | eq =>
    obtain ⟨h1, h2, h3, h4, h5⟩ := eqs e
    exact op_eqD (by omega) pins s σ H x y v u Q I rx ry ⟨_, _, h1, h2, h3, h4, by rw [h5]; exact fin⟩
  | ne =>
    replace e : (eqD (dataOf p h) (dataOf q' h)).map not = some b := e
    obtain ⟨b', e3, rfl⟩ := Option.map_eq_some_iff.mp e
    clear e
    rename _ = some b' => e
    obtain ⟨h1, h2, h3, h4, h5⟩ := eqs e
    exact op_neD (by omega) pins s σ H x y v u Q I rx ry ⟨_, _, h1, h2, h3, h4, by rw [h5]; exact fin⟩
  | isN =>
    simp only [cop] at e
    split at e
    · cases e
      have := rv_non rq
      subst this
      refine op_isN pins s σ H x _ v u Q I rx ry ⟨rfl, ?_⟩
      have : decide (x = V.non) = decide (p = PV.non) := by
        cases p with
        | non => rw [rv_non rp]; simp
        | bl _ => rw [rv_bl rp]; simp
        | int _ => rw [rv_int rp]; simp
        | str _ => rw [(rv_str rp).1]; simp
        | _ => rw [RV] at rp; obtain ⟨_, rp⟩ := rp; first | (obtain ⟨_, rfl, _⟩ := rp; simp) | (obtain ⟨_, _, rfl, _⟩ := rp; simp) | (obtain ⟨rfl, _⟩ := rp; simp)
      rw [this]
      exact fin
    · rename_i bb
      split at e
      · cases e
        have h1 := rv_bl rp
        have h2 := rv_bl rq
        subst h1
        subst h2
        exact op_is_bl pins s σ H _ _ v u Q I rx ry ⟨_, _, rfl, rfl, fin⟩
      · cases e
    · cases e
  | notN =>
    simp only [cop] at e
    split at e
    · cases e
      have := rv_non rq
      subst this
      refine op_notN pins s σ H x _ v u Q I rx ry ⟨rfl, ?_⟩
      have : decide (x = V.non) = decide (p = PV.non) := by
        cases p with
        | non => rw [rv_non rp]; simp
        | bl _ => rw [rv_bl rp]; simp
        | int _ => rw [rv_int rp]; simp
        | str _ => rw [(rv_str rp).1]; simp
        | _ => rw [RV] at rp; obtain ⟨_, rp⟩ := rp; first | (obtain ⟨_, rfl, _⟩ := rp; simp) | (obtain ⟨_, _, rfl, _⟩ := rp; simp) | (obtain ⟨rfl, _⟩ := rp; simp)
      rw [this]
      exact fin
    · rename_i bb
      split at e
      · cases e
        have h1 := rv_bl rp
        have h2 := rv_bl rq
        subst h1
        subst h2
        exact op_isnot_bl pins s σ H _ _ v u Q I rx ry ⟨_, _, rfl, rfl, fin⟩
      · cases e
    · cases e
  | isin => exact (in_any hK hu I hr rp rq rx ry e).1 fin
  | notin =>
    replace e : (isinS p q' h).map not = some b := e
    obtain ⟨b', e3, rfl⟩ := Option.map_eq_some_iff.mp e
    clear e
    rename _ = some b' => e
    exact (in_any hK hu I hr rp rq rx ry e).2 fin
  | lt =>
    rcases ord .lt e with ⟨i, j, rfl, rfl, e⟩ | ⟨a, c, rfl, rfl, f1, f2, al, e⟩
    · rw [rv_int rp] at rx; rw [rv_int rq] at ry
      cases e
      exact op_lt pins s σ H _ _ v u Q I rx ry ⟨_, _, rfl, rfl, fin⟩
    · cases e
      obtain ⟨as, bs, r1, r2, ha, hn, hd, q1, q2⟩ := tup_data hK I f1 f2 al rp rq rx ry
      exact PySem.W.lt_data r1 r2 ha hn (by omega) ⟨.bl _, H, I, rfl, by rw [q1]; exact fin⟩
  | le =>
    rcases ord .le e with ⟨i, j, rfl, rfl, e⟩ | ⟨a, c, rfl, rfl, f1, f2, al, e⟩
    · rw [rv_int rp] at rx; rw [rv_int rq] at ry
      cases e
      exact op_le pins s σ H _ _ v u Q I rx ry ⟨_, _, rfl, rfl, fin⟩
    · cases e
      obtain ⟨as, bs, r1, r2, ha, hn, hd, q1, q2⟩ := tup_data hK I f1 f2 al rp rq rx ry
      exact PySem.W.le_data r1 r2 ha hn (by omega) ⟨.bl _, H, I, rfl, by rw [q2]; exact fin⟩
  | gt =>
    rcases ord .gt e with ⟨i, j, rfl, rfl, e⟩ | ⟨a, c, rfl, rfl, f1, f2, al, e⟩
    · rw [rv_int rp] at rx; rw [rv_int rq] at ry
      cases e
      exact op_gt pins s σ H _ _ v u Q I rx ry ⟨_, _, rfl, rfl, fin⟩
    · cases e
      obtain ⟨as, bs, r1, r2, ha, hn, hd, q1, q2⟩ := tup_data hK I f1 f2 al rp rq rx ry
      exact PySem.W.gt_data r1 r2 ha hn (by omega) ⟨.bl _, H, I, rfl, by rw [q2]; exact fin⟩
  | ge =>
    rcases ord .ge e with ⟨i, j, rfl, rfl, e⟩ | ⟨a, c, rfl, rfl, f1, f2, al, e⟩
    · rw [rv_int rp] at rx; rw [rv_int rq] at ry
      cases e
      exact op_ge pins s σ H _ _ v u Q I rx ry ⟨_, _, rfl, rfl, fin⟩
    · cases e
      obtain ⟨as, bs, r1, r2, ha, hn, hd, q1, q2⟩ := tup_data hK I f1 f2 al rp rq rx ry
      exact PySem.W.ge_data r1 r2 ha hn (by omega) ⟨.bl _, H, I, rfl, by rw [q1]; exact fin⟩
end
end Qm

/-! S3: truth, places, slices, a sequence from its end, isinstance. -/
namespace HT
open PySem PySem.Spec PyProof.Rows
section
variable {prog : Program} {w : World} {A : Around} {E : Value → Shared → Prop} {s : Shared}
theorem slicePlaces_rev (n : Nat) : Builtin.Slice.slicePlaces ((n : Int) - 1) (-1) (-1) = n := by
  unfold Builtin.Slice.slicePlaces
  rw [if_neg (by decide)]
  by_cases h : (n : Int) - 1 > -1
  · rw [if_pos h, show (- -1 : Int) = 1 by decide, Int.ediv_one]
    omega
  · rw [if_neg h]
    omega
theorem sliceApplied_rev {sl : Addr} {vl vu vs : Value} {n : Nat} {Q : Int × Int × Nat → Shared → Prop} (hs : s.heap.IsSliceOf sl vl vu vs) (pl : IsPart vl none) (pu : IsPart vu none) (ps : IsPart vs (some (-1)))
    (h : Q ((n : Int) - 1, -1, n) s) : wpAny (model prog w) A (Builtin.Slice.sliceApplied (.ref sl) (pure (n : Int))) Q E s := by
  obtain ⟨os, hos, hcs, hds⟩ := id hs
  unfold Builtin.Slice.sliceApplied Builtin.Slice.sliceFields
  refine wpAny_bind (wpAny_bind (wpAny_field hos hds (x := vl) rfl (wpAny_bind (wpAny_field hos hds (x := vu) rfl (wpAny_bind (wpAny_field hos hds (x := vs) rfl (wpAny_pure ?_)))))))
  refine wpAny_bind (slicePart_ ps ?_)
  show wpAny _ _ (if ((-1 : Int) == 0) = true then _ else _) _ _ s
  rw [if_neg (by decide)]
  refine wpAny_bind (slicePart_ pl (wpAny_bind (slicePart_ pu (wpAny_bind (wpAny_pure ?_)))))
  show wpAny _ _ (pure ((n : Int) - 1, (-1 : Int), Builtin.Slice.slicePlaces ((n : Int) - 1) (-1) (-1))) _ _ s
  rw [slicePlaces_rev]
  exact wpAny_pure h
theorem pick_rev (xs : Array Value) : ((List.range xs.size).filterMap fun (m : Nat) => xs[(((xs.size : Nat) : Int) - 1 + (m : Int) * (-1)).toNat]?).toArray = xs.toList.reverse.toArray := by
  have e : ((List.range xs.size).filterMap fun (m : Nat) => xs[(((xs.size : Nat) : Int) - 1 + (m : Int) * (-1)).toNat]?) = ((List.range xs.size).map fun k => xs.size - 1 - k).filterMap (xs[·]?) := by
    rw [List.filterMap_map]
    congr 1
    funext m
    have e2 : (((xs.size : Nat) : Int) - 1 + (m : Int) * (-1)).toNat = xs.size - 1 - m := by omega
    rw [e2]
    rfl
  rw [e, PySem.W.krv_range, List.filterMap_reverse, PySem.W.krv_all]
theorem getItem_tuple_rev {t sl : Addr} {items : Array Value} {vl vu vs : Value} {Q : Value → Shared → Prop} (ht : IsTup s.heap t items) (hs : s.heap.IsSliceOf sl vl vu vs) (pl : IsPart vl none) (pu : IsPart vu none) (ps : IsPart vs (some (-1)))
    (h : Q (.ref s.heap.objs.size) { s with heap := s.heap.push { cls := .type "tuple", data := .seq items.toList.reverse.toArray } })
    (hsz : items.size ≤ sizeLine) : wpAny (model prog w) A (getItem (.ref t) (.ref sl)) Q E s := by
  have htake : sizeOk (.seq items.toList.reverse.toArray) := by
    show items.toList.reverse.toArray.size ≤ sizeLine
    rw [List.size_toArray, List.length_reverse, Array.length_toList]
    exact hsz
  obtain ⟨os, hos, hcs, hds⟩ := id hs
  have hTs : s.TypeIs (.ref sl) "slice" := ⟨os, hos, hcs⟩
  unfold getItem
  try with_reducible refine wpAny_holding ?_
  first | refine wpAny_bind (wpAny_pure ?_) | skip
  refine wpAny_bind (wpAny_sequenceKey ht.typeIs (by decide) ?_)
  refine wpAny_bind (wpAny_callSpecial?_slot (name := Str.ofString "__getitem__") ht.typeIs PyProof.Rows.slot_tuple_getitem
    (wpAny_call_entry PyProof.Rows.slot_tuple_getitem ht.typeIs entry_tuple_getitem ?_ (args_tuple_getitem _ _)))
  show wpAny _ _ (Builtin.Tuple.tupleItemsOf (.ref t) >>= _) _ _ s
  refine wpAny_bind (tupleItemsOf_ ht ?_)
  refine wpAny_bind (wpAny_typeOf hTs ?_)
  rw [if_pos (by decide)]
  refine wpAny_bind (sliceApplied_rev hs pl pu ps ?_)
  show wpAny _ _ (if ((((items.size : Nat) : Int) - 1) == 0 && (-1 : Int) == 1 && items.size == items.size) = true then _ else _) _ _ s
  rw [if_neg (by simp), pick_rev]
  first
    | exact wpAny_bind (m := Builtin.Tuple.tupleExact _) (wpAny_newObj_type (wpAny_pure ⟨_, rfl, wpAny_pure h⟩) htake)
    | exact wpAny_bind (m := Builtin.Tuple.tupleExact _) (wpAny_newObj_type (wpAny_bind (wpAny_pure (wpAny_pure ⟨_, rfl, wpAny_pure h⟩))) htake)
    | exact wpAny_bind (wpAny_bind (m := Builtin.Tuple.tupleExact _) (wpAny_newObj_type (wpAny_pure (wpAny_pure ⟨_, rfl, wpAny_pure h⟩)) htake))
    | exact wpAny_bind (wpAny_bind (m := Builtin.Tuple.tupleExact _) (wpAny_newObj_type (wpAny_pure ⟨_, rfl, wpAny_pure h⟩) htake))
end
end HT
namespace Qm
open PySem PySem.Spec PyProof.Rows L2
section
variable {X : Cx} {C : XC}
/-! ### truth -/
theorem tru_rv (hK : X.K = C.K.f) {M : List Addr} {H : Hp} {h : MHp} {p : PV} {x : V} {b : Bool} (hr : HRel C.K M H h) (r : RV C.K M H p x) (e : truth p h = some b) : TruV X.K x H b := by
  have rest : truthR p h = some b → TruV X.K x H b := fun e => by
    unfold truthR at e
    split at e
    · rename_i xs ex
      cases e
      obtain ⟨a, vs, rfl, z, alt, rs⟩ := itemsT_ok hr r ex
      have eb : (!xs.isEmpty) = !vs.isEmpty := by
        have := rs.len
        cases xs <;> cases vs <;> simp at this <;> rfl
      rcases alt with ⟨_, ht⟩ | ⟨_, hl⟩
      · exact .inr (.inl ⟨vs, by rw [hK]; exact ht, eb⟩)
      · exact .inl ⟨vs, SqL.of hl, eb⟩
    · split at e
      · rename_i ks ws ed
        cases e
        obtain ⟨a, us, u, rfl, ea, d, rs⟩ := asDic_ok hr r ed
        obtain ⟨kvs, rfl, rfl, rfl⟩ := (show ∃ kvs : List (Key × V), u = .dK kvs ∧ ks = kvs.map (fun p => keyP p.1) ∧ us = kvs.map (·.2) from d)
        refine .inr (.inr ⟨kvs, ea, ?_⟩)
        cases kvs <;> rfl
      · cases e
  cases p with
  | non => rw [rv_non r]; simp [truth] at e; exact e
  | bl k => rw [rv_bl r]; simp [truth] at e; exact e.symm
  | int i => rw [rv_int r]; simp only [truth, Option.some.injEq] at e; exact e.symm
  | str s =>
    obtain ⟨rfl, z⟩ := rv_str r
    simp only [truth, Option.some.injEq] at e
    refine ⟨z, ?_⟩
    rw [← e]
    cases hs : s.length with
    | zero => rfl
    | succ n => simp <;> omega
  | _ => exact rest e
theorem pt_of (hK : X.K = C.K.f) {W : WX} {e : Expr} {f : Sem1} (he : PE X e (RdE C W f)) (hp : ∀ whole, isTrue e X.env whole = (do let v ← whole; standAt e.pos; holding [v] (truthy v))) : PT X e (RdT C W (tst f)) := by
  refine pt_weak (pt_truth he hp) fun σ H Q o => ?_
  obtain ⟨M, h, env, hr, er, o⟩ := o
  refine RdE.goB hr er o fun v H1 M1 h1 p x1 hr1 er1 rv o1 => ?_
  cases et : truth p h1 with
  | none => rw [et] at o1; exact o1.elim
  | some b =>
    rw [et] at o1
    exact ⟨b, tru_rv hK hr1 rv et, o1 H1 M1 Ext.refl hr1⟩
/-! ### places -/
theorem ixN_eq (n : Nat) (i : Int) : ixN n i = L2.ixN n i := rfl
theorem atI_ok {M : List Addr} {H : Hp} {xs : List PV} {vs : List V} {i : Int} {z : PV} (r : RVs C.K M H xs vs) (e : atI xs i = some z) : ∃ v, L2.atI vs i = some v ∧ RV C.K M H z v := by
  unfold atI at e
  obtain ⟨j, ej, e2⟩ := Option.bind_eq_some_iff.mp e
  obtain ⟨v, ev, rv⟩ := r.get e2
  refine ⟨v, ?_, rv⟩
  show (L2.ixN vs.length i).bind _ = _
  rw [r.len, ← ixN_eq, ej]
  exact ev
theorem ix_any (hK : X.K = C.K.f) (hu : X.A.units + 70 < cLine) : IxR X (r2 C index) := by
  intro value slc pins s σ H x y v u Q I rx ry q hs
  obtain ⟨M, h, p, q', z, hr, rp, rq, e, k⟩ := q
  have rest : indexR p q' h = some z → wpAny (model X.prog X.w) X.A (subscriptTail value slc v u) (EP X pins σ Q) X.xe s := fun e => by
    unfold indexR at e
    split at e
    · rename_i xs ex
      unfold indexI at e
      split at e
      · rename_i i _
        obtain ⟨a, vs, rfl, zz, alt, rs⟩ := itemsT_ok hr rp ex
        have ey := rv_int rq
        subst ey
        obtain ⟨w, ew, rw_⟩ := atI_ok rs e
        rcases alt with ⟨_, ht⟩ | ⟨_, hl⟩
        · exact ix_tup value slc pins s σ H _ _ v u Q I rx ry ⟨a, vs, i, w, rfl, rfl, by rw [hK]; exact ht, ew, k _ _ M Ext.refl hr rw_⟩ hs
        · exact ix_list value slc pins s σ H _ _ v u Q I rx ry ⟨a, vs, i, w, rfl, rfl, SqL.of hl, ew, k _ _ M Ext.refl hr rw_⟩ hs
      · cases e
    · split at e
      · rename_i t ks ws ed
        split at e
        · rename_i c
          obtain ⟨a, us, uo, rfl, ea, d, rs⟩ := asDic_ok hr rp ed
          obtain ⟨o, g, _, hsome, _⟩ := dget_ok ea d rs c rq
          obtain ⟨y', rfl, ry'⟩ := hsome z e
          obtain rfl : v = Value.ref a := rx
          exact tail_any (ops := [.ref a, u]) (dict_typeIs I g) PySem.F.slot_dict_getitem.lookup (d_getItem (by omega) I g ry fun w' s3 I3 rw' => ⟨y', H, I3, rw', k _ _ M Ext.refl hr ry'⟩) hs
        · cases e
      · cases e
  cases p with
  | str z' =>
    replace e : indexZ z' q' = some z := e
    unfold indexZ at e
    split at e
    · rename_i i
      obtain ⟨c, ec, rfl⟩ := Option.map_eq_some_iff.mp e
      obtain ⟨rfl, zz⟩ := rv_str rp
      have ey := rv_int rq
      subst ey
      refine ix_str value slc pins s σ H _ _ v u Q I rx ry ⟨z', i, c, rfl, rfl, zz, ec, k _ _ M Ext.refl hr ?_⟩ hs
      rw [RV]
      exact ⟨rfl, by rw [sizeLine_eq]; show (#[c] : Array Nat).size ≤ _; simp⟩
    · cases e
  | _ => exact rest e
/-! ### slices -/
theorem sIx_eq (n d : Nat) : ∀ o : Option Int, sIx n d o = HT.sIx n d o
  | none => rfl
  | some _ => rfl
theorem cut_eq {M : List Addr} {H : Hp} {xs : List PV} {vs : List V} {lo hi : Option Int} (r : RVs C.K M H xs vs) : RVs C.K M H (cut xs lo hi) (cutV vs lo hi) := by
  unfold cut cutV
  rw [sIx_eq, sIx_eq, r.len]
  exact (r.drop _).take _
def r3 (C : XC) (f : PV → Option Int → Option Int → MHp → Option PV) : V → Option Int → Option Int → Hp → VK → Prop := fun x lo hi H Q => ∃ M h p z, HRel C.K M H h ∧ RV C.K M H p x ∧ f p lo hi h = some z ∧
  ∀ v H' M', Ext M H M' H' → HRel C.K M' H' h → RV C.K M' H' z v → Q v H'
theorem sl_any (hK : X.K = C.K.f) : SlR X (r3 C slice) := by
  intro pins s σ H x v vl vu lo hi sl Q I rx hs pl pu q
  obtain ⟨M, h, p, z, hr, rp, e, k⟩ := q
  have lists : ∀ {xs : List PV}, itemsL p h = some xs → some (PV.lst (cut xs lo hi)) = some z → ∃ T id, typeLookup (.type T) "__getitem__" = pure (some (.builtin id)) ∧ s.TypeIs v T ∧ wpAny (model X.prog X.w) X.A (getItem v (.ref sl)) (EP X pins σ Q) X.xe s := fun {xs} ex ez => by
    cases ez
    obtain ⟨a, vs, rfl, zz, hl, rs⟩ := itemsL_ok hr rp ex
    exact sl_list pins s σ H _ v vl vu lo hi sl Q I rx hs pl pu ⟨a, vs, rfl, SqL.of hl, end_newL hr (Nat.le_trans (cutV_length vs lo hi) zz) (cut_eq rs) k⟩
  cases p with
  | str z' =>
    cases e
    obtain ⟨rfl, zz⟩ := rv_str rp
    refine sl_str pins s σ H _ v vl vu lo hi sl Q I rx hs pl pu ⟨z', rfl, zz, ?_⟩
    have e : (⟨(cut z'.cps.toList lo hi).toArray⟩ : Str) = cutS z' lo hi := by
      unfold cut cutS
      rw [sIx_eq, sIx_eq]
      have : z'.cps.toList.length = z'.length := by simp [PySem.Str.length]
      rw [this]
    refine k _ _ M Ext.refl hr ?_
    rw [RV, e]
    exact ⟨rfl, Nat.le_trans (cutS_length z' lo hi) zz⟩
  | tup xs =>
    cases e
    obtain ⟨a, vs, rfl, t, rs⟩ := rv_tup rp
    refine sl_tupA pins s σ H _ v vl vu lo hi sl Q I rx hs pl pu ⟨a, vs, rfl, by rw [hK]; exact t.seq, fun hw => ?_, fun _ => end_newT hr (Nat.le_trans (cutV_length vs lo hi) t.len) (cut_eq rs) k⟩
    have e1 : cut xs lo hi = xs := by
      unfold cut
      rw [rs.len] at hw
      rw [sIx_eq, sIx_eq, hw.1, hw.2]
      simp
    rw [e1] at k
    exact k _ _ M Ext.refl hr rp
  | lst xs => exact lists rfl e
  | ref n =>
    have e' : (match itemsL (.ref n) h with | some xs => some (PV.lst (cut xs lo hi)) | none => none) = some z := e
    split at e'
    · rename_i xs ex
      exact lists ex e'
    · cases e'
  | _ => cases e
/-- xs[::-1] -/
theorem pe_rev (hK : X.K = C.K.f) {W : WX} {a : Expr} {fa : Sem1} {k : Nat} {p1 p2 p3 pos : Pos} (he : PE X a (RdE C W fa)) :
    PE X (.Subscript a (.Slice none none (some (.UnaryOp .USub (.Constant (.int 1) k p1) p2)) p3) pos) (RdE C W fun env h => (fa env h).bind fun x h1 => ofOpt (revS x h1) h1) := by
  refine ⟨fun pins s σ H Q I o => ?_⟩
  have h1 := one o
  refine Subscript_ (thn (he.run pins s σ H _ I h1) fun v s1 ⟨x, H1, I1, r1, q1⟩ => ?_)
  obtain ⟨M, h, p, z, hr, rp, e, kk⟩ := q1
  have hst : PO X (some (.UnaryOp .USub (.Constant (.int 1) k p1) p2)) (tPart (tUn (rU fun i => .int (-i)) (tC (.int 1)))) := po_some (pe_un un_neg pe_int)
  refine wpAny_Slice (thn (po_none.run pins s1 σ H1 (fun o H2 => o = none ∧ H2 = H1) I1 ⟨rfl, rfl⟩) fun vl s2 ⟨l, H2, I2, pl, el, e2⟩ => ?_)
  subst el e2
  refine thn (po_none.run pins s2 σ H2 (fun o H3 => o = none ∧ H3 = H2) I2 ⟨rfl, rfl⟩) fun vu s3 ⟨u, H3, I3, pu, eu, e3⟩ => ?_
  subst eu e3
  refine thn (hst.run pins s3 σ H3 (fun o H4 => o = some (-1) ∧ H4 = H3) I3 ⟨1, rfl, -1, rfl, rfl, rfl⟩) fun vs s4 ⟨o, H4, I4, ps, eo, e4⟩ => ?_
  subst eo e4
  have I5 : Inv X pins σ H4 { s4 with heap := s4.heap.push { cls := .type "slice", data := .fields #[vl, vu, vs] } } := I4.kept (t' := s4.toks) fun b ob q => Heap.get?_push_of_some _ q
  have lists : ∀ {xs : List PV}, itemsL p h = some xs → some (PV.lst xs.reverse) = some z → wpAny (model X.prog X.w) X.A (subscriptTail a (.Slice none none (some (.UnaryOp .USub (.Constant (.int 1) k p1) p2)) p3) v (.ref s4.heap.objs.size)) (EP X pins σ Q) X.xe { s4 with heap := s4.heap.push { cls := .type "slice", data := .fields #[vl, vu, vs] } } := fun {xs} ex ez => by
    cases ez
    obtain ⟨aa, ws, rfl, zz, hl, rs⟩ := itemsL_ok hr rp ex
    obtain rfl : v = Value.ref aa := r1
    obtain ⟨its, r, ht, hz⟩ := I5.list (SqL.of hl)
    have hlen := r.length
    refine tail_any (ops := [.ref aa, .ref s4.heap.objs.size]) ht.isList.typeIs (PySem.slot_list_getitem.lookup) ?_ (by with_unfolding_all rfl)
    refine wpAny_getItem_list_slice ht.isList (Heap.IsSliceOf.new _ vl vu vs) pl pu ps (by decide) ?_ (by rw [List.size_toArray]; omega)
    rw [PySem.W.krv_pick]
    refine ⟨.ref _, _, I5.laid (t' := s4.toks) (o := .lst ws.reverse) (fun b ob q => Heap.get?_push_of_some _ q) (Nat.le_refl _) ?_, rfl, end_newL hr (by rw [List.length_reverse]; exact hz) rs.reverse kk _ (I5.hok.fresh (Nat.le_refl _))⟩
    exact ⟨by rw [List.length_reverse]; exact hz, _, 0, r.reverse, Heap.get?_push_size _ rfl⟩
  cases p with
  | tup xs =>
    cases e
    obtain ⟨aa, ws, rfl, t, rs⟩ := rv_tup rp
    obtain rfl : v = Value.ref aa := r1
    obtain ⟨its, r, ht, hz⟩ := I5.tuple (show SqT X.K H4 aa ws by rw [hK]; exact t.seq)
    have hlen := r.length
    show wpAny (model X.prog X.w) X.A (subscriptTail a (.Slice none none (some (.UnaryOp .USub (.Constant (.int 1) k p1) p2)) p3) (.ref aa) (.ref s4.heap.objs.size)) (EP X pins σ Q) X.xe { s4 with heap := s4.heap.push { cls := .type "slice", data := .fields #[vl, vu, vs] } }
    refine tail_any (ops := [.ref aa, .ref s4.heap.objs.size]) ht.typeIs PyProof.Rows.slot_tuple_getitem.lookup ?_ (by with_unfolding_all rfl)
    refine HT.getItem_tuple_rev ht (Heap.IsSliceOf.new _ vl vu vs) pl pu ps ?_ (by rw [List.size_toArray]; omega)
    refine ⟨.ref _, _, I5.laid (t' := s4.toks) (o := .tup ws.reverse) (fun b ob q => Heap.get?_push_of_some _ q) (Nat.le_refl _) ?_, rfl, end_newT hr (by rw [List.length_reverse]; exact hz) rs.reverse kk _ (I5.hok.fresh (Nat.le_refl _))⟩
    exact ⟨by rw [List.length_reverse]; exact hz, _, r.reverse, IsTup.new _ _⟩
  | lst xs => exact lists rfl e
  | ref n =>
    have e' : (match itemsL (.ref n) h with | some xs => some (PV.lst xs.reverse) | none => none) = some z := e
    split at e'
    · rename_i xs ex
      exact lists ex e'
    · cases e'
  | _ => cases e
end
end Qm

/-! T0: sorted of tuples of ints, of any lengths. -/
namespace Qm
open PySem PySem.Spec PyProof.Rows Srt SrtO
theorem lexL_self : ∀ x, lexL x x = false
  | [] => rfl
  | x :: xs => by rw [lexL, if_pos rfl, lexL_self xs]
theorem lexL_asym : ∀ x y, lexL x y = true → lexL y x = false
  | [], [], h => by cases h
  | [], _ :: _, _ => rfl
  | _ :: _, [], h => by cases h
  | x :: xs, y :: ys, h => by
    rw [lexL] at h ⊢
    by_cases e : x = y
    · rw [if_pos e] at h
      rw [if_pos e.symm]
      exact lexL_asym xs ys h
    · rw [if_neg e] at h
      rw [if_neg (fun z => e z.symm)]
      have := of_decide_eq_true h
      exact decide_eq_false (by omega)
theorem lexL_tr : ∀ x y z, lexL y x = false → lexL z y = false → lexL z x = false
  | [], _, [], _, _ => rfl
  | [], [], _ :: _, _, _ => rfl
  | [], _ :: _, _ :: _, _, _ => rfl
  | _ :: _, [], _, h, _ => by cases h
  | _ :: _, _ :: _, [], _, h => by cases h
  | x :: xs, y :: ys, z :: zs, h1, h2 => by
    rw [lexL] at h1 h2 ⊢
    by_cases e1 : y = x
    · subst e1
      rw [if_pos rfl] at h1
      by_cases e2 : z = y
      · subst e2
        rw [if_pos rfl] at h2 ⊢
        exact lexL_tr xs ys zs h1 h2
      · rw [if_neg e2] at h2 ⊢
        exact h2
    · rw [if_neg e1] at h1
      have h1 := of_decide_eq_false h1
      by_cases e2 : z = y
      · subst e2
        rw [if_neg e1]
        exact decide_eq_false h1
      · rw [if_neg e2] at h2
        have h2 := of_decide_eq_false h2
        rw [if_neg (by omega)]
        exact decide_eq_false (by omega)
theorem lexL_tot : ∀ x y, lexL x y = false → lexL y x = false → x = y
  | [], [], _, _ => rfl
  | [], _ :: _, h, _ => by cases h
  | _ :: _, [], _, h => by cases h
  | x :: xs, y :: ys, h1, h2 => by
    rw [lexL] at h1 h2
    by_cases e : x = y
    · subst e
      rw [if_pos rfl] at h1 h2
      rw [lexL_tot xs ys h1 h2]
    · rw [if_neg e] at h1
      rw [if_neg (fun z => e z.symm)] at h2
      have := of_decide_eq_false h1
      have := of_decide_eq_false h2
      omega
theorem lexL_swo {α : Type} (k : α → List Int) : Swo fun v u => lexL (k v) (k u) := ⟨fun x y h => lexL_asym _ _ h, fun x y z h1 h2 => lexL_tr _ _ _ h1 h2⟩
def ITup (h : Heap) (v : Value) (ns : List Int) : Prop := ∃ a o its n, v = .ref a ∧ h.get? a = some o ∧ o.cls = .type "tuple" ∧ o.data = .seq its n ∧ IntsAre its.toList ns
theorem ITup.keeps {h h' : Heap} {v : Value} {ns : List Int} (p : ITup h v ns) (k : ∀ b o, h.get? b = some o → o.cls = .type "tuple" → h'.get? b = some o) : ITup h' v ns := by
  obtain ⟨a, o, its, n, e, ho, hc, hd, hi⟩ := p
  exact ⟨a, o, its, n, e, k _ _ ho hc, hc, hd, hi⟩
theorem ints_len {xs : List Value} {ns : List Int} (h : IntsAre xs ns) : xs.length = ns.length := by
  induction h with
  | nil => rfl
  | cons n t _ ih => simp [ih]
section
variable {prog : Program} {w : World} {A : Around} {E : Value → Shared → Prop} {s : Shared}
theorem lexL_kat {b fin : Bool} {Q : Bool → Shared → Prop} {xs ys : List Value} {ns ms : List Int} (i : Nat) (hx : IntsAre xs ns) (hy : IntsAre ys ms) (hf : fin = decide (xs.length < ys.length)) (h : Q (lexL ns ms) s) : PySem.W.KatLex prog w A b fin Q (xs.zip ys) i s := by
  induction hx generalizing ys ms i with
  | nil =>
    cases hy with
    | nil =>
      subst hf
      exact PySem.W.kat_nil h
    | cons n t r =>
      subst hf
      exact PySem.W.kat_nil (by simpa [lexL] using h)
  | @cons n t vs ns' r ih =>
    cases hy with
    | nil =>
      subst hf
      exact PySem.W.kat_nil (by simpa [lexL] using h)
    | @cons m t' us ms' r' =>
      rw [List.zip_cons_cons]
      refine PySem.W.kat_cons (SeqAt.EqAt.int_int n t m t' prog w _ _ ?_)
      refine PySem.W.kat_go (fun e1 => ?_) (fun e1 => ?_)
      · have ex : n = m := by simpa using e1
        refine PySem.W.kat_yes (ih (i + 1) r' (by simpa using hf) ?_)
        rw [lexL, if_pos ex] at h
        exact h
      · have ex : ¬ n = m := by simpa using e1
        rw [lexL, if_neg ex] at h
        exact PySem.W.kat_no (TS.oneLt_ints _ h)
theorem lexL_cmp {vs : List Value} {k : Value → List Int} (hp : ∀ v ∈ vs, ITup s.heap v (k v)) : SrtO.Cmp prog w A s (tuples' true) (fun p => p.1 ∈ vs) (lt2 fun v u => lexL (k v) (k u)) := by
  intro p q hm hm'
  have h1 := hp _ hm
  have h2 := hp _ hm'
  show wpAny (model prog w) A (keyLt' (tuples' true) p.1 q.1) (fun r s' => s' = s ∧ r = lexL (k p.1) (k q.1)) (fun _ _ => False) s
  generalize k p.1 = x at h1 ⊢
  generalize k q.1 = y at h2 ⊢
  obtain ⟨a, o, its, n, e, ho, hc, hd, hi⟩ := h1
  obtain ⟨a', o', its', n', e', ho', hc', hd', hi'⟩ := h2
  rw [e, e']
  exact PySem.W.kat_lt ho hd ho' hd' (lexL_kat 0 hi hi' (by simp) ⟨rfl, rfl⟩)
theorem lexL_firsts {h : Heap} {k : Value → List Int} : ∀ {vs : List Value}, (∀ v ∈ vs, ITup h v (k v) ∧ k v ≠ []) → ∃ fs : List Value, PySem.W.KatTups h vs fs ∧ fs.length = vs.length ∧ ∀ f ∈ fs, ∃ x t, f = Value.int x t
  | [], _ => ⟨[], PySem.W.KatTups.nil, rfl, fun _ hm => by simp at hm⟩
  | v :: vs, hp => by
    obtain ⟨fs, h1, h2, h3⟩ := lexL_firsts (vs := vs) fun v' hm => hp v' (List.mem_cons_of_mem _ hm)
    obtain ⟨⟨a, o, its, n, e, ho, hc, hd, hi⟩, ne⟩ := hp v List.mem_cons_self
    generalize k v = kv at hi ne
    have : ∃ f, its[0]? = some f ∧ ∃ x t, f = Value.int x t := by
      rw [← Array.getElem?_toList]
      generalize its.toList = il at hi
      cases hi with
      | nil => exact absurd rfl ne
      | cons m t r => exact ⟨_, by rfl, m, t, rfl⟩
    obtain ⟨f, hf, x, t, ef⟩ := this
    subst e
    refine ⟨f :: fs, PySem.W.KatTups.cons ho hc hd hf h1, by rw [List.length_cons, List.length_cons, h2], fun g hm => ?_⟩
    rcases List.mem_cons.mp hm with rfl | hm
    · exact ⟨x, t, ef⟩
    · exact h3 g hm
theorem lexL_sortable {a : Addr} {vs : List Value} {k : Value → List Int} (h0 : 0 < vs.length) (hp : ∀ v ∈ vs, ITup s.heap v (k v) ∧ k v ≠ []) (ha : ∀ o, s.heap.get? a = some o → o.cls ≠ .type "tuple") : SortableO prog w A s a vs fun v u => lexL (k v) (k u) := by
  intro h' keep
  have hp' : ∀ v ∈ vs, ITup h' v (k v) ∧ k v ≠ [] := fun v hm => ⟨(hp v hm).1.keeps fun b o e c => keep b o (fun z => by subst z; exact ha o e c) e, (hp v hm).2⟩
  obtain ⟨fs, h1, h2, h3⟩ := lexL_firsts hp'
  refine ⟨tuples' true, fun Q E hq => ?_, lexL_cmp fun v hm => (hp' v hm).1⟩
  refine PySem.W.kat_kind (T := .type "int") h1 (by omega) (fun f hm => ?_) (by rfl) ?_
  · obtain ⟨x, t, rfl⟩ := h3 f hm
    exact PySem.W.Looks.now
  · have e : (Value.type "int" != Value.type "tuple") = true := by first | decide +kernel | rfl | decide
    rw [e]
    exact hq
/-- sorted(l) of tuples of ints -/
theorem sorted_lexL {l : Addr} {vs : List Value} {k : Value → List Int} {Q : Value → Shared → Prop} (hl : s.heap.IsList l vs.toArray) (hz : vs.length ≤ sizeLine) (hp : 2 ≤ vs.length → ∀ v ∈ vs, ITup s.heap v (k v) ∧ k v ≠ [])
    (h : ∀ (h' : Heap) (d : Addr) (out : List Value), Srtd (fun v u => lexL (k v) (k u)) out → Stb (fun v u => lexL (k v) (k u)) out vs → (∀ b o, s.heap.get? b = some o → h'.get? b = some o) → s.heap.objs.size ≤ d → (∃ n, h'.get? d = some (seqObj "list" out.toArray n)) → Q (.ref d) { s with heap := h' }) :
    wpAny (model prog w) A (call (.builtin "sorted") [.ref l]) Q E s := by
  refine sorted_ord (lexL_swo k) hl hz (fun h2 h₁ a ha kk => ?_) fun out hs hb => ?_
  · refine lexL_sortable (s := { s with heap := h₁ }) (by omega) (fun v hm => ⟨(hp h2 v hm).1.keeps fun b o e _ => (kk b o e).2, (hp h2 v hm).2⟩) fun o e => ?_
    have e' : some o = some (seqObj "list" vs.toArray 0) := e.symm.trans ha
    cases e'
    intro c
    exact absurd (Value.type.inj c) (by decide)
  · exact h _ _ out hs hb (fun b o e => sortedAll_old e) (Nat.le_succ _) (sortedAll_at s.heap vs out.toArray)
end
open L2 in
def rSortedL (K : PySem.W.Frag) : List V → Hp → VK → Prop := fun vs H Q => ∃ (a : Addr) (xs : List V) (k : V → List Int), vs = [V.ref a] ∧ SqL K H a xs ∧ (∀ x ∈ xs, ∃ t, x = V.ref t ∧ SqT K H t ((k x).map V.int)) ∧ (2 ≤ xs.length → ∀ x ∈ xs, k x ≠ []) ∧
  ∀ ys p, SrtO.Srtd (fun x y => lexL (k x) (k y)) ys → ys.Perm xs → H p = none → Q (.ref p) (upd H p (.lst ys))
section
open L2
variable {X : Cx}
theorem cr_sortedL : CallR X (.builtin "sorted") (rSortedL X.K) := by
  intro pins s σ H vs us Q I r h
  obtain ⟨a, xs, k, rfl, hs, hx, hne, q⟩ := h
  obtain ⟨its, rv, hl, hz⟩ := I.list hs
  obtain ⟨u, rfl, ru⟩ := vals1 r
  obtain rfl : u = Value.ref a := ru
  obtain ⟨e1, e2⟩ := refs_back rv fun x m => by
    obtain ⟨t, e, _⟩ := hx x m
    exact ⟨t, e⟩
  refine sorted_lexL (k := fun u => k (backV u)) hl.isList (by rw [← rv.length]; exact hz) (fun h2 v hv => ?_) fun h' d out h1 h2 kp hd hn => ?_
  · obtain ⟨t, rfl⟩ := e2 v hv
    have hm : V.ref t ∈ xs := by rw [e1]; exact List.mem_map.mpr ⟨_, hv, rfl⟩
    obtain ⟨t', e, ht⟩ := hx _ hm
    cases e
    obtain ⟨its2, r2, pl, _⟩ := I.tuple ht
    obtain ⟨o, ho, hc, n, hd⟩ := (show s.heap.IsTuple t its2.toArray from pl)
    exact ⟨⟨t, o, its2.toArray, n, rfl, ho, hc, hd, (show IntsAre its2.toArray.toList (k (V.ref t)) from by simpa using r2.ints)⟩, hne (by rw [rv.length]; exact h2) _ hm⟩
  · have h3 : ∀ u ∈ out, ∃ a, u = Value.ref a := fun u hu => e2 u (h2.perm.mem_iff.mp hu)
    obtain ⟨n, hn⟩ := hn
    have hb : (out.map backV).Perm xs := by
      rw [e1]
      exact h2.perm.map backV
    refine ⟨.ref d, upd H d (.lst (out.map backV)), I.laid (t' := s.toks) kp hd ⟨?_, out, n, vals_back h3, hn⟩, rfl, q _ d (SrtO.srtd_map h1) hb (I.hok.fresh hd)⟩
    rw [hb.length_eq]
    exact hz
end
end Qm

/-! S4: built-in functions, methods, isinstance by values. -/
namespace Qm
open PySem PySem.Spec PyProof.Rows L2
/-- a call by values: its answer, a tree -/
def rC (C : XC) (f : List PV → MHp → Option PV) : List V → Hp → VK → Prop := fun vs H Q => ∃ M h xs z, HRel C.K M H h ∧ RVs C.K M H xs vs ∧ f xs h = some z ∧
  ∀ v H' M', Ext M H M' H' → HRel C.K M' H' h → RV C.K M' H' z v → Q v H'
/-- .. its answer a new list -/
def rN (C : XC) (f : List PV → MHp → Option (List PV)) : List V → Hp → VK → Prop := fun vs H Q => ∃ M h xs ys, HRel C.K M H h ∧ RVs C.K M H xs vs ∧ f xs h = some ys ∧
  ∀ p ws, H p = none → ws.length ≤ sizeLine → RVs C.K M H ys ws → Q (.ref p) (upd H p (.lst ws))
section
variable {C : XC} {M : List Addr} {H : Hp} {h : MHp}
theorem rvs1 {x : PV} {vs : List V} (r : RVs C.K M H [x] vs) : ∃ v, vs = [v] ∧ RV C.K M H x v := by
  rw [RVs] at r
  obtain ⟨v, r, rfl, h1, h2⟩ := r
  rw [RVs] at h2
  subst h2
  exact ⟨v, rfl, h1⟩
theorem rvs2 {x y : PV} {vs : List V} (r : RVs C.K M H [x, y] vs) : ∃ v w, vs = [v, w] ∧ RV C.K M H x v ∧ RV C.K M H y w := by
  rw [RVs] at r
  obtain ⟨v, r, rfl, h1, h2⟩ := r
  obtain ⟨w, rfl, h3⟩ := rvs1 h2
  exact ⟨v, w, rfl, h1, h3⟩
theorem intsOf_eq : ∀ {xs : List PV} {ns : List Int}, intsOf xs = some ns → xs = ns.map .int
  | [], ns, e => by simp [intsOf] at e; subst e; rfl
  | x :: xs, ns, e => by
    cases x with
    | int i =>
      simp only [intsOf, Option.map_eq_some_iff] at e
      obtain ⟨r, e, rfl⟩ := e
      rw [List.map_cons, intsOf_eq e]
    | _ => simp [intsOf] at e
theorem rvs_ints : ∀ {ns : List Int} {vs : List V}, RVs C.K M H (ns.map .int) vs → vs = ns.map V.int
  | [], vs, r => by rw [List.map_nil, RVs] at r; exact r
  | n :: ns, vs, r => by
    rw [List.map_cons, RVs] at r
    obtain ⟨v, r, rfl, h1, h2⟩ := r
    rw [rv_int h1, rvs_ints h2]
    rfl
theorem bools_eq : ∀ {xs : List PV} {ns : List Bool}, bools xs = some ns → xs = ns.map .bl
  | [], ns, e => by simp [bools] at e; subst e; rfl
  | x :: xs, ns, e => by
    cases x with
    | bl i =>
      simp only [bools, Option.map_eq_some_iff] at e
      obtain ⟨r, e, rfl⟩ := e
      rw [List.map_cons, bools_eq e]
    | _ => simp [bools] at e
theorem rvs_bools : ∀ {ns : List Bool} {vs : List V}, RVs C.K M H (ns.map .bl) vs → vs = ns.map V.bl
  | [], vs, r => by rw [List.map_nil, RVs] at r; exact r
  | n :: ns, vs, r => by
    rw [List.map_cons, RVs] at r
    obtain ⟨v, r, rfl, h1, h2⟩ := r
    rw [rv_bl h1, rvs_bools h2]
    rfl
theorem minI_mem : ∀ (r : List Int) (x : Int), minI x r ∈ x :: r ∧ ∀ y ∈ x :: r, minI x r ≤ y
  | [], x => by simp [minI]
  | z :: r, x => by
    rw [minI]
    have key : ∀ w, (w = x ∨ w = z) → w ≤ x → w ≤ z → minI w r ∈ x :: z :: r ∧ ∀ y ∈ x :: z :: r, minI w r ≤ y := fun w hw h1 h2 => by
      obtain ⟨m1, m2⟩ := minI_mem r w
      have hx := m2 w List.mem_cons_self
      refine ⟨?_, fun y hy => ?_⟩
      · rcases List.mem_cons.mp m1 with e | e
        · rw [e]; rcases hw with e | e <;> simp [e]
        · exact List.mem_cons_of_mem _ (List.mem_cons_of_mem _ e)
      · rcases List.mem_cons.mp hy with rfl | hy
        · omega
        · rcases List.mem_cons.mp hy with rfl | hy
          · omega
          · exact m2 y (List.mem_cons_of_mem _ hy)
    by_cases c : z < x
    · rw [if_pos c]; exact key z (.inr rfl) (by omega) (by omega)
    · rw [if_neg c]; exact key x (.inl rfl) (by omega) (by omega)
theorem maxI_mem : ∀ (r : List Int) (x : Int), maxI x r ∈ x :: r ∧ ∀ y ∈ x :: r, y ≤ maxI x r
  | [], x => by simp [maxI]
  | z :: r, x => by
    rw [maxI]
    have key : ∀ w, (w = x ∨ w = z) → x ≤ w → z ≤ w → maxI w r ∈ x :: z :: r ∧ ∀ y ∈ x :: z :: r, y ≤ maxI w r := fun w hw h1 h2 => by
      obtain ⟨m1, m2⟩ := maxI_mem r w
      have hx := m2 w List.mem_cons_self
      refine ⟨?_, fun y hy => ?_⟩
      · rcases List.mem_cons.mp m1 with e | e
        · rw [e]; rcases hw with e | e <;> simp [e]
        · exact List.mem_cons_of_mem _ (List.mem_cons_of_mem _ e)
      · rcases List.mem_cons.mp hy with rfl | hy
        · omega
        · rcases List.mem_cons.mp hy with rfl | hy
          · omega
          · exact m2 y (List.mem_cons_of_mem _ hy)
    by_cases c : x < z
    · rw [if_pos c]; exact key z (.inr rfl) (by omega) (by omega)
    · rw [if_neg c]; exact key x (.inl rfl) (by omega) (by omega)
theorem insI_perm (x : Int) : ∀ l : List Int, (insI x l).Perm (x :: l)
  | [] => .refl _
  | y :: r => by
    rw [insI]
    split
    · exact .refl _
    · exact ((insI_perm x r).cons y).trans (List.Perm.swap x y r)
theorem sortI_perm : ∀ l : List Int, (sortI l).Perm l
  | [] => .refl _
  | x :: r => by rw [sortI]; exact (insI_perm x _).trans ((sortI_perm r).cons x)
theorem insI_up (x : Int) : ∀ l : List Int, l.Pairwise (· ≤ ·) → (insI x l).Pairwise (· ≤ ·)
  | [], _ => by simp [insI]
  | y :: r, h => by
    rw [insI]
    have h' := List.pairwise_cons.mp h
    split
    · rename_i c
      refine List.pairwise_cons.mpr ⟨fun z hz => ?_, h⟩
      rcases List.mem_cons.mp hz with rfl | hz
      · exact c
      · exact Int.le_trans c (h'.1 z hz)
    · rename_i c
      refine List.pairwise_cons.mpr ⟨fun z hz => ?_, insI_up x r h'.2⟩
      rcases List.mem_cons.mp ((insI_perm x r).mem_iff.mp hz) with rfl | hz
      · omega
      · exact h'.1 z hz
theorem sortI_up : ∀ l : List Int, (sortI l).Pairwise (· ≤ ·)
  | [] => by simp [sortI]
  | x :: r => by rw [sortI]; exact insI_up x _ (sortI_up r)
theorem sort_uniq : ∀ {l m : List Int}, l.Perm m → l.Pairwise (· ≤ ·) → m.Pairwise (· ≤ ·) → l = m
  | [], m, p, _, _ => by have := p.length_eq; simp at this; exact (List.eq_nil_of_length_eq_zero this.symm).symm
  | x :: l, [], p, _, _ => by have := p.length_eq; simp at this
  | x :: l, y :: m, p, h1, h2 => by
    have a1 := List.pairwise_cons.mp h1
    have a2 := List.pairwise_cons.mp h2
    have e : x = y := by
      have hx : x ∈ y :: m := p.mem_iff.mp List.mem_cons_self
      have hy : y ∈ x :: l := p.mem_iff.mpr List.mem_cons_self
      rcases List.mem_cons.mp hx with e | hx
      · exact e
      · rcases List.mem_cons.mp hy with e | hy
        · exact e.symm
        · exact Int.le_antisymm (a1.1 y hy) (a2.1 x hx)
    subst e
    rw [sort_uniq (List.Perm.cons_inv p) a1.2 a2.2]
end
def biN : Bi → Str
  | .len => "len" | .abs => "abs" | .int => "int" | .sum => "sum" | .min1 => "min" | .max1 => "max" | .min2 => "min" | .max2 => "max" | .all => "all" | .any => "any" | .tuple => "tuple" | .str => "str"
def biV : Bi → Value
  | .len => .builtin "len" | .abs => .builtin "abs" | .int => .type "int" | .sum => .builtin "sum" | .min1 => .builtin "min" | .max1 => .builtin "max" | .min2 => .builtin "min" | .max2 => .builtin "max"
  | .all => .builtin "all" | .any => .builtin "any" | .tuple => .type "tuple" | .str => .type "str"
def blN : Bl → Str
  | .list => "list" | .sorted => "sorted"
def blV : Bl → Value
  | .list => .type "list" | .sorted => .builtin "sorted"
section
variable {X : Cx} {C : XC}
theorem sum_tup {prog : Program} {w : World} {A : Around} {E : Value → Shared → Prop} {s : Shared} {t : Addr} {its : List Value} {ns : List Int} {Q : Value → Shared → Prop} (hh : A.handled = none) (hl : s.heap.IsTuple t its.toArray) (hi : IntsAre its ns)
    (h : ∀ h' tk t', (∀ b o, s.heap.get? b = some o → h'.get? b = some o) → Q (.int ns.sum t') { s with heap := h', toks := tk }) : wpAny (model prog w) A (call (.builtin "sum") [.ref t]) Q E s := by
  obtain ⟨xs, e⟩ := hi.allInts.items
  have hn : numsOf (intItems xs).toList = ns := by rw [← e]; exact hi.numsOf
  rw [nums_intItems] at hn
  rw [e] at hl
  refine PySem.W.ktm_sumG hh hl fun h' tk t' hk => ?_
  have := h h' tk t' hk
  rw [preSum_eq, List.take_of_length_le (by simp), hn]; exact this
theorem pick_ok {M : List Addr} {H : Hp} {hp h' : Heap} {ys : List PV} {ws : List V} {its : List Value} {as bs : List Addr} {m : PV} {i : Nat} {v : Value} (O : OkO ys) (rv : Vals ws its) (rws : RVs C.K M H ys ws) (rd : ReadsAll hp its (dats ys) as) (hm : m ∈ ys)
    (hv : its[i]? = some v) (r2 : Reads h' v (dat m) bs) (hk : ∀ b o, hp.get? b = some o → h'.get? b = some o) : ∃ w, RelV w v ∧ RV C.K M H m w := by
  have hi : i < its.length := (List.getElem?_eq_some_iff.mp hv).1
  have hl := rv.length
  have hl2 := rws.len
  have hw : ws[i]? = some (ws[i]'(by omega)) := List.getElem?_eq_getElem (by omega)
  obtain ⟨u, hu, ru⟩ := rv.get hw
  rw [hv] at hu
  cases hu
  refine ⟨_, ru, ?_⟩
  have hy : ys[i]? = some (ys[i]'(by omega)) := List.getElem?_eq_getElem (by omega)
  obtain ⟨w', hw', rw'⟩ := rws.get hy
  rw [hw] at hw'
  cases hw'
  obtain ⟨bs', r1, _⟩ := PySem.W.readsAll_at rd i v hv
  have hd : (dats ys).getD i .none = dat (ys[i]'(by omega)) := by
    rw [dats_map, List.getD_eq_getElem?_getD, List.getElem?_map, hy]; rfl
  rw [hd] at r1
  have r1' := PySem.W.reads_keeps hk r1
  obtain ⟨_, d1, _⟩ := O.fl _ (List.getElem_mem (by omega : i < ys.length))
  obtain ⟨_, d2, _⟩ := O.fl m hm
  have al : PySem.W.alike (dat (ys[i]'(by omega))) (dat m) = true := by rw [alike_dat d1 d2]; exact O.al _ (List.getElem_mem _) m hm
  have e := dat_inj d1 d2 (PySem.W.alike_unique _ _ v _ _ al r1' r2)
  rw [← e]
  exact rw'
open PySem.W in
theorem call_bif (hK : X.K = C.K.f) (hc : X.calm = true) (hu : X.A.units + 70 < cLine) {b : Bi} : CallR X (biV b) (rC C (biS b)) := by
  intro pins s σ H vs us Q I rs q
  obtain ⟨M, h, xs, z, hr, rv, e, k⟩ := q
  have k' : ∀ {w : V}, RV C.K M H z w → Q w H := fun {w} r => k w H M Ext.refl hr r
  match xs, rv, e with
  | [x], rv, e =>
    obtain ⟨v, rfl, r⟩ := rvs1 rv
    replace e : bi1 b x h = some z := e
    cases b with
    | len =>
      have hl : ∃ n, LenV X.K v H n ∧ z = .int n := by
        have rest : lenR x h = some z → ∃ n, LenV X.K v H n ∧ z = .int n := fun e => by
          unfold lenR at e
          split at e
          · rename_i ys ey
            cases e
            obtain ⟨a, ws, rfl, zz, alt, rws⟩ := itemsT_ok hr r ey
            refine ⟨ws.length, ?_, by rw [rws.len]⟩
            rcases alt with ⟨_, ht⟩ | ⟨_, hl⟩
            · exact .inr ⟨ws, by rw [hK]; exact ht, rfl⟩
            · exact .inl ⟨ws, SqL.of hl, rfl⟩
          · cases e
        cases x with
        | str s' =>
          cases e
          obtain ⟨rfl, zz⟩ := rv_str r
          exact ⟨s'.length, ⟨zz, rfl⟩, rfl⟩
        | _ => exact rest e
      obtain ⟨n, hl, rfl⟩ := hl
      exact call_len pins s σ H _ us Q I rs ⟨v, n, rfl, hl, k' rv_i⟩
    | abs =>
      replace e : absP x = some z := e
      unfold absP at e
      split at e
      · rename_i i
        cases e
        have := rv_int r; subst this
        exact call_abs pins s σ H _ us Q I rs ⟨i, rfl, k' rv_i⟩
      · cases e
    | int =>
      replace e : intP x = some z := e
      unfold intP at e
      split at e
      · rename_i i
        cases e
        have := rv_int r; subst this
        exact call_int1 pins s σ H _ us Q I rs (.inl ⟨i, rfl, k' rv_i⟩)
      · rename_i i
        cases e
        have := rv_bl r; subst this
        exact call_int1 pins s σ H _ us Q I rs (.inr ⟨i, rfl, k' rv_i⟩)
      · cases e
    | sum =>
      obtain ⟨ys, ey, e⟩ := Option.bind_eq_some_iff.mp (show (itemsT x h).bind sumP = some z from e)
      obtain ⟨ns, en, rfl⟩ := Option.map_eq_some_iff.mp (show (intsOf ys).map (fun ns => PV.int ns.sum) = some z from e)
      obtain ⟨a, ws, rfl, zz, alt, rws⟩ := itemsT_ok hr r ey
      rw [intsOf_eq en] at rws
      have := rvs_ints rws; subst this
      rcases alt with ⟨_, ht⟩ | ⟨_, hl⟩
      · obtain ⟨its, rv, p, _⟩ := I.tuple (by rw [hK]; exact ht)
        rw [Vals.ref1 rs]
        exact sum_tup (I.ok.hd hc) p rv.ints fun h' tk t' hk => ⟨.int _, H, I.kept hk, ⟨_, rfl⟩, k' rv_i⟩
      · exact cr_sum hc pins s σ H _ us Q I rs ⟨a, ns, rfl, SqL.of hl, k' rv_i⟩
    | min1 =>
      obtain ⟨ys, ey, e⟩ := Option.bind_eq_some_iff.mp (show (itemsT x h).bind minP = some z from e)
      obtain ⟨a, ws, rfl, zz, alt, rws⟩ := itemsT_ok hr r ey
      cases ys with
      | nil => cases e
      | cons y r' =>
        replace e : (if okOrd (y :: r') = true then some (minV y r') else none) = some z := e
        by_cases ok : okOrd (y :: r') = true
        · rw [if_pos ok] at e
          cases e
          have O := okO ok
          rw [Vals.ref1 rs]
          obtain ⟨dz, n, en⟩ := OkO.depth O.fl
          rcases alt with ⟨_, ht⟩ | ⟨_, hl⟩
          · obtain ⟨its, rv, p, _⟩ := I.tuple (by rw [hK]; exact ht)
            obtain ⟨as, h4⟩ := Dp.readsAll I (dats (y :: r')) _ its (by rw [hK]; exact dats_rv en rws) rv
            refine min_tuple_data (I.ok.hd hc) (show s.heap.IsTuple a its.toArray from p) h4 O.alike (by rw [show dat y :: dats r' = dats (y :: r') from by simp only [dats]]; omega) fun i v h' tk bs hv rd hk => ?_
            rw [minD_dat r' y O] at rd
            obtain ⟨w, rw1, rw2⟩ := pick_ok (C := C) O rv rws h4 (minV_mem y r') (by simpa using hv) rd hk
            exact ⟨w, H, I.kept hk, rw1, k' rw2⟩
          · obtain ⟨its, rv, p, _⟩ := I.list (SqL.of hl)
            obtain ⟨as, h4⟩ := Dp.readsAll I (dats (y :: r')) _ its (by rw [hK]; exact dats_rv en rws) rv
            refine min_list_data (I.ok.hd hc) p.isList h4 O.alike (by rw [show dat y :: dats r' = dats (y :: r') from by simp only [dats]]; omega) fun i v h' tk bs hv rd hk => ?_
            rw [minD_dat r' y O] at rd
            obtain ⟨w, rw1, rw2⟩ := pick_ok (C := C) O rv rws h4 (minV_mem y r') (by simpa using hv) rd hk
            exact ⟨w, H, I.kept hk, rw1, k' rw2⟩
        · rw [if_neg ok] at e; cases e
    | max1 =>
      obtain ⟨ys, ey, e⟩ := Option.bind_eq_some_iff.mp (show (itemsT x h).bind maxP = some z from e)
      obtain ⟨a, ws, rfl, zz, alt, rws⟩ := itemsT_ok hr r ey
      cases ys with
      | nil => cases e
      | cons y r' =>
        replace e : (if okOrd (y :: r') = true then some (maxV y r') else none) = some z := e
        by_cases ok : okOrd (y :: r') = true
        · rw [if_pos ok] at e
          cases e
          have O := okO ok
          rw [Vals.ref1 rs]
          obtain ⟨dz, n, en⟩ := OkO.depth O.fl
          rcases alt with ⟨_, ht⟩ | ⟨_, hl⟩
          · obtain ⟨its, rv, p, _⟩ := I.tuple (by rw [hK]; exact ht)
            obtain ⟨as, h4⟩ := Dp.readsAll I (dats (y :: r')) _ its (by rw [hK]; exact dats_rv en rws) rv
            refine max_tuple_data (I.ok.hd hc) (show s.heap.IsTuple a its.toArray from p) h4 O.alike (by rw [show dat y :: dats r' = dats (y :: r') from by simp only [dats]]; omega) fun i v h' tk bs hv rd hk => ?_
            rw [maxD_dat r' y O] at rd
            obtain ⟨w, rw1, rw2⟩ := pick_ok (C := C) O rv rws h4 (maxV_mem y r') (by simpa using hv) rd hk
            exact ⟨w, H, I.kept hk, rw1, k' rw2⟩
          · obtain ⟨its, rv, p, _⟩ := I.list (SqL.of hl)
            obtain ⟨as, h4⟩ := Dp.readsAll I (dats (y :: r')) _ its (by rw [hK]; exact dats_rv en rws) rv
            refine max_list_data (I.ok.hd hc) p.isList h4 O.alike (by rw [show dat y :: dats r' = dats (y :: r') from by simp only [dats]]; omega) fun i v h' tk bs hv rd hk => ?_
            rw [maxD_dat r' y O] at rd
            obtain ⟨w, rw1, rw2⟩ := pick_ok (C := C) O rv rws h4 (maxV_mem y r') (by simpa using hv) rd hk
            exact ⟨w, H, I.kept hk, rw1, k' rw2⟩
        · rw [if_neg ok] at e; cases e
    | all =>
      obtain ⟨ys, ey, e⟩ := Option.bind_eq_some_iff.mp (show (itemsL x h).bind (fun xs => (bools xs).map fun bs => PV.bl (bs.all id)) = some z from e)
      obtain ⟨ns, en, rfl⟩ := Option.map_eq_some_iff.mp e
      obtain ⟨a, ws, rfl, zz, hl, rws⟩ := itemsL_ok hr r ey
      rw [bools_eq en] at rws
      have := rvs_bools rws; subst this
      exact cr_all hc pins s σ H _ us Q I rs ⟨a, ns, rfl, SqL.of hl, k' rv_b⟩
    | any =>
      obtain ⟨ys, ey, e⟩ := Option.bind_eq_some_iff.mp (show (itemsL x h).bind (fun xs => (bools xs).map fun bs => PV.bl (bs.any id)) = some z from e)
      obtain ⟨ns, en, rfl⟩ := Option.map_eq_some_iff.mp e
      obtain ⟨a, ws, rfl, zz, hl, rws⟩ := itemsL_ok hr r ey
      rw [bools_eq en] at rws
      have := rvs_bools rws; subst this
      exact cr_any hc pins s σ H _ us Q I rs ⟨a, ns, rfl, SqL.of hl, k' rv_b⟩
    | tuple =>
      obtain ⟨ys, ey, rfl⟩ := Option.map_eq_some_iff.mp (show (itemsT x h).map PV.tup = some z from e)
      obtain ⟨a, ws, rfl, zz, alt, rws⟩ := itemsT_ok hr r ey
      rcases alt with ⟨⟨ys', rfl⟩, ht⟩ | ⟨_, hl⟩
      · cases ey
        exact call_tuple_of pins s σ H _ us Q I rs ⟨a, ws, rfl, .inr ⟨by rw [hK]; exact ht, k' r⟩⟩
      · exact call_tuple_of pins s σ H _ us Q I rs ⟨a, ws, rfl, .inl ⟨SqL.of hl, end_newT hr zz rws k⟩⟩
    | str => cases e
    | min2 => cases e
    | max2 => cases e
  | [x, y], rv, e =>
    obtain ⟨v, w, rfl, r, r'⟩ := rvs2 rv
    replace e : bi2 b x y = some z := e
    unfold bi2 at e
    split at e
    · rename_i i j _
      cases e
      have := rv_int r; subst this
      have := rv_int r'; subst this
      exact call_min2 hc pins s σ H _ us Q I rs ⟨i, j, rfl, k' rv_i⟩
    · rename_i i j _
      cases e
      have := rv_int r; subst this
      have := rv_int r'; subst this
      exact call_max2 hc pins s σ H _ us Q I rs ⟨i, j, rfl, k' rv_i⟩
    · cases e
  | [], rv, e => cases e
  | _ :: _ :: _ :: _, rv, e => cases e
end
theorem intsL_eq : ∀ {xs : List PV} {ls : List (List Int)}, intsL xs = some ls → xs = ls.map fun ns => .tup (ns.map .int)
  | [], ls, e => by simp [intsL] at e; subst e; rfl
  | x :: xs, ls, e => by
    cases x with
    | tup ys =>
      rw [intsL] at e
      split at e
      · rename_i a b ea eb
        cases e
        rw [List.map_cons, ← intsL_eq eb, ← intsOf_eq ea]
      · cases e
    | _ => simp [intsL] at e
theorem insL_perm (x : List Int) : ∀ l, (insL x l).Perm (x :: l)
  | [] => .refl _
  | y :: r => by
    rw [insL]
    split
    · exact ((insL_perm x r).cons y).trans (List.Perm.swap x y r)
    · exact .refl _
theorem sortL_perm : ∀ l, (sortL l).Perm l
  | [] => .refl _
  | x :: r => by rw [sortL]; exact (insL_perm x _).trans ((sortL_perm r).cons x)
theorem lexL_trans {x y z : List Int} (h1 : lexL y x = false) (h2 : lexL z y = false) : lexL z x = false := lexL_tr x y z h1 h2
theorem insL_up (x : List Int) : ∀ l : List (List Int), l.Pairwise (fun a b => lexL b a = false) → (insL x l).Pairwise (fun a b => lexL b a = false)
  | [], _ => by simp [insL]
  | y :: r, h => by
    rw [insL]
    have h' := List.pairwise_cons.mp h
    split
    · rename_i c
      refine List.pairwise_cons.mpr ⟨fun z hz => ?_, insL_up x r h'.2⟩
      rcases List.mem_cons.mp ((insL_perm x r).mem_iff.mp hz) with e | hz
      · rw [e]; exact lexL_asym _ _ c
      · exact h'.1 z hz
    · rename_i c
      have c : lexL y x = false := by simpa using c
      refine List.pairwise_cons.mpr ⟨fun z hz => ?_, h⟩
      rcases List.mem_cons.mp hz with e | hz
      · rw [e]; exact c
      · exact lexL_trans c (h'.1 z hz)
theorem sortL_up : ∀ l, (sortL l).Pairwise (fun a b => lexL b a = false)
  | [] => .nil
  | x :: r => by rw [sortL]; exact insL_up x _ (sortL_up r)
theorem sortL_uniq : ∀ {l m : List (List Int)}, l.Perm m → l.Pairwise (fun a b => lexL b a = false) → m.Pairwise (fun a b => lexL b a = false) → l = m
  | [], m, p, _, _ => by rw [List.nil_perm.mp p]
  | x :: l, [], p, _, _ => absurd p.symm (by simp)
  | x :: l, y :: m, p, h1, h2 => by
    have a1 := List.pairwise_cons.mp h1
    have a2 := List.pairwise_cons.mp h2
    have e : x = y := by
      have hx : x ∈ y :: m := p.mem_iff.mp List.mem_cons_self
      have hy : y ∈ x :: l := p.mem_iff.mpr List.mem_cons_self
      rcases List.mem_cons.mp hx with e | hx
      · exact e
      · rcases List.mem_cons.mp hy with e | hy
        · exact e.symm
        · exact lexL_tot _ _ (a2.1 x hx) (a1.1 y hy)
    subst e
    rw [sortL_uniq (List.Perm.cons_inv p) a1.2 a2.2]
section
variable {C : XC} {M : List Addr} {H : Hp}
theorem tup_ints {ns : List Int} {v : V} (r : RV C.K M H (.tup (ns.map .int)) v) : ∃ t, v = .ref t ∧ SqT C.K.f H t (ns.map V.int) ∧ (ns ≠ [] ∨ True) ∧ (∀ ms, RV C.K M H (.tup (ms.map .int)) v → ms = ns) := by
  have get : ∀ {ms : List Int}, RV C.K M H (.tup (ms.map .int)) v → ∃ t, v = .ref t ∧ SqT C.K.f H t (ms.map V.int) ∧ H t = some (.tup (ms.map V.int)) := fun {ms} r => by
    obtain ⟨t, vs, rfl, ta, rs⟩ := rv_tup r
    have := rvs_ints rs
    subst this
    refine ⟨t, rfl, ta.seq, ?_⟩
    rcases ta with ⟨_, _, e⟩ | ⟨_, _, _, _, _, _, _, _, s, e⟩
    · exact e
    · exfalso
      cases ms with
      | nil => simp at e
      | cons m r => simp at e
  obtain ⟨t, rfl, sq, e⟩ := get r
  refine ⟨t, rfl, sq, .inr trivial, fun ms rm => ?_⟩
  obtain ⟨t', et, _, e'⟩ := get rm
  cases et
  rw [e] at e'
  have := HO.tup.inj (Option.some.inj e')
  have inj : ∀ {a b : List Int}, a.map V.int = b.map V.int → b = a := by
    intro a
    induction a with
    | nil => intro b e; cases b with | nil => rfl | cons _ _ => cases e
    | cons x xs ih => 
      intro b e
      cases b with
      | nil => cases e
      | cons y ys =>
        rw [List.map_cons, List.map_cons] at e
        injection e with e1 e2
        rw [ih e2]
        injection e1 with e1
        rw [e1]
  exact inj this
end
section
variable {X : Cx} {C : XC}
theorem call_bil (hK : X.K = C.K.f) {b : Bl} : CallR X (blV b) (rN C (blS b)) := by
  intro pins s σ H vs us Q I rs q
  obtain ⟨M, h, xs, ys, hr, rv, e, k⟩ := q
  match xs, rv, e with
  | [x], rv, e =>
    obtain ⟨v, rfl, r⟩ := rvs1 rv
    replace e : bl1 b x h = some ys := e
    cases b with
    | list =>
      have fromT : itemsT x h = some ys → wpAny (model X.prog X.w) X.A (call (.type "list") us) (EP X pins σ Q) X.xe s := fun e => by
        obtain ⟨a, ws, rfl, zz, alt, rws⟩ := itemsT_ok hr r e
        refine call_list_of pins s σ H _ us Q I rs ⟨a, ws, rfl, ?_, fun l hl => k l ws hl zz rws⟩
        rcases alt with ⟨_, ht⟩ | ⟨_, hl⟩
        · exact .inr (by rw [hK]; exact ht)
        · exact .inl (SqL.of hl)
      cases x with
      | scr ns =>
        cases e
        rw [RV] at r
        obtain ⟨a, rfl, zz, alt⟩ := r
        have hz : (ns.map V.int).length ≤ sizeLine := by rw [List.length_map, sizeLine_eq]; omega
        refine call_list_of pins s σ H _ us Q I rs ⟨a, ns.map V.int, rfl, .inl ?_, fun l hl => k l _ hl hz RVs.ints⟩
        rcases alt with ⟨_, ho⟩ | ⟨o, its, n, h1, h2, h3, h4, h5, h6⟩
        · exact .inl ho
        · exact .inr ⟨o, its, n, by rw [hK]; exact h1, h2, h3, h4, h5, h6⟩
      | _ => exact fromT e
    | sorted =>
      obtain ⟨ws, ew, e⟩ := Option.bind_eq_some_iff.mp (show (itemsL x h).bind sortedP = some ys from e)
      obtain ⟨a, vs, rfl, zz, hl, rws⟩ := itemsL_ok hr r ew
      unfold sortedP at e
      split at e
      · rename_i ns en
        cases e
        rw [intsOf_eq en] at rws
        have := rvs_ints rws; subst this
        refine cr_sortedI pins s σ H _ us Q I rs ⟨a, ns, rfl, SqL.of hl, fun ns' p hp hup hn => ?_⟩
        have : ns' = sortI ns := sort_uniq (hp.trans (sortI_perm ns).symm) hup (sortI_up ns)
        subst this
        refine k p _ hn ?_ RVs.ints
        rw [List.length_map] at zz ⊢
        rw [(sortI_perm ns).length_eq]
        exact zz
      · split at e
        · rename_i ls en
          split at e
          · rename_i cnd
            cases e
            rw [intsL_eq en] at rws
            let kf : V → List Int := fun v => open Classical in if q : ∃ ns : List Int, RV C.K M H (.tup (ns.map .int)) v then q.choose else []
            have kfs : ∀ {v : V} {ns : List Int}, RV C.K M H (.tup (ns.map .int)) v → kf v = ns := fun {v ns} r => by
              have q : ∃ ns : List Int, RV C.K M H (.tup (ns.map .int)) v := ⟨ns, r⟩
              have e1 : kf v = q.choose := dif_pos q
              obtain ⟨_, _, _, _, u⟩ := tup_ints r
              rw [e1]
              exact u _ q.choose_spec
            have all : ∀ {ls : List (List Int)} {vs : List V}, RVs C.K M H (ls.map fun ns => .tup (ns.map .int)) vs → vs.map kf = ls ∧ ∀ v ∈ vs, RV C.K M H (.tup ((kf v).map .int)) v := by
              intro ls
              induction ls with
              | nil => intro vs r; rw [List.map_nil, RVs] at r; subst r; exact ⟨rfl, fun v hv => by cases hv⟩
              | cons l ls ih =>
                intro vs r
                rw [List.map_cons, RVs] at r
                obtain ⟨v, r', rfl, h1, h2⟩ := r
                obtain ⟨i1, i2⟩ := ih h2
                have e1 := kfs h1
                refine ⟨by rw [List.map_cons, e1, i1], fun u hu => ?_⟩
                rcases List.mem_cons.mp hu with rfl | hu
                · rw [e1]; exact h1
                · exact i2 u hu
            obtain ⟨a1, a2⟩ := all rws
            refine cr_sortedL pins s σ H _ us Q I rs ⟨a, vs, kf, rfl, SqL.of hl, fun v hv => ?_, fun h2 v hv => ?_, fun zs p hup hpm hn => ?_⟩
            · obtain ⟨t, et, sq, _⟩ := tup_ints (a2 v hv)
              exact ⟨t, et, by rw [hK]; exact sq⟩
            · rw [Bool.or_eq_true] at cnd
              have hl2 : ls.length = vs.length := by rw [← a1, List.length_map]
              rcases cnd with c | c
              · have := of_decide_eq_true c; omega
              · have := List.all_eq_true.mp c (kf v) (by rw [← a1]; exact List.mem_map.mpr ⟨v, hv, rfl⟩)
                intro z
                rw [z] at this
                cases this
            · have e1 : zs.map kf = sortL ls := by
                refine sortL_uniq ?_ ?_ (sortL_up ls)
                · refine ((hpm.map kf).trans ?_).trans (sortL_perm ls).symm
                  rw [a1]
                · exact List.pairwise_map.mpr hup
              refine k p zs hn (by rw [hpm.length_eq]; exact zz) ?_
              rw [← e1, List.map_map]
              have fin : ∀ {zs : List V}, (∀ v ∈ zs, RV C.K M H (.tup ((kf v).map .int)) v) → RVs C.K M H (zs.map ((fun ns => PV.tup (ns.map .int)) ∘ kf)) zs := by
                intro zs
                induction zs with
                | nil => intro _; exact .nil
                | cons z zs ih => intro h; exact .cons (h z List.mem_cons_self) (ih fun v hv => h v (List.mem_cons_of_mem _ hv))
              exact fin fun v hv => a2 v (hpm.mem_iff.mp hv)
          · cases e
        · cases e
  | [], rv, e => cases e
  | [_, _], rv, e => cases e
  | _ :: _ :: _ :: _, rv, e => cases e
/-- the end: a new list, in the small heap or a tree -/
theorem end_newM {E : XK} {Q : VK} {M : List Addr} {H : Hp} {h : MHp} {m : Bool} {xs : List PV} {vs : List V} (hr : HRel C.K M H h) (z : vs.length ≤ sizeLine) (r : RVs C.K M H xs vs) (o : Out C E Q M H (newL m xs h)) :
    ∀ p, H p = none → Q (.ref p) (upd H p (.lst vs)) := by
  cases m with
  | false => exact end_newL hr z r o
  | true =>
    intro p hp
    refine o _ _ (M ++ [p]) (Ext.push hp) (hr.push hp ⟨vs, rfl, z, r⟩) ?_
    rw [RV]
    exact ⟨p, rfl, by rw [← hr.len, List.getElem?_append_right (Nat.le_refl _)]; simp⟩
/-! ### isinstance -/
def tyN : Ty → String
  | .int => "int" | .bool => "bool" | .str => "str" | .tuple => "tuple" | .list => "list"
def tyS (t : Ty) : Str := Str.ofString (tyN t)
theorem call_isiR (hK : X.K = C.K.f) {t : Ty} : CallR X (.builtin "isinstance") (fun vs H Q => ∃ M h x v b, HRel C.K M H h ∧ RV C.K M H x v ∧ vs = [v, .ty (tyN t)] ∧ isTy t x h = some b ∧ Q (.bl b) H) := by
  intro pins s σ H vs us Q I rs q
  obtain ⟨M, h, x, v, b, hr, r, rfl, e, q⟩ := q
  have go : ∀ (n : String), TyX X.K H v (.type n) → kitB n (tyN t) = some b → wpAny (model X.prog X.w) X.A (call (.builtin "isinstance") us) (EP X pins σ Q) X.xe s := fun n tx kb =>
    call_isi pins s σ H _ us Q I rs ⟨v, .ty (tyN t), .type n, .type (tyN t), b, rfl, .ty _, tx, kit_ty kb, q⟩
  cases x with
  | non => cases e; rw [rv_non r] at go; exact go "NoneType" (.base .non) (by cases t <;> decide +kernel)
  | bl k => cases e; rw [rv_bl r] at go; exact go "bool" (.base (.bl _)) (by cases t <;> decide +kernel)
  | int k => cases e; rw [rv_int r] at go; exact go "int" (.base (.int _)) (by cases t <;> decide +kernel)
  | str k => cases e; rw [(rv_str r).1] at go; exact go "str" (.base (.str _)) (by cases t <;> decide +kernel)
  | tup xs =>
    cases e
    obtain ⟨a, ws, rfl, ta, rws⟩ := rv_tup r
    rcases ta with ⟨_, _, ha⟩ | ⟨o, its, n, h1, h2, h3, _⟩
    · exact go "tuple" (.base (.tup ha)) (by cases t <;> decide +kernel)
    · exact go "tuple" (.kTuple (by rw [hK]; exact h1) h2) (by cases t <;> decide +kernel)
  | lst xs =>
    cases e
    rw [RV] at r
    obtain ⟨a, ws, rfl, _, _, ha, _⟩ := r
    exact go "list" (.base (.lst ha)) (by cases t <;> decide +kernel)
  | dic t' ks ws =>
    cases e
    rw [RV] at r
    obtain ⟨a, us', u, rfl, _, ha, d, _⟩ := r
    cases t' with
    | false =>
      obtain ⟨kvs, rfl, _, _⟩ := (show ∃ kvs : List (Key × V), u = .dK kvs ∧ ks = kvs.map (fun p => keyP p.1) ∧ us' = kvs.map (·.2) from d)
      exact go "dict" (.base (.dK ha)) (by cases t <;> decide +kernel)
    | true =>
      obtain ⟨kvs, rfl, _, _⟩ := (show ∃ kvs : List (List Key × V), u = .dT kvs ∧ ks = kvs.map (fun p => .tup (p.1.map keyP)) ∧ us' = kvs.map (·.2) from d)
      exact go "dict" (.base (.dT ha)) (by cases t <;> decide +kernel)
  | ref n =>
    rw [RV] at r
    obtain ⟨a, rfl, em⟩ := r
    simp only [isTy] at e
    split at e
    · rename_i xs eh
      cases e
      obtain ⟨ws, ha, _⟩ := hr.at_ n a _ em eh
      exact go "list" (.base (.lst ha)) (by cases t <;> decide +kernel)
    · rename_i t' ks ws eh
      cases e
      obtain ⟨us', u, ha, d, _⟩ := hr.at_ n a _ em eh
      cases t' with
      | false =>
        obtain ⟨kvs, rfl, _, _⟩ := (show ∃ kvs : List (Key × V), u = .dK kvs ∧ ks = kvs.map (fun p => keyP p.1) ∧ us' = kvs.map (·.2) from d)
        exact go "dict" (.base (.dK ha)) (by cases t <;> decide +kernel)
      | true =>
        obtain ⟨kvs, rfl, _, _⟩ := (show ∃ kvs : List (List Key × V), u = .dT kvs ∧ ks = kvs.map (fun p => .tup (p.1.map keyP)) ∧ us' = kvs.map (·.2) from d)
        exact go "dict" (.base (.dT ha)) (by cases t <;> decide +kernel)
    · cases e
  | scr _ => cases e
end
end Qm

/-! S5: the syntax: a Qm term read against the program's own term; what a context must tell. -/
namespace Qm
open PySem PySem.Spec PyProof.Rows L2

def dE : Expr := .Constant .none 0 ⟨0, 0, 0, 0⟩
def nm : Expr → Str
  | .Name x _ => x
  | .Attribute _ x _ => x
  | _ => ⟨#[]⟩
def kn : Expr → Nat
  | .Constant _ k _ => k
  | .Tuple _ k _ => k
  | _ => 0
def kids : Expr → List Expr
  | .BinOp a _ b _ => [a, b]
  | .UnaryOp _ a _ => [a]
  | .Compare a _ bs _ => a :: bs
  | .BoolOp _ vs _ => vs
  | .IfExp a b c _ => [a, b, c]
  | .Subscript a b _ => [a, b]
  | .Tuple es _ _ => es
  | .List es _ => es
  | .Call _ es _ _ => es
  | .Attribute a _ _ => [a]
  | .ListComp e _ _ _ => [e]
  | .Slice a b c _ => [a.getD dE, b.getD dE, c.getD dE]
  | _ => []
def kid (e : Expr) (i : Nat) : Expr := (kids e).getD i dE
def fnE : Expr → Expr
  | .Call f _ _ _ => f
  | _ => dE
def scE : Expr → Scope
  | .ListComp _ _ s _ => s
  | _ => { kind := .function, names := [], isGenerator := false, isCoroutine := false }
/-- the first key, the first value of a dict display -/
def dkE : Expr → Expr
  | .Dict (some k :: _) _ _ => k
  | _ => dE
def dvE : Expr → Expr
  | .Dict _ (v :: _) _ => v
  | _ => dE
def gnE : Expr → Comprehension
  | .ListComp _ (g :: _) _ _ => g
  | _ => ⟨dE, dE, [], 0⟩
def kOf : PV → Const
  | .non => .none
  | .bl b => .bool b
  | .int i => .int i
  | .str s => .str s
  | _ => .ellipsis
def mtN : Mt → Str
  | .append => "append" | .extend => "extend" | .pop => "pop" | .popAt => "pop" | .get => "get" | .index => "index" | .count => "count" | .join => "join" | .values => "values"
mutual
def toT : MT → Expr → Expr
  | .nm _, e0 => .Name (nm e0) e0.pos
  | .tp ts, e0 => .Tuple (toTs ts (kids e0)) (kn e0) e0.pos
def toTs : MTs → List Expr → List Expr
  | .nil, _ => []
  | .cons t r, l => toT t (l.headD dE) :: toTs r l.tail
end
/-- the names of fields by their numbers -/
def fldS : Nat → Str
  | 0 => "name" | 1 => "what" | 2 => "why" | 3 => "column" | 4 => "words" | 5 => "options" | _ => ⟨#[]⟩
mutual
def toE : ME → Expr → Expr
  | .var _, e0 => .Name (nm e0) e0.pos
  | .cst c, e0 => .Constant (kOf c) (kn e0) e0.pos
  | .glb _, e0 => .Name (nm e0) e0.pos
  | .bin o a b, e0 => .BinOp (toE a (kid e0 0)) (oper o) (toE b (kid e0 1)) e0.pos
  | .bnm o a b, e0 => .BinOp (toE a (kid e0 0)) (oper o) (toE b (kid e0 1)) e0.pos
  | .neg a, e0 => .UnaryOp .USub (toE a (kid e0 0)) e0.pos
  | .not a, e0 => .UnaryOp .Not (toE a (kid e0 0)) e0.pos
  | .cmp o a b, e0 => .Compare (toE a (kid e0 0)) [cmpO o] [toE b (kid e0 1)] e0.pos
  | .chn o p a b c, e0 => .Compare (toE a (kid e0 0)) [cmpO o, cmpO p] [toE b (kid e0 1), toE c (kid e0 2)] e0.pos
  | .and es, e0 => .BoolOp .And (toEs es (kids e0)) e0.pos
  | .or es, e0 => .BoolOp .Or (toEs es (kids e0)) e0.pos
  | .ife c a b, e0 => .IfExp (toE c (kid e0 0)) (toE a (kid e0 1)) (toE b (kid e0 2)) e0.pos
  | .ix a i, e0 => .Subscript (toE a (kid e0 0)) (toE i (kid e0 1)) e0.pos
  | .sl a lo hi, e0 => .Subscript (toE a (kid e0 0)) (.Slice (toO lo (kid (kid e0 1) 0)) (toO hi (kid (kid e0 1) 1)) none (kid e0 1).pos) e0.pos
  | .rev a, e0 => .Subscript (toE a (kid e0 0)) (.Slice none none (some (.UnaryOp .USub (.Constant (.int 1) (kn (kid (kid (kid e0 1) 2) 0)) (kid (kid (kid e0 1) 2) 0).pos) (kid (kid e0 1) 2).pos)) (kid e0 1).pos) e0.pos
  | .tup es, e0 => .Tuple (toEs es (kids e0)) (kn e0) e0.pos
  | .lst _ es, e0 => .List (toEs es (kids e0)) e0.pos
  | .dc0 _ _, e0 => .Dict [] [] e0.pos
  | .dc1 _ k v, e0 => .Dict [some (toE k (dkE e0))] [toE v (dvE e0)] e0.pos
  | .call _ es, e0 => .Call (.Name (nm (fnE e0)) (fnE e0).pos) (toEs es (kids e0)) [] e0.pos
  | .bif b es, e0 => .Call (.Name (biN b) (fnE e0).pos) (toEs es (kids e0)) [] e0.pos
  | .bil b _ es, e0 => .Call (.Name (blN b) (fnE e0).pos) (toEs es (kids e0)) [] e0.pos
  | .lrg _ es, e0 => .Call (.Name "list" (fnE e0).pos) [.Call (.Name "range" (fnE (kid e0 0)).pos) (toEs es (kids (kid e0 0))) [] (kid e0 0).pos] [] e0.pos
  | .isi t a, e0 => .Call (.Name "isinstance" (fnE e0).pos) [toE a (kid e0 0), .Name (tyS t) (kid e0 1).pos] [] e0.pos
  | .mth m o es, e0 => .Call (.Attribute (toE o (kid (fnE e0) 0)) (mtN m) (fnE e0).pos) (toEs es (kids e0)) [] e0.pos
  | .lc _ elt tg it ifs, e0 => .ListComp (toE elt (kid e0 0)) [⟨toT tg (gnE e0).target, toI it (gnE e0).iter, toEs ifs (gnE e0).ifs, 0⟩] (scE e0) e0.pos
  | .lcm _ elt tg it ifs, e0 => .ListComp (toE elt (kid e0 0)) [⟨toT tg (gnE e0).target, toI it (gnE e0).iter, toEs ifs (gnE e0).ifs, 0⟩] (scE e0) e0.pos
  | .xfl f, e0 => .Attribute (.Name (nm (kid e0 0)) (kid e0 0).pos) (fldS f) e0.pos
  | .xis _, e0 => .Call (.Name "isinstance" (fnE e0).pos) [.Name (nm (kid e0 0)) (kid e0 0).pos, .Name (nm (kid e0 1)) (kid e0 1).pos] [] e0.pos
def toEs : MEs → List Expr → List Expr
  | .nil, _ => []
  | .cons e r, l => toE e (l.headD dE) :: toEs r l.tail
def toO : MOp → Expr → Option Expr
  | .no, _ => none
  | .some e, e0 => some (toE e e0)
def toI : MI → Expr → Expr
  | .seq e, e0 => toE e e0
  | .rng es, e0 => .Call (.Name "range" (fnE e0).pos) (toEs es (kids e0)) [] e0.pos
  | .enu e, e0 => .Call (.Name "enumerate" (fnE e0).pos) [toE e (kid e0 0)] [] e0.pos
  | .zip a b, e0 => .Call (.Name "zip" (fnE e0).pos) [toE a (kid e0 0), toE b (kid e0 1)] [] e0.pos
  | .rvd e, e0 => .Call (.Name "reversed" (fnE e0).pos) [toE e (kid e0 0)] [] e0.pos
  | .itm e, e0 => .Call (.Attribute (toE e (kid (fnE e0) 0)) "items" (fnE e0).pos) [] [] e0.pos
end

/-! ### what a context must tell -/
inductive GK where
  | con (k : Nat) | fn (f : Nat) | cls (c : Nat) | bi
structure Sc where
  N : List Str
  sc : Scope
  gl : List (Str × GK)
  hot : Bool
def glO (S : Sc) (x : Str) : Bool := decide (S.sc.names.lookup x = some .globalImplicit) && decide (x ≠ "__name__") && !(x == ("__debug__" : Str))
def visO (S : Sc) (x : Str) : Bool := (decide (S.sc.names.lookup x = some .local) || decide (S.sc.names.lookup x = some .cell) || decide (S.sc.names.lookup x = some .free)) && !(x == ("__debug__" : Str)) && !(x == ("__classdict__" : Str))
def locO (S : Sc) (fl : Str → Bool) (x : Str) : Bool := decide (S.sc.names.lookup x = some .local) || (decide (S.sc.names.lookup x = some .cell) && fl x)
def gkO (S : Sc) (x : Str) : Option GK := S.gl.lookup x
def isBi (S : Sc) (x : Str) : Bool := glO S x && (match gkO S x with | some .bi => true | _ => false)
def isCon (S : Sc) (x : Str) (k : Nat) : Bool := glO S x && (match gkO S x with | some (.con j) => decide (j = k) | _ => false)
def isFn (S : Sc) (x : Str) (k : Nat) : Bool := glO S x && (match gkO S x with | some (.fn j) => decide (j = k) | _ => false)
def isCls (S : Sc) (x : Str) (k : Nat) : Bool := glO S x && (match gkO S x with | some (.cls j) => decide (j = k) | _ => false)
def ownP (S : Sc) (own : List Nat) : List (Str × Nat) := own.map fun i => (S.N.getD i ⟨#[]⟩, i)
def inner (S : Sc) (scope : Scope) : Sc := { S with sc := relS scope S.sc }
def conOk : PV → Bool
  | .non => true
  | .bl _ => true
  | .int _ => true
  | .str s => decide (s.length ≤ 1000)
  | _ => false
def isTp : MT → Bool
  | .tp _ => true
  | _ => false
mutual
def wfT (S : Sc) (fl : Str → Bool) : MT → Expr → Bool
  | .nm i, e0 => decide (S.N[i]? = some (nm e0)) && locO S fl (nm e0)
  | .tp ts, e0 => !S.hot && wfTs S fl ts (kids e0)
def wfTs (S : Sc) (fl : Str → Bool) : MTs → List Expr → Bool
  | .nil, _ => true
  | .cons t r, l => wfT S fl t (l.headD dE) && wfTs S fl r l.tail
end
def mtsLen : MTs → Nat
  | .nil => 0
  | .cons _ r => mtsLen r + 1
def mesLen : MEs → Nat
  | .nil => 0
  | .cons _ r => mesLen r + 1
/-- the methods that are carried, by the number of their arguments -/
def mtOk : Mt → Nat → Bool
  | .append, 1 => true
  | .extend, 1 => true
  | .pop, 0 => true
  | .popAt, 1 => true
  | .index, 1 => true
  | _, _ => false
mutual
def wfE (S : Sc) : ME → Expr → Bool
  | .var i, e0 => decide (S.N[i]? = some (nm e0)) && visO S (nm e0)
  | .cst c, _ => conOk c
  | .glb k, e0 => isCon S (nm e0) k
  | .bin _ a b, e0 => wfE S a (kid e0 0) && wfE S b (kid e0 1)
  | .bnm o a b, e0 => wfE S a (kid e0 0) && wfE S b (kid e0 1) && (decide (o = .add) || decide (o = .mul))
  | .neg a, e0 => wfE S a (kid e0 0)
  | .not a, e0 => wfE S a (kid e0 0)
  | .cmp _ a b, e0 => wfE S a (kid e0 0) && wfE S b (kid e0 1)
  | .chn o p a b c, e0 => wfE S a (kid e0 0) && wfE S b (kid e0 1) && wfE S c (kid e0 2) && decide (o ≠ .isin) && decide (o ≠ .notin) && decide (p ≠ .isin) && decide (p ≠ .notin)
  | .and es, e0 => wfEs S es (kids e0) && decide (0 < mesLen es)
  | .or es, e0 => wfEs S es (kids e0) && decide (0 < mesLen es)
  | .ife c a b, e0 => wfE S c (kid e0 0) && wfE S a (kid e0 1) && wfE S b (kid e0 2)
  | .ix a i, e0 => wfE S a (kid e0 0) && wfE S i (kid e0 1)
  | .sl a lo hi, e0 => wfE S a (kid e0 0) && wfO S lo (kid (kid e0 1) 0) && wfO S hi (kid (kid e0 1) 1)
  | .rev a, e0 => wfE S a (kid e0 0)
  | .tup es, e0 => wfEs S es (kids e0)
  | .lst _ es, e0 => wfEs S es (kids e0)
  | .dc0 _ _, _ => true
  | .dc1 _ k v, e0 => !S.hot && wfE S k (dkE e0) && wfE S v (dvE e0)
  | .call f es, e0 => !S.hot && isFn S (nm (fnE e0)) f && wfEs S es (kids e0) && decide (0 < mesLen es)
  | .bif b es, e0 => !S.hot && isBi S (biN b) && wfEs S es (kids e0) && decide (0 < mesLen es)
  | .bil b _ es, e0 => !S.hot && isBi S (blN b) && wfEs S es (kids e0) && decide (0 < mesLen es)
  | .lrg _ es, e0 => !S.hot && isBi S "list" && isBi S "range" && wfEs S es (kids (kid e0 0)) && (decide (mesLen es = 1) || decide (mesLen es = 2))
  | .isi t a, e0 => isBi S "isinstance" && isBi S (tyS t) && wfE S a (kid e0 0)
  | .mth m o es, e0 => wfE S o (kid (fnE e0) 0) && wfEs S es (kids e0) && mtOk m (mesLen es) && decide ((fnE e0).pos.endLine = e0.pos.line)
  | .lc own elt tg it ifs, e0 => !S.hot && wfI S it (gnE e0).iter tg && blkC S.N S.sc (scE e0) (ownP S own) &&
      wfT (inner S (scE e0)) (fun x => (scE e0).names.lookup x == some .cell) tg (gnE e0).target && wfE (inner S (scE e0)) elt (kid e0 0) && wfEs (inner S (scE e0)) ifs (gnE e0).ifs &&
      decide (mesLen ifs ≤ 1) && tgIn tg own
  | .lcm _ _ _ _ _, _ => false
  | .xfl _, _ => false
  | .xis _, _ => false
def wfEs (S : Sc) : MEs → List Expr → Bool
  | .nil, _ => true
  | .cons e r, l => wfE S e (l.headD dE) && wfEs S r l.tail
def wfO (S : Sc) : MOp → Expr → Bool
  | .no, _ => true
  | .some e, e0 => wfE S e e0
def wfI (S : Sc) : MI → Expr → MT → Bool
  | .seq e, e0, _ => wfE S e e0
  | .rng es, e0, _ => isBi S "range" && wfEs S es (kids e0) && decide (0 < mesLen es) && decide (mesLen es ≤ 3)
  | .enu e, e0, tg => isBi S "enumerate" && isTp tg && wfE S e (kid e0 0)
  | .zip a b, e0, tg => isBi S "zip" && isTp tg && wfE S a (kid e0 0) && wfE S b (kid e0 1)
  | .rvd e, e0, _ => isBi S "reversed" && wfE S e (kid e0 0)
  | .itm _, _, _ => false
/-- the targets are the comprehension's own -/
def tgIn : MT → List Nat → Bool
  | .nm i, own => own.contains i
  | .tp ts, own => tgsIn ts own
def tgsIn : MTs → List Nat → Bool
  | .nil, _ => true
  | .cons t r, own => tgIn t own && tgsIn r own
end
/-- other places hidden -/
def XC.zz (C : XC) (z : List Addr) : XC := { C with K := ⟨C.K.f, z⟩ }
theorem XC.zz_zz (C : XC) (z z' : List Addr) : (C.zz z).zz z' = C.zz z' := rfl
/-- the names of the own exceptions' fields -/
def fldC : Nat → List Str
  | 1 => ["name"] | 2 => ["what"] | 3 => ["why"] | 4 => ["column", "words"] | 5 => ["options"] | _ => []
/-- a def called: its promise by an evaluation f -/
def spF (C : XC) (f : List PV → MHp → Res PV) : Sp := fun vs H Q E => ∃ z M h args, HRel (C.zz z).K M H h ∧ RVs (C.zz z).K M H args vs ∧ Out (C.zz z) E Q M H (f args h)
/-- a def __init__ of an own exception: self.f = .. -/
def spI (a : Addr) (fl : List Str) : Sp := fun vs H Q _ => vs.length = fl.length + 1 ∧ ∃ s ws, vs = .ref s :: ws ∧ H s = some (exo s a none) ∧
  ∀ d, H d = none → d ≠ s → ∀ fs, (∀ (i : Nat) (v : V) (n : Str), ws[i]? = some v → fl[i]? = some n → fs.lookup n = some v) → Q .non (upd (upd H d (exd d fs)) s (exo s a (some d)))
def GF (X : Cx) (P : Prog) (F : Fn) (C : XC) (hot : Bool) : GK → Str → Prop
  | .con k, x => ∃ u v p, X.mg x = some u ∧ RelV v u ∧ P.con k = some p ∧ ∀ z M H, RV (C.zz z).K M H p v
  | .fn f, x => hot = false → ∃ (lv : Nat) (fa : Addr) (fd : FuncData) (ps : List Str), X.mg x = some (.ref fa) ∧ PySem.W.keepIn X.K (.ref fa) = true ∧ Binds X.K fd ps [] ∧
      FnOk X.prog X.w X.K X.mg X.base (L2.CX X.prog X.w) lv fa fd ps (spF C (F f)) ∧ Room lv X.A
  | .cls c, x => ∃ a, C.ca c = some a ∧ X.mg x = some (.ref a) ∧ (hot = false → C.fld c ≠ [] → ∃ (lv : Nat) (fI : Addr) (fd : FuncData) (ps : List Str), OexC X.K a ∧ PySem.W.findIn X.K (.ref a) "__init__" = some (some (.ref fI)) ∧ PySem.W.typeIn X.K (.ref fI) = some (.type "function") ∧
      FnOk X.prog X.w X.K X.mg X.base (L2.CX X.prog X.w) lv fI fd ps (spI a (C.fld c)) ∧ Room (lv + 1) X.A ∧ Binds X.K fd ps [])
  | .bi, x => X.mg x = none
structure Cok (X : Cx) (S : Sc) (P : Prog) (F : Fn) (C : XC) (W : WX) : Prop where
  hK : X.K = C.K.f
  hN : X.N = S.N
  nd : S.N.Nodup
  hsc : X.env.scope = S.sc
  calm : S.hot = false → X.calm = true
  hun : X.A.units + 70 < cLine
  glb : ∀ x g, S.gl.lookup x = some g → GF X P F C S.hot g x
  tk : Takes X W
  hf : C.fld = fldC
section
variable {X : Cx} {S : Sc} {P : Prog} {F : Fn} {C : XC} {W : WX}
theorem Cok.gl (c : Cok X S P F C W) {x : Str} (h : glO S x = true) : Gl X x ∧ x ≠ "__name__" ∧ (x == ("__debug__" : Str)) = false := by
  unfold glO at h
  rw [Bool.and_eq_true, Bool.and_eq_true] at h
  refine ⟨?_, of_decide_eq_true h.1.2, by simpa using h.2⟩
  show X.env.scope.names.lookup x = _
  rw [c.hsc]
  exact of_decide_eq_true h.1.1
theorem Cok.bi (c : Cok X S P F C W) {x : Str} (h : isBi S x = true) : Gl X x ∧ X.mg x = none ∧ x ≠ "__name__" ∧ (x == ("__debug__" : Str)) = false := by
  unfold isBi at h
  rw [Bool.and_eq_true] at h
  obtain ⟨g, n, d⟩ := c.gl h.1
  have h2 := h.2
  split at h2
  · rename_i e
    exact ⟨g, c.glb x _ e, n, d⟩
  · cases h2
theorem Cok.con (c : Cok X S P F C W) {x : Str} {k : Nat} (h : isCon S x k = true) : Gl X x ∧ (x == ("__debug__" : Str)) = false ∧ ∃ u v p, X.mg x = some u ∧ RelV v u ∧ P.con k = some p ∧ ∀ z M H, RV (C.zz z).K M H p v := by
  unfold isCon at h
  rw [Bool.and_eq_true] at h
  obtain ⟨g, n, d⟩ := c.gl h.1
  have h2 := h.2
  split at h2
  · rename_i j e
    have := of_decide_eq_true h2
    subst this
    exact ⟨g, d, c.glb x _ e⟩
  · cases h2
theorem Cok.fn (c : Cok X S P F C W) {x : Str} {k : Nat} (h : isFn S x k = true) (hh : S.hot = false) : Gl X x ∧ (x == ("__debug__" : Str)) = false ∧ ∃ (lv : Nat) (fa : Addr) (fd : FuncData) (ps : List Str), X.mg x = some (.ref fa) ∧ PySem.W.keepIn X.K (.ref fa) = true ∧ Binds X.K fd ps [] ∧
      FnOk X.prog X.w X.K X.mg X.base (L2.CX X.prog X.w) lv fa fd ps (spF C (F k)) ∧ Room lv X.A := by
  unfold isFn at h
  rw [Bool.and_eq_true] at h
  obtain ⟨g, n, d⟩ := c.gl h.1
  have h2 := h.2
  split at h2
  · rename_i j e
    have := of_decide_eq_true h2
    subst this
    exact ⟨g, d, c.glb x _ e hh⟩
  · cases h2
theorem Cok.vis (c : Cok X S P F C W) {x : Str} (h : visO S x = true) : Vis X.env.scope x ∧ (x == ("__debug__" : Str)) = false ∧ (x == ("__classdict__" : Str)) = false := by
  unfold visO at h
  rw [Bool.and_eq_true, Bool.and_eq_true, Bool.or_eq_true, Bool.or_eq_true] at h
  refine ⟨?_, by simpa using h.1.2, by simpa using h.2⟩
  rw [c.hsc]
  rcases h.1.1 with (e | e) | e
  · exact .inl (of_decide_eq_true e)
  · exact .inr (.inl (of_decide_eq_true e))
  · exact .inr (.inr (of_decide_eq_true e))
theorem XE.false {u : Value} {s' : Shared} (x : XE X (fun _ _ _ _ => False) u s') : False := by
  obtain ⟨_, _, _, _, _, _, _, _, _, _, _, _, _, _, _, _, w⟩ := x
  exact w
theorem Takes.none : Takes X (fun _ _ _ _ => False) := fun _ _ x => (XE.false x).elim
/-- the context of a comprehension's block -/
theorem Cok.blk (c : Cok X S P F C W) (s : Shared) (H : Hp) (scope : Scope) (cl : List (Str × Addr)) (D : Addr) (fp : List Addr) : Cok (X.blk s H scope (compEnvC scope cl D X.env) fp) (inner S scope) P F C (fun _ _ _ _ => False) where
  hK := c.hK
  hN := c.hN
  nd := c.nd
  hsc := by
    show relabel scope X.env = relS scope S.sc
    rw [← c.hsc]
    rfl
  calm := c.calm
  hun := c.hun
  glb := c.glb
  tk := Takes.none
  hf := c.hf
theorem Cok.zz (c : Cok X S P F C W) (z : List Addr) : Cok X S P F (C.zz z) W := ⟨c.hK, c.hN, c.nd, c.hsc, c.calm, c.hun, c.glb, c.tk, c.hf⟩
theorem XC.zz_self (C : XC) : C.zz C.K.z = C := rfl
end
end Qm

/-! S6: targets; what a loop walks; a comprehension. -/
namespace Qm
open PySem PySem.Spec PyProof.Rows L2

/-! ### targets -/
/-- (a, b, ..) = a tuple or a list of that length -/
def gSq (K : PySem.W.Frag) (n : Nat) (t : TGs) : TG := fun v σ H Q => ∃ a xs, v = .ref a ∧ (SqT K H a xs ∨ SqL K H a xs) ∧ xs.length = n ∧ t xs σ H Q
theorem pg_sq {X : Cx} {es : List Expr} {k : Nat} {t : TGs} {n : Nat} {pos : Pos} (hc : X.calm = true) (h : PGs X es t) (hn : (assignEach es X.env).length = n) (hst : (assignEach es X.env).findIdx? (·.1) = none) : PG X (.Tuple es k pos) (gSq X.K n t) := by
  refine ⟨fun pins s σ H v u Q I r hw => ?_⟩
  obtain ⟨a, xs, e1, hq, hl, hw⟩ := hw
  rcases hq with hq | hq
  · exact (pg_tup (k := k) (pos := pos) hc h hn hst).run pins s σ H v u Q I r ⟨a, xs, e1, hq, hl, hw⟩
  · exact (pg_lst (k := k) (pos := pos) hc h hn hst).run pins s σ H v u Q I r ⟨a, xs, e1, hq, hl, hw⟩
mutual
def gT (K : PySem.W.Frag) : MT → TG
  | .nm i => gName i
  | .tp ts => gSq K (mtsLen ts) (gTs K ts)
def gTs (K : PySem.W.Frag) : MTs → TGs
  | .nil => gNil
  | .cons t r => gCons (gT K t) (gTs K r)
end
section
variable {X : Cx} {S : Sc} {P : Prog} {F : Fn} {C : XC} {W : WX} {fl : Str → Bool}
theorem toTs_len : ∀ (ts : MTs) (l : List Expr), (toTs ts l).length = mtsLen ts
  | .nil, _ => by rw [toTs]; rfl
  | .cons t r, l => by rw [toTs, List.length_cons, toTs_len r, mtsLen]
theorem assignEach_toT (env : PySem.Env) (t : MT) (e0 : Expr) (es : List Expr) : assignEach (toT t e0 :: es) env = (false, assign (toT t e0) env) :: assignEach es env := by
  cases t <;> rw [toT] <;> rfl
theorem assignEach_len (env : PySem.Env) : ∀ (ts : MTs) (l : List Expr), (assignEach (toTs ts l) env).length = mtsLen ts
  | .nil, _ => by rw [toTs]; rfl
  | .cons t r, l => by rw [toTs, assignEach_toT, List.length_cons, assignEach_len env r, mtsLen]
theorem assignEach_star (env : PySem.Env) : ∀ (ts : MTs) (l : List Expr), (assignEach (toTs ts l) env).findIdx? (·.1) = none
  | .nil, _ => by rw [toTs]; rfl
  | .cons t r, l => by
    rw [toTs, assignEach_toT, List.findIdx?_cons]
    simp [assignEach_star env r]
mutual
theorem pg_sound (hN : X.N = S.N) (nd : S.N.Nodup) (hsc : X.env.scope = S.sc) (hK : X.K = C.K.f) (calm : S.hot = false → X.calm = true) (hfl : ∀ x, fl x = true → X.fn x = true) :
    ∀ (t : MT) (e0 : Expr), wfT S fl t e0 = true → PG X (toT t e0) (gT C.K.f t)
  | .nm i, e0, h => by
    rw [wfT, Bool.and_eq_true] at h
    have h1 := of_decide_eq_true h.1
    have h2 := h.2
    unfold locO at h2
    rw [toT, gT]
    have hl : Loc X.env.scope (nm e0) ∧ (X.fn (nm e0) = true ∨ X.env.scope.names.lookup (nm e0) = some .local) := by
      rw [hsc]
      rw [Bool.or_eq_true, Bool.and_eq_true] at h2
      rcases h2 with e | ⟨e, f⟩
      · exact ⟨.inl (of_decide_eq_true e), .inr (of_decide_eq_true e)⟩
      · exact ⟨.inr (of_decide_eq_true e), .inl (hfl _ f)⟩
    exact pg_name (by rw [hN]; exact nd) (by rw [hN]; exact h1) hl.1 hl.2
  | .tp ts, e0, h => by
    rw [wfT, Bool.and_eq_true] at h
    rw [toT, gT]
    have h1 : S.hot = false := by simpa using h.1
    have := pg_sq (X := X) (k := kn e0) (pos := e0.pos) (n := mtsLen ts) (calm h1) (pgs_sound hN nd hsc hK calm hfl ts (kids e0) h.2) (assignEach_len _ ts _) (assignEach_star _ ts _)
    rw [hK] at this
    exact this
theorem pgs_sound (hN : X.N = S.N) (nd : S.N.Nodup) (hsc : X.env.scope = S.sc) (hK : X.K = C.K.f) (calm : S.hot = false → X.calm = true) (hfl : ∀ x, fl x = true → X.fn x = true) :
    ∀ (ts : MTs) (l : List Expr), wfTs S fl ts l = true → PGs X (toTs ts l) (gTs C.K.f ts)
  | .nil, l, _ => by rw [toTs, gTs]; exact pgs_nil
  | .cons t r, l, h => by
    rw [wfTs, Bool.and_eq_true] at h
    rw [toTs, gTs]
    exact pgs_cons (pg_sound hN nd hsc hK calm hfl t _ h.1) (pgs_sound hN nd hsc hK calm hfl r _ h.2) (by rw [assignEach_toT]; rfl)
end
/-- a store, by the environment -/
theorem ERel.set {K : KZ} {M : List Addr} {H : Hp} {σ : L2.St} {env : Env} {i : Nat} {p : PV} {v : V} (r : ERel K M H σ env) (rv : RV K M H p v) : ERel K M H (σ.set i (some v)) (env.set i (some p)) := by
  refine ⟨by simp [r.1], fun j q e => ?_⟩
  by_cases h : i = j
  · subst h
    have hl : i < env.length := by
      have := (List.getElem?_eq_some_iff.mp e).1
      simpa using this
    rw [List.getElem?_set_self hl] at e
    cases e
    exact ⟨v, by rw [List.getElem?_set_self (by rw [← r.1]; exact hl)], rv⟩
  · rw [List.getElem?_set_ne h] at e
    obtain ⟨w, e1, r1⟩ := r.2 j q e
    exact ⟨w, by rw [List.getElem?_set_ne h]; exact e1, r1⟩
mutual
theorem gT_ok {M : List Addr} {H : Hp} {Q : L2.St → Hp → Prop} : ∀ {t : MT} {σ : L2.St} {env env' : Env} {p : PV} {v : V}, ERel C.K M H σ env → RV C.K M H p v → asgT t p env = some env' → (∀ σ', ERel C.K M H σ' env' → Q σ' H) → gT C.K.f t v σ H Q
  | .nm i, σ, env, env', p, v, er, rv, e, k => by
    rw [asgT] at e
    cases e
    rw [gT]
    exact k _ (er.set rv)
  | .tp ts, σ, env, env', p, v, er, rv, e, k => by
    cases p with
    | tup xs =>
      rw [asgT] at e
      rw [gT]
      obtain ⟨a, vs, rfl, ta, rvs⟩ := rv_tup rv
      obtain ⟨h1, h2⟩ := gTs_ok er rvs e k
      exact ⟨a, vs, rfl, .inl ta.seq, by rw [rvs.len]; exact h1, h2⟩
    | lst xs =>
      rw [asgT] at e
      rw [gT]
      rw [RV] at rv
      obtain ⟨a, vs, rfl, _, _, hl, rvs⟩ := rv
      obtain ⟨h1, h2⟩ := gTs_ok er rvs e k
      exact ⟨a, vs, rfl, .inr (SqL.of hl), by rw [rvs.len]; exact h1, h2⟩
    | _ => simp [asgT] at e
theorem gTs_ok {M : List Addr} {H : Hp} {Q : L2.St → Hp → Prop} : ∀ {ts : MTs} {σ : L2.St} {env env' : Env} {xs : List PV} {vs : List V}, ERel C.K M H σ env → RVs C.K M H xs vs → asgTs ts xs env = some env' → (∀ σ', ERel C.K M H σ' env' → Q σ' H) →
    xs.length = mtsLen ts ∧ gTs C.K.f ts vs σ H Q
  | .nil, σ, env, env', xs, vs, er, rvs, e, k => by
    cases xs with
    | nil =>
      rw [asgTs] at e
      cases e
      rw [RVs] at rvs
      rw [gTs]
      exact ⟨rfl, rvs, k _ er⟩
    | cons _ _ => simp [asgTs] at e
  | .cons t r, σ, env, env', xs, vs, er, rvs, e, k => by
    cases xs with
    | nil => simp [asgTs] at e
    | cons x xs =>
      rw [asgTs] at e
      obtain ⟨env1, e1, e2⟩ := Option.bind_eq_some_iff.mp e
      rw [RVs] at rvs
      obtain ⟨v, vr, rfl, r1, r2⟩ := rvs
      have hl : xs.length = mtsLen r := asgTs_len e2
      refine ⟨by simp [hl, mtsLen], ?_⟩
      rw [gTs]
      refine ⟨v, vr, rfl, gT_ok er r1 e1 fun σ1 er1 => ?_⟩
      exact (gTs_ok er1 r2 e2 k).2
theorem asgTs_len : ∀ {ts : MTs} {xs : List PV} {env env' : Env}, asgTs ts xs env = some env' → xs.length = mtsLen ts
  | .nil, xs, _, _, e => by cases xs with | nil => rfl | cons _ _ => simp [asgTs] at e
  | .cons t r, xs, _, _, e => by
    cases xs with
    | nil => simp [asgTs] at e
    | cons x xs =>
      rw [asgTs] at e
      obtain ⟨_, _, e2⟩ := Option.bind_eq_some_iff.mp e
      simp [asgTs_len e2, mtsLen]
end

/-! ### what a loop walks -/
/-- J walks the items of r, from the heap H on, as long as what it walks stands -/
def ItOk (C : XC) (M0 : List Addr) (H0 : Hp) (r : Wk) (J : It) : Prop :=
  ∀ z, (∀ a ∈ z, a ∈ C.K.z ∨ H0 a = none) → ∀ M H h, Ext M0 H0 M H → HRel (C.zz z).K M H h → srcOk r.src h = true → ∀ i : Nat,
    (∀ x, r.items[i]? = some x → J.go i H ∧ ∀ v H', J.yld i H v H' → Ext M H M H' ∧ HRel (C.zz z).K M H' h ∧ RV (C.zz z).K M H' x v) ∧ (r.items.length ≤ i → J.stop i H)
def OutI (C : XC) (E : XK) (R : It → Hp → Prop) (M : List Addr) (H : Hp) (r : Res Wk) : Prop :=
  match r with
  | .ok it h' => it.items.length ≤ sizeLine → ∀ H' M' J, Ext M H M' H' → HRel C.K M' H' h' → ItOk C M' H' it J → R J H'
  | .exn x h' => ∀ cls d H' M', Ext M H M' H' → HRel C.K M' H' h' → XRel C M' H' x cls d → E cls d H'
  | .stuck => False
theorem OutI.shift {E : XK} {R : It → Hp → Prop} {M M1 : List Addr} {H H1 : Hp} {r : Res Wk} (o : OutI C E R M H r) (x : Ext M H M1 H1) : OutI C E R M1 H1 r := by
  cases r with
  | ok p h' => exact fun z H' M' J y => o z H' M' J (x.trans y)
  | exn e h' => exact fun c d H' M' y => o c d H' M' (x.trans y)
  | stuck => exact o
def RdI (C : XC) (W : WX) (f : Env → MHp → Res Wk) : TI := fun σ H R => ∃ M h env, HRel C.K M H h ∧ ERel C.K M H σ env ∧ OutI C (WE W σ) R M H (f env h)
theorem pi_weak {tg e : Expr} {t t' : TI} (a : PI X tg e t) (w : ∀ σ H R, t' σ H R → t σ H R) : PI X tg e t' := ⟨fun pins s σ H R I q => a.run pins s σ H R I (w σ H R q)⟩
theorem RdE.goI {σ : L2.St} {M : List Addr} {H : Hp} {h : MHp} {env : Env} {f : Sem1} {g : PV → MHp → Res Wk} {R : It → Hp → Prop} {Q : VK} (hr : HRel C.K M H h) (er : ERel C.K M H σ env) (o : OutI C (WE W σ) R M H ((f env h).bind g))
    (k : ∀ v H1 M1 h1 p, Ext M H M1 H1 → HRel C.K M1 H1 h1 → ERel C.K M1 H1 σ env → RV C.K M1 H1 p v → OutI C (WE W σ) R M1 H1 (g p h1) → Q v H1) : RdE C W f σ H Q :=
  RdE.step (O := fun M H r => OutI C (WE W σ) R M H r) hr er o (fun _ _ _ x o => o.shift x) (fun _ _ o => o) (fun z => z) k
theorem RdA.goI {σ : L2.St} {M : List Addr} {H : Hp} {h : MHp} {env : Env} {f : SemA} {g : List PV → MHp → Res Wk} {R : It → Hp → Prop} {Q : List V → Hp → Prop} (hr : HRel C.K M H h) (er : ERel C.K M H σ env) (o : OutI C (WE W σ) R M H ((f env h).bind g))
    (k : ∀ v H1 M1 h1 p, Ext M H M1 H1 → HRel C.K M1 H1 h1 → ERel C.K M1 H1 σ env → RVs C.K M1 H1 p v → OutI C (WE W σ) R M1 H1 (g p h1) → Q v H1) : RdA C W f σ H Q := by
  refine ⟨M, h, env, hr, er, ?_⟩
  cases e : f env h with
  | ok p h1 =>
    rw [e] at o
    exact fun v H1 M1 x hr1 rv => k v H1 M1 h1 p x hr1 (er.ext x) rv (o.shift x)
  | exn x h1 =>
    rw [e] at o
    exact o
  | stuck =>
    rw [e] at o
    exact o.elim
/-- a tuple, a list walked -/
theorem srcOk_ref {n : Nat} {o : MO} {h : MHp} {r : List (Nat × MO)} (e : srcOk ((n, o) :: r) h = true) : h[n]? = some o ∧ srcOk r h = true := by
  rw [srcOk, Bool.and_eq_true] at e
  exact ⟨of_decide_eq_true e.1, e.2⟩
/-- the items of a list, at every later heap -/
theorem list_stays {M0 M : List Addr} {H0 H : Hp} {h0 h : MHp} {x : PV} {v : V} {xs : List PV} (r : RV C.K M0 H0 x v) (e : itemsL x h0 = some xs) (ex : Ext M0 H0 M H) (hr : HRel C.K M H h) (src : srcOk (srcOf x xs) h = true) :
    ∃ a vs, v = .ref a ∧ vs.length ≤ sizeLine ∧ H a = some (.lst vs) ∧ RVs C.K M H xs vs := by
  cases x with
  | lst ys => exact itemsL_ok hr (r.ext ex) (by exact e)
  | ref n =>
    have := srcOk_ref (o := .lst xs) (r := []) src
    exact itemsL_ok (x := .ref n) hr (r.ext ex) (by simp [itemsL, this.1])
  | _ => simp [itemsL] at e
theorem itok_list {K : PySem.W.Frag} (hK : K = C.K.f) {M0 : List Addr} {H0 : Hp} {h0 : MHp} {x : PV} {a : Addr} {xs : List PV} (hr0 : HRel C.K M0 H0 h0) (r : RV C.K M0 H0 x (.ref a)) (e : itemsL x h0 = some xs) : ItOk C M0 H0 ⟨xs, srcOf x xs⟩ (Itl K a) := by
  intro z hz M H h ex hr src i
  obtain ⟨a', vs, ea, zz, hl, rvs⟩ := list_stays (C := C.zz z) (r.hids hz) e ex hr src
  cases ea
  refine ⟨fun y hy => ?_, fun hi => ?_⟩
  · obtain ⟨w, ew, rw_⟩ := rvs.get (show xs[i]? = some y from hy)
    refine ⟨⟨vs, w, SqL.of hl, ew⟩, fun v H' hyld => ?_⟩
    obtain ⟨rfl, hv⟩ := hyld
    have := hv vs (SqL.of hl)
    rw [ew] at this
    cases this
    exact ⟨Ext.refl, hr, rw_⟩
  · exact ⟨vs, SqL.of hl, by rw [rvs.len]; exact hi⟩
theorem itok_tup {K : PySem.W.Frag} (hK : K = C.K.f) {M0 : List Addr} {H0 : Hp} {a : Addr} {xs : List PV} (r : RV C.K M0 H0 (.tup xs) (.ref a)) : ItOk C M0 H0 ⟨xs, []⟩ (Itt K a) := by
  intro z hz M H h ex hr src i
  obtain ⟨a', vs, ea, ta, rvs⟩ := rv_tup (C := C.zz z) ((r.hids hz).ext ex)
  cases ea
  have hs : SqT K H a vs := by rw [hK]; exact ta.seq
  refine ⟨fun y hy => ?_, fun hi => ?_⟩
  · obtain ⟨w, ew, rw_⟩ := rvs.get (show xs[i]? = some y from hy)
    refine ⟨⟨vs, w, hs, ew⟩, fun v H' hyld => ?_⟩
    obtain ⟨rfl, hv⟩ := hyld
    have := hv vs hs
    rw [ew] at this
    cases this
    exact ⟨Ext.refl, hr, rw_⟩
  · exact ⟨vs, hs, by rw [rvs.len]; exact hi⟩
theorem len_rngI (lo : Int) (n : Nat) : (rngI lo n).length = n := by simp [rngI]
theorem itok_rng {M0 : List Addr} {H0 : Hp} {lo : Int} {n : Nat} : ItOk C M0 H0 ⟨rngI lo n, []⟩ (Itr lo n) := by
  intro z hz M H h ex hr src i
  refine ⟨fun y hy => ?_, fun hi => by rw [len_rngI] at hi; exact hi⟩
  have hy : (rngI lo n)[i]? = some y := hy
  have hi : i < n := by have := (List.getElem?_eq_some_iff.mp hy).1; rwa [len_rngI] at this
  simp only [rngI, List.getElem?_map, List.getElem?_range hi, Option.map_some, Option.some.injEq] at hy
  subst hy
  exact ⟨hi, fun v H' hyld => by obtain ⟨rfl, rfl⟩ := hyld; exact ⟨Ext.refl, hr, rv_i⟩⟩
theorem itok_rngC {M0 : List Addr} {H0 : Hp} {lo c : Int} {n : Nat} : ItOk C M0 H0 ⟨rngC lo c n, []⟩ (Itc lo c n) := by
  intro z hz M H h ex hr src i
  have hl : (rngC lo c n).length = n := by simp [rngC]
  refine ⟨fun y hy => ?_, fun hi => by rw [hl] at hi; exact hi⟩
  have hy : (rngC lo c n)[i]? = some y := hy
  have hi : i < n := by have := (List.getElem?_eq_some_iff.mp hy).1; rwa [hl] at this
  simp only [rngC, List.getElem?_map, List.getElem?_range hi, Option.map_some, Option.some.injEq] at hy
  subst hy
  exact ⟨hi, fun v H' hyld => by obtain ⟨rfl, rfl⟩ := hyld; exact ⟨Ext.refl, hr, rv_i⟩⟩
/-- what a for walks: a list or a tuple -/
theorem pi_seq (hK : X.K = C.K.f) {tg e : Expr} {f : Sem1} (he : PE X e (RdE C W f)) :
    PI X tg e (RdI C W fun env h => (f env h).bind fun x h1 => (ofOpt (itemsT x h1) h1).bind fun xs h2 => .ok ⟨xs, srcOf x xs⟩ h2) := by
  refine ⟨fun pins s σ H R I o => ?_⟩
  obtain ⟨M, h, env, hr, er, o⟩ := o
  have h1 : RdE C W f σ H (fun x H1 => ∃ a, x = .ref a ∧ ((∃ xs, SqL X.K H1 a xs) ∧ R (Itl X.K a) H1 ∨ (∃ xs, SqT X.K H1 a xs) ∧ R (Itt X.K a) H1)) := by
    refine RdE.goI hr er o fun v H1 M1 h1 p x1 hr1 er1 rv o1 => ?_
    cases ei : itemsT p h1 with
    | none => rw [ei] at o1; exact o1.elim
    | some xs =>
      rw [ei] at o1
      obtain ⟨a, vs, rfl, zz, alt, rvs⟩ := itemsT_ok hr1 rv ei
      have hz : xs.length ≤ sizeLine := by rw [← rvs.len]; exact zz
      refine ⟨a, rfl, ?_⟩
      rcases alt with ⟨⟨ys, rfl⟩, ht⟩ | ⟨el, hl⟩
      · cases ei
        exact .inr ⟨⟨vs, by rw [hK]; exact ht⟩, o1 hz H1 M1 _ Ext.refl hr1 (itok_tup hK rv)⟩
      · exact .inl ⟨⟨vs, SqL.of hl⟩, o1 hz H1 M1 _ Ext.refl hr1 (itok_list hK hr1 rv el)⟩
  refine thn (he.run pins s σ H _ I h1) fun v s1 ⟨x, H1, I1, r1, a, ex, alt⟩ => ?_
  subst ex
  cases r1
  rcases alt with ⟨⟨xs, hq⟩, q⟩ | ⟨⟨xs, hq⟩, q⟩
  · obtain ⟨its, rv, p, hz⟩ := I1.list hq
    refine wpAny_pyIter_list p.isList ?_
    refine ⟨s1.heap.objs.size, [s1.heap.objs.size], _, _, H1, rfl, I1.kept (t' := s1.toks) fun b o e => Heap.get?_push_of_some _ e, turn_list a _, ⟨_, Heap.get?_push_size _ rfl, rfl, rfl⟩, fun b hb => ?_, q⟩
    have e : b = s1.heap.objs.size := by simpa using hb
    subst e
    exact I1.fpOk (Nat.le_refl _) (I1.hok.fresh (Nat.le_refl _))
  · obtain ⟨its, rv, p, hz⟩ := I1.tuple hq
    refine wpAny_pyIter_tuple (show s1.heap.IsTuple a its.toArray from p) ?_
    refine ⟨s1.heap.objs.size, [s1.heap.objs.size], _, _, H1, rfl, I1.kept (t' := s1.toks) fun b o e => Heap.get?_push_of_some _ e, turn_tuple a _, ⟨_, Heap.get?_push_size _ rfl, rfl, rfl⟩, fun b hb => ?_, q⟩
    have e : b = s1.heap.objs.size := by simpa using hb
    subst e
    exact I1.fpOk (Nat.le_refl _) (I1.hok.fresh (Nat.le_refl _))
end
end Qm

/-! S7: ranges; comprehensions. -/
namespace Qm
open PySem PySem.Spec PyProof.Rows L2
section
variable {X : Cx} {S : Sc} {P : Prog} {F : Fn} {C : XC} {W : WX}
theorem big_line : (big : Nat) = sizeLine := big_eq
/-! ### range -/
theorem smallR_ok {i : Int} (h : smallR i = true) : -(2 ^ 62) ≤ i ∧ i < 2 ^ 62 := of_decide_eq_true h
theorem fromR {ys : List PV} {R : It → Hp → Prop} {E : XK} {σ : L2.St} {M : List Addr} {H : Hp} {h : MHp} {J : It} (hr : HRel C.K M H h) (z : ys.length ≤ sizeLine) (ok : ItOk C M H ⟨ys, []⟩ J) (o : OutI C E R M H (.ok ⟨ys, []⟩ h)) : R J H :=
  o z H M J Ext.refl hr ok
theorem rangeSize_up {i j c : Int} (hc : 0 < c) : Builtin.Range.rangeSize i j c = (((j - i + c - 1) / c).toNat : Nat) := by
  unfold Builtin.Range.rangeSize
  simp only [hc, if_true]
  by_cases h : i < j
  · rw [if_pos h]
    have e : (j - i + c - 1) / c = (j - i - 1) / c + 1 := by
      have : j - i + c - 1 = (j - i - 1) + 1 * c := by omega
      rw [this, Int.add_mul_ediv_right _ _ (by omega)]
    have h0 : 0 ≤ (j - i - 1) / c := Int.ediv_nonneg (by omega) (by omega)
    omega
  · rw [if_neg h]
    have : (j - i + c - 1) / c ≤ 0 := by
      have h1 : j - i + c - 1 < c := by omega
      have := Int.ediv_lt_of_lt_mul (c := c) (a := j - i + c - 1) (b := 1) hc (by omega)
      omega
    omega
theorem small_up {i j c : Int} (hi : smallR i = true) (hj : smallR j = true) (hc : 0 < c) (hc2 : c < 1000) (hs : (j - i).toNat ≤ big) : Builtin.Range.small i j c = true := by
  have h1 := smallR_ok hi
  have h2 := smallR_ok hj
  have hz : (((j - i + c - 1) / c).toNat : Int) ≤ 16777216 + 1000 ∧ (0 : Int) ≤ ((j - i + c - 1) / c).toNat := by
    refine ⟨?_, by omega⟩
    have : (j - i + c - 1) / c ≤ (16777216 + 1000 : Int) := by
      have h3 : j - i + c - 1 ≤ 16777216 + 1000 := by
        have : (j - i).toNat ≤ 16777216 := hs
        omega
      by_cases hn : 0 ≤ j - i + c - 1
      · exact Int.le_trans (Int.ediv_le_self _ hn) h3
      · have := Int.ediv_neg_of_neg_of_pos (a := j - i + c - 1) (b := c) (by omega) hc
        omega
    omega
  unfold Builtin.Range.small
  rw [rangeSize_up hc]
  generalize (((j - i + c - 1) / c).toNat : Int) = z at hz
  simp only [Builtin.Range.rangeFitsLong, Bool.and_eq_true, Bool.or_eq_true, decide_eq_true_eq, beq_iff_eq, show (c > 0) = True from eq_true hc, if_true]
  omega
theorem toE_star (e : ME) (e0 : Expr) (es : List Expr) (env : PySem.Env) : starEach (toE e e0 :: es) env = (false, eval (toE e e0) env) :: starEach es env := by
  cases e <;> rw [toE] <;> rfl
theorem toEs_star : ∀ (es : MEs) (l : List Expr) (pos : Pos) (env : PySem.Env), (backTo pos (starEach (toEs es l) env)).any (·.1) = false
  | .nil, l, pos, env => by rw [toEs]; rfl
  | .cons e r, l, pos, env => by
    rw [toEs, toE_star]
    have := toEs_star r l.tail pos env
    unfold backTo at this ⊢
    rw [List.map_cons, List.any_cons, this]
    rfl
theorem toEs_len : ∀ (es : MEs) (l : List Expr), (toEs es l).length = mesLen es
  | .nil, l => by rw [toEs]; rfl
  | .cons e r, l => by rw [toEs, List.length_cons, toEs_len r, mesLen]
theorem pi_rng (c : Cok X S P F C W) {tg : Expr} {es : MEs} {l : List Expr} {pf pos : Pos} (hl : mesLen es ≤ 3) (h0 : 0 < mesLen es) (hb : isBi S "range" = true) {f : SemA} (hlen : ∀ env h xs h', f env h = .ok xs h' → xs.length = mesLen es)
    (ha : PA X (toEs es l) (RdA C W f)) :
    PI X tg (.Call (.Name "range" pf) (toEs es l) [] pos) (RdI C W fun env h => (f env h).bind fun xs h1 => (ofOpt (rangeOf xs) h1).bind fun ys h2 => .ok ⟨ys, []⟩ h2) := by
  obtain ⟨g, m, _, _⟩ := c.bi hb
  have go : ∀ {σ : L2.St} {H : Hp} {R : It → Hp → Prop} {T : List V → Hp → Prop}, RdI C W (fun env h => (f env h).bind fun xs h1 => (ofOpt (rangeOf xs) h1).bind fun ys h2 => .ok ⟨ys, []⟩ h2) σ H R →
      (∀ (vs : List V) (H1 : Hp) (M1 : List Addr) (xs ys : List PV), RVs C.K M1 H1 xs vs → xs.length = mesLen es → rangeOf xs = some ys → (∀ J, ys.length ≤ sizeLine → (∀ (M : List Addr) (H : Hp), ItOk C M H ⟨ys, []⟩ J) → R J H1) → T vs H1) → RdA C W f σ H T := fun {σ H R T} o k => by
    obtain ⟨M, h, env, hr, er, o⟩ := o
    refine ⟨M, h, env, hr, er, ?_⟩
    dsimp only at o
    cases ef : f env h with
    | ok xs h1 =>
      rw [ef] at o
      intro vs H1 M1 x1 hr1 rv
      have o := o.shift x1
      cases e : rangeOf xs with
      | none => rw [Res.bind_ok, e] at o; exact o.elim
      | some ys =>
        rw [Res.bind_ok, e] at o
        exact k vs H1 M1 xs ys rv (hlen _ _ _ _ ef) e fun J z ok => o z H1 M1 J Ext.refl hr1 (ok _ _)
    | exn x h1 => rw [ef] at o; exact o
    | stuck => rw [ef] at o; exact o
  match es, h0, hl with
  | .cons a .nil, _, _ =>
    rw [toEs, toEs] at ha ⊢
    refine pi_weak (pi_range1 g m ha (by rw [toE_star]; rfl)) fun σ H R o => go o fun vs H1 M1 xs ys rv hx e k => ?_
    match xs, hx with
    | [x], _ =>
      obtain ⟨v, rfl, r⟩ := rvs1 rv
      unfold rangeOf at e
      split at e
      · rename_i j ex
        cases ex
        split at e
        · rename_i cc
          cases e
          rw [Bool.and_eq_true] at cc
          have := rv_int r; subst this
          have hs := smallR_ok cc.1
          exact ⟨j, rfl, hs.1, hs.2, k _ (by rw [len_rngI, ← big_line]; exact of_decide_eq_true cc.2) fun _ _ => itok_rng⟩
        · cases e
      · rename_i ex; cases ex
      · rename_i ex; cases ex
      · cases e
  | .cons a (.cons b .nil), _, _ =>
    rw [toEs, toEs, toEs] at ha ⊢
    refine pi_weak (pi_range2 g m ha (by rw [toE_star, toE_star]; rfl) (by rw [toE_star]; rfl)) fun σ H R o => go o fun vs H1 M1 xs ys rv hx e k => ?_
    match xs, hx with
    | [x, y], _ =>
      obtain ⟨v, w, rfl, r, r'⟩ := rvs2 rv
      unfold rangeOf at e
      split at e
      · rename_i ex; cases ex
      · rename_i i j ex
        cases ex
        split at e
        · rename_i cc
          cases e
          rw [Bool.and_eq_true, Bool.and_eq_true] at cc
          have := rv_int r; subst this
          have := rv_int r'; subst this
          have h1 := smallR_ok cc.1.1
          have h2 := smallR_ok cc.1.2
          exact ⟨i, j, rfl, ⟨h1.1, h1.2, h2.1, h2.2⟩, k _ (by rw [len_rngI, ← big_line]; exact of_decide_eq_true cc.2) fun _ _ => itok_rng⟩
        · cases e
      · rename_i ex; cases ex
      · cases e
  | .cons a (.cons b (.cons d .nil)), _, _ =>
    rw [toEs, toEs, toEs, toEs] at ha ⊢
    refine pi_weak (pi_range3 g m ha (by rw [toE_star]) (by rw [toE_star, toE_star]; rfl)) fun σ H R o => go o fun vs H1 M1 xs ys rv hx e k => ?_
    match xs, hx with
    | [x, y, z], _ =>
      rw [RVs] at rv
      obtain ⟨v, vr, rfl, r, rv⟩ := rv
      obtain ⟨w, u, rfl, r', r''⟩ := rvs2 rv
      unfold rangeOf at e
      split at e
      · rename_i ex; cases ex
      · rename_i ex; cases ex
      · rename_i i j cc ex
        cases ex
        have := rv_int r; subst this
        have := rv_int r'; subst this
        have := rv_int r''; subst this
        split at e
        · rename_i q
          cases e
          rw [Bool.and_eq_true, Bool.and_eq_true, Bool.and_eq_true, Bool.and_eq_true] at q
          have c1 : 0 < cc := of_decide_eq_true q.1.1.2
          have c2 : cc < 1000 := of_decide_eq_true q.1.2
          have c3 : (j - i).toNat ≤ big := of_decide_eq_true q.2
          refine ⟨i, j, cc, _, rfl, ⟨by omega, by omega, small_up q.1.1.1.1 q.1.1.1.2 c1 c2 c3, rangeSize_up c1⟩, k _ ?_ fun _ _ => itok_rngC⟩
          rw [show (rngC i cc ((j - i + cc - 1) / cc).toNat).length = ((j - i + cc - 1) / cc).toNat by simp [rngC], sizeLine_eq]
          have c3' : (j - i).toNat ≤ 16777216 := c3
          by_cases hn : 0 < j - i
          · have : (j - i + cc - 1) / cc ≤ j - i := by
              have e1 : j - i + cc - 1 = (j - i - 1) + 1 * cc := by omega
              rw [e1, Int.add_mul_ediv_right _ _ (by omega)]
              have := Int.ediv_le_self (a := j - i - 1) cc (by omega)
              omega
            omega
          · have : (j - i + cc - 1) / cc ≤ 0 := by
              have := Int.ediv_lt_of_lt_mul (c := cc) (a := j - i + cc - 1) (b := 1) c1 (by omega)
              omega
            omega
        · split at e
          · rename_i q
            cases e
            rw [Bool.and_eq_true, Bool.and_eq_true, Bool.and_eq_true] at q
            have h1 := smallR_ok q.1.1.1
            have h2 := smallR_ok q.1.1.2
            have c1 : cc = -1 := of_decide_eq_true q.1.2
            have c3 : (i - j).toNat ≤ big := of_decide_eq_true q.2
            subst c1
            refine ⟨i, j, -1, _, rfl, RgC.neg h1.1 h1.2 h2.1 h2.2, k _ ?_ fun _ _ => itok_rngC⟩
            rw [show (rngC i (-1) (i - j).toNat).length = (i - j).toNat by simp [rngC], ← big_line]
            exact c3
          · cases e
      · cases e
  | .nil, h0, _ => exact absurd h0 (by simp [mesLen])
  | .cons _ (.cons _ (.cons _ (.cons _ _))), _, hl => simp [mesLen] at hl
/-! ### comprehensions -/
theorem wipe_erel {K : KZ} {M : List Addr} {H : Hp} {σ : L2.St} {env : Env} (r : ERel K M H σ env) : ∀ own : List Nat, ERel K M H (wipe σ own) (wipeE env own)
  | [] => r
  | v :: vs => by
    have h := wipe_erel r vs
    rw [wipe, wipeE]
    refine ⟨by simp [h.1], fun i p e => ?_⟩
    by_cases hv : v = i
    · subst hv
      by_cases hl : v < (wipeE env vs).length
      · rw [List.getElem?_set_self hl] at e; cases e
      · rw [List.getElem?_eq_none (by simpa using hl)] at e; cases e
    · rw [List.getElem?_set_ne hv] at e
      obtain ⟨w, e1, r1⟩ := h.2 i p e
      exact ⟨w, by rw [List.getElem?_set_ne hv]; exact e1, r1⟩
theorem wipe_get {σ : L2.St} : ∀ (own : List Nat) (i : Nat), (wipe σ own)[i]? = if i ∈ own then (if i < σ.length then some none else none) else σ[i]?
  | [], i => by simp [wipe]
  | v :: vs, i => by
    rw [wipe]
    by_cases hv : v = i
    · subst hv
      simp only [List.mem_cons, true_or, if_true]
      by_cases hl : v < σ.length
      · rw [List.getElem?_set_self (by rw [wipe_length]; exact hl), if_pos hl]
      · rw [if_neg hl, List.getElem?_eq_none (by rw [List.length_set, wipe_length]; omega)]
    · rw [List.getElem?_set_ne hv, wipe_get vs i]
      have : i ∈ v :: vs ↔ i ∈ vs := by simp [Ne.symm hv]
      simp only [this]
theorem wipe_wipe {σ σ2 : L2.St} {own : List Nat} (h : ∀ i, i ∉ own → σ2[i]? = σ[i]?) (hl : σ2.length = σ.length) : wipe σ2 own = wipe σ own := by
  apply List.ext_getElem?
  intro i
  rw [wipe_get, wipe_get, hl]
  by_cases c : i ∈ own
  · rw [if_pos c, if_pos c]
  · rw [if_neg c, if_neg c, h i c]
mutual
/-- a target changes its own slots alone -/
theorem gT_own {K : PySem.W.Frag} {Q : L2.St → Hp → Prop} {own : List Nat} : ∀ {t : MT} {v : V} {σ : L2.St} {H : Hp}, tgIn t own = true → gT K t v σ H Q → gT K t v σ H (fun σ2 H2 => ((∀ i, i ∉ own → σ2[i]? = σ[i]?) ∧ σ2.length = σ.length) ∧ Q σ2 H2)
  | .nm i, v, σ, H, h, g => by
    rw [gT] at g ⊢
    have hi : i ∈ own := by
      rw [tgIn] at h
      exact List.contains_iff_mem.mp h
    refine ⟨⟨fun j hj => ?_, by simp⟩, g⟩
    rw [List.getElem?_set_ne]
    intro e
    exact hj (e ▸ hi)
  | .tp ts, v, σ, H, h, g => by
    rw [gT] at g ⊢
    rw [tgIn] at h
    obtain ⟨a, xs, e, q, l, g⟩ := g
    exact ⟨a, xs, e, q, l, gTs_own h g⟩
theorem gTs_own {K : PySem.W.Frag} {Q : L2.St → Hp → Prop} {own : List Nat} : ∀ {ts : MTs} {vs : List V} {σ : L2.St} {H : Hp}, tgsIn ts own = true → gTs K ts vs σ H Q → gTs K ts vs σ H (fun σ2 H2 => ((∀ i, i ∉ own → σ2[i]? = σ[i]?) ∧ σ2.length = σ.length) ∧ Q σ2 H2)
  | .nil, vs, σ, H, h, g => by
    rw [gTs] at g ⊢
    exact ⟨g.1, ⟨fun _ _ => rfl, rfl⟩, g.2⟩
  | .cons t r, vs, σ, H, h, g => by
    rw [gTs] at g ⊢
    rw [tgsIn, Bool.and_eq_true] at h
    obtain ⟨v, vr, e, g⟩ := g
    refine ⟨v, vr, e, ?_⟩
    have g1 := gT_own h.1 g
    refine gT_mono g1 fun σ1 H1 ⟨⟨k1, l1⟩, g2⟩ => ?_
    refine gTs_mono (gTs_own h.2 g2) fun σ2 H2 ⟨⟨k2, l2⟩, q⟩ => ⟨⟨fun i hi => (k2 i hi).trans (k1 i hi), l2.trans l1⟩, q⟩
theorem gT_mono {K : PySem.W.Frag} {Q Q' : L2.St → Hp → Prop} : ∀ {t : MT} {v : V} {σ : L2.St} {H : Hp}, gT K t v σ H Q → (∀ σ H, Q σ H → Q' σ H) → gT K t v σ H Q'
  | .nm i, v, σ, H, g, k => by rw [gT] at g ⊢; exact k _ _ g
  | .tp ts, v, σ, H, g, k => by
    rw [gT] at g ⊢
    obtain ⟨a, xs, e, q, l, g⟩ := g
    exact ⟨a, xs, e, q, l, gTs_mono g k⟩
theorem gTs_mono {K : PySem.W.Frag} {Q Q' : L2.St → Hp → Prop} : ∀ {ts : MTs} {vs : List V} {σ : L2.St} {H : Hp}, gTs K ts vs σ H Q → (∀ σ H, Q σ H → Q' σ H) → gTs K ts vs σ H Q'
  | .nil, vs, σ, H, g, k => by rw [gTs] at g ⊢; exact ⟨g.1, k _ _ g.2⟩
  | .cons t r, vs, σ, H, g, k => by
    rw [gTs] at g ⊢
    obtain ⟨v, vr, e, g⟩ := g
    exact ⟨v, vr, e, gT_mono g fun σ1 H1 g1 => gTs_mono g1 k⟩
end
/-- no exception in a block -/
abbrev W0 : WX := fun _ _ _ _ => False
/-- the readings, whatever is hidden -/
def RdEz (C : XC) (W : WX) (f : Sem1) : TE := fun σ H Q => ∃ z, RdE (C.zz z) W f σ H Q
def RdTz (C : XC) (W : WX) (f : Env → MHp → Res Bool) : TT := fun σ H Q => ∃ z, RdT (C.zz z) W f σ H Q
theorem ownP_snd (S : Sc) (own : List Nat) : (ownP S own).map (·.2) = own := by
  unfold ownP
  rw [List.map_map]
  exact List.map_id own
theorem lc_ok {fe : Sem1} {ft : Env → MHp → Res Bool} {fi : Env → MHp → Res Wk} {tg : MT} {own : List Nat} (hin : tgIn tg own = true) {σ : L2.St} {H : Hp} {Q : VK}
    (o : RdE C W (fun env h => (fi env h).bind fun r h1 => match loopC fe ft tg r.src r.items (wipeE env own) h1 with | .ok ys h2 => .ok (.lst ys) h2 | _ => .stuck) σ H Q) :
    tLc (RdI C W fi) (gT C.K.f tg) (RdTz C W0 ft) (RdEz C W0 fe) own σ H Q := by
  obtain ⟨M, h, env, hr, er, o⟩ := o
  refine ⟨M, h, env, hr, er, ?_⟩
  dsimp only at o
  cases ef : fi env h with
  | stuck => rw [ef] at o; exact o
  | exn x h1 => rw [ef] at o; exact o
  | ok it h1 =>
    rw [ef] at o
    intro hz H1 M1 J x1 hr1 ok D hD
    have er1 := er.ext x1
    have o := o.shift x1
    rw [Res.bind_ok] at o
    cases eL : loopC fe ft tg it.src it.items (wipeE env own) h1 with
    | stuck => rw [eL] at o; exact o.elim
    | exn x h2 => rw [eL] at o; exact o.elim
    | ok ys hend =>
      rw [eL] at o
      -- D hidden
      have hd : D ∈ (C.K.hide D).z := List.mem_cons_self
      have w1 : ERel (C.K.hide D) M1 (upd H1 D (.lst [])) (wipe σ own) (wipeE env own) := (wipe_erel er1 own).hide hD
      refine ⟨fun i m H' => i ≤ it.items.length ∧ m = it.items.length - i ∧ ∃ (M' : List Addr) (h' : MHp) (acc : List V) (yacc rest : List PV), Ext M1 H1 M' H' ∧ HRel (C.K.hide D) M' H' h' ∧ ERel (C.K.hide D) M' H' (wipe σ own) (wipeE env own) ∧ H' D = some (.lst acc) ∧ acc.length ≤ i ∧
        RVs (C.K.hide D) M' H' yacc acc ∧ ys = yacc ++ rest ∧ loopC fe ft tg it.src (it.items.drop i) (wipeE env own) h' = .ok rest hend,
        ⟨it.items.length, Nat.zero_le _, rfl, M1, h1, [], [], ys, Ext.laid hD, hr1.hide hD, w1, upd_same, Nat.le_refl _, .nil, rfl, by simpa using eL⟩, ?_⟩
      rintro i m H' ⟨hi, rfl, M', h', acc, yacc, rest, xE, hr', w', eD, la, racc, ey, eLL⟩
      by_cases hlt : i < it.items.length
      · -- a turn
        refine .inr ?_
        have ei : it.items[i]? = some it.items[i] := List.getElem?_eq_getElem hlt
        have ed : it.items.drop i = it.items[i] :: it.items.drop (i + 1) := List.drop_eq_getElem_cons hlt
        rw [ed, loopC] at eLL
        split at eLL
        · rename_i src
          have hzz : ∀ a ∈ (C.K.hide D).z, a ∈ C.K.z ∨ H1 a = none := fun a ha => by
            rcases List.mem_cons.mp ha with rfl | ha
            · exact .inr hD
            · exact .inl ha
          obtain ⟨go, yld⟩ := (ok _ hzz M' H' h' xE hr' src i).1 _ ei
          refine ⟨go, fun H'' => i + 1 ≤ it.items.length ∧ ∃ (M' : List Addr) (h' : MHp) (acc : List V) (yacc rest : List PV), Ext M1 H1 M' H'' ∧ HRel (C.K.hide D) M' H'' h' ∧ ERel (C.K.hide D) M' H'' (wipe σ own) (wipeE env own) ∧ H'' D = some (.lst acc) ∧ acc.length ≤ i + 1 ∧
            RVs (C.K.hide D) M' H'' yacc acc ∧ ys = yacc ++ rest ∧ loopC fe ft tg it.src (it.items.drop (i + 1)) (wipeE env own) h' = .ok rest hend,
            fun H'' ⟨l, z⟩ => ⟨it.items.length - (i + 1), by omega, l, rfl, z⟩, fun v Hy hy => ?_⟩
          obtain ⟨xy, hry, rvy⟩ := yld v Hy hy
          have nD : D ∉ M' := (hr'.zs D hd).1
          have eDy := xy.keep D _ nD eD
          have erw := w'.ext xy
          split at eLL
          · cases eLL
          · rename_i env' ea
            refine gT_mono (gT_own hin (gT_ok (C := C.zz (C.K.hide D).z) (Q := fun σ2 H2 => ERel (C.K.hide D) M' Hy σ2 env' ∧ H2 = Hy) erw rvy ea fun σ' er' => ⟨er', rfl⟩)) fun σ2 H2 ⟨⟨k1, k2⟩, er2, eH⟩ => ?_
            subst eH
            refine ⟨?_, ?_⟩
            · rw [wipe_wipe k1 k2]
              refine wipe_wipe (fun i hi => ?_) (wipe_length _ _)
              rw [wipe_get, if_neg hi]
            · refine ⟨(C.K.hide D).z, M', h', env', hry, er2, ?_⟩
              cases et : ft env' h' with
              | stuck => rw [et] at eLL; cases eLL
              | exn x h2 => rw [et] at eLL; cases eLL
              | ok b h2 =>
                rw [et, Res.bind_ok] at eLL
                intro H3 M3 x3 hr3
                have eD3 := x3.keep D _ nD eDy
                have nD3 := x3.out nD eDy
                have hr3 : HRel (C.K.hide D) M3 H3 h2 := hr3
                cases b with
                | false =>
                  simp only [Bool.false_eq_true, if_false] at eLL ⊢
                  exact ⟨hlt, M3, h2, acc, yacc, rest, (xE.trans xy).trans x3, hr3, erw.ext x3, eD3, by omega, (racc.ext xy).ext x3, ey, eLL⟩
                | true =>
                  simp only [if_true] at eLL ⊢
                  refine ⟨(C.K.hide D).z, M3, h2, env', hr3, er2.ext x3, ?_⟩
                  cases ee : fe env' h2 with
                  | stuck => rw [ee] at eLL; cases eLL
                  | exn x h3 => rw [ee] at eLL; cases eLL
                  | ok y h3 =>
                    rw [ee, Res.bind_ok] at eLL
                    intro w H4 M4 x4 hr4 rv4
                    have hr4 : HRel (C.K.hide D) M4 H4 h3 := hr4
                    have rv4 : RV (C.K.hide D) M4 H4 y w := rv4
                    have eD4 := x4.keep D _ nD3 eD3
                    have nD4 := x4.out nD3 eD3
                    cases er_ : loopC fe ft tg it.src (it.items.drop (i + 1)) (wipeE env own) h3 with
                    | stuck => rw [er_] at eLL; cases eLL
                    | exn x h5 => rw [er_] at eLL; cases eLL
                    | ok rest' h5 =>
                      rw [er_, Res.bind_ok] at eLL
                      injection eLL with e1 e2
                      subst e1 e2
                      have x5 : Ext M1 H1 M4 H4 := ((xE.trans xy).trans x3).trans x4
                      have x6 : Ext M1 H1 M4 (upd H4 D (.lst (acc ++ [w]))) := ⟨x5.pre, fun a o n e => by
                        have c : a ≠ D := fun z => by rw [z, hD] at e; cases e
                        rw [upd_ne c]; exact x5.keep a o n e, x5.new⟩
                      refine ⟨acc, eD4, by omega, hlt, M4, h3, acc ++ [w], yacc ++ [y], rest', x6, hr4.hwr hd, ((erw.ext x3).ext x4).hwr hd, upd_same, by simp; omega, ?_, by rw [ey, List.append_assoc]; rfl, er_⟩
                      exact ((((racc.ext xy).ext x3).ext x4).append (.one rv4)).hwr hd
        · cases eLL
      · have e : i = it.items.length := by omega
        subst e
        rw [List.drop_length, loopC] at eLL
        split at eLL
        · rename_i src
          injection eLL with e1 e2
          subst e1 e2
          refine .inl ⟨(ok C.K.z (fun a ha => .inl ha) M' H' h' xE hr'.unhide src _).2 (Nat.le_refl _), ?_⟩
          rw [List.append_nil] at ey
          subst ey
          refine o (.ref D) H' M' xE hr'.unhide ?_
          rw [RV]
          exact ⟨D, acc, rfl, by omega, ⟨(hr'.zs D hd).1, fun z => (hr1.zs D z).2 hD⟩, eD, racc.unhide⟩
        · cases eLL
end
end Qm

/-! S8: an expression does what its evaluation says. -/
namespace Qm
open PySem PySem.Spec PyProof.Rows L2
section
variable {X : Cx} {S : Sc} {P : Prog} {F : Fn} {C : XC} {W : WX}
theorem pe_z {e : Expr} {f : Sem1} (h : ∀ z, PE X e (RdE (C.zz z) W f)) : PE X e (RdEz C W f) := ⟨fun pins s σ H Q I ⟨z, o⟩ => (h z).run pins s σ H Q I o⟩
theorem pts_z {l : List Expr} {f : Env → MHp → Res Bool} (h : ∀ z, PTs X l (RdT (C.zz z) W f)) : PTs X l (RdTz C W f) := ⟨fun pins s σ H Q I ⟨z, o⟩ => (h z).run pins s σ H Q I o⟩
theorem pts_weak {l : List Expr} {t t' : TT} (a : PTs X l t) (w : ∀ σ H Q, t' σ H Q → t σ H Q) : PTs X l t' := ⟨fun pins s σ H Q I q => a.run pins s σ H Q I (w σ H Q q)⟩
theorem po_weak {l : Option Expr} {t t' : TO} (a : PO X l t) (w : ∀ σ H Q, t' σ H Q → t σ H Q) : PO X l t' := ⟨fun pins s σ H Q I q => a.run pins s σ H Q I (w σ H Q q)⟩
theorem toE_ix (b : ME) (e0 : Expr) : PlainIx (toE b e0) := by
  intro o i
  cases b <;> rw [toE] <;> rfl
theorem toE_marks (o : CO) (b : ME) (e0 : Expr) : behindInMarks (cmpO o) (toE b e0) = false := by
  cases b <;> rw [toE] <;> rfl
theorem toE_last (o p : CO) (b c : ME) (e0 e1 : Expr) : lastMarks [cmpO o, cmpO p] [toE b e0, toE c e1] = false := by
  show behindInMarks (cmpO p) (toE c e1) = false
  exact toE_marks p c e1
theorem toE_folded (e : ME) (e0 : Expr) (env : PySem.Env) (x : Value) : foldedSetIterable (toE e e0) env x = pure x := by
  cases e <;> rw [toE] <;> rfl
theorem toI_folded (i : MI) (e0 : Expr) (env : PySem.Env) (x : Value) : foldedSetIterable (toI i e0) env x = pure x := by
  cases i <;> rw [toI]
  · exact toE_folded _ _ _ _
  all_goals rfl
theorem toE_attr (o : ME) (e0 : Expr) (n : Str) (env : PySem.Env) (ho : ∀ f es, o = .call f es → 0 < mesLen es) (ho2 : ∀ f es, o = .bif f es → 0 < mesLen es) (ho3 : ∀ f m es, o = .bil f m es → 0 < mesLen es) :
    attributeBase (toE o e0) n env (eval (toE o e0) env) = eval (toE o e0) env := by
  cases o with
  | call f es =>
    have := ho f es rfl
    cases es with
    | nil => simp [mesLen] at this
    | cons e r => rw [toE, toEs]; rfl
  | «bif» f es =>
    have := ho2 f es rfl
    cases es with
    | nil => simp [mesLen] at this
    | cons e r => rw [toE, toEs]; rfl
  | bil f m es =>
    have := ho3 f m es rfl
    cases es with
    | nil => simp [mesLen] at this
    | cons e r => rw [toE, toEs]; rfl
  | _ => rw [toE] <;> rfl
/-- the readings of the optional parts of a slice -/
def OutO (C : XC) (E : XK) (Q : Option Int → Hp → Prop) (M : List Addr) (H : Hp) (r : Res (Option Int)) : Prop :=
  match r with
  | .ok p h' => ∀ H' M', Ext M H M' H' → HRel C.K M' H' h' → Q p H'
  | .exn x h' => ∀ cls d H' M', Ext M H M' H' → HRel C.K M' H' h' → XRel C M' H' x cls d → E cls d H'
  | .stuck => False
def RdO (C : XC) (W : WX) (f : Env → MHp → Res (Option Int)) : TO := fun σ H Q => ∃ M h env, HRel C.K M H h ∧ ERel C.K M H σ env ∧ OutO C (WE W σ) Q M H (f env h)
theorem RdO.go {σ : L2.St} {M : List Addr} {H : Hp} {h : MHp} {env : Env} {f : Env → MHp → Res (Option Int)} {g : Option Int → MHp → Res PV} {Q : VK} {R : Option Int → Hp → Prop} (hr : HRel C.K M H h) (er : ERel C.K M H σ env) (o : Out C (WE W σ) Q M H ((f env h).bind g))
    (k : ∀ v H1 M1 h1, Ext M H M1 H1 → HRel C.K M1 H1 h1 → ERel C.K M1 H1 σ env → Out C (WE W σ) Q M1 H1 (g v h1) → R v H1) : RdO C W f σ H R := by
  refine ⟨M, h, env, hr, er, ?_⟩
  cases e : f env h with
  | ok p h1 =>
    rw [e] at o
    exact fun H1 M1 x hr1 => k p H1 M1 h1 x hr1 (er.ext x) (o.shift x)
  | exn x h1 => rw [e] at o; exact o
  | stuck => rw [e] at o; exact o.elim
/-- a test first, then the rest -/
theorem RdT.go {σ : L2.St} {M : List Addr} {H : Hp} {h : MHp} {env : Env} {f : Sem1} {g : Bool → MHp → Res PV} {Q : VK} {R : Bool → Hp → Prop} (hr : HRel C.K M H h) (er : ERel C.K M H σ env)
    (o : Out C (WE W σ) Q M H ((f env h).bind fun x h1 => (ofOpt (truth x h1) h1).bind g))
    (k : ∀ v H1 M1 h1, Ext M H M1 H1 → HRel C.K M1 H1 h1 → ERel C.K M1 H1 σ env → Out C (WE W σ) Q M1 H1 (g v h1) → R v H1) : RdT C W (tst f) σ H R := by
  refine ⟨M, h, env, hr, er, ?_⟩
  unfold tst
  cases e : f env h with
  | ok p h1 =>
    rw [e, Res.bind_ok] at o
    rw [Res.bind_ok]
    cases et : truth p h1 with
    | none => rw [et] at o; exact o.elim
    | some b =>
      rw [et] at o
      exact fun H1 M1 x hr1 => k b H1 M1 h1 x hr1 (er.ext x) (o.shift x)
  | exn x h1 => rw [e] at o; exact o
  | stuck => rw [e] at o; exact o.elim
theorem RdT.goB {σ : L2.St} {M : List Addr} {H : Hp} {h : MHp} {env : Env} {f : Sem1} {g : Bool → MHp → Res Bool} {Q : Bool → Hp → Prop} {R : Bool → Hp → Prop} (hr : HRel C.K M H h) (er : ERel C.K M H σ env)
    (o : OutB C (WE W σ) Q M H ((f env h).bind fun x h1 => (ofOpt (truth x h1) h1).bind g))
    (k : ∀ v H1 M1 h1, Ext M H M1 H1 → HRel C.K M1 H1 h1 → ERel C.K M1 H1 σ env → OutB C (WE W σ) Q M1 H1 (g v h1) → R v H1) : RdT C W (tst f) σ H R := by
  refine ⟨M, h, env, hr, er, ?_⟩
  unfold tst
  cases e : f env h with
  | ok p h1 =>
    rw [e, Res.bind_ok] at o
    rw [Res.bind_ok]
    cases et : truth p h1 with
    | none => rw [et] at o; exact o.elim
    | some b =>
      rw [et] at o
      exact fun H1 M1 x hr1 => k b H1 M1 h1 x hr1 (er.ext x) (o.shift x)
  | exn x h1 => rw [e] at o; exact o
  | stuck => rw [e] at o; exact o.elim
/-- a bool op as a test -/
theorem tst_bl {f : Sem1} {g : Env → MHp → Res Bool} (h : ∀ env hp, f env hp = (g env hp).bind fun b h1 => .ok (.bl b) h1) : tst f = g := by
  funext env hp
  unfold tst
  rw [h]
  cases g env hp <;> rfl
/-! ### parts of the cases -/
theorem two_b {fa fb : Sem1} {o : CO} {σ : L2.St} {H : Hp} {Q : VK} (q : RdE C W (fun env h => (fa env h).bind fun x h1 => (fb env h1).bind fun y h2 => (ofOpt (cop o x y h2) h2).bind fun k h3 => .ok (.bl k) h3) σ H Q) :
    tOp (r2 C (copV o)) (RdE C W fa) (RdE C W fb) σ H Q := by
  refine two ?_
  have e : (fun env h => (fa env h).bind fun x h1 => (fb env h1).bind fun y h2 => (ofOpt (cop o x y h2) h2).bind fun k h3 => Res.ok (PV.bl k) h3) =
      fun env h => (fa env h).bind fun x h1 => (fb env h1).bind fun y h2 => ofOpt (copV o x y h2) h2 := by
    funext env h
    congr 1
    funext x h1
    congr 1
    funext y h2
    unfold copV
    cases cop o x y h2 <;> rfl
  rw [← e]
  exact q
theorem bopL_ok (hK : X.K = C.K.f) {o : BO} (ho : o = .add ∨ o = .mul) : OpR X (binaryOp (oper o)) (fun x y H Q => ∃ M h p q ys, HRel C.K M H h ∧ RV C.K M H p x ∧ RV C.K M H q y ∧ bopL o p q h = some ys ∧
    ∀ a ws, H a = none → ws.length ≤ sizeLine → RVs C.K M H ys ws → Q (.ref a) (upd H a (.lst ws))) := by
  intro pins s σ H x y v u Q I rx ry q
  obtain ⟨M, h, p, q', z, hr, rp, rq, e, k⟩ := q
  rcases ho with rfl | rfl
  · unfold bopL at e
    simp only at e
    split at e
    · rename_i a b ha hb
      split at e
      · rename_i c
        cases e
        obtain ⟨l, vs, rfl, _, hl, rvs⟩ := itemsL_ok hr rp ha
        obtain ⟨l2, ws, rfl, _, hl2, rws⟩ := itemsL_ok hr rq hb
        have c' : vs.length + ws.length ≤ sizeLine := by rw [rvs.len, rws.len, ← big_eq]; exact of_decide_eq_true c
        exact op_cat pins s σ H _ _ v u Q I rx ry ⟨l, l2, vs, ws, rfl, rfl, hl, hl2, c', fun p hp => k p _ hp (by rw [List.length_append]; exact c') (rvs.append rws)⟩
      · cases e
    · cases e
  · unfold bopL at e
    simp only at e
    split at e
    · rename_i a j ha
      split at e
      · rename_i c
        cases e
        rw [Bool.and_eq_true] at c
        obtain ⟨l, vs, rfl, _, hl, rvs⟩ := itemsL_ok hr rp ha
        have ey := rv_int rq
        subst ey
        have c' : vs.length * j.toNat ≤ sizeLine := by rw [rvs.len, ← big_eq]; exact of_decide_eq_true c.2
        have sj' := smallR_ok c.1
        exact op_rep pins s σ H _ _ v u Q I rx ry ⟨l, j, vs, rfl, rfl, hl, by omega, by omega, c', fun p hp => k p _ hp (by rw [PyProof.Rows.lm_len_rep_flat, Nat.mul_comm]; exact c') (rvs.rep _)⟩
      · cases e
    · cases e
end
/-! ### methods -/
def mtI : Mt → String
  | .append => "list.append" | .extend => "list.extend" | .pop => "list.pop" | .popAt => "list.pop" | .index => "list.index" | _ => ""
section
variable {X : Cx} {C : XC}
def rM (C : XC) (m : Mt) : V → List V → Hp → VK → Prop := fun x vs H Q => ∃ M h p xs z h', HRel C.K M H h ∧ RV C.K M H p x ∧ RVs C.K M H xs vs ∧ mth m p xs h = some (z, h') ∧
  ∀ v H' M', Ext M H M' H' → HRel C.K M' H' h' → RV C.K M' H' z v → Q v H'
theorem find_ok {x : PV} (fx : flatD x = true) : ∀ {xs : List PV} {n k : Nat}, xs.all flatD = true → findP x xs n = some k → ∃ j, k = n + j ∧ ∃ z, (dats xs)[j]? = some z ∧ PyData.eqv z (dat x) = true ∧ ∀ (m : Nat) (z' : PyData), m < j → (dats xs)[m]? = some z' → PyData.eqv z' (dat x) = false
  | [], n, k, _, e => by simp [findP] at e
  | y :: ys, n, k, f, e => by
    rw [List.all_cons, Bool.and_eq_true] at f
    obtain ⟨a, ea, _⟩ := flat_dep fx
    obtain ⟨b, eb, _⟩ := flat_dep f.1
    have epq := peq_eqv eb ea
    rw [findP] at e
    split at e
    · rename_i c
      cases e
      refine ⟨0, rfl, dat y, by simp [dats], by rw [← epq]; exact c, fun m z' hm => by omega⟩
    · rename_i c
      obtain ⟨j, rfl, z, hz, h1, h2⟩ := find_ok fx f.2 e
      refine ⟨j + 1, by omega, z, by simpa [dats] using hz, h1, fun m z' hm hz' => ?_⟩
      cases m with
      | zero =>
        simp [dats] at hz'
        subst hz'
        rw [← epq]
        simpa using c
      | succ m => exact h2 m z' (by omega) (by simpa [dats] using hz')
theorem seqIx {i : Int} {n k : Nat} (e : ixN n i = some k) : seqIndex? i n = some k ∧ k < n ∧ -(n : Int) ≤ i ∧ i < n := by
  have : L2.ixN n i = some k := e
  exact ixN_seq this
theorem rv_ref {M : List Addr} {H : Hp} {n : Nat} {v : V} (r : RV C.K M H (.ref n) v) : ∃ a, v = .ref a ∧ M[n]? = some a := by rw [RV] at r; exact r
/-- a list of the small heap -/
theorem hlst {M : List Addr} {H : Hp} {h : MHp} {n : Nat} {v : V} {xs : List PV} (hr : HRel C.K M H h) (r : RV C.K M H (.ref n) v) (e : h[n]? = some (.lst xs)) :
    ∃ a vs, v = .ref a ∧ M[n]? = some a ∧ H a = some (.lst vs) ∧ vs.length ≤ sizeLine ∧ RVs C.K M H xs vs := by
  obtain ⟨a, rfl, em⟩ := rv_ref r
  obtain ⟨ws, ea, zz, rws⟩ := hr.at_ n a _ em e
  exact ⟨a, ws, rfl, em, ea, zz, rws⟩
theorem mt_any (hK : X.K = C.K.f) (hu : X.A.units + 70 < cLine) {m : Mt} {k : Nat} (hm : mtOk m k = true) : MtR X (mtI m) (rM C m) := by
  intro pins s σ H x vs v us Q I rx rs q
  obtain ⟨M, h, p, xs, z, h', hr, rp, rv, e, kk⟩ := q
  cases m with
  | append =>
    unfold mth at e
    split at e
    any_goals (rename_i hh; cases hh)
    · rename_i y _
      obtain ⟨w, rfl, r⟩ := rvs1 rv
      split at e
      · rename_i n
        split at e
        · rename_i ys eh
          split at e
          · rename_i c
            cases e
            obtain ⟨a, ws, rfl, em, ea, zz, rws⟩ := hlst hr rp eh
            have c' : ws.length < sizeLine := by rw [rws.len, ← big_eq]; exact of_decide_eq_true c
            exact mt_append pins s σ H _ _ v us Q I rx rs ⟨a, ws, w, rfl, rfl, ea, c', kk _ _ M (Ext.chg (List.mem_of_getElem? em)) (hr.chg em ⟨_, rfl, by simp; omega, rws.append (.one r)⟩) rv_n⟩
          · cases e
        · cases e
      · cases e
    · cases e
  | extend =>
    unfold mth at e
    split at e
    any_goals (rename_i hh; cases hh)
    · rename_i y _
      obtain ⟨w, rfl, r⟩ := rvs1 rv
      split at e
      · rename_i n
        split at e
        · rename_i ys eh
          obtain ⟨zs, ez, e⟩ := Option.bind_eq_some_iff.mp e
          split at e
          · rename_i c
            cases e
            obtain ⟨a, ws, rfl, em, ea, zz, rws⟩ := hlst hr rp eh
            obtain ⟨b, us', rfl, _, eb, rus⟩ := itemsL_ok hr r ez
            have c' : ws.length + us'.length ≤ sizeLine := by rw [rws.len, rus.len, ← big_eq]; exact of_decide_eq_true c
            exact mt_extend pins s σ H _ _ v us Q I rx rs ⟨a, b, ws, us', rfl, rfl, ea, eb, c', kk _ _ M (Ext.chg (List.mem_of_getElem? em)) (hr.chg em ⟨_, rfl, by simp; omega, rws.append rus⟩) rv_n⟩
          · cases e
        · cases e
      · cases e
    · cases e
  | pop =>
    unfold mth at e
    split at e
    any_goals (rename_i hh; cases hh)
    · rw [RVs] at rv
      subst rv
      split at e
      · rename_i n
        split at e
        · rename_i ys eh
          obtain ⟨y, ey, e⟩ := Option.map_eq_some_iff.mp e
          cases e
          obtain ⟨a, ws, rfl, em, ea, zz, rws⟩ := hlst hr rp eh
          obtain ⟨w, ew, rw_⟩ := rws.get ey
          have x1 : Ext M H M (upd H a (.lst ws.dropLast)) := Ext.chg (List.mem_of_getElem? em)
          exact mt_pop pins s σ H _ _ v us Q I rx rs ⟨a, ws, w, rfl, rfl, ea, by rw [rws.len]; exact ew, kk _ _ M x1 (hr.chg em ⟨_, rfl, by simp; omega, rws.dropLast⟩) (rw_.ext x1)⟩
        · cases e
      · cases e
    · cases e
  | popAt =>
    unfold mth at e
    split at e
    any_goals (rename_i hh; cases hh)
    · rename_i i
      obtain ⟨w0, rfl, r⟩ := rvs1 rv
      have := rv_int r; subst this
      split at e
      · rename_i n
        split at e
        · rename_i ys eh
          obtain ⟨j, ej, e⟩ := Option.bind_eq_some_iff.mp e
          obtain ⟨y, ey, e⟩ := Option.map_eq_some_iff.mp e
          cases e
          obtain ⟨a, ws, rfl, em, ea, zz, rws⟩ := hlst hr rp eh
          obtain ⟨w, ew, rw_⟩ := rws.get ey
          obtain ⟨s1, s2, s3, s4⟩ := seqIx ej
          rw [sizeLine_eq] at zz
          have zl := rws.len
          have x1 : Ext M H M (upd H a (.lst (ws.eraseIdx j))) := Ext.chg (List.mem_of_getElem? em)
          refine mt_popAt pins s σ H _ _ v us Q I rx rs ⟨a, ws, i, j, w, rfl, rfl, ea, by omega, by omega, by rw [zl]; exact s1, ew, kk _ _ M x1 (hr.chg em ⟨_, rfl, ?_, rws.eraseIdx j⟩) (rw_.ext x1)⟩
          have := len_erase ws j
          rw [sizeLine_eq]
          omega
        · cases e
      · cases e
    · cases e
  | index =>
    unfold mth at e
    split at e
    any_goals (rename_i hh; cases hh)
    · rename_i y
      obtain ⟨w, rfl, r⟩ := rvs1 rv
      obtain ⟨ys, ey, e⟩ := Option.bind_eq_some_iff.mp e
      split at e
      · rename_i c
        obtain ⟨j, ej, e⟩ := Option.map_eq_some_iff.mp e
        cases e
        rw [Bool.and_eq_true] at c
        obtain ⟨c1, c2, nn, en⟩ := canLayAll_of_all c.2
        obtain ⟨n, ex, _⟩ := flat_dep c.1
        obtain ⟨a, ws, rfl, zz, ea, rws⟩ := itemsL_ok hr rp ey
        obtain ⟨j', rfl, z, hz, h1, h2⟩ := find_ok c.1 c.2 ej
        refine mt_indexD (by omega) pins s σ H _ _ v us Q I rx rs ⟨a, w, dat y, dats ys, j', z, rfl, rfl, .lst (SqL.of ea) (by rw [hK]; exact dats_rv en rws), by rw [hK]; exact dat_rv ex r, ?_, flat_shaped c.1, hz, h1, h2, ?_⟩
        · unfold SeqAt.shaped
          simp [PyData.canLay0, PyData.depth, c1]
          omega
        · rw [Nat.zero_add] at kk
          exact kk _ _ M Ext.refl hr rv_i
      · cases e
    · cases e
  | _ => cases hm
end
end Qm

/-! S9: an expression does what its evaluation says: the joining. -/
namespace Qm
open PySem PySem.Spec PyProof.Rows L2
section
variable {X : Cx} {S : Sc} {P : Prog} {F : Fn} {C : XC} {W : WX} {cx : Option MX}
/-- what is open of an evaluation -/
theorem RdE.open {f : Sem1} {σ : L2.St} {H : Hp} {Q : VK} (o : RdE C W f σ H Q) : ∃ M h env, HRel C.K M H h ∧ ERel C.K M H σ env ∧ Out C (WE W σ) Q M H (f env h) := o
theorem pe_var' (c : Cok X S P F C W) {i : Nat} {x : Str} {pos : Pos} (h : S.N[i]? = some x) (v : visO S x = true) :
    PE X (.Name x pos) (RdE C W fun env h => match env[i]? with | some (some v) => .ok v h | _ => .stuck) := by
  obtain ⟨v1, v2, v3⟩ := c.vis v
  refine pe_weak (pe_var (by rw [c.hN]; exact h) v1 v2 v3) fun σ H Q o => ?_
  obtain ⟨M, hp, env, hr, er, o⟩ := o
  dsimp only at o
  cases e : env[i]? with
  | none => rw [e] at o; exact o.elim
  | some q =>
    cases q with
    | none => rw [e] at o; exact o.elim
    | some p =>
      rw [e] at o
      obtain ⟨w, ew, rw_⟩ := er.2 i p e
      exact ⟨w, ew, o w H M Ext.refl hr rw_⟩
theorem pe_cst' {p : PV} {k : Nat} {pos : Pos} (h : conOk p = true) : PE X (.Constant (kOf p) k pos) (RdE C W fun _ h => .ok p h) := by
  have fin : ∀ {v : V} {σ : L2.St} {H : Hp} {Q : VK}, (∀ M, RV C.K M H p v) → RdE C W (fun _ h => .ok p h) σ H Q → tC v σ H Q := fun {v σ H Q} r o => by
    obtain ⟨M, hp, env, hr, er, o⟩ := o
    exact o v H M Ext.refl hr (r M)
  cases p with
  | non => exact pe_weak pe_non fun σ H Q o => fin (fun _ => rv_n) o
  | bl b => exact pe_weak pe_bl fun σ H Q o => fin (fun _ => rv_b) o
  | int i => exact pe_weak pe_int fun σ H Q o => fin (fun _ => rv_i) o
  | str s =>
    refine pe_weak pe_str fun σ H Q o => fin (fun _ => ?_) o
    rw [RV]
    have : s.length ≤ 1000 := of_decide_eq_true h
    exact ⟨rfl, by rw [sizeLine_eq]; omega⟩
  | _ => cases h
theorem pe_glb' (c : Cok X S P F C W) {k : Nat} {x : Str} {pos : Pos} (h : isCon S x k = true) : PE X (.Name x pos) (RdE C W fun _ h => ofOpt (P.con k) h) := by
  obtain ⟨g, d, u, v, p, m, r, e, rv⟩ := c.con h
  refine pe_weak (pe_glob g m r d) fun σ H Q o => ?_
  obtain ⟨M, hp, env, hr, er, o⟩ := o
  rw [e] at o
  exact o v H M Ext.refl hr (rv C.K.z M H)
theorem pe_bin' (c : Cok X S P F C W) {o : BO} {a b : Expr} {fa fb : Sem1} {pos : Pos} (ha : PE X a (RdE C W fa)) (hb : PE X b (RdE C W fb)) :
    PE X (.BinOp a (oper o) b pos) (RdE C W fun env h => (fa env h).bind fun x h1 => (fb env h1).bind fun y h2 => ofOpt (bop o x y h2) h2) :=
  pe_weak (pe_op (op_bop c.hK) ha hb) fun _ _ _ o => two o
theorem pe_bnm' (c : Cok X S P F C W) {o : BO} (ho2 : o = .add ∨ o = .mul) {a b : Expr} {fa fb : Sem1} {pos : Pos} (ha : PE X a (RdE C W fa)) (hb : PE X b (RdE C W fb)) :
    PE X (.BinOp a (oper o) b pos) (RdE C W fun env h => (fa env h).bind fun x h1 => (fb env h1).bind fun y h2 => (ofOpt (bopL o x y h2) h2).bind fun xs h3 => newL true xs h3) := by
  refine pe_weak (pe_op (bopL_ok c.hK ho2) ha hb) fun σ H Q q => ?_
  obtain ⟨M, h, env, hr, er, o⟩ := q
  refine RdE.go hr er o fun v H1 M1 h1 p x1 hr1 er1 rv o1 => ?_
  refine RdE.go hr1 er1 o1 fun u H2 M2 h2 q x2 hr2 er2 ru o2 => ?_
  cases e : bopL _ p q h2 with
  | none => rw [e] at o2; exact o2.elim
  | some ys =>
    rw [e] at o2
    exact ⟨M2, h2, p, q, ys, hr2, rv.ext x2, ru, e, fun a ws ha hz hw => end_newM hr2 hz hw o2 a ha⟩
theorem pe_neg' {a : Expr} {fa : Sem1} {pos : Pos} (ha : PE X a (RdE C W fa)) :
    PE X (.UnaryOp .USub a pos) (RdE C W fun env h => (fa env h).bind fun x h1 => match x with | .int i => .ok (.int (-i)) h1 | _ => .stuck) := by
  refine pe_weak (pe_un un_neg ha) fun σ H Q q => ?_
  obtain ⟨M, h, env, hr, er, o⟩ := q
  refine RdE.go hr er o fun v H1 M1 h1 p x1 hr1 er1 rv o1 => ?_
  cases p with
  | int i =>
    have := rv_int rv
    subst this
    exact ⟨i, rfl, o1 _ H1 M1 Ext.refl hr1 rv_i⟩
  | _ => exact o1.elim
theorem pe_not' (c : Cok X S P F C W) {a : Expr} {fa : Sem1} {pos : Pos} (ha : PE X a (RdE C W fa)) :
    PE X (.UnaryOp .Not a pos) (RdE C W fun env h => (fa env h).bind fun x h1 => (ofOpt (truth x h1) h1).bind fun b h2 => .ok (.bl (!b)) h2) := by
  refine pe_weak (pe_notT ha) fun σ H Q q => ?_
  obtain ⟨M, h, env, hr, er, o⟩ := q
  refine RdE.go hr er o fun v H1 M1 h1 p x1 hr1 er1 rv o1 => ?_
  cases e : truth p h1 with
  | none => rw [e] at o1; exact o1.elim
  | some b =>
    rw [e] at o1
    exact ⟨b, tru_rv c.hK hr1 rv e, o1 _ H1 M1 Ext.refl hr1 rv_b⟩
theorem pe_cmp' (c : Cok X S P F C W) {o : CO} {a b : Expr} {fa fb : Sem1} {pos : Pos} (ha : PE X a (RdE C W fa)) (hb : PE X b (RdE C W fb)) (hm : behindInMarks (cmpO o) b = false) :
    PE X (.Compare a [cmpO o] [b] pos) (RdE C W fun env h => (fa env h).bind fun x h1 => (fb env h1).bind fun y h2 => (ofOpt (cop o x y h2) h2).bind fun k h3 => .ok (.bl k) h3) :=
  pe_weak (pe_cmpR (op_cop c.hK c.hun) ha hb hm) fun _ _ _ o => two_b o
/-- a test by a bool op -/
theorem tst_cmp {fa fb : Sem1} {o : CO} : tst (fun env h => (fa env h).bind fun x h1 => (fb env h1).bind fun y h2 => (ofOpt (cop o x y h2) h2).bind fun k h3 => Res.ok (PV.bl k) h3) =
    fun env h => (fa env h).bind fun x h1 => (fb env h1).bind fun y h2 => ofOpt (cop o x y h2) h2 := by
  funext env h
  unfold tst
  dsimp only
  cases fa env h with
  | ok x h1 =>
    simp only [Res.bind_ok]
    cases fb env h1 with
    | ok y h2 =>
      simp only [Res.bind_ok]
      cases cop o x y h2 <;> rfl
    | _ => rfl
  | _ => rfl
/-- a value reading that ends in a bool, as a test's reading -/
theorem tTest_of {t : TE} {f : Sem1} (k : ∀ σ H Q, RdE C W f σ H Q → t σ H Q) (hb : ∀ env h p h', f env h = .ok p h' → ∃ b, p = .bl b) {σ : L2.St} {H : Hp} {Q : Bool → Hp → Prop} (o : RdT C W (tst f) σ H Q) : tTest t σ H Q := by
  refine k σ H _ ?_
  obtain ⟨M, h, env, hr, er, o⟩ := o
  refine ⟨M, h, env, hr, er, ?_⟩
  unfold tst at o
  cases e : f env h with
  | ok p h1 =>
    rw [e, Res.bind_ok] at o
    obtain ⟨b, rfl⟩ := hb _ _ _ _ e
    intro v H' M' x hr' rv
    exact ⟨b, rv_bl rv, o H' M' x hr'⟩
  | exn x h1 => rw [e] at o; exact o
  | stuck => rw [e] at o; exact o
theorem bind_bl {α : Type} {r : Res α} {g : α → MHp → Res PV} (hg : ∀ a h p h', g a h = .ok p h' → ∃ b, p = .bl b) {p : PV} {h' : MHp} (e : r.bind g = .ok p h') : ∃ b, p = .bl b := by
  cases r with
  | ok a h => exact hg a h p h' e
  | exn x h => cases e
  | stuck => cases e
theorem pt_cmp' (c : Cok X S P F C W) {o : CO} {a b : Expr} {fa fb : Sem1} {pos : Pos} (ha : PE X a (RdE C W fa)) (hb : PE X b (RdE C W fb)) (hm : behindInMarks (cmpO o) b = false) :
    PT X (.Compare a [cmpO o] [b] pos) (RdT C W (tst fun env h => (fa env h).bind fun x h1 => (fb env h1).bind fun y h2 => (ofOpt (cop o x y h2) h2).bind fun k h3 => .ok (.bl k) h3)) :=
  pt_weak (pt_cmpR (op_cop c.hK c.hun) ha hb hm) fun σ H Q q => tTest_of (fun _ _ _ o => two_b o) (fun env h p h' e => bind_bl (fun _ _ _ _ e => bind_bl (fun _ _ _ _ e => bind_bl (fun _ _ _ _ e => ⟨_, by injection e with e _; exact e.symm⟩) e) e) e) q
/-- a op b op' c -/
def sChn (o p : CO) (fa fb fc : Sem1) : Sem1 := fun env h => (fa env h).bind fun x h1 => (fb env h1).bind fun y h2 => (ofOpt (cop o x y h2) h2).bind fun k h3 =>
    if k then (fc env h3).bind fun z h4 => (ofOpt (cop p y z h4) h4).bind fun k h5 => .ok (.bl k) h5 else .ok (.bl false) h3
theorem chn_read {o p : CO} {fa fb fc : Sem1} {σ : L2.St} {H : Hp} {Q : VK} (q : RdE C W (sChn o p fa fb fc) σ H Q) : tChain (r2 C (copV o)) (r2 C (copV p)) (RdE C W fa) (RdE C W fb) (RdE C W fc) σ H Q := by
  obtain ⟨M, h, env, hr, er, q⟩ := q
  refine RdE.go hr er q fun v H1 M1 h1 x x1 hr1 er1 rv o1 => ?_
  refine RdE.go hr1 er1 o1 fun u H2 M2 h2 y x2 hr2 er2 ru o2 => ?_
  cases e : cop o x y h2 with
  | none => rw [e] at o2; exact o2.elim
  | some k =>
    rw [e] at o2
    refine ⟨M2, h2, x, y, .bl k, hr2, rv.ext x2, ru, by unfold copV; rw [e]; rfl, fun w H3 M3 x3 hr3 rw_ => ?_⟩
    refine ⟨k, rv_bl rw_, ?_⟩
    have o3 := o2.shift x3
    cases k with
    | false =>
      simp only [ofOpt_some, Res.bind_ok, Bool.false_eq_true, if_false] at o3 ⊢
      exact o3 _ H3 M3 Ext.refl hr3 rv_b
    | true =>
      simp only [ofOpt_some, Res.bind_ok, if_true] at o3 ⊢
      refine RdE.go hr3 (er2.ext x3) o3 fun w' H4 M4 h4 z x4 hr4 er4 rz o4 => ?_
      cases e2 : cop p y z h4 with
      | none => rw [e2] at o4; exact o4.elim
      | some k2 =>
        rw [e2] at o4
        exact ⟨M4, h4, y, z, .bl k2, hr4, (ru.ext x3).ext x4, rz, by unfold copV; rw [e2]; rfl, o4⟩
theorem pe_chn' (c : Cok X S P F C W) {o p : CO} {a b d : Expr} {fa fb fc : Sem1} {pos : Pos} (ha : PE X a (RdE C W fa)) (hb : PE X b (RdE C W fb)) (hc : PE X d (RdE C W fc)) (hm : lastMarks [cmpO o, cmpO p] [b, d] = false) :
    PE X (.Compare a [cmpO o, cmpO p] [b, d] pos) (RdE C W (sChn o p fa fb fc)) :=
  pe_weak (pe_chain (op_cop c.hK c.hun) (op_cop c.hK c.hun) ha hb hc hm) fun _ _ _ o => chn_read o
theorem pt_chn' (c : Cok X S P F C W) {o p : CO} {a b d : Expr} {fa fb fc : Sem1} {pos : Pos} (ha : PE X a (RdE C W fa)) (hb : PE X b (RdE C W fb)) (hc : PE X d (RdE C W fc)) (hm : lastMarks [cmpO o, cmpO p] [b, d] = false) :
    PT X (.Compare a [cmpO o, cmpO p] [b, d] pos) (RdT C W (tst (sChn o p fa fb fc))) :=
  pt_weak (pt_chain (op_cop c.hK c.hun) (op_cop c.hK c.hun) ha hb hc hm) fun σ H Q q => tTest_of (fun _ _ _ o => chn_read o) (fun env h r h' e => bind_bl (fun _ _ _ _ e => bind_bl (fun _ _ _ _ e => bind_bl (fun k _ _ _ e => by
    cases k with
    | false => simp only [Bool.false_eq_true, if_false] at e; exact ⟨_, by injection e with e _; exact e.symm⟩
    | true => simp only [if_true] at e; exact bind_bl (fun _ _ _ _ e => bind_bl (fun _ _ _ _ e => ⟨_, by injection e with e _; exact e.symm⟩) e) e) e) e) e) q
/-- a if t else b -/
def sIfe (fc fa fb : Sem1) : Sem1 := fun env h => (fc env h).bind fun x h1 => (ofOpt (truth x h1) h1).bind fun k h2 => if k then fa env h2 else fb env h2
theorem pe_ife' {a b d : Expr} {fa fb fc : Sem1} {pos : Pos} (hc : PT X d (RdT C W (tst fc))) (ha : PE X a (RdE C W fa)) (hb : PE X b (RdE C W fb)) : PE X (.IfExp d a b pos) (RdE C W (sIfe fc fa fb)) := by
  refine pe_weak (pe_ifExp hc ha hb) fun σ H Q q => ?_
  obtain ⟨M, h, env, hr, er, q⟩ := q
  refine RdT.go hr er q fun k H1 M1 h1 x1 hr1 er1 o1 => ?_
  cases k with
  | true => exact ⟨M1, h1, env, hr1, er1, o1⟩
  | false => exact ⟨M1, h1, env, hr1, er1, o1⟩
theorem isTrue_ife {x a b : Expr} {pos : Pos} {whole : Sem Value} {env : PySem.Env} {M : Model} {A : Around} {E : Value → Shared → Prop} {s : Shared} {Q : Bool → Shared → Prop}
    (h : wpAny M A (isTrue x env (eval x env)) (fun c s' => if c then wpAny M A (isTrue a env (eval a env)) Q E s' else wpAny M A (isTrue b env (eval b env)) Q E s') E s) : wpAny M A (isTrue (.IfExp x a b pos) env whole) Q E s := by
  show wpAny M A (do if ← isTrue x env (eval x env) then isTrue a env (eval a env) else isTrue b env (eval b env)) Q E s
  refine wpAny_bind (wpAny_mono h (fun c s' h' => ?_) fun _ _ x => x)
  cases c <;> exact h'
theorem pt_ife' {a b d : Expr} {fa fb fc : Sem1} {pos : Pos} (hc : PT X d (RdT C W (tst fc))) (ha : PT X a (RdT C W (tst fa))) (hb : PT X b (RdT C W (tst fb))) : PT X (.IfExp d a b pos) (RdT C W (tst (sIfe fc fa fb))) := by
  refine ⟨fun pins s σ H Q I q => ?_⟩
  refine isTrue_ife (thn (hc.run pins s σ H (fun k H1 => if k = true then RdT C W (tst fa) σ H1 Q else RdT C W (tst fb) σ H1 Q) I ?_) fun k s1 ⟨H1, I1, q1⟩ => ?_)
  · obtain ⟨M, h, env, hr, er, q⟩ := q
    have e : tst (sIfe fc fa fb) env h = (fc env h).bind fun x h1 => (ofOpt (truth x h1) h1).bind fun k h2 => if k then tst fa env h2 else tst fb env h2 := by
      unfold tst sIfe
      cases fc env h with
      | ok x h1 =>
        simp only [Res.bind_ok]
        cases truth x h1 with
        | none => rfl
        | some k => cases k <;> rfl
      | _ => rfl
    rw [e] at q
    refine RdT.goB hr er q fun k H1 M1 h1 x1 hr1 er1 o1 => ?_
    cases k with
    | true => exact ⟨M1, h1, env, hr1, er1, o1⟩
    | false => exact ⟨M1, h1, env, hr1, er1, o1⟩
  · cases k with
    | true => exact ha.run pins s1 σ H1 Q I1 q1
    | false => exact hb.run pins s1 σ H1 Q I1 q1
theorem pt_not' {a : Expr} {fa : Sem1} {pos : Pos} (ha : PT X a (RdT C W (tst fa))) : PT X (.UnaryOp .Not a pos) (RdT C W (tst fun env h => (fa env h).bind fun x h1 => (ofOpt (truth x h1) h1).bind fun b h2 => .ok (.bl (!b)) h2)) := by
  refine pt_weak (pt_not ha) fun σ H Q q => ?_
  obtain ⟨M, h, env, hr, er, q⟩ := q
  have e : tst (fun env h => (fa env h).bind fun x h1 => (ofOpt (truth x h1) h1).bind fun b h2 => Res.ok (PV.bl (!b)) h2) env h = (fa env h).bind fun x h1 => (ofOpt (truth x h1) h1).bind fun b h2 => .ok (!b) h2 := by
    unfold tst
    dsimp only
    cases fa env h with
    | ok x h1 =>
      simp only [Res.bind_ok]
      cases truth x h1 <;> rfl
    | _ => rfl
  rw [e] at q
  exact RdT.goB hr er q fun k H1 M1 h1 x1 hr1 er1 o1 => o1 H1 M1 Ext.refl hr1
theorem pe_ix' (c : Cok X S P F C W) {a b : Expr} {fa fb : Sem1} {pos : Pos} (ha : PE X a (RdE C W fa)) (hb : PE X b (RdE C W fb)) (hp : PlainIx b) :
    PE X (.Subscript a b pos) (RdE C W fun env h => (fa env h).bind fun x h1 => (fb env h1).bind fun y h2 => ofOpt (index x y h2) h2) :=
  pe_weak (pe_ix (ix_any c.hK c.hun) ha hb hp) fun _ _ _ o => two o
theorem pe_sl' (c : Cok X S P F C W) {a : Expr} {lo hi : Option Expr} {fa : Sem1} {fl fh : Env → MHp → Res (Option Int)} {pos p2 : Pos} (ha : PE X a (RdE C W fa)) (hl : PO X lo (RdO C W fl)) (hh : PO X hi (RdO C W fh)) :
    PE X (.Subscript a (.Slice lo hi none p2) pos) (RdE C W fun env h => (fa env h).bind fun x h1 => (fl env h1).bind fun l h2 => (fh env h2).bind fun u h3 => ofOpt (slice x l u h3) h3) := by
  refine pe_weak (pe_slice (sl_any c.hK) ha hl hh) fun σ H Q q => ?_
  obtain ⟨M, h, env, hr, er, o⟩ := q
  refine RdE.go hr er o fun v H1 M1 h1 p x1 hr1 er1 rv o1 => ?_
  refine RdO.go hr1 er1 o1 fun l H2 M2 h2 x2 hr2 er2 o2 => ?_
  refine RdO.go hr2 er2 o2 fun u H3 M3 h3 x3 hr3 er3 o3 => ?_
  cases e : slice p l u h3 with
  | none => rw [e] at o3; exact o3.elim
  | some z =>
    rw [e] at o3
    exact ⟨M3, h3, p, z, hr3, (rv.ext x2).ext x3, e, o3⟩
theorem po_none' : PO X none (RdO C W fun _ h => .ok none h) := by
  refine po_weak po_none fun σ H Q q => ?_
  obtain ⟨M, h, env, hr, er, o⟩ := q
  exact o H M Ext.refl hr
theorem po_some' {e : Expr} {f : Sem1} (he : PE X e (RdE C W f)) : PO X (some e) (RdO C W fun env h => (f env h).bind fun x h1 => match x with | .int i => .ok (some i) h1 | _ => .stuck) := by
  refine po_weak (po_some he) fun σ H Q q => ?_
  obtain ⟨M, h, env, hr, er, o⟩ := q
  refine ⟨M, h, env, hr, er, ?_⟩
  dsimp only at o
  cases e : f env h with
  | ok p h1 =>
    rw [e, Res.bind_ok] at o
    intro v H1 M1 x1 hr1 rv
    cases p with
    | int i => exact ⟨i, rv_int rv, o H1 M1 x1 hr1⟩
    | _ => exact o.elim
  | exn x h1 => rw [e] at o; exact o
  | stuck => rw [e] at o; exact o.elim
theorem pa_nil' : PA X [] (RdA C W fun _ h => .ok [] h) := by
  refine pa_weak pa_nil fun σ H Q q => ?_
  obtain ⟨M, h, env, hr, er, o⟩ := q
  exact o [] H M Ext.refl hr .nil
theorem pa_cons' {e : Expr} {es : List Expr} {f : Sem1} {g : SemA} (he : PE X e (RdE C W f)) (hg : PA X es (RdA C W g)) (hs : starEach (e :: es) X.env = (false, eval e X.env) :: starEach es X.env) :
    PA X (e :: es) (RdA C W fun env h => (f env h).bind fun x h1 => (g env h1).bind fun xs h2 => .ok (x :: xs) h2) := by
  refine pa_weak (pa_cons he hg hs) fun σ H Q q => ?_
  obtain ⟨M, h, env, hr, er, o⟩ := q
  refine RdE.goA hr er o fun v H1 M1 h1 p x1 hr1 er1 rv o1 => ?_
  refine RdA.goA hr1 er1 o1 fun vs H2 M2 h2 ps x2 hr2 er2 rvs o2 => ?_
  exact o2 _ H2 M2 Ext.refl hr2 (.cons (rv.ext x2) rvs)
theorem pe_tup' {es : List Expr} {g : SemA} {k : Nat} {pos : Pos} (hg : PA X es (RdA C W g)) : PE X (.Tuple es k pos) (RdE C W fun env h => (g env h).bind fun xs h1 => if decide (xs.length ≤ big) then .ok (.tup xs) h1 else .stuck) := by
  refine pe_weak (pe_tup hg) fun σ H Q q => ?_
  obtain ⟨M, h, env, hr, er, o⟩ := q
  refine RdA.go hr er o fun vs H1 M1 h1 ps x1 hr1 er1 rvs o1 => ?_
  by_cases c : ps.length ≤ big
  · rw [if_pos (decide_eq_true c)] at o1
    have z : vs.length ≤ sizeLine := by rw [rvs.len, ← big_eq]; exact c
    exact ⟨z, end_newT hr1 z rvs o1⟩
  · rw [if_neg (by simpa using c)] at o1
    exact o1.elim
theorem pe_lst' {m : Bool} {es : List Expr} {g : SemA} {pos : Pos} (hg : PA X es (RdA C W g)) : PE X (.List es pos) (RdE C W fun env h => (g env h).bind fun xs h1 => if decide (xs.length ≤ big) then newL m xs h1 else .stuck) := by
  refine pe_weak (pe_lst hg) fun σ H Q q => ?_
  obtain ⟨M, h, env, hr, er, o⟩ := q
  refine RdA.go hr er o fun vs H1 M1 h1 ps x1 hr1 er1 rvs o1 => ?_
  by_cases c : ps.length ≤ big
  · rw [if_pos (decide_eq_true c)] at o1
    have z : vs.length ≤ sizeLine := by rw [rvs.len, ← big_eq]; exact c
    exact ⟨z, end_newM hr1 z rvs o1⟩
  · rw [if_neg (by simpa using c)] at o1
    exact o1.elim
theorem pe_dc0' {m t : Bool} {pos : Pos} : PE X (.Dict [] [] pos) (RdE C W fun _ h => if m then .ok (.ref h.length) (h ++ [.dic t [] []]) else .ok (.dic t [] []) h) := by
  have fin : ∀ {u : HO} {σ : L2.St} {H : Hp} {Q : VK}, DK t [] [] u → RdE C W (fun _ h => if m then .ok (.ref h.length) (h ++ [.dic t [] []]) else .ok (.dic t [] []) h) σ H Q → ∀ p, H p = none → Q (.ref p) (upd H p u) := fun {u σ H Q} d q p hp => by
    obtain ⟨M, h, env, hr, er, o⟩ := q
    cases m with
    | true =>
      simp only [if_true] at o
      refine o _ _ (M ++ [p]) (Ext.push hp) (hr.push hp ⟨[], u, rfl, d, .nil⟩) ?_
      rw [RV]
      exact ⟨p, rfl, by rw [← hr.len, List.getElem?_append_right (Nat.le_refl _)]; simp⟩
    | false =>
      simp only [Bool.false_eq_true, if_false] at o
      refine o _ _ M (Ext.laid hp) (hr.laid hp) ?_
      rw [RV]
      exact ⟨p, [], u, rfl, hr.off hp, upd_same, d, .nil⟩
  cases t with
  | true => exact pe_weak pe_dnewT fun σ H Q q => fin ⟨[], rfl, rfl, rfl⟩ q
  | false => exact pe_weak pe_dnewK fun σ H Q q => fin ⟨[], rfl, rfl, rfl⟩ q
end
end Qm

/-! S10: and, or; calls; methods; comprehensions; every expression. -/
namespace Qm
open PySem PySem.Spec PyProof.Rows L2
section
variable {X : Cx} {S : Sc} {P : Prog} {F : Fn} {C : XC} {W : WX} {cx : Option MX}
/-! ### and, or -/
def sAnd (f g : Sem1) : Sem1 := fun env h => (f env h).bind fun x h1 => (ofOpt (truth x h1) h1).bind fun k h2 => if k then g env h2 else .ok x h2
def sOr (f g : Sem1) : Sem1 := fun env h => (f env h).bind fun x h1 => (ofOpt (truth x h1) h1).bind fun k h2 => if k then .ok x h2 else g env h2
theorem pe_and' (c : Cok X S P F C W) {a b : Expr} {rest : List Expr} {fa g : Sem1} {pos : Pos} (ha : PE X a (RdE C W fa)) (hb : PE X (.BoolOp .And (b :: rest) pos) (RdE C W g)) : PE X (.BoolOp .And (a :: b :: rest) pos) (RdE C W (sAnd fa g)) := by
  refine pe_weak (pe_andT ha hb) fun σ H Q q => ?_
  obtain ⟨M, h, env, hr, er, o⟩ := q
  refine RdE.go hr er o fun v H1 M1 h1 p x1 hr1 er1 rv o1 => ?_
  cases e : truth p h1 with
  | none => rw [e] at o1; exact o1.elim
  | some k =>
    rw [e] at o1
    refine ⟨k, tru_rv c.hK hr1 rv e, ?_⟩
    cases k with
    | true => exact ⟨M1, h1, env, hr1, er1, o1⟩
    | false => exact o1 v H1 M1 Ext.refl hr1 rv
theorem pe_or' (c : Cok X S P F C W) {a b : Expr} {rest : List Expr} {fa g : Sem1} {pos : Pos} (ha : PE X a (RdE C W fa)) (hb : PE X (.BoolOp .Or (b :: rest) pos) (RdE C W g)) : PE X (.BoolOp .Or (a :: b :: rest) pos) (RdE C W (sOr fa g)) := by
  refine pe_weak (pe_orT ha hb) fun σ H Q q => ?_
  obtain ⟨M, h, env, hr, er, o⟩ := q
  refine RdE.go hr er o fun v H1 M1 h1 p x1 hr1 er1 rv o1 => ?_
  cases e : truth p h1 with
  | none => rw [e] at o1; exact o1.elim
  | some k =>
    rw [e] at o1
    refine ⟨k, tru_rv c.hK hr1 rv e, ?_⟩
    cases k with
    | false => exact ⟨M1, h1, env, hr1, er1, o1⟩
    | true => exact o1 v H1 M1 Ext.refl hr1 rv
theorem tst_and {f g : Sem1} {env : Env} {h : MHp} : tst (sAnd f g) env h = (f env h).bind fun x h1 => (ofOpt (truth x h1) h1).bind fun k h2 => if k then tst g env h2 else .ok false h2 := by
  unfold tst sAnd
  cases f env h with
  | ok x h1 =>
    simp only [Res.bind_ok]
    cases e : truth x h1 with
    | none => rfl
    | some k =>
      cases k with
      | true => rfl
      | false => simp [e]
  | _ => rfl
theorem tst_or {f g : Sem1} {env : Env} {h : MHp} : tst (sOr f g) env h = (f env h).bind fun x h1 => (ofOpt (truth x h1) h1).bind fun k h2 => if k then .ok true h2 else tst g env h2 := by
  unfold tst sOr
  cases f env h with
  | ok x h1 =>
    simp only [Res.bind_ok]
    cases e : truth x h1 with
    | none => rfl
    | some k =>
      cases k with
      | false => rfl
      | true => simp [e]
  | _ => rfl
theorem pw_and' {a b : Expr} {rest : List Expr} {fa g : Sem1} {pos : Pos} (ha : PT X a (RdT C W (tst fa))) (hb : PW X (.BoolOp .And (b :: rest) pos) (RdT C W (tst g))) : PW X (.BoolOp .And (a :: b :: rest) pos) (RdT C W (tst (sAnd fa g))) := by
  refine pw_weak (pw_and ha hb) fun σ H Q q => ?_
  obtain ⟨M, h, env, hr, er, q⟩ := q
  rw [tst_and] at q
  refine RdT.goB hr er q fun k H1 M1 h1 x1 hr1 er1 o1 => ?_
  cases k with
  | true => exact ⟨M1, h1, env, hr1, er1, o1⟩
  | false => exact o1 H1 M1 Ext.refl hr1
theorem pw_or' {a b : Expr} {rest : List Expr} {fa g : Sem1} {pos : Pos} (ha : PT X a (RdT C W (tst fa))) (hb : PW X (.BoolOp .Or (b :: rest) pos) (RdT C W (tst g))) : PW X (.BoolOp .Or (a :: b :: rest) pos) (RdT C W (tst (sOr fa g))) := by
  refine pw_weak (pw_or ha hb) fun σ H Q q => ?_
  obtain ⟨M, h, env, hr, er, q⟩ := q
  rw [tst_or] at q
  refine RdT.goB hr er q fun k H1 M1 h1 x1 hr1 er1 o1 => ?_
  cases k with
  | false => exact ⟨M1, h1, env, hr1, er1, o1⟩
  | true => exact o1 H1 M1 Ext.refl hr1
theorem bind_id {α : Type} (r : Res α) : (r.bind fun x h => .ok x h) = r := by cases r <;> rfl
/-! ### calls -/
theorem toEs_star0 (e : ME) (r : MEs) (l : List Expr) (env : PySem.Env) : starEach (toEs (.cons e r) l) env = (false, eval (toE e (l.headD dE)) env) :: starEach (toEs r l.tail) env := by
  rw [toEs, toE_star]
theorem pe_call' (c : Cok X S P F C W) {x : Str} {f : Nat} {e : ME} {r : MEs} {l : List Expr} {g : SemA} {p pos : Pos} (hh : S.hot = false) (h : isFn S x f = true) (ha : PA X (toEs (.cons e r) l) (RdA C W g)) :
    PE X (.Call (.Name x p) (toEs (.cons e r) l) [] pos) (RdE C W fun env h => (g env h).bind fun xs h1 => F f xs h1) := by
  obtain ⟨gl, hd, lv, fa, fd, ps, hm, hk, hb, ok, room⟩ := c.fn h hh
  have hs := toEs_star0 e r l X.env
  rw [toEs] at ha hs ⊢
  refine pe_weak (pe_callS (E := WE W) ok room gl hm hk hb (fun σ => passAt c.tk σ) ha hd hs (toEs_star _ _ _ _)) fun σ H Q q => ?_
  obtain ⟨M, h, env, hr, er, o⟩ := q
  refine RdA.go hr er o fun vs H1 M1 h1 as x1 hr1 er1 rv o1 => ?_
  exact ⟨C.K.z, M1, h1, as, hr1, rv, o1⟩
theorem pe_bif' (c : Cok X S P F C W) {b : Bi} {e : ME} {r : MEs} {l : List Expr} {g : SemA} {p pos : Pos} (hh : S.hot = false) (h : isBi S (biN b) = true) (ha : PA X (toEs (.cons e r) l) (RdA C W g)) :
    PE X (.Call (.Name (biN b) p) (toEs (.cons e r) l) [] pos) (RdE C W fun env h => (g env h).bind fun xs h1 => ofOpt (biS b xs h1) h1) := by
  obtain ⟨gl, hm, n1, n2⟩ := c.bi h
  have hs := toEs_star0 e r l X.env
  have hc := call_bif (C := C) c.hK (c.calm hh) c.hun (b := b)
  rw [toEs] at ha hs ⊢
  have fin : ∀ {σ : L2.St} {H : Hp} {Q : VK}, RdE C W (fun env h => (g env h).bind fun xs h1 => ofOpt (biS b xs h1) h1) σ H Q → tCB (rC C (biS b)) (RdA C W g) σ H Q := fun {σ H Q} q => by
    obtain ⟨M, h, env, hr, er, o⟩ := q
    refine RdA.go hr er o fun vs H1 M1 h1 as x1 hr1 er1 rv o1 => ?_
    cases e : biS b as h1 with
    | none => rw [e] at o1; exact o1.elim
    | some z =>
      rw [e] at o1
      exact ⟨M1, h1, as, z, hr1, rv, e, o1⟩
  cases b with
  | int => exact pe_weak (pe_callTy hc gl hm (by decide +kernel) ha n1 n2 hs (toEs_star _ _ _ _)) fun _ _ _ q => fin q
  | tuple => exact pe_weak (pe_callTy hc gl hm (by decide +kernel) ha n1 n2 hs (toEs_star _ _ _ _)) fun _ _ _ q => fin q
  | str => exact pe_weak (pe_callTy hc gl hm (by decide +kernel) ha n1 n2 hs (toEs_star _ _ _ _)) fun _ _ _ q => fin q
  | _ => exact pe_weak (pe_callB hc gl hm (by decide +kernel) ha n1 n2 hs (toEs_star _ _ _ _)) fun _ _ _ q => fin q
theorem pe_bil' (c : Cok X S P F C W) {b : Bl} {m : Bool} {e : ME} {r : MEs} {l : List Expr} {g : SemA} {p pos : Pos} (hh : S.hot = false) (h : isBi S (blN b) = true) (ha : PA X (toEs (.cons e r) l) (RdA C W g)) :
    PE X (.Call (.Name (blN b) p) (toEs (.cons e r) l) [] pos) (RdE C W fun env h => (g env h).bind fun xs h1 => (ofOpt (blS b xs h1) h1).bind fun ys h2 => newL m ys h2) := by
  obtain ⟨gl, hm, n1, n2⟩ := c.bi h
  have hs := toEs_star0 e r l X.env
  have hc := call_bil (X := X) (C := C) c.hK (b := b)
  rw [toEs] at ha hs ⊢
  have fin : ∀ {σ : L2.St} {H : Hp} {Q : VK}, RdE C W (fun env h => (g env h).bind fun xs h1 => (ofOpt (blS b xs h1) h1).bind fun ys h2 => newL m ys h2) σ H Q → tCB (rN C (blS b)) (RdA C W g) σ H Q := fun {σ H Q} q => by
    obtain ⟨M, h, env, hr, er, o⟩ := q
    refine RdA.go hr er o fun vs H1 M1 h1 as x1 hr1 er1 rv o1 => ?_
    cases e : blS b as h1 with
    | none => rw [e] at o1; exact o1.elim
    | some ys =>
      rw [e] at o1
      exact ⟨M1, h1, as, ys, hr1, rv, e, fun p ws hp hz hw => end_newM hr1 hz hw o1 p hp⟩
  cases b with
  | list => exact pe_weak (pe_callTy hc gl hm (by decide +kernel) ha n1 n2 hs (toEs_star _ _ _ _)) fun _ _ _ q => fin q
  | sorted => exact pe_weak (pe_callB hc gl hm (by decide +kernel) ha n1 n2 hs (toEs_star _ _ _ _)) fun _ _ _ q => fin q
theorem boot_ty (t : Ty) : bootBuiltins (tyS t) = some (.type (tyN t)) := by cases t <;> decide +kernel
theorem pe_isi' (c : Cok X S P F C W) {t : Ty} {a : ME} {e0 : Expr} {f : Sem1} {p p2 pos : Pos} (h : isBi S "isinstance" = true) (h2 : isBi S (tyS t) = true) (ha : PE X (toE a e0) (RdE C W f)) :
    PE X (.Call (.Name "isinstance" p) [toE a e0, .Name (tyS t) p2] [] pos) (RdE C W fun env h => (f env h).bind fun x h1 => (ofOpt (isTy t x h1) h1).bind fun k h2 => .ok (.bl k) h2) := by
  obtain ⟨gl, hm, n1, n2⟩ := c.bi h
  obtain ⟨gl2, hm2, n3, n4⟩ := c.bi h2
  have pt := pe_bltn (X := X) (x := tyS t) (v := .ty (tyN t)) (u := .type (tyN t)) (pos := p2) gl2 hm2 (boot_ty t) rfl n3 n4
  have pa := pa_cons ha (pa_cons pt pa_nil (by rfl)) (toE_star a e0 _ _)
  refine pe_weak (pe_callB (call_isiR (C := C) c.hK (t := t)) gl hm (by decide +kernel) pa n1 n2 (toE_star a e0 _ _) (by rfl)) fun σ H Q q => ?_
  obtain ⟨M, h, env, hr, er, o⟩ := q
  refine RdE.go hr er o fun v H1 M1 h1 x x1 hr1 er1 rv o1 => ?_
  cases e : isTy t x h1 with
  | none => rw [e] at o1; exact o1.elim
  | some b =>
    rw [e] at o1
    exact ⟨M1, h1, x, v, b, hr1, rv, rfl, e, o1 _ H1 M1 Ext.refl hr1 rv_b⟩
/-! ### list(range(..)) -/
theorem rvs_rg {M : List Addr} {H : Hp} (a b : Int) : RVs C.K M H (rngI a (b - a).toNat) (rgV a b) := by
  unfold rngI rgV
  generalize List.range (b - a).toNat = l
  induction l with
  | nil => exact .nil
  | cons k r ih => exact .cons rv_i ih
theorem lrg_end {m : Bool} {i j : Int} {Q : VK} {M : List Addr} {H : Hp} {h : MHp} (hr : HRel C.K M H h) (hi : smallR i = true) (hj : smallR j = true) (z : (j - i).toNat ≤ big) {E : XK} (o : Out C E Q M H (newL m (rngI i (j - i).toNat) h)) :
    RgOk i j ∧ ∀ q, H q = none → Q (.ref q) (upd H q (.lst (rgV i j))) := by
  have h1 := smallR_ok hi
  have h2 := smallR_ok hj
  refine ⟨⟨h1.1, h1.2, h2.1, h2.2, z⟩, fun q hq => end_newM hr ?_ (rvs_rg i j) o q hq⟩
  rw [rgV_length, ← big_eq]
  exact z
theorem pe_lrg' (c : Cok X S P F C W) {m : Bool} {es : MEs} {l : List Expr} {g : SemA} {p p2 pos2 pos : Pos} (hh : S.hot = false) (h : isBi S "list" = true) (h2 : isBi S "range" = true) (hl : mesLen es = 1 ∨ mesLen es = 2)
    (hg2 : ∀ a a2 b, es = .cons a (.cons a2 b) → ∃ f, PE X (toE a (l.headD dE)) (RdE C W f) ∧ ∃ f2, PE X (toE a2 (l.tail.headD dE)) (RdE C W f2) ∧ (b = .nil → g = fun env h => (f env h).bind fun x h1 => (f2 env h1).bind fun y h2 => .ok [x, y] h2))
    (hg1 : ∀ a, es = .cons a .nil → ∃ f, PE X (toE a (l.headD dE)) (RdE C W f) ∧ g = fun env h => (f env h).bind fun x h1 => .ok [x] h1) :
    PE X (.Call (.Name "list" p) [.Call (.Name "range" p2) (toEs es l) [] pos2] [] pos) (RdE C W fun env h => (g env h).bind fun xs h1 => (ofOpt (rangeOf xs) h1).bind fun ys h2 => newL m ys h2) := by
  obtain ⟨gl, hm, n1, n2⟩ := c.bi h
  obtain ⟨gl2, hm2, n3, n4⟩ := c.bi h2
  match es, hl with
  | .cons a .nil, _ =>
    obtain ⟨f, hf, rfl⟩ := hg1 a rfl
    rw [toEs, toEs]
    refine pe_weak (pe_listRg (c.calm hh) gl hm (prg_1 gl2 hm2 hf (toE_star _ _ _ _)) (by rfl)) fun σ H Q q => ?_
    obtain ⟨M, h, env, hr, er, o⟩ := q
    dsimp only at o
    have o : Out C (WE W σ) Q M H ((f env h).bind fun x h1 => (ofOpt (rangeOf [x]) h1).bind fun ys h2 => newL m ys h2) := by
      cases e : f env h <;> rw [e] at o <;> exact o
    refine RdE.go hr er o fun v H1 M1 h1 x x1 hr1 er1 rv o1 => ?_
    unfold rangeOf at o1
    split at o1
    · rename_i j ex
      cases ex
      split at o1
      · rename_i cc
        rw [Bool.and_eq_true] at cc
        have := rv_int rv; subst this
        refine ⟨j, rfl, lrg_end (m := m) (E := WE W σ) hr1 (by decide) cc.1 (by rw [Int.sub_zero]; exact of_decide_eq_true cc.2) (by rw [Int.sub_zero]; exact o1)⟩
      · exact o1.elim
    · rename_i ex; cases ex
    · rename_i ex; cases ex
    · exact o1.elim
  | .cons a (.cons b .nil), _ =>
    obtain ⟨f, hf, f2, hf2, e⟩ := hg2 a b .nil rfl
    have e := e rfl
    subst e
    rw [toEs, toEs, toEs]
    refine pe_weak (pe_listRg (c.calm hh) gl hm (prg_2 gl2 hm2 hf hf2 (toE_star _ _ _ _) (toE_star _ _ _ _) (by rw [toE_star]; rfl)) (by rfl)) fun σ H Q q => ?_
    obtain ⟨M, h, env, hr, er, o⟩ := q
    dsimp only at o
    have o : Out C (WE W σ) Q M H ((f env h).bind fun x h1 => (f2 env h1).bind fun y h2 => (ofOpt (rangeOf [x, y]) h2).bind fun ys h3 => newL m ys h3) := by
      cases e : f env h with
      | ok x h1 =>
        rw [e] at o
        simp only [Res.bind_ok] at o ⊢
        cases e2 : f2 env h1 <;> rw [e2] at o <;> exact o
      | exn x h1 => rw [e] at o; exact o
      | stuck => rw [e] at o; exact o
    refine RdE.go hr er o fun v H1 M1 h1 x x1 hr1 er1 rv o1 => ?_
    refine RdE.go hr1 er1 o1 fun u H2 M2 h2 y x2 hr2 er2 ru o2 => ?_
    unfold rangeOf at o2
    split at o2
    · rename_i ex; cases ex
    · rename_i i j ex
      cases ex
      split at o2
      · rename_i cc
        rw [Bool.and_eq_true, Bool.and_eq_true] at cc
        have := rv_int rv; subst this
        have := rv_int ru; subst this
        exact ⟨i, j, rfl, rfl, lrg_end (m := m) (E := WE W σ) hr2 cc.1.1 cc.1.2 (of_decide_eq_true cc.2) o2⟩
      · exact o2.elim
    · rename_i ex; cases ex
    · exact o2.elim
  | .nil, hl => exact absurd hl (by simp [mesLen])
  | .cons _ (.cons _ (.cons _ _)), hl => exact absurd hl (by simp [mesLen])
/-! ### methods -/
theorem rcv_list {m : Mt} {k : Nat} (hm : mtOk m k = true) {M : List Addr} {H : Hp} {h : MHp} {x : PV} {v : V} (hr : HRel C.K M H h) (r : RV C.K M H x v) (e : rcv m x h = true) : ∃ a vs, v = .ref a ∧ H a = some (.lst vs) := by
  have e : (itemsL x h).isSome = true := by
    cases m with
    | get => cases hm
    | count => cases hm
    | join => cases hm
    | values => cases hm
    | _ => exact e
  obtain ⟨ys, ey⟩ := Option.isSome_iff_exists.mp e
  obtain ⟨a, vs, rfl, _, ea, _⟩ := itemsL_ok hr r ey
  exact ⟨a, vs, rfl, ea⟩
theorem slot_mt {m : Mt} {k : Nat} (hm : mtOk m k = true) : Slot "list" (mtN m) (mtI m) ∧ typeOf (.builtin (mtI m)) = pure (.type "method_descriptor") := by
  cases m with
  | append => exact ⟨PySem.F.slot_list_append, PySem.F.type_list_append⟩
  | extend => exact ⟨PySem.F.slot_list_extend, PySem.F.type_list_extend⟩
  | pop => exact ⟨PySem.F.slot_list_pop, PySem.F.type_list_pop⟩
  | popAt => exact ⟨PySem.F.slot_list_pop, PySem.F.type_list_pop⟩
  | index => exact ⟨PySem.F.slot_list_index, PySem.F.type_list_index⟩
  | _ => cases hm
theorem pe_mth' (c : Cok X S P F C W) {m : Mt} {o : ME} {eo : Expr} {es : MEs} {l : List Expr} {f : Sem1} {g : SemA} {ap pos : Pos} (hm : mtOk m (mesLen es) = true) (hl : ap.endLine = pos.line) (hb : attributeBase (toE o eo) (mtN m) X.env (eval (toE o eo) X.env) = eval (toE o eo) X.env)
    (ho : PE X (toE o eo) (RdE C W f)) (hg : PA X (toEs es l) (RdA C W g)) (h0 : es = .nil → g = fun _ h => .ok [] h) :
    PE X (.Call (.Attribute (toE o eo) (mtN m) ap) (toEs es l) [] pos) (RdE C W fun env h => (f env h).bind fun x h1 => if rcv m x h1 then (g env h1).bind fun xs h2 => (match mth m x xs h2 with | some (v, h3) => .ok v h3 | none => .stuck) else .stuck) := by
  have hline : (ap.endLine == pos.line) = true := by rw [hl]; simp
  obtain ⟨sl, ty⟩ := slot_mt hm
  match es, hm, hg, h0 with
  | .nil, hm, hg, h0 =>
    have := h0 rfl
    subst this
    rw [toEs]
    refine pe_weak (pe_bm0 PySem.F.plainAttrs_list sl ty (mt_any (C := C) c.hK c.hun hm) ho hb hline) fun σ H Q q => ?_
    obtain ⟨M, h, env, hr, er, o⟩ := q
    refine RdE.go hr er o fun v H1 M1 h1 x x1 hr1 er1 rv o1 => ?_
    simp only [Res.bind_ok] at o1
    cases er' : rcv m x h1 with
    | false => rw [er'] at o1; exact o1.elim
    | true =>
      rw [er', if_pos rfl] at o1
      obtain ⟨a, vs, ea, eh⟩ := rcv_list hm hr1 rv er'
      cases e : mth m x [] h1 with
      | none => rw [e] at o1; exact o1.elim
      | some z =>
        rw [e] at o1
        refine ⟨?_, M1, h1, x, [], z.1, z.2, hr1, rv, .nil, e, o1⟩
        rw [ea]
        exact .inl ⟨rfl, vs, SqL.of eh⟩
  | .cons e1 .nil, hm, hg, _ =>
    have hs := toEs_star0 e1 .nil l X.env
    rw [toEs] at hg hs ⊢
    refine pe_weak (pe_bm PySem.F.plainAttrs_list sl ty (mt_any (C := C) c.hK c.hun hm) ho hg hb (by rw [toEs, toE_star]; rfl) hline hs (toEs_star _ _ _ _)) fun σ H Q q => ?_
    obtain ⟨M, h, env, hr, er, o⟩ := q
    refine RdE.go hr er o fun v H1 M1 h1 x x1 hr1 er1 rv o1 => ?_
    cases er' : rcv m x h1 with
    | false => rw [er'] at o1; exact o1.elim
    | true =>
      rw [er', if_pos rfl] at o1
      obtain ⟨a, vs, ea, eh⟩ := rcv_list hm hr1 rv er'
      refine ⟨by rw [ea]; exact .inl ⟨rfl, vs, SqL.of eh⟩, ?_⟩
      refine RdA.go hr1 er1 o1 fun ws H2 M2 h2 as x2 hr2 er2 rws o2 => ?_
      cases e : mth m x as h2 with
      | none => rw [e] at o2; exact o2.elim
      | some z =>
        rw [e] at o2
        exact ⟨M2, h2, x, as, z.1, z.2, hr2, rv.ext x2, rws, e, o2⟩
  | .cons _ (.cons _ _), hm, _, _ => cases m <;> simp [mtOk, mesLen] at hm
/-! ### comprehensions -/
theorem pe_lc' (c : Cok X S P F C W) (hh : S.hot = false) {elt iter tg0 : Expr} {ifs : List Expr} {sc : Scope} {own : List Nat} {tg : MT} {pos : Pos} {fe : Sem1} {ft : Env → MHp → Res Bool} {fi : Env → MHp → Res Wk}
    (hin : tgIn tg own = true) (hb : blkC S.N S.sc sc (ownP S own) = true) (ht : wfT (inner S sc) (fun x => sc.names.lookup x == some .cell) tg tg0 = true) (hfold : ∀ x, foldedSetIterable iter X.env x = pure x)
    (hi : PI X (toT tg tg0) iter (RdI C W fi))
    (he : ∀ {X' : Cx} {C' : XC}, Cok X' (inner S sc) P F C' W0 → PE X' elt (RdE C' W0 fe)) (hf : ∀ {X' : Cx} {C' : XC}, Cok X' (inner S sc) P F C' W0 → PTs X' ifs (RdT C' W0 ft)) :
    PE X (.ListComp elt [⟨toT tg tg0, iter, ifs, 0⟩] sc pos) (RdE C W fun env h => (fi env h).bind fun r h1 => match loopC fe ft tg r.src r.items (wipeE env own) h1 with | .ok ys h2 => .ok (.lst ys) h2 | _ => .stuck) := by
  have hblk : ∀ (s : Shared) (H : Hp) (D : Addr) (cl : List (Str × Addr)) (fp : List Addr), Cok (X.blk s H sc (compEnvC sc cl D X.env) fp) (inner S sc) P F C W0 := fun s H D cl fp => c.blk s H sc cl D fp
  refine pe_weak (pe_lc (own := ownP S own) (c.calm hh) (by rw [c.hN]; exact c.nd) hi (blkOk_by (by rw [c.hN, c.hsc]; exact hb)) (g := gT C.K.f tg) (tt := RdTz C W0 ft) (te := RdEz C W0 fe) ?_ ?_ ?_ hfold) fun σ H Q q => ?_
  · intro s H D cl fp
    have cb := hblk s H D cl fp
    refine pg_sound cb.hN cb.nd cb.hsc cb.hK cb.calm (fun x hx => hx) tg tg0 ht
  · intro s H D cl fp
    exact pts_z fun z => hf ((hblk s H D cl fp).zz z)
  · intro s H D cl fp
    exact pe_z fun z => he ((hblk s H D cl fp).zz z)
  · have := lc_ok hin q
    rw [ownP_snd]
    exact this
end
end Qm

/-! S7a: zip, reversed. -/
namespace Qm
open PySem PySem.Spec PyProof.Rows L2 RT RZ
section
variable {X : Cx} {S : Sc} {P : Prog} {F : Fn} {C : XC} {W : WX}
theorem srcOk_app {h : MHp} : ∀ {a b : List (Nat × MO)}, srcOk (a ++ b) h = (srcOk a h && srcOk b h)
  | [], b => by simp [srcOk]
  | (n, o) :: r, b => by rw [List.cons_append, srcOk, srcOk, srcOk_app, Bool.and_assoc]
theorem zipL_get : ∀ {xs ys : List PV} {i : Nat} {z : PV}, (zipL xs ys)[i]? = some z → ∃ x y, xs[i]? = some x ∧ ys[i]? = some y ∧ z = .tup [x, y]
  | [], _, _, _, e => by simp [zipL] at e
  | _ :: _, [], _, _, e => by simp [zipL] at e
  | x :: xs, y :: ys, 0, z, e => by simp [zipL] at e; exact ⟨x, y, rfl, rfl, e.symm⟩
  | x :: xs, y :: ys, i + 1, z, e => by
    simp [zipL] at e
    obtain ⟨a, b, h1, h2, h3⟩ := zipL_get e
    exact ⟨a, b, by simpa using h1, by simpa using h2, h3⟩
theorem zipL_end : ∀ {xs ys : List PV} {i : Nat}, (zipL xs ys).length ≤ i → xs.length ≤ i ∨ ys.length ≤ i
  | [], _, _, _ => .inl (by simp)
  | _ :: _, [], _, _ => .inr (by simp)
  | x :: xs, y :: ys, 0, e => by simp [zipL] at e
  | x :: xs, y :: ys, i + 1, e => by
    have := zipL_end (xs := xs) (ys := ys) (i := i) (by simpa [zipL] using e)
    simpa using this
theorem pair_new {M : List Addr} {H : Hp} {h : MHp} {x y : PV} {v w : V} {T : Addr} (hr : HRel C.K M H h) (hT : H T = none) (rx : RV C.K M H x v) (ry : RV C.K M H y w) :
    Ext M H M (upd H T (.tup [v, w])) ∧ HRel C.K M (upd H T (.tup [v, w])) h ∧ RV C.K M (upd H T (.tup [v, w])) (.tup [x, y]) (.ref T) :=
  ⟨Ext.laid hT, hr.laid hT, rv_newT hr hT (by show 2 ≤ sizeLine; decide) (.cons rx (.one ry))⟩
theorem itok_zip {K : PySem.W.Frag} (hK : K = C.K.f) {M0 : List Addr} {H0 : Hp} {h0 : MHp} {p q : PV} {a b : Addr} {xs ys : List PV} (r : RV C.K M0 H0 p (.ref a)) (e : itemsL p h0 = some xs) (r2 : RV C.K M0 H0 q (.ref b)) (e2 : itemsL q h0 = some ys) : ItOk C M0 H0 ⟨zipL xs ys, srcOf p xs ++ srcOf q ys⟩ (Itz K a b) := by
  intro z hz M H h ex hr src i
  have src' : (srcOk (srcOf p xs) h && srcOk (srcOf q ys) h) = true := by rw [← srcOk_app]; exact src
  rw [Bool.and_eq_true] at src'
  obtain ⟨a', vs, ea, zz, hl, rvs⟩ := list_stays (C := C.zz z) (r.hids hz) e ex hr src'.1
  cases ea
  obtain ⟨b', ws, eb, zz2, hl2, rvs2⟩ := list_stays (C := C.zz z) (r2.hids hz) e2 ex hr src'.2
  cases eb
  refine ⟨fun y hy => ?_, fun hi => ?_⟩
  · obtain ⟨x1, x2, g1, g2, rfl⟩ := zipL_get hy
    obtain ⟨w1, ew1, rw1⟩ := rvs.get g1
    obtain ⟨w2, ew2, rw2⟩ := rvs2.get g2
    refine ⟨⟨vs, ws, w1, w2, SqL.of hl, SqL.of hl2, ew1, ew2⟩, fun v H' hyld => ?_⟩
    obtain ⟨T, u1, u2, rfl, hT, rfl, k1, k2⟩ := hyld
    have q1 := k1 vs (SqL.of hl)
    have q2 := k2 ws (SqL.of hl2)
    rw [ew1] at q1; rw [ew2] at q2
    cases q1; cases q2
    exact pair_new (C := C.zz z) hr hT rw1 rw2
  · refine ⟨vs, ws, SqL.of hl, SqL.of hl2, ?_⟩
    rw [rvs.len, rvs2.len]
    exact zipL_end hi
theorem itok_zipT {K : PySem.W.Frag} (hK : K = C.K.f) {M0 : List Addr} {H0 : Hp} {a b : Addr} {xs ys : List PV} (r : RV C.K M0 H0 (.tup xs) (.ref a)) (r2 : RV C.K M0 H0 (.tup ys) (.ref b)) : ItOk C M0 H0 ⟨zipL xs ys, []⟩ (ItzT K a b) := by
  intro z hz M H h ex hr src i
  obtain ⟨a', vs, ea, ta, rvs⟩ := rv_tup (C := C.zz z) ((r.hids hz).ext ex)
  cases ea
  obtain ⟨b', ws, eb, tb, rvs2⟩ := rv_tup (C := C.zz z) ((r2.hids hz).ext ex)
  cases eb
  have hs : SqT K H a vs := by rw [hK]; exact ta.seq
  have hs2 : SqT K H b ws := by rw [hK]; exact tb.seq
  refine ⟨fun y hy => ?_, fun hi => ?_⟩
  · obtain ⟨x1, x2, g1, g2, rfl⟩ := zipL_get hy
    obtain ⟨w1, ew1, rw1⟩ := rvs.get g1
    obtain ⟨w2, ew2, rw2⟩ := rvs2.get g2
    refine ⟨⟨vs, ws, w1, w2, hs, hs2, ew1, ew2⟩, fun v H' hyld => ?_⟩
    obtain ⟨T, u1, u2, rfl, hT, rfl, k1, k2⟩ := hyld
    have q1 := k1 vs hs
    have q2 := k2 ws hs2
    rw [ew1] at q1; rw [ew2] at q2
    cases q1; cases q2
    exact pair_new (C := C.zz z) hr hT rw1 rw2
  · refine ⟨vs, ws, hs, hs2, ?_⟩
    rw [rvs.len, rvs2.len]
    exact zipL_end hi
theorem rev_get {xs : List PV} {i : Nat} {y : PV} (e : xs.reverse[i]? = some y) : i < xs.length ∧ xs[xs.length - 1 - i]? = some y := by
  have hi : i < xs.length := by have := (List.getElem?_eq_some_iff.mp e).1; simpa using this
  rw [List.getElem?_reverse hi] at e
  exact ⟨hi, e⟩
theorem itok_rev {K : PySem.W.Frag} (hK : K = C.K.f) {M0 : List Addr} {H0 : Hp} {h0 : MHp} {p : PV} {a : Addr} {xs : List PV} {n : Nat} (hn : n = xs.length) (r : RV C.K M0 H0 p (.ref a)) (e : itemsL p h0 = some xs) : ItOk C M0 H0 ⟨xs.reverse, srcOf p xs⟩ (Itv K a n) := by
  subst hn
  intro z hz M H h ex hr src i
  obtain ⟨a', vs, ea, zz, hl, rvs⟩ := list_stays (C := C.zz z) (r.hids hz) e ex hr src
  cases ea
  refine ⟨fun y hy => ?_, fun hi => by rw [List.length_reverse] at hi; exact hi⟩
  obtain ⟨hi, g⟩ := rev_get hy
  obtain ⟨w, ew, rw_⟩ := rvs.get g
  refine ⟨⟨hi, vs, w, SqL.of hl, ew⟩, fun v H' hyld => ?_⟩
  obtain ⟨rfl, hv⟩ := hyld
  have := hv vs (SqL.of hl)
  rw [ew] at this
  cases this
  exact ⟨Ext.refl, hr, rw_⟩
theorem itok_revT {K : PySem.W.Frag} (hK : K = C.K.f) {M0 : List Addr} {H0 : Hp} {a : Addr} {xs : List PV} {n : Nat} (hn : n = xs.length) (r : RV C.K M0 H0 (.tup xs) (.ref a)) : ItOk C M0 H0 ⟨xs.reverse, []⟩ (ItvT K a n) := by
  subst hn
  intro z hz M H h ex hr src i
  obtain ⟨a', vs, ea, ta, rvs⟩ := rv_tup (C := C.zz z) ((r.hids hz).ext ex)
  cases ea
  have hs : SqT K H a vs := by rw [hK]; exact ta.seq
  refine ⟨fun y hy => ?_, fun hi => by rw [List.length_reverse] at hi; exact hi⟩
  obtain ⟨hi, g⟩ := rev_get hy
  obtain ⟨w, ew, rw_⟩ := rvs.get g
  refine ⟨⟨hi, vs, w, hs, ew⟩, fun v H' hyld => ?_⟩
  obtain ⟨rfl, hv⟩ := hyld
  have := hv vs hs
  rw [ew] at this
  cases this
  exact ⟨Ext.refl, hr, rw_⟩
theorem pi_rvd (c : Cok X S P F C W) {tg a : Expr} {pf pos : Pos} {f : Sem1} (hb : isBi S "reversed" = true) (he : PE X a (RdE C W f)) (hs : starEach [a] X.env = (false, eval a X.env) :: starEach [] X.env) :
    PI X tg (.Call (.Name "reversed" pf) [a] [] pos) (RdI C W fun env h => (f env h).bind fun x h1 => (ofOpt (itemsT x h1) h1).bind fun xs h2 => .ok ⟨xs.reverse, srcOf x xs⟩ h2) := by
  obtain ⟨g, m, _, _⟩ := c.bi hb
  refine pi_weak (pi_revA g m he hs) fun σ H R o => ?_
  obtain ⟨M, h, env, hr, er, o⟩ := o
  refine RdE.goI hr er o fun v H1 M1 h1 p x1 hr1 er1 rv o1 => ?_
  cases ei : itemsT p h1 with
  | none => rw [ei] at o1; exact o1.elim
  | some xs =>
    rw [ei] at o1
    obtain ⟨a, vs, rfl, zz, alt, rvs⟩ := itemsT_ok hr1 rv ei
    have hz : xs.length ≤ sizeLine := by rw [← rvs.len]; exact zz
    have hz' : xs.reverse.length ≤ sizeLine := by simpa using hz
    refine ⟨a, vs, rfl, ?_⟩
    rcases alt with ⟨⟨ys, rfl⟩, ht⟩ | ⟨el, hl⟩
    · cases ei
      exact .inr ⟨by rw [c.hK]; exact ht, o1 hz' H1 M1 _ Ext.refl hr1 (itok_revT c.hK rvs.len rv)⟩
    · exact .inl ⟨SqL.of hl, o1 hz' H1 M1 _ Ext.refl hr1 (itok_rev c.hK rvs.len rv el)⟩
theorem zipL_len : ∀ (xs ys : List PV), (zipL xs ys).length ≤ xs.length
  | [], _ => by simp [zipL]
  | _ :: _, [] => by simp [zipL]
  | x :: xs, y :: ys => by simpa [zipL] using zipL_len xs ys
theorem pi_zip' (c : Cok X S P F C W) {a b : Expr} {elts : List Expr} {kk : Nat} {tpos pf pos : Pos} {fa fb : Sem1} (hb : isBi S "zip" = true) (ha : PA X [a, b] (RdA C W fun env h => (fa env h).bind fun x h1 => (fb env h1).bind fun y h2 => .ok [x, y] h2))
    (hs : starEach [a, b] X.env = (false, eval a X.env) :: starEach [b] X.env) (hpl : (backTo pos (starEach [b] X.env)).any (·.1) = false) :
    PI X (.Tuple elts kk tpos) (.Call (.Name "zip" pf) [a, b] [] pos) (RdI C W fun env h => (fa env h).bind fun x h1 => (fb env h1).bind fun y h2 => ofOpt (itemsZ x y h2) h2) := by
  obtain ⟨g, m, _, _⟩ := c.bi hb
  refine pi_weak (pi_zipA g m ha hs hpl) fun σ H R o => ?_
  obtain ⟨M, h, env, hr, er, o⟩ := o
  refine RdA.goI (R := R) (g := fun l h2 => match l with | [x, y] => ofOpt (itemsZ x y h2) h2 | _ => .stuck) hr er ?_ fun vs H1 M1 h1 ps x1 hr1 er1 rv o1 => ?_
  · show OutI C (WE W σ) R M H (((fa env h).bind fun x h1 => (fb env h1).bind fun y h2 => .ok [x, y] h2).bind _)
    have e : (((fa env h).bind fun x h1 => (fb env h1).bind fun y h2 => (.ok [x, y] h2 : Res (List PV))).bind fun l h2 => match l with | [x, y] => ofOpt (itemsZ x y h2) h2 | _ => .stuck) = ((fa env h).bind fun x h1 => (fb env h1).bind fun y h2 => ofOpt (itemsZ x y h2) h2) := by
      cases fa env h with
      | ok x h1 =>
        simp only [Res.bind_ok]
        cases fb env h1 with
        | ok y h2 => rfl
        | exn _ _ => rfl
        | stuck => rfl
      | exn _ _ => rfl
      | stuck => rfl
    rw [e]; exact o
  · match ps, rv, o1 with
    | [x, y], rv, o1 =>
      obtain ⟨v, w, rfl, rx, ry⟩ := rvs2 rv
      have o1 : OutI C (WE W σ) R M1 H1 (ofOpt (itemsZ x y h1) h1) := o1
      cases ez : itemsZ x y h1 with
      | none => rw [ez] at o1; exact o1.elim
      | some wk =>
        rw [ez] at o1
        unfold itemsZ at ez
        split at ez
        · cases ez
          rename_i xs ys
          obtain ⟨a', vs, rfl, ta, r1⟩ := rv_tup rx
          obtain ⟨b', ws, rfl, tb, r2⟩ := rv_tup ry
          refine ⟨a', b', vs, ws, rfl, .inr ⟨by rw [c.hK]; exact ta.seq, by rw [c.hK]; exact tb.seq, o1 (Nat.le_trans (zipL_len _ _) (by rw [← r1.len]; exact ta.len)) H1 M1 _ Ext.refl hr1 (itok_zipT c.hK rx ry)⟩⟩
        · split at ez
          · cases ez
            rename_i xs ys e1 e2
            obtain ⟨a', vs, rfl, z1, hl, r1⟩ := itemsL_ok hr1 rx e1
            obtain ⟨b', ws, rfl, z2, hl2, r2⟩ := itemsL_ok hr1 ry e2
            refine ⟨a', b', vs, ws, rfl, .inl ⟨SqL.of hl, SqL.of hl2, o1 (Nat.le_trans (zipL_len _ _) (by rw [← r1.len]; exact z1)) H1 M1 _ Ext.refl hr1 (itok_zip c.hK rx e1 ry e2)⟩⟩
          · cases ez
    | [], _, o1 => exact o1.elim
    | [_], _, o1 => exact o1.elim
    | _ :: _ :: _ :: _, _, o1 => exact o1.elim
end
end Qm

/-! S7b: enumerate of lists and of tuples. -/
namespace PySem
open Sem (wp)
open AutoSeq1 (wpAny_loadPart')
theorem meets_enumerate_newT (a : Addr) (items : Array Value) (n : Nat) (dct : Option Addr) (sl : Array (Option Value)) :
    Meets (Builtin.«enumerate.__new__» ⟨[.type "enumerate", .ref a], []⟩) (fun _ R s => s.heap.get? a = some { cls := .type "tuple", dict := dct, data := .seq items n, slots := sl } ∧
      R (.ok (.ret (.ref (s.heap.push { cls := .type "tuple_iterator", data := .fields #[.ref a, .int 0 0] }).objs.size)))
        { s with heap := (s.heap.push { cls := .type "tuple_iterator", data := .fields #[.ref a, .int 0 0] }).push { cls := .type "enumerate", data := .fields #[.none, .bool false, .ref s.heap.objs.size, rawInt 0, .none, .none] } }) :=
  .of_wp fun prog w A R s h => by
    obtain ⟨hp, g, d, tk, os⟩ := s; obtain ⟨hl, h⟩ := h
    have hsub := sub_enumerate
    have hL : Heap.IsTuple (Shared.heap ⟨hp, g, d, tk, os⟩) a items := ⟨_, hl, rfl, n, rfl⟩
    wp_walk using wpAny_loadPart' hl
    refine wpAny_stack_any fun st => wpAny_pure ?_
    split
    · rename_i c _ _ _ _ _
      cases (c == Value.type "enumerate")
      · wp_walk using wpAny_loadPart' hl, wpAny_pyIter_tuple hL
        exact ⟨_, rfl, h⟩
      · wp_walk using wpAny_loadPart' hl, wpAny_pyIter_tuple hL
        exact ⟨_, rfl, h⟩
    · wp_walk using wpAny_loadPart' hl, wpAny_pyIter_tuple hL
      exact ⟨_, rfl, h⟩
section
variable {prog : Program} {w : World} {A : Around} {E : Value → Shared → Prop} {s : Shared}
theorem call_enumerate_tuple {l : Addr} {items : Array Value} {Q : Value → Shared → Prop} (hL : s.heap.IsTuple l items)
    (h : ∀ h', IsEnum h' (s.heap.objs.size + 1) s.heap.objs.size 0 .none → h'.IsTupleIter s.heap.objs.size l 0 → h'.objs.size = s.heap.objs.size + 2 →
      (∀ b o, s.heap.get? b = some o → h'.get? b = some o) → Q (.ref (s.heap.objs.size + 1)) { s with heap := h' }) :
    wpAny (model prog w) A (call (.type "enumerate") [.ref l]) Q E s := by
  obtain ⟨⟨c, dct, dt, sl⟩, hl, hc, n, hd⟩ := hL
  replace hc : c = .type "tuple" := hc
  replace hd : dt = .seq items n := hd
  subst hc hd
  refine callType_new F.called_enumerate (by decide) (F.typeCall_enumerate_1 _) (F.newCall_enumerate_1 _) (fun obj => F.args_object_init_2 obj _) F.entry_enumerate_new
    (meets_enumerate_newT l items n dct sl) ⟨hl, ?_⟩
  have hz : (s.heap.push { cls := .type "tuple_iterator", data := .fields #[.ref l, .int 0 0] }).objs.size = s.heap.objs.size + 1 := Heap.size_push ..
  show _ ∧ _
  rw [hz]
  have he : IsEnum ((s.heap.push { cls := .type "tuple_iterator", data := .fields #[.ref l, .int 0 0] }).push
      { cls := .type "enumerate", data := .fields #[.none, .bool false, .ref s.heap.objs.size, rawInt 0, .none, .none] }) (s.heap.objs.size + 1) s.heap.objs.size 0 .none := by
    have := Heap.get?_push_size (s.heap.push { cls := .type "tuple_iterator", data := .fields #[.ref l, .int 0 0] })
      (o := { cls := .type "enumerate", data := .fields #[.none, .bool false, .ref s.heap.objs.size, rawInt 0, .none, .none] }) rfl
    rw [hz] at this; exact this
  refine ⟨⟨_, he, rfl⟩, h _ he ⟨_, Heap.get?_push_of_some _ (Heap.get?_push_size _ rfl), rfl, rfl⟩ (by rw [Heap.size_push, hz]) fun b o x => Heap.get?_push_of_some _ (Heap.get?_push_of_some _ x)⟩
theorem wpAny_pyNext_enum_endT {e it l : Addr} {i : Nat} {items : Array Value} {old : Value} {Q : Option Value → Shared → Prop} (hh : A.handled = none)
    (he : IsEnum s.heap e it i old) (hit : s.heap.IsTupleIter it l i) (hl : s.heap.IsTuple l items) (hx : items[i]? = none)
    (hQ : ∀ h', Heap.ExtBut it s.heap h' → Q none { s with heap := h' }) : wpAny (model prog w) A (pyNext (.ref e)) Q E s := by
  have hT : s.TypeIs (.ref e) "enumerate" := ⟨_, he, rfl⟩
  unfold pyNext
  refine wpAny_bind (wpAny_attempt (wpAny_callSpecial?_slot (name := Str.ofString "__next__") hT F.slot_enumerate_next
    (wpAny_call_entry F.slot_enumerate_next hT F.entry_enumerate_next ?_ (F.args_enumerate_next_1 _))))
  show wpAny _ _ (field (.ref e) 2 >>= _) _ _ _
  refine wpAny_bind (wpAny_field he rfl (x := .ref it) rfl ?_)
  refine wpAny_bind (RZ.nextOf_tuple_end hh hit hl hx fun h' x he' hx' => ?_)
  obtain ⟨o, ho, hc⟩ := hx'
  refine wpAny_bind (wpAny_isInstance (T := "StopIteration") (b := true) ⟨o, ho, hc⟩ isSubtype_stop ?_)
  exact wpAny_pure (hQ _ he')
end
end PySem
namespace Qm
open PySem PySem.Spec PyProof.Rows L2 RT RZ
/-- enumerate over the tuple at a -/
def IteT (K : PySem.W.Frag) (a : Addr) : It :=
  ⟨fun i H => ∃ (xs : List V) (x : V), SqT K H a xs ∧ xs[i]? = some x, fun i H v H' => ∃ T x, v = .ref T ∧ H T = none ∧ H' = upd H T (.tup [.int (i : Nat), x]) ∧ ∀ xs, SqT K H a xs → xs[i]? = some x, fun i H => ∃ xs : List V, SqT K H a xs ∧ xs.length ≤ i⟩
theorem turn_enumT {P : Program} {w : World} {K : PySem.W.Frag} {elts : List Expr} {kk : Nat} {tpos : Pos} (a e it : Addr) :
    Turn P w K (.Tuple elts kk tpos) (IteT K a) [e, it] e (fun i h => (∃ old, IsEnum h e it ((i : Nat) : Int) old) ∧ h.IsTupleIter it a i ∧ e ≠ it ∧ e ≠ a ∧ a ≠ it) where
  mem := by simp
  obj := fun i h st b hb => by
    obtain ⟨⟨old, he⟩, ⟨o, ho, hc, hd⟩, _⟩ := st
    have e' : b = e ∨ b = it := by simpa using hb
    rcases e' with z | z
    · rw [z]; exact ⟨_, he, fun v q => nomatch q⟩
    · rw [z]; exact ⟨o, ho, fun v q => by rw [hd] at q; cases q⟩
  keep := fun i h h' st k => let ⟨⟨old, he⟩, hi, hne⟩ := st; ⟨⟨old, k e (by simp) _ he⟩, hi.at fun o q => k it (by simp) o q, hne⟩
  item := by
    intro X hP hw hK hc i pins s σ H E I hf st hg
    subst hP hw hK
    obtain ⟨⟨old, he⟩, hit, hne, hea, hai⟩ := st
    obtain ⟨xs, x, hq, hx⟩ := hg
    obtain ⟨its, rv, p, hz⟩ := I.tuple hq
    obtain ⟨u, hu, ru⟩ := rv.get hx
    have hel : e < s.heap.objs.size := Heap.lt_size he
    have hil : it < s.heap.objs.size := by obtain ⟨_, q, _⟩ := hit; exact Heap.lt_size q
    have hlt : i < its.toArray.size := by
      have := (List.getElem?_eq_some_iff.mp hu).1
      simpa using this
    refine wpAny_pyNext_enum_itemD (Draws.tuple (A := X.A.in1) (I.ok.hd hc) it a hai its.toArray) he ⟨hit, p⟩ hlt hne (by simp [hne, hea]) fun y h' tk hy ho hst' hT hsz hk => ?_
    have hy' : y = u := by
      have hy : its[i]? = some y := by simpa using hy
      rw [hu] at hy
      exact (Option.some.inj hy).symm
    subst hy'
    obtain ⟨hit', _⟩ := hst'
    refine ⟨_, rfl, wpAny_letOwnedTupleGo_enum (s := { s with heap := h', toks := tk + 1 }) ho fun h'' he' sb => ?_⟩
    have hT2 : h''.get? s.heap.objs.size = some { cls := .type "tuple", data := .seq #[.int i tk, y] } := (sb.2 _ (Nat.ne_of_gt hel)).trans hT
    have new : ObjOk X.prog X.w (upd H s.heap.objs.size (.tup [.int (i : Nat), x])) h'' s.heap.objs.size (.tup [.int (i : Nat), x]) :=
      ⟨by show 2 ≤ sizeLine; decide, [.int i tk, y], .cons ⟨_, rfl⟩ (.cons ru .nil), ⟨_, hT2, rfl, _, rfl⟩⟩
    have I1 : Inv X pins σ (upd H s.heap.objs.size (.tup [.int (i : Nat), x])) { s with heap := h'', toks := tk + 1 } :=
      I.turnedNew (ch := [e, it]) (fun b ob hb q => (sb.2 b (fun z => hb (by simp [z]))).trans (hk b ob (fun z => hb (by simp [z])) (fun z => hb (by simp [z])) q)) hf (Nat.le_refl _) new
    refine ⟨.ref s.heap.objs.size, _, I1, rfl, ⟨_, x, rfl, I.hok.fresh (Nat.le_refl _), rfl, fun ys hy => by rw [I.tuple_inj hy hq]; exact hx⟩, ⟨⟨y, ?_⟩, hit'.at fun o q => (sb.2 it (Ne.symm hne)).trans q, hne, hea, hai⟩, fun b hb => ?_⟩
    · have e1 : ((i + 1 : Nat) : Int) = (i : Int) + 1 := by omega
      rw [e1]; exact he'
    · have hb' : b < s.heap.objs.size := by
        have e' : b = e ∨ b = it := by simpa using hb
        rcases e' with z | z
        · rw [z]; exact hel
        · rw [z]; exact hil
      rw [upd_ne (Nat.ne_of_lt hb')]
      exact (hf b hb).1
  done := by
    intro X hP hw hK hc i pins s σ H E I hf st hg
    subst hP hw hK
    obtain ⟨⟨old, he⟩, hit, hne, hea, hai⟩ := st
    obtain ⟨xs, hq, hx⟩ := hg
    obtain ⟨its, rv, p, hz⟩ := I.tuple hq
    obtain ⟨f0, f1, f2, f3, f4, f5⟩ := hf it (by simp)
    have hl := rv.length
    exact wpAny_pyNext_enum_endT (I.ok.hd hc) he hit p (by simp; omega) fun h' eb => ⟨rfl, I.turned (t' := s.toks) (fun b o hb q => eb b o hb q) f0 f1 f3 f4 f5⟩
  self := fun A i s Q E st h => let ⟨⟨_, he⟩, _⟩ := st; wpAny_pyIter_enum he h
def iEnumA (K : PySem.W.Frag) (te : TE) : TI := fun σ H R => te σ H fun v H1 => ∃ (a : Addr) (xs : List V), v = .ref a ∧ ((SqL K H1 a xs ∧ R (Ite K a) H1) ∨ (SqT K H1 a xs ∧ R (IteT K a) H1))
theorem pi_enumA {X : Cx} {e : Expr} {te : TE} {p pos tpos : Pos} {elts : List Expr} {kk : Nat} (hg : Gl X "enumerate") (hm : X.mg "enumerate" = none) (he : PE X e te) (hs : starEach [e] X.env = (false, eval e X.env) :: starEach [] X.env := by rfl) :
    PI X (.Tuple elts kk tpos) (.Call (.Name "enumerate" p) [e] [] pos) (iEnumA X.K te) := by
  refine ⟨fun pins s σ H R I h => ?_⟩
  refine Call_ (ld_blt I hg hm boot_enumerate (PyProof.Rows.callWith_type1 (args_cons (thn (he.run pins s σ H _ I h) fun u s1 ⟨v, H1, I1, r1, q1⟩ => args_nil ?_) hs) hs rfl))
  obtain ⟨a, xs, ev, q⟩ := q1
  subst ev
  obtain rfl : u = Value.ref a := r1
  rcases q with ⟨hq, q⟩ | ⟨hq, q⟩
  · obtain ⟨its, rv, p', hz⟩ := I1.list hq
    refine call_enumerate_list p'.isList fun h' he hit hsz hk => wpAny_pyIter_enum he ?_
    have I2 : Inv X pins σ H1 { s1 with heap := h' } := I1.kept (t' := s1.toks) hk
    refine ⟨s1.heap.objs.size + 1, [s1.heap.objs.size + 1, s1.heap.objs.size], _, _, H1, rfl, I2, turn_enum a (s1.heap.objs.size + 1) s1.heap.objs.size, ⟨⟨.none, he⟩, hit, Nat.succ_ne_self _⟩, fun b hb => ?_, q⟩
    have e' : b = s1.heap.objs.size + 1 ∨ b = s1.heap.objs.size := by simpa using hb
    have hle : s1.heap.objs.size ≤ b := by
      rcases e' with z | z
      · rw [z]; exact Nat.le_add_right _ _
      · rw [z]; exact Nat.le_refl _
    exact I1.fpOk hle (I1.hok.fresh hle)
  · obtain ⟨its, rv, p', hz⟩ := I1.tuple hq
    have ha : a < s1.heap.objs.size := by obtain ⟨o, ho, _⟩ := id p'; exact Heap.lt_size ho
    refine call_enumerate_tuple p' fun h' he hit hsz hk => wpAny_pyIter_enum he ?_
    have I2 : Inv X pins σ H1 { s1 with heap := h' } := I1.kept (t' := s1.toks) hk
    refine ⟨s1.heap.objs.size + 1, [s1.heap.objs.size + 1, s1.heap.objs.size], _, _, H1, rfl, I2, turn_enumT a (s1.heap.objs.size + 1) s1.heap.objs.size, ⟨⟨.none, he⟩, hit, Nat.succ_ne_self _, Nat.ne_of_gt (Nat.lt_succ_of_lt ha), Nat.ne_of_lt ha⟩, fun b hb => ?_, q⟩
    have e' : b = s1.heap.objs.size + 1 ∨ b = s1.heap.objs.size := by simpa using hb
    have hle : s1.heap.objs.size ≤ b := by
      rcases e' with z | z
      · rw [z]; exact Nat.le_add_right _ _
      · rw [z]; exact Nat.le_refl _
    exact I1.fpOk hle (I1.hok.fresh hle)
section
variable {X : Cx} {S : Sc} {P : Prog} {F : Fn} {C : XC} {W : WX}
theorem enumL_get : ∀ {xs : List PV} {n i : Nat} {z : PV}, (enumL n xs)[i]? = some z → ∃ x, xs[i]? = some x ∧ z = .tup [.int ((n + i : Nat) : Int), x]
  | [], _, _, _, e => by simp [enumL] at e
  | x :: xs, n, 0, z, e => by simp [enumL] at e; exact ⟨x, rfl, by rw [← e]; rfl⟩
  | x :: xs, n, i + 1, z, e => by
    simp [enumL] at e
    obtain ⟨a, h1, h2⟩ := enumL_get e
    exact ⟨a, by simpa using h1, by rw [h2, show n + 1 + i = n + (i + 1) from by omega]⟩
theorem enumL_len : ∀ (xs : List PV) (n : Nat), (enumL n xs).length = xs.length
  | [], _ => rfl
  | x :: xs, n => by rw [enumL, List.length_cons, enumL_len xs, List.length_cons]
theorem itok_enum {K : PySem.W.Frag} (hK : K = C.K.f) {M0 : List Addr} {H0 : Hp} {h0 : MHp} {x : PV} {a : Addr} {xs : List PV} (r : RV C.K M0 H0 x (.ref a)) (e : itemsL x h0 = some xs) : ItOk C M0 H0 ⟨enumL 0 xs, srcOf x xs⟩ (Ite K a) := by
  intro z hz M H h ex hr src i
  obtain ⟨a', vs, ea, zz, hl, rvs⟩ := list_stays (C := C.zz z) (r.hids hz) e ex hr src
  cases ea
  refine ⟨fun y hy => ?_, fun hi => ?_⟩
  · obtain ⟨x1, g1, rfl⟩ := enumL_get hy
    obtain ⟨w, ew, rw_⟩ := rvs.get g1
    refine ⟨⟨vs, w, SqL.of hl, ew⟩, fun v H' hyld => ?_⟩
    obtain ⟨T, u, rfl, hT, rfl, k1⟩ := hyld
    have q1 := k1 vs (SqL.of hl)
    rw [ew] at q1
    cases q1
    rw [Nat.zero_add]
    exact pair_new (C := C.zz z) hr hT rv_i rw_
  · refine ⟨vs, SqL.of hl, ?_⟩
    rw [rvs.len]
    have hi : (enumL 0 xs).length ≤ i := hi
    rwa [enumL_len] at hi
theorem itok_enumT {K : PySem.W.Frag} (hK : K = C.K.f) {M0 : List Addr} {H0 : Hp} {a : Addr} {xs : List PV} (r : RV C.K M0 H0 (.tup xs) (.ref a)) : ItOk C M0 H0 ⟨enumL 0 xs, []⟩ (IteT K a) := by
  intro z hz M H h ex hr src i
  obtain ⟨a', vs, ea, ta, rvs⟩ := rv_tup (C := C.zz z) ((r.hids hz).ext ex)
  cases ea
  have hs : SqT K H a vs := by rw [hK]; exact ta.seq
  refine ⟨fun y hy => ?_, fun hi => ?_⟩
  · obtain ⟨x1, g1, rfl⟩ := enumL_get hy
    obtain ⟨w, ew, rw_⟩ := rvs.get g1
    refine ⟨⟨vs, w, hs, ew⟩, fun v H' hyld => ?_⟩
    obtain ⟨T, u, rfl, hT, rfl, k1⟩ := hyld
    have q1 := k1 vs hs
    rw [ew] at q1
    cases q1
    rw [Nat.zero_add]
    exact pair_new (C := C.zz z) hr hT rv_i rw_
  · refine ⟨vs, hs, ?_⟩
    rw [rvs.len]
    have hi : (enumL 0 xs).length ≤ i := hi
    rwa [enumL_len] at hi
theorem pi_enu' (c : Cok X S P F C W) {elts : List Expr} {kk : Nat} {tpos : Pos} {a : Expr} {pf pos : Pos} {f : Sem1} (hb : isBi S "enumerate" = true) (he : PE X a (RdE C W f)) (hs : starEach [a] X.env = (false, eval a X.env) :: starEach [] X.env) :
    PI X (.Tuple elts kk tpos) (.Call (.Name "enumerate" pf) [a] [] pos) (RdI C W fun env h => (f env h).bind fun x h1 => (ofOpt (itemsT x h1) h1).bind fun xs h2 => .ok ⟨enumL 0 xs, srcOf x xs⟩ h2) := by
  obtain ⟨g, m, _, _⟩ := c.bi hb
  refine pi_weak (pi_enumA g m he hs) fun σ H R o => ?_
  obtain ⟨M, h, env, hr, er, o⟩ := o
  refine RdE.goI hr er o fun v H1 M1 h1 p x1 hr1 er1 rv o1 => ?_
  cases ei : itemsT p h1 with
  | none => rw [ei] at o1; exact o1.elim
  | some xs =>
    rw [ei] at o1
    obtain ⟨a, vs, rfl, zz, alt, rvs⟩ := itemsT_ok hr1 rv ei
    have hz : xs.length ≤ sizeLine := by rw [← rvs.len]; exact zz
    have hz' : (enumL 0 xs).length ≤ sizeLine := by rw [enumL_len]; exact hz
    refine ⟨a, vs, rfl, ?_⟩
    rcases alt with ⟨⟨ys, rfl⟩, ht⟩ | ⟨el, hl⟩
    · cases ei
      exact .inr ⟨by rw [c.hK]; exact ht, o1 hz' H1 M1 _ Ext.refl hr1 (itok_enumT c.hK rv)⟩
    · exact .inl ⟨SqL.of hl, o1 hz' H1 M1 _ Ext.refl hr1 (itok_enum c.hK rv el)⟩
end
end Qm

/-! S9a: a dict of one entry, written. -/
namespace Qm
open PySem PySem.Spec PyProof.Rows L2
section
variable {K : KZ} {M : List Addr} {H : Hp} {D : Addr}
theorem Off.push {a : Addr} (h : Off (K.hide D) M a) : Off K (M ++ [D]) a := ⟨fun z => by
  rcases List.mem_append.mp z with z | z
  · exact h.1 z
  · simp at z; exact h.2 (z ▸ List.mem_cons_self), fun z => h.2 (List.mem_cons_of_mem _ z)⟩
mutual
theorem RV.pushz : ∀ {p : PV} {v : V}, RV (K.hide D) M H p v → RV K (M ++ [D]) H p v
  | .non, _, h => by rw [RV] at h ⊢; exact h
  | .bl _, _, h => by rw [RV] at h ⊢; exact h
  | .int _, _, h => by rw [RV] at h ⊢; exact h
  | .str _, _, h => by rw [RV] at h ⊢; exact h
  | .tup xs, _, h => by
    rw [RV] at h ⊢
    obtain ⟨a, vs, e, t, r⟩ := h
    refine ⟨a, vs, e, ?_, RVs.pushz r⟩
    rcases t with ⟨z, n, t⟩ | t
    · exact .inl ⟨z, n.push, t⟩
    · exact .inr t
  | .lst xs, _, h => by
    rw [RV] at h ⊢
    obtain ⟨a, vs, e, z, n, t, r⟩ := h
    exact ⟨a, vs, e, z, n.push, t, RVs.pushz r⟩
  | .dic _ _ _, _, h => by
    rw [RV] at h ⊢
    obtain ⟨a, us, u, e, n, t, d, r⟩ := h
    exact ⟨a, us, u, e, n.push, t, d, RVs.pushz r⟩
  | .ref n, _, h => by
    rw [RV] at h ⊢
    obtain ⟨a, e, q⟩ := h
    exact ⟨a, e, by rw [List.getElem?_append_left (List.getElem?_eq_some_iff.mp q).1]; exact q⟩
  | .scr _, _, h => by
    rw [RV] at h ⊢
    obtain ⟨a, e, z, q⟩ := h
    refine ⟨a, e, z, ?_⟩
    rcases q with ⟨n, q⟩ | q
    · exact .inl ⟨n.push, q⟩
    · exact .inr q
theorem RVs.pushz : ∀ {p : List PV} {v : List V}, RVs (K.hide D) M H p v → RVs K (M ++ [D]) H p v
  | [], _, h => by rw [RVs] at h ⊢; exact h
  | _ :: _, _, h => by
    rw [RVs] at h ⊢
    obtain ⟨v, r, e, h1, h2⟩ := h
    exact ⟨v, r, e, RV.pushz h1, RVs.pushz h2⟩
end
theorem ORel.pushz {o : MO} {u : Option HO} (r : ORel (K.hide D) M H o u) : ORel K (M ++ [D]) H o u := by
  cases o with
  | lst xs => obtain ⟨vs, e, z, r⟩ := r; exact ⟨vs, e, z, r.pushz⟩
  | dic t ks ws => obtain ⟨us, y, e, d, r⟩ := r; exact ⟨us, y, e, d, r.pushz⟩
  | ins _ _ => exact r
/-- what stood hidden joins the small heap -/
theorem HRel.pushz {h : MHp} {mo : MO} (hr : HRel (K.hide D) M H h) (hD : D ∉ K.z) (new : ORel K (M ++ [D]) H mo (H D)) : HRel K (M ++ [D]) H (h ++ [mo]) := by
  have hf : D ∉ M := (hr.zs D List.mem_cons_self).1
  refine ⟨by simp [hr.len], List.nodup_append.mpr ⟨hr.nd, by simp, fun a ha b hb => by simp at hb; subst hb; exact fun z => hf (z ▸ ha)⟩, fun a ha => ⟨fun z => ?_, (hr.zs a (List.mem_cons_of_mem _ ha)).2⟩, fun n a u e1 e2 => ?_⟩
  · rcases List.mem_append.mp z with z | z
    · exact (hr.zs a (List.mem_cons_of_mem _ ha)).1 z
    · simp at z; exact hD (z ▸ ha)
  by_cases hn : n < M.length
  · rw [List.getElem?_append_left hn] at e1
    rw [List.getElem?_append_left (by rw [← hr.len]; exact hn)] at e2
    exact (hr.at_ n a u e1 e2).pushz
  · have hn' : n = M.length := by
      have := (List.getElem?_eq_some_iff.mp e1).1
      simp at this
      omega
    subst hn'
    rw [List.getElem?_append_right (Nat.le_refl _)] at e1
    rw [hr.len, List.getElem?_append_right (Nat.le_refl _)] at e2
    simp at e1 e2
    subst e1; subst e2
    exact new
end
section
variable {X : Cx} {S : Sc} {P : Prog} {F : Fn} {C : XC} {W : WX}
def sDc1 (m : Bool) (fk fv : Sem1) : Sem1 := fun env h => match fk env h with
  | .ok x h1 => (match fv env h1 with
    | .ok y h2 => if keyOk false x then (if m then .ok (.ref h2.length) (h2 ++ [.dic false [x] [y]]) else .ok (.dic false [x] [y]) h2) else .stuck
    | _ => .stuck)
  | _ => .stuck
theorem pe_dc1' {m : Bool} {k v : Expr} {pos : Pos} {fk fv : Sem1} (hk : ∀ z, PE X k (RdE (C.zz z) W fk)) (hv : ∀ z, PE X v (RdE (C.zz z) W fv)) : PE X (.Dict [some k] [v] pos) (RdE C W (sDc1 m fk fv)) := by
  refine pe_weak (pe_disp (pps_cons (pe_z hk) (pe_z hv) pps_nil) rfl rfl (by simp) (by show 1 ≤ 15; decide)) fun σ H Q q => ?_
  obtain ⟨M, h, env, hr, er, o⟩ := q
  intro p hp
  have hd : p ∈ (C.K.hide p).z := List.mem_cons_self
  have nz : p ∉ C.K.z := fun z => (hr.zs p z).2 hp
  have hr' : HRel (C.K.hide p) M (upd H p (.dK [])) h := hr.hide hp
  have er' : ERel (C.K.hide p) M (upd H p (.dK [])) σ env := er.hide hp
  unfold sDc1 at o
  refine ⟨(C.K.hide p).z, M, h, env, hr', er', ?_⟩
  cases ek : fk env h with
  | stuck => rw [ek] at o; exact o.elim
  | exn _ _ => rw [ek] at o; exact o.elim
  | ok x h1 =>
    rw [ek] at o
    dsimp only at o
    intro vk H1 M1 x1 hr1 rk
    have hr1 : HRel (C.K.hide p) M1 H1 h1 := hr1
    have rk : RV (C.K.hide p) M1 H1 x vk := rk
    refine ⟨(C.K.hide p).z, M1, h1, env, hr1, er'.ext x1, ?_⟩
    cases ev_ : fv env h1 with
    | stuck => rw [ev_] at o; exact o.elim
    | exn _ _ => rw [ev_] at o; exact o.elim
    | ok y h2 =>
      rw [ev_] at o
      dsimp only at o
      intro vv H2 M2 x2 hr2 rv2
      have hr2 : HRel (C.K.hide p) M2 H2 h2 := hr2
      have rv2 : RV (C.K.hide p) M2 H2 y vv := rv2
      have n0 : p ∉ M := (hr'.zs p hd).1
      have e1 := x1.keep p _ n0 upd_same
      have n1 := x1.out n0 upd_same
      have e2 := x2.keep p _ n1 e1
      have n2 := x2.out n1 e1
      cases c : keyOk false x with
      | false => rw [c] at o; exact o.elim
      | true =>
        rw [c, if_pos rfl] at o
        obtain ⟨k', rfl, rfl⟩ := key_false (C := C.zz (C.K.hide p).z) c rk
        refine ⟨e2, [(k', vv)], rfl, by show 1 ≤ 15; decide, ?_⟩
        show Q (.ref p) (upd H2 p (.dK [(k', vv)]))
        have xa : Ext M (upd H p (.dK [])) M2 H2 := x1.trans x2
        have keep : ∀ a o, a ∉ M → H a = some o → (upd H2 p (.dK [(k', vv)])) a = some o := fun a o n e => by
          have cne : a ≠ p := fun z => by rw [z, hp] at e; cases e
          rw [upd_ne cne]
          exact xa.keep a o n (by rw [upd_ne cne]; exact e)
        have new : ∀ a, a ∈ M2 → a ∈ M ∨ H a = none := fun a ha => by
          rcases xa.new a ha with z | z
          · exact .inl z
          · by_cases cne : a = p
            · subst cne; exact .inr hp
            · rw [upd_ne cne] at z; exact .inr z
        have hrw := hr2.hwr (o := .dK [(k', vv)]) hd
        have rvw := rv2.hwr (o := .dK [(k', vv)]) hd
        cases m with
        | false =>
          simp only [Bool.false_eq_true, if_false] at o
          refine o (.ref p) _ M2 ⟨xa.pre, keep, new⟩ hrw.unhide ?_
          rw [RV]
          exact ⟨p, [vv], _, rfl, ⟨n2, nz⟩, upd_same, ⟨[(k', vv)], rfl, rfl, rfl⟩, .one rvw.unhide⟩
        | true =>
          simp only [if_true] at o
          refine o (.ref p) _ (M2 ++ [p]) ⟨?_, keep, fun a ha => ?_⟩ (hrw.pushz nz (by rw [upd_same]; exact ⟨[vv], _, rfl, ⟨[(k', vv)], rfl, rfl, rfl⟩, .one rvw.pushz⟩)) ?_
          · obtain ⟨l, e⟩ := xa.pre
            exact ⟨l ++ [p], by rw [e, List.append_assoc]⟩
          · rcases List.mem_append.mp ha with ha | ha
            · exact new a ha
            · simp at ha; subst ha; exact .inr hp
          · rw [RV]
            exact ⟨p, rfl, by rw [← hr2.len, List.getElem?_append_right (Nat.le_refl _)]; simp⟩
end
end Qm

/-! S11: every expression. -/
namespace Qm
open PySem PySem.Spec PyProof.Rows L2
theorem mes_ne {es : MEs} (h : 0 < mesLen es) : ∃ e r, es = .cons e r := by
  cases es with
  | nil => simp [mesLen] at h
  | cons e r => exact ⟨e, r, rfl⟩
theorem and2 {a b : Bool} (h : (a && b) = true) : a = true ∧ b = true := by rwa [Bool.and_eq_true] at h
theorem and3 {a b c : Bool} (h : (a && b && c) = true) : a = true ∧ b = true ∧ c = true := by
  rw [Bool.and_eq_true, Bool.and_eq_true] at h; exact ⟨h.1.1, h.1.2, h.2⟩
theorem and4 {a b c d : Bool} (h : (a && b && c && d) = true) : a = true ∧ b = true ∧ c = true ∧ d = true := by
  rw [Bool.and_eq_true] at h; obtain ⟨x, y, z⟩ := and3 h.1; exact ⟨x, y, z, h.2⟩
theorem bnot {a : Bool} (h : (!a) = true) : a = false := by simpa using h
section
variable {P : Prog} {F : Fn} {cx : Option MX}
theorem evs_len : ∀ {es : MEs} {env : Env} {h : MHp} {xs : List PV} {h' : MHp}, evs P F cx es env h = .ok xs h' → xs.length = mesLen es
  | .nil, env, h, xs, h', e => by rw [evs] at e; cases e; rfl
  | .cons a r, env, h, xs, h', e => by
    rw [evs] at e
    cases ea : ev P F cx a env h with
    | ok x h1 =>
      rw [ea, Res.bind_ok] at e
      cases er : evs P F cx r env h1 with
      | ok ys h2 =>
        rw [er, Res.bind_ok] at e
        cases e
        rw [List.length_cons, evs_len er, mesLen]
      | exn _ _ => rw [er] at e; cases e
      | stuck => rw [er] at e; cases e
    | exn _ _ => rw [ea] at e; cases e
    | stuck => rw [ea] at e; cases e
/-- a plain test -/
theorem pt_plain {X : Cx} {S : Sc} {C : XC} {W : WX} (c : Cok X S P F C W) {e : Expr} {f : Sem1} (he : PE X e (RdE C W f)) (hp : ∀ whole, isTrue e X.env whole = (do let v ← whole; standAt e.pos; holding [v] (truthy v))) : PE X e (RdE C W f) ∧ PT X e (RdT C W (tst f)) := ⟨he, pt_of c.hK he hp⟩
theorem len0_of {S : Sc} {o : ME} {e0 : Expr} (h : wfE S o e0 = true) : (∀ f es, o = .call f es → 0 < mesLen es) ∧ (∀ f es, o = .bif f es → 0 < mesLen es) ∧ (∀ f m es, o = .bil f m es → 0 < mesLen es) := by
  refine ⟨fun f es e => ?_, fun f es e => ?_, fun f m es e => ?_⟩ <;> subst e <;> rw [wfE] at h <;> exact of_decide_eq_true (and2 h).2
mutual
theorem e_sound : ∀ (e : ME) {X : Cx} {S : Sc} {C : XC} {W : WX} (c : Cok X S P F C W) (e0 : Expr), wfE S e e0 = true → PE X (toE e e0) (RdE C W (ev P F cx e)) ∧ PT X (toE e e0) (RdT C W (tst (ev P F cx e)))
  | .var i, X, S, C, W, c, e0, h => by
    rw [wfE] at h
    obtain ⟨h1, h2⟩ := and2 h
    rw [toE, show ev P F cx (.var i) = fun env h => match env[i]? with | some (some v) => .ok v h | _ => .stuck from by funext env h; rw [ev] <;> rfl]
    exact pt_plain c (pe_var' c (of_decide_eq_true h1) h2) (by intro _; rfl)
  | .cst v, X, S, C, W, c, e0, h => by
    rw [wfE] at h
    rw [toE, show ev P F cx (.cst v) = fun _ h => .ok v h from by funext env h; rw [ev] <;> rfl]
    exact pt_plain c (pe_cst' h) (by intro _; rfl)
  | .glb k, X, S, C, W, c, e0, h => by
    rw [wfE] at h
    rw [toE, show ev P F cx (.glb k) = fun _ h => ofOpt (P.con k) h from by funext env h; rw [ev] <;> rfl]
    exact pt_plain c (pe_glb' c h) (by intro _; rfl)
  | .bin o a b, X, S, C, W, c, e0, h => by
    rw [wfE] at h
    obtain ⟨h1, h2⟩ := and2 h
    rw [toE, show ev P F cx (.bin o a b) = fun env h => (ev P F cx a env h).bind fun x h1 => (ev P F cx b env h1).bind fun y h2 => ofOpt (bop o x y h2) h2 from by funext env h; rw [ev] <;> rfl]
    exact pt_plain c (pe_bin' c (e_sound a c _ h1).1 (e_sound b c _ h2).1) (by intro _; rfl)
  | .bnm o a b, X, S, C, W, c, e0, h => by
    rw [wfE] at h
    obtain ⟨h1, h2, h3⟩ := and3 h
    rw [toE, show ev P F cx (.bnm o a b) = fun env h => (ev P F cx a env h).bind fun x h1 => (ev P F cx b env h1).bind fun y h2 => (ofOpt (bopL o x y h2) h2).bind fun xs h3 => newL true xs h3 from by funext env h; rw [ev] <;> rfl]
    have ho : o = .add ∨ o = .mul := by
      rw [Bool.or_eq_true] at h3
      exact h3.imp of_decide_eq_true of_decide_eq_true
    exact pt_plain c (pe_bnm' c ho (e_sound a c _ h1).1 (e_sound b c _ h2).1) (by intro _; rfl)
  | .neg a, X, S, C, W, c, e0, h => by
    rw [wfE] at h
    rw [toE, show ev P F cx (.neg a) = fun env h => (ev P F cx a env h).bind fun x h1 => match x with | .int i => .ok (.int (-i)) h1 | _ => .stuck from by funext env h; rw [ev] <;> rfl]
    exact pt_plain c (pe_neg' (e_sound a c _ h).1) (by intro _; rfl)
  | .not a, X, S, C, W, c, e0, h => by
    rw [wfE] at h
    rw [toE, show ev P F cx (.not a) = fun env h => (ev P F cx a env h).bind fun x h1 => (ofOpt (truth x h1) h1).bind fun b h2 => .ok (.bl (!b)) h2 from by funext env h; rw [ev] <;> rfl]
    exact ⟨pe_not' c (e_sound a c _ h).1, pt_not' (e_sound a c _ h).2⟩
  | .cmp o a b, X, S, C, W, c, e0, h => by
    rw [wfE] at h
    obtain ⟨h1, h2⟩ := and2 h
    rw [toE, show ev P F cx (.cmp o a b) = fun env h => (ev P F cx a env h).bind fun x h1 => (ev P F cx b env h1).bind fun y h2 => (ofOpt (cop o x y h2) h2).bind fun k h3 => .ok (.bl k) h3 from by funext env h; rw [ev] <;> rfl]
    exact ⟨pe_cmp' c (e_sound a c _ h1).1 (e_sound b c _ h2).1 (toE_marks _ _ _), pt_cmp' c (e_sound a c _ h1).1 (e_sound b c _ h2).1 (toE_marks _ _ _)⟩
  | .chn o p a b d, X, S, C, W, c, e0, h => by
    rw [wfE] at h
    have h := (and2 (and2 (and2 (and2 h).1).1).1).1
    obtain ⟨h1, h2, h3⟩ := and3 h
    rw [toE, show ev P F cx (.chn o p a b d) = sChn o p (ev P F cx a) (ev P F cx b) (ev P F cx d) from by funext env h; rw [ev] <;> rfl]
    exact ⟨pe_chn' c (e_sound a c _ h1).1 (e_sound b c _ h2).1 (e_sound d c _ h3).1 (toE_last _ _ _ _ _ _), pt_chn' c (e_sound a c _ h1).1 (e_sound b c _ h2).1 (e_sound d c _ h3).1 (toE_last _ _ _ _ _ _)⟩
  | .and es, X, S, C, W, c, e0, h => by
    rw [wfE] at h
    obtain ⟨h1, h2⟩ := and2 h
    obtain ⟨e, r, rfl⟩ := mes_ne (of_decide_eq_true h2)
    rw [toE, show ev P F cx (.and (.cons e r)) = evAnd P F cx (.cons e r) from by funext env h; rw [ev] <;> rfl]
    obtain ⟨q1, q2⟩ := and_sound (.cons e r) c _ e0.pos (of_decide_eq_true h2) h1
    exact ⟨q1, q2.pt⟩
  | .or es, X, S, C, W, c, e0, h => by
    rw [wfE] at h
    obtain ⟨h1, h2⟩ := and2 h
    obtain ⟨e, r, rfl⟩ := mes_ne (of_decide_eq_true h2)
    rw [toE, show ev P F cx (.or (.cons e r)) = evOr P F cx (.cons e r) from by funext env h; rw [ev] <;> rfl]
    obtain ⟨q1, q2⟩ := or_sound (.cons e r) c _ e0.pos (of_decide_eq_true h2) h1
    exact ⟨q1, q2.pt⟩
  | .ife d a b, X, S, C, W, c, e0, h => by
    rw [wfE] at h
    obtain ⟨h1, h2, h3⟩ := and3 h
    rw [toE, show ev P F cx (.ife d a b) = sIfe (ev P F cx d) (ev P F cx a) (ev P F cx b) from by funext env h; rw [ev] <;> rfl]
    exact ⟨pe_ife' (e_sound d c _ h1).2 (e_sound a c _ h2).1 (e_sound b c _ h3).1, pt_ife' (e_sound d c _ h1).2 (e_sound a c _ h2).2 (e_sound b c _ h3).2⟩
  | .ix a i, X, S, C, W, c, e0, h => by
    rw [wfE] at h
    obtain ⟨h1, h2⟩ := and2 h
    rw [toE, show ev P F cx (.ix a i) = fun env h => (ev P F cx a env h).bind fun x h1 => (ev P F cx i env h1).bind fun y h2 => ofOpt (index x y h2) h2 from by funext env h; rw [ev] <;> rfl]
    exact pt_plain c (pe_ix' c (e_sound a c _ h1).1 (e_sound i c _ h2).1 (toE_ix _ _)) (by intro _; rfl)
  | .sl a lo hi, X, S, C, W, c, e0, h => by
    rw [wfE] at h
    obtain ⟨h1, h2, h3⟩ := and3 h
    rw [toE, show ev P F cx (.sl a lo hi) = fun env h => (ev P F cx a env h).bind fun x h1 => (evO P F cx lo env h1).bind fun l h2 => (evO P F cx hi env h2).bind fun u h3 => ofOpt (slice x l u h3) h3 from by funext env h; rw [ev] <;> rfl]
    exact pt_plain c (pe_sl' c (e_sound a c _ h1).1 (o_sound lo c _ h2) (o_sound hi c _ h3)) (by intro _; rfl)
  | .rev a, X, S, C, W, c, e0, h => by
    rw [wfE] at h
    rw [toE, show ev P F cx (.rev a) = fun env h => (ev P F cx a env h).bind fun x h1 => ofOpt (revS x h1) h1 from by funext env h; rw [ev] <;> rfl]
    exact pt_plain c (pe_rev c.hK (e_sound a c _ h).1) (by intro _; rfl)
  | .tup es, X, S, C, W, c, e0, h => by
    rw [wfE] at h
    rw [toE, show ev P F cx (.tup es) = fun env h => (evs P F cx es env h).bind fun xs h1 => if decide (xs.length ≤ big) then .ok (.tup xs) h1 else .stuck from by funext env h; rw [ev] <;> rfl]
    exact pt_plain c (pe_tup' (es_sound es c _ h)) (by intro _; rfl)
  | .lst m es, X, S, C, W, c, e0, h => by
    rw [wfE] at h
    rw [toE, show ev P F cx (.lst m es) = fun env h => (evs P F cx es env h).bind fun xs h1 => if decide (xs.length ≤ big) then newL m xs h1 else .stuck from by funext env h; rw [ev] <;> rfl]
    exact pt_plain c (pe_lst' (es_sound es c _ h)) (by intro _; rfl)
  | .dc0 m t, X, S, C, W, c, e0, h => by
    rw [toE, show ev P F cx (.dc0 m t) = fun _ h => if m then .ok (.ref h.length) (h ++ [.dic t [] []]) else .ok (.dic t [] []) h from by funext env h; rw [ev] <;> rfl]
    exact pt_plain c pe_dc0' (by intro _; rfl)
  | .dc1 m k v, X, S, C, W, c, e0, h => by
    rw [wfE] at h
    obtain ⟨_, h1, h2⟩ := and3 h
    rw [toE, show ev P F cx (.dc1 m k v) = sDc1 m (ev P F cx k) (ev P F cx v) from by funext env h; rw [ev] <;> rfl]
    exact pt_plain c (pe_dc1' (fun z => (e_sound k (c.zz z) _ h1).1) (fun z => (e_sound v (c.zz z) _ h2).1)) (by intro _; rfl)
  | .call f es, X, S, C, W, c, e0, h => by
    rw [wfE] at h
    obtain ⟨h1, h2, h3, h4⟩ := and4 h
    obtain ⟨e, r, rfl⟩ := mes_ne (of_decide_eq_true h4)
    rw [toE, show ev P F cx (.call f (.cons e r)) = fun env h => (evs P F cx (.cons e r) env h).bind fun xs h1 => F f xs h1 from by funext env h; rw [ev] <;> rfl]
    exact pt_plain c (pe_call' c (bnot h1) h2 (es_sound (.cons e r) c _ h3)) (by intro _; rfl)
  | .bif b es, X, S, C, W, c, e0, h => by
    rw [wfE] at h
    obtain ⟨h1, h2, h3, h4⟩ := and4 h
    obtain ⟨e, r, rfl⟩ := mes_ne (of_decide_eq_true h4)
    rw [toE, show ev P F cx (.bif b (.cons e r)) = fun env h => (evs P F cx (.cons e r) env h).bind fun xs h1 => ofOpt (biS b xs h1) h1 from by funext env h; rw [ev] <;> rfl]
    exact pt_plain c (pe_bif' c (bnot h1) h2 (es_sound (.cons e r) c _ h3)) (by intro _; rfl)
  | .bil b m es, X, S, C, W, c, e0, h => by
    rw [wfE] at h
    obtain ⟨h1, h2, h3, h4⟩ := and4 h
    obtain ⟨e, r, rfl⟩ := mes_ne (of_decide_eq_true h4)
    rw [toE, show ev P F cx (.bil b m (.cons e r)) = fun env h => (evs P F cx (.cons e r) env h).bind fun xs h1 => (ofOpt (blS b xs h1) h1).bind fun ys h2 => newL m ys h2 from by funext env h; rw [ev] <;> rfl]
    exact pt_plain c (pe_bil' c (bnot h1) h2 (es_sound (.cons e r) c _ h3)) (by intro _; rfl)
  | .lrg m es, X, S, C, W, c, e0, h => by
    rw [wfE] at h
    obtain ⟨h, h5⟩ := and2 h
    obtain ⟨h1, h2, h3, h4⟩ := and4 h
    rw [toE, show ev P F cx (.lrg m es) = fun env h => (evs P F cx es env h).bind fun xs h1 => (ofOpt (rangeOf xs) h1).bind fun ys h2 => newL m ys h2 from by funext env h; rw [ev] <;> rfl]
    rw [Bool.or_eq_true] at h5
    refine pt_plain c (pe_lrg' c (bnot h1) h2 h3 (h5.imp of_decide_eq_true of_decide_eq_true) ?_ ?_) (by intro _; rfl)
    · intro a a2 b ee
      subst ee
      rw [wfEs, wfEs] at h4
      obtain ⟨k1, k2⟩ := and2 h4
      obtain ⟨k2, k3⟩ := and2 k2
      refine ⟨_, (e_sound a c _ k1).1, _, (e_sound a2 c _ k2).1, fun eb => ?_⟩
      subst eb
      funext env h
      rw [evs]
      congr 1
      funext x h1
      rw [evs]
      cases ev P F cx a2 env h1 <;> simp [evs]
    · intro a ee
      subst ee
      rw [wfEs] at h4
      refine ⟨_, (e_sound a c _ (and2 h4).1).1, ?_⟩
      funext env h
      rw [evs]
      congr 1
  | .isi t a, X, S, C, W, c, e0, h => by
    rw [wfE] at h
    obtain ⟨h1, h2, h3⟩ := and3 h
    rw [toE, show ev P F cx (.isi t a) = fun env h => (ev P F cx a env h).bind fun x h1 => (ofOpt (isTy t x h1) h1).bind fun k h2 => .ok (.bl k) h2 from by funext env h; rw [ev] <;> rfl]
    exact pt_plain c (pe_isi' c h1 h2 (e_sound a c _ h3).1) (by intro _; rfl)
  | .mth m o es, X, S, C, W, c, e0, h => by
    rw [wfE] at h
    obtain ⟨h1, h2, h3, h4⟩ := and4 h
    rw [toE, show ev P F cx (.mth m o es) = fun env h => (ev P F cx o env h).bind fun x h1 => if rcv m x h1 then (evs P F cx es env h1).bind fun xs h2 => (match mth m x xs h2 with | some (v, h3) => .ok v h3 | none => .stuck) else .stuck from by funext env h; rw [ev] <;> rfl]
    obtain ⟨l1, l2, l3⟩ := len0_of h1
    refine pt_plain c (pe_mth' c h3 (of_decide_eq_true h4) (toE_attr o _ _ _ l1 l2 l3) (e_sound o c _ h1).1 (es_sound es c _ h2) ?_) (by intro _; rfl)
    intro ee
    subst ee
    funext env h
    rw [evs]
  | .lc own elt tg it ifs, X, S, C, W, c, e0, h => by
    rw [wfE] at h
    obtain ⟨h, h8⟩ := and2 h
    obtain ⟨h, h7⟩ := and2 h
    obtain ⟨h, h6⟩ := and2 h
    obtain ⟨h, h5⟩ := and2 h
    obtain ⟨h1, h2, h3, h4⟩ := and4 h
    rw [toE, show ev P F cx (.lc own elt tg it ifs) = fun env h => (evI P F cx it env h).bind fun r h1 => match loopC (ev P F cx elt) (evT P F cx ifs) tg r.src r.items (wipeE env own) h1 with | .ok ys h2 => .ok (.lst ys) h2 | _ => .stuck from by funext env h; rw [ev] <;> rfl]
    refine pt_plain c (pe_lc' c (bnot h1) h8 h3 h4 (toI_folded it _ _) (i_sound it c _ _ h2) (fun c' => (e_sound elt c' _ h5).1) (fun c' => ts_sound ifs c' _ (of_decide_eq_true h7) h6)) (by intro _; rfl)
  | .lcm _ _ _ _ _, X, S, C, W, c, e0, h => by rw [wfE] at h; cases h
  | .xfl _, X, S, C, W, c, e0, h => by rw [wfE] at h; cases h
  | .xis _, X, S, C, W, c, e0, h => by rw [wfE] at h; cases h
theorem es_sound : ∀ (es : MEs) {X : Cx} {S : Sc} {C : XC} {W : WX} (c : Cok X S P F C W) (l : List Expr), wfEs S es l = true → PA X (toEs es l) (RdA C W (evs P F cx es))
  | .nil, X, S, C, W, c, l, h => by
    rw [toEs, show evs P F cx .nil = fun _ h => .ok [] h from by funext env h; rw [evs]]
    exact pa_nil'
  | .cons e r, X, S, C, W, c, l, h => by
    rw [wfEs] at h
    obtain ⟨h1, h2⟩ := and2 h
    have hs := toEs_star0 e r l X.env
    rw [toEs] at hs
    rw [toEs, show evs P F cx (.cons e r) = fun env h => (ev P F cx e env h).bind fun x h1 => (evs P F cx r env h1).bind fun xs h2 => .ok (x :: xs) h2 from by funext env h; rw [evs]]
    exact pa_cons' (e_sound e c _ h1).1 (es_sound r c _ h2) hs
theorem and_sound : ∀ (es : MEs) {X : Cx} {S : Sc} {C : XC} {W : WX} (c : Cok X S P F C W) (l : List Expr) (pos : Pos), 0 < mesLen es → wfEs S es l = true →
    PE X (.BoolOp .And (toEs es l) pos) (RdE C W (evAnd P F cx es)) ∧ PW X (.BoolOp .And (toEs es l) pos) (RdT C W (tst (evAnd P F cx es)))
  | .nil, _, _, _, _, _, _, _, h0, _ => by simp [mesLen] at h0
  | .cons e .nil, X, S, C, W, c, l, pos, _, h => by
    rw [wfEs] at h
    obtain ⟨h1, h2⟩ := and2 h
    rw [toEs, toEs, show evAnd P F cx (.cons e .nil) = ev P F cx e from by funext env h; rw [evAnd]; exact bind_id _]
    exact ⟨pe_one (e_sound e c _ h1).1, pw_and1 (e_sound e c _ h1).2⟩
  | .cons e (.cons e2 r), X, S, C, W, c, l, pos, _, h => by
    rw [wfEs] at h
    obtain ⟨h1, h2⟩ := and2 h
    rw [toEs, show evAnd P F cx (.cons e (.cons e2 r)) = sAnd (ev P F cx e) (evAnd P F cx (.cons e2 r)) from by funext env h; rw [evAnd]; rfl]
    obtain ⟨q1, q2⟩ := and_sound (.cons e2 r) c l.tail pos (by simp [mesLen]) h2
    rw [toEs] at q1 q2 ⊢
    exact ⟨pe_and' c (e_sound e c _ h1).1 q1, pw_and' (e_sound e c _ h1).2 q2⟩
theorem or_sound : ∀ (es : MEs) {X : Cx} {S : Sc} {C : XC} {W : WX} (c : Cok X S P F C W) (l : List Expr) (pos : Pos), 0 < mesLen es → wfEs S es l = true →
    PE X (.BoolOp .Or (toEs es l) pos) (RdE C W (evOr P F cx es)) ∧ PW X (.BoolOp .Or (toEs es l) pos) (RdT C W (tst (evOr P F cx es)))
  | .nil, _, _, _, _, _, _, _, h0, _ => by simp [mesLen] at h0
  | .cons e .nil, X, S, C, W, c, l, pos, _, h => by
    rw [wfEs] at h
    obtain ⟨h1, h2⟩ := and2 h
    rw [toEs, toEs, show evOr P F cx (.cons e .nil) = ev P F cx e from by funext env h; rw [evOr]; exact bind_id _]
    exact ⟨pe_one (e_sound e c _ h1).1, pw_or1 (e_sound e c _ h1).2⟩
  | .cons e (.cons e2 r), X, S, C, W, c, l, pos, _, h => by
    rw [wfEs] at h
    obtain ⟨h1, h2⟩ := and2 h
    rw [toEs, show evOr P F cx (.cons e (.cons e2 r)) = sOr (ev P F cx e) (evOr P F cx (.cons e2 r)) from by funext env h; rw [evOr]; rfl]
    obtain ⟨q1, q2⟩ := or_sound (.cons e2 r) c l.tail pos (by simp [mesLen]) h2
    rw [toEs] at q1 q2 ⊢
    exact ⟨pe_or' c (e_sound e c _ h1).1 q1, pw_or' (e_sound e c _ h1).2 q2⟩
theorem o_sound : ∀ (o : MOp) {X : Cx} {S : Sc} {C : XC} {W : WX} (c : Cok X S P F C W) (e0 : Expr), wfO S o e0 = true → PO X (toO o e0) (RdO C W (evO P F cx o))
  | .no, X, S, C, W, c, e0, h => by
    rw [toO, show evO P F cx .no = fun _ h => .ok none h from by funext env h; rw [evO] <;> rfl]
    exact po_none'
  | .some e, X, S, C, W, c, e0, h => by
    rw [wfO] at h
    rw [toO, show evO P F cx (.some e) = fun env h => (ev P F cx e env h).bind fun x h1 => match x with | .int i => .ok (some i) h1 | _ => .stuck from by funext env h; rw [evO] <;> rfl]
    exact po_some' (e_sound e c _ h).1
theorem ts_sound : ∀ (es : MEs) {X : Cx} {S : Sc} {C : XC} {W : WX} (c : Cok X S P F C W) (l : List Expr), mesLen es ≤ 1 → wfEs S es l = true → PTs X (toEs es l) (RdT C W (evT P F cx es))
  | .nil, X, S, C, W, c, l, _, h => by
    rw [toEs, show evT P F cx .nil = fun _ h => .ok true h from by funext env h; rw [evT]]
    refine pts_weak pts_nil fun σ H Q q => ?_
    obtain ⟨M, h, env, hr, er, o⟩ := q
    exact o H M Ext.refl hr
  | .cons e .nil, X, S, C, W, c, l, _, h => by
    rw [wfEs] at h
    rw [toEs, toEs, show evT P F cx (.cons e .nil) = tst (ev P F cx e) from by funext env h; rw [evT]; rfl]
    exact pts_one (e_sound e c _ (and2 h).1).2
  | .cons _ (.cons _ _), _, _, _, _, _, _, hl, _ => by simp [mesLen] at hl
theorem i_sound : ∀ (i : MI) {X : Cx} {S : Sc} {C : XC} {W : WX} (c : Cok X S P F C W) (e0 : Expr) (tg : MT) {t0 : Expr}, wfI S i e0 tg = true → PI X (toT tg t0) (toI i e0) (RdI C W (evI P F cx i))
  | .seq e, X, S, C, W, c, e0, tg, t0, h => by
    rw [wfI] at h
    rw [toI, show evI P F cx (.seq e) = fun env h => (ev P F cx e env h).bind fun x h1 => (ofOpt (itemsT x h1) h1).bind fun xs h2 => .ok ⟨xs, srcOf x xs⟩ h2 from by funext env h; rw [evI]]
    exact pi_seq c.hK (e_sound e c _ h).1
  | .rng es, X, S, C, W, c, e0, tg, t0, h => by
    rw [wfI] at h
    obtain ⟨h1, h2, h3, h4⟩ := and4 h
    rw [toI, show evI P F cx (.rng es) = fun env h => (evs P F cx es env h).bind fun xs h1 => (ofOpt (rangeOf xs) h1).bind fun ys h2 => .ok ⟨ys, []⟩ h2 from by funext env h; rw [evI]]
    exact pi_rng c (of_decide_eq_true h4) (of_decide_eq_true h3) h1 (fun env h xs h' e => evs_len e) (es_sound es c _ h2)
  | .enu e, X, S, C, W, c, e0, tg, t0, h => by
    rw [wfI] at h
    obtain ⟨h1, h2, h3⟩ := and3 h
    rw [toI, show evI P F cx (.enu e) = fun env h => (ev P F cx e env h).bind fun x h1 => (ofOpt (itemsT x h1) h1).bind fun xs h2 => .ok ⟨enumL 0 xs, srcOf x xs⟩ h2 from by funext env h; rw [evI]]
    cases tg with
    | nm _ => cases h2
    | tp ts =>
      rw [toT]
      exact pi_enu' c h1 (e_sound e c _ h3).1 (toE_star e (kid e0 0) [] X.env)
  | .zip a b, X, S, C, W, c, e0, tg, t0, h => by
    rw [wfI] at h
    obtain ⟨h1, h2, h3, h4⟩ := and4 h
    rw [toI, show evI P F cx (.zip a b) = fun env h => (ev P F cx a env h).bind fun x h1 => (ev P F cx b env h1).bind fun y h2 => ofOpt (itemsZ x y h2) h2 from by funext env h; rw [evI]]
    cases tg with
    | nm _ => cases h2
    | tp ts =>
      rw [toT]
      have hb := pa_cons' (e_sound b c (kid e0 1) h4).1 (pa_nil' (X := X) (C := C) (W := W)) (toE_star b (kid e0 1) [] X.env)
      have ha := pa_cons' (e_sound a c (kid e0 0) h3).1 hb (toE_star a (kid e0 0) [toE b (kid e0 1)] X.env)
      rw [show (fun env h => (ev P F cx a env h).bind fun x h1 => ((ev P F cx b env h1).bind fun y h2 => (Res.ok ([] : List PV) h2).bind fun xs h3 => .ok (y :: xs) h3).bind fun xs h2 => .ok (x :: xs) h2) = fun env h => (ev P F cx a env h).bind fun x h1 => (ev P F cx b env h1).bind fun y h2 => (.ok [x, y] h2 : Res (List PV)) from by
        funext env h
        congr 1
        funext x h1
        cases ev P F cx b env h1 <;> rfl] at ha
      exact pi_zip' c h1 ha (toE_star a (kid e0 0) [toE b (kid e0 1)] X.env) (by rw [toE_star]; rfl)
  | .rvd e, X, S, C, W, c, e0, tg, t0, h => by
    rw [wfI] at h
    obtain ⟨h1, h2⟩ := and2 h
    rw [toI, show evI P F cx (.rvd e) = fun env h => (ev P F cx e env h).bind fun x h1 => (ofOpt (itemsT x h1) h1).bind fun xs h2 => .ok ⟨xs.reverse, srcOf x xs⟩ h2 from by funext env h; rw [evI]]
    exact pi_rvd c h1 (e_sound e c _ h2).1 (toE_star e (kid e0 0) [] X.env)
  | .itm _, _, _, _, _, _, _, _, _, h => by rw [wfI] at h; cases h
end
end
end Qm

/-! S12: statements. -/
namespace Qm
open PySem PySem.Spec PyProof.Rows L2
/-! ### the syntax of statements -/
def dS : Stmt := .Pass ⟨0, 0, 0, 0⟩
def exS : Stmt → Expr
  | .Assign _ e _ => e
  | .AugAssign _ _ e _ => e
  | .Expr e _ => e
  | .If e _ _ _ => e
  | .For _ e _ _ _ => e
  | .While e _ _ _ => e
  | .Return (some e) _ => e
  | .Raise (some e) _ _ => e
  | _ => dE
def tgS : Stmt → Expr
  | .Assign (t :: _) _ _ => t
  | .AugAssign t _ _ _ => t
  | .For t _ _ _ _ => t
  | _ => dE
def b1S : Stmt → List Stmt
  | .If _ b _ _ => b
  | .For _ _ b _ _ => b
  | .While _ b _ _ => b
  | .Try b _ _ _ _ => b
  | _ => []
def b2S : Stmt → List Stmt
  | .If _ _ b _ => b
  | _ => []
mutual
def toS : MS → Stmt → Stmt
  | .asg t e, s0 => .Assign [toT t (tgS s0)] (toE e (exS s0)) s0.pos
  | .aug _ o e, s0 => .AugAssign (.Name (nm (tgS s0)) (tgS s0).pos) (oper o) (toE e (exS s0)) s0.pos
  | .stx o i e, s0 => .Assign [.Subscript (toE o (kid (tgS s0) 0)) (toE i (kid (tgS s0) 1)) (tgS s0).pos] (toE e (exS s0)) s0.pos
  | .exp e, s0 => .Expr (toE e (exS s0)) s0.pos
  | .ite c a b, s0 => .If (toE c (exS s0)) (toSs a (b1S s0)) (toSs b (b2S s0)) s0.pos
  | .for t it b, s0 => .For (toT t (tgS s0)) (toI it (exS s0)) (toSs b (b1S s0)) [] s0.pos
  | .whl _ c b, s0 => .While (toE c (exS s0)) (toSs b (b1S s0)) [] s0.pos
  | .ret e, s0 => .Return (some (toE e (exS s0))) s0.pos
  | .retN, s0 => .Return none s0.pos
  | .rai _ es, s0 => .Raise (some (.Call (.Name (nm (fnE (exS s0))) (fnE (exS s0)).pos) (toEs es (kids (exS s0))) [] (exS s0).pos)) none s0.pos
  | .try _ _ _ _, s0 => s0
  | .pas, s0 => .Pass s0.pos
  | .brk, s0 => .Break s0.pos
  | .cnt, s0 => .Continue s0.pos
def toSs : MSs → List Stmt → List Stmt
  | .nil, _ => []
  | .cons s r, l => toS s (l.headD dS) :: toSs r l.tail
end
def isLc : ME → Bool
  | .lc _ _ _ _ _ => true
  | .lcm _ _ _ _ _ => true
  | _ => false
def isTupE : ME → Bool
  | .tup _ => true
  | _ => false
/-- name = [..]: the name is stored before the comprehension's frame goes -/
def swB (S : Sc) (y : Str) (py p : Pos) (sc : Scope) : Bool :=
  (match S.sc.kind with | .function => true | _ => false) && decide (S.sc.names.lookup y = some .local) && (py.line == p.line) && !(sc.names.any fun (n, k) => n == y && (k == .local || k == .cell))
def wfLoc (S : Sc) (i : Nat) (x : Str) : Bool := decide (S.N[i]? = some x) && (decide (S.sc.names.lookup x = some .local) || decide (S.sc.names.lookup x = some .cell))
mutual
def wfS (S : Sc) : MS → Stmt → Bool
  | .asg (.nm i) e, s0 => wfE S e (exS s0) && wfLoc S i (nm (tgS s0)) && (!isLc e || (swB S (nm (tgS s0)) (tgS s0).pos (exS s0).pos (scE (exS s0)) || !((tgS s0).pos.line == (exS s0).pos.line) || !decide (S.sc.names.lookup (nm (tgS s0)) = some .local)))
  | .asg (.tp ts) e, s0 => wfE S e (exS s0) && wfT S (fun _ => true) (.tp ts) (tgS s0) && !isTupE e
  | .aug i o e, s0 => wfE S e (exS s0) && wfLoc S i (nm (tgS s0)) && (decide (o = .add) || decide (o = .sub))
  | .stx o i e, s0 => wfE S e (exS s0) && wfE S o (kid (tgS s0) 0) && wfE S i (kid (tgS s0) 1)
  | .exp e, s0 => wfE S e (exS s0) && !isLc e
  | .ite c a b, s0 => wfE S c (exS s0) && wfSs S a (b1S s0) && wfSs S b (b2S s0)
  | .for t it b, s0 => !S.hot && wfT S (fun _ => true) t (tgS s0) && wfI S it (exS s0) t && wfSs S b (b1S s0)
  | .whl _ c b, s0 => wfE S c (exS s0) && wfSs S b (b1S s0)
  | .ret e, s0 => wfE S e (exS s0)
  | .retN, _ => true
  | .rai c es, s0 => !S.hot && isCls S (nm (fnE (exS s0))) c && wfEs S es (kids (exS s0)) && decide (0 < mesLen es) && decide (mesLen es = (fldC c).length)
  | .try _ _ _ _, _ => false
  | .pas, _ => true
  | .brk, _ => true
  | .cnt, _ => true
def wfSs (S : Sc) : MSs → List Stmt → Bool
  | .nil, _ => true
  | .cons s r, l => wfS S s (l.headD dS) && wfSs S r l.tail
end
/-! ### readings -/
def OutS (C : XC) (W : WX) (D : Ends) (M : List Addr) (H : Hp) (r : SRes) : Prop :=
  match r with
  | .nx env h' => ∀ σ' H' M', Ext M H M' H' → HRel C.K M' H' h' → ERel C.K M' H' σ' env → D.nx σ' H'
  | .bk env h' => ∀ σ' H' M', Ext M H M' H' → HRel C.K M' H' h' → ERel C.K M' H' σ' env → D.bk σ' H'
  | .ct env h' => ∀ σ' H' M', Ext M H M' H' → HRel C.K M' H' h' → ERel C.K M' H' σ' env → D.ct σ' H'
  | .rt p h' => ∀ v H' M', Ext M H M' H' → HRel C.K M' H' h' → RV C.K M' H' p v → D.rt v H'
  | .ex x env h' => ∀ cls d σ' H' M', Ext M H M' H' → HRel C.K M' H' h' → ERel C.K M' H' σ' env → XRel C M' H' x cls d → W cls d σ' H'
  | .stuck => False
abbrev SemS := Env → MHp → SRes
def RdS (C : XC) (W : WX) (f : SemS) : TS := fun D σ H => ∃ M h env, HRel C.K M H h ∧ ERel C.K M H σ env ∧ OutS C W D M H (f env h)
section
variable {X : Cx} {S : Sc} {P : Prog} {F : Fn} {C : XC} {W : WX} {cx : Option MX}
theorem OutS.shift {D : Ends} {M M1 : List Addr} {H H1 : Hp} {r : SRes} (o : OutS C W D M H r) (x : Ext M H M1 H1) : OutS C W D M1 H1 r := by
  cases r with
  | nx env h' => exact fun σ' H' M' y => o σ' H' M' (x.trans y)
  | bk env h' => exact fun σ' H' M' y => o σ' H' M' (x.trans y)
  | ct env h' => exact fun σ' H' M' y => o σ' H' M' (x.trans y)
  | rt p h' => exact fun v H' M' y => o v H' M' (x.trans y)
  | ex e env h' => exact fun cls d σ' H' M' y => o cls d σ' H' M' (x.trans y)
  | stuck => exact o
theorem ps_weak {s : Stmt} {t t' : TS} (a : PS X s t) (w : ∀ D σ H, t' D σ H → t D σ H) : PS X s t' := ⟨fun pins s σ H D I q => a.run pins s σ H D I (w D σ H q)⟩
theorem pss_weak {s : List Stmt} {t t' : TS} (a : PSs X s t) (w : ∀ D σ H, t' D σ H → t D σ H) : PSs X s t' := ⟨fun pins s σ H D I q => a.run pins s σ H D I (w D σ H q)⟩
/-- an expression first -/
theorem RdE.goS {f : Sem1} {g : PV → MHp → SRes} {D : Ends} {σ : L2.St} {M : List Addr} {H : Hp} {h : MHp} {env : Env} {R : VK} (hr : HRel C.K M H h) (er : ERel C.K M H σ env) (o : OutS C W D M H (ofResV (f env h) env g))
    (k : ∀ v H1 M1 h1 p, Ext M H M1 H1 → HRel C.K M1 H1 h1 → ERel C.K M1 H1 σ env → RV C.K M1 H1 p v → OutS C W D M1 H1 (g p h1) → R v H1) : RdE C W f σ H R := by
  refine ⟨M, h, env, hr, er, ?_⟩
  cases e : f env h with
  | ok p h1 =>
    rw [e] at o
    exact fun v H1 M1 x hr1 rv => k v H1 M1 h1 p x hr1 (er.ext x) rv (OutS.shift (show OutS C W D M H (g p h1) from o) x)
  | exn x h1 =>
    rw [e] at o
    exact fun cls d H' M' y hr' xr => o cls d σ H' M' y hr' (er.ext y) xr
  | stuck => rw [e] at o; exact o.elim
theorem RdI.goS {f : Env → MHp → Res Wk} {g : Wk → MHp → SRes} {D : Ends} {σ : L2.St} {M : List Addr} {H : Hp} {h : MHp} {env : Env} {R : It → Hp → Prop} (hr : HRel C.K M H h) (er : ERel C.K M H σ env) (o : OutS C W D M H (ofResV (f env h) env g))
    (k : ∀ J H1 M1 h1 r, Ext M H M1 H1 → HRel C.K M1 H1 h1 → ERel C.K M1 H1 σ env → ItOk C M1 H1 r J → OutS C W D M1 H1 (g r h1) → R J H1) : RdI C W f σ H R := by
  refine ⟨M, h, env, hr, er, ?_⟩
  cases e : f env h with
  | ok p h1 =>
    rw [e] at o
    exact fun z H1 M1 J x hr1 ok => k J H1 M1 h1 p x hr1 (er.ext x) ok (OutS.shift (show OutS C W D M H (g p h1) from o) x)
  | exn x h1 =>
    rw [e] at o
    exact fun cls d H' M' y hr' xr => o cls d σ H' M' y hr' (er.ext y) xr
  | stuck => rw [e] at o; exact o.elim
theorem RdT.goS {f : Env → MHp → Res Bool} {g : Bool → MHp → SRes} {D : Ends} {σ : L2.St} {M : List Addr} {H : Hp} {h : MHp} {env : Env} {R : Bool → Hp → Prop} (hr : HRel C.K M H h) (er : ERel C.K M H σ env) (o : OutS C W D M H (ofRes (f env h) env g))
    (k : ∀ b H1 M1 h1, Ext M H M1 H1 → HRel C.K M1 H1 h1 → ERel C.K M1 H1 σ env → OutS C W D M1 H1 (g b h1) → R b H1) : RdT C W f σ H R := by
  refine ⟨M, h, env, hr, er, ?_⟩
  cases e : f env h with
  | ok p h1 =>
    rw [e] at o
    exact fun H1 M1 x hr1 => k p H1 M1 h1 x hr1 (er.ext x) (OutS.shift (show OutS C W D M H (g p h1) from o) x)
  | exn x h1 =>
    rw [e] at o
    exact fun cls d H' M' y hr' xr => o cls d σ H' M' y hr' (er.ext y) xr
  | stuck => rw [e] at o; exact o.elim
theorem ofResV_tst {f : Sem1} {env : Env} {h : MHp} {g : Bool → MHp → SRes} : ofResV (f env h) env (fun x h1 => match truth x h1 with | some true => g true h1 | some false => g false h1 | none => .stuck) = ofRes (tst f env h) env g := by
  unfold tst
  cases f env h with
  | ok x h1 =>
    simp only [ofResV, Res.bind_ok]
    cases truth x h1 with
    | none => rfl
    | some b => cases b <;> rfl
  | _ => rfl
/-! ### assignments -/
theorem lnOk (c : Cok X S P F C W) {i : Nat} {x : Str} (h : wfLoc S i x = true) : X.N[i]? = some x ∧ Loc X.env.scope x := by
  unfold wfLoc at h
  obtain ⟨h1, h2⟩ := and2 h
  rw [Bool.or_eq_true] at h2
  rw [c.hN, c.hsc]
  exact ⟨of_decide_eq_true h1, h2.imp of_decide_eq_true of_decide_eq_true⟩
theorem asg_read {f : Sem1} {t : MT} {D : Ends} {σ : L2.St} {H : Hp} (q : RdS C W (fun env h => ofResV (f env h) env fun x h1 => match asgT t x env with | some σ' => .nx σ' h1 | none => .stuck) D σ H) : tAsg (RdE C W f) (gT C.K.f t) D σ H := by
  obtain ⟨M, h, env, hr, er, o⟩ := q
  refine RdE.goS hr er o fun v H1 M1 h1 p x1 hr1 er1 rv o1 => ?_
  cases e : asgT t p env with
  | none => rw [e] at o1; exact o1.elim
  | some env' =>
    rw [e] at o1
    exact gT_ok er1 rv e fun σ' er' => o1 σ' H1 M1 Ext.refl hr1 er'
theorem toE_sw (e : ME) (e0 : Expr) (y : Str) (py : Pos) (l : Nat) (env : PySem.Env) (h : isLc e = false) : swapsWith (toE e e0) (some (.Name y py)) l env = pure false := by
  cases e with
  | lc => cases h
  | lcm => cases h
  | _ => rw [toE] <;> rfl
theorem toE_sw0 (e : ME) (e0 : Expr) (l : Nat) (env : PySem.Env) (h : isLc e = false) : swapsWith (toE e e0) none l env = pure false := by
  cases e with
  | lc => cases h
  | lcm => cases h
  | _ => rw [toE] <;> rfl
theorem sw_off {elt : Expr} {gs : List Comprehension} {scope : Scope} {pos py : Pos} {y : Str} {l : Nat} {env : PySem.Env} (hl : (py.line == pos.line) = false) : swapsWith (.ListComp elt gs scope pos) (some (.Name y py)) l env = pure false := by
  unfold swapsWith
  simp only [Expr.pos, hl, Bool.and_false, Bool.false_and]
theorem sw_cell {elt : Expr} {gs : List Comprehension} {scope : Scope} {pos py : Pos} {y : Str} {l : Nat} {env : PySem.Env} (hl : env.scope.names.lookup y ≠ some .local) : swapsWith (.ListComp elt gs scope pos) (some (.Name y py)) l env = pure false := by
  have hk : (env.kindOf y == some .local) = false := by
    show (env.scope.names.lookup y == some .local) = false
    cases e : env.scope.names.lookup y with
    | none => rfl
    | some k => 
      cases k with
      | «local» => exact absurd e hl
      | _ => rfl
  unfold swapsWith
  simp only [hk, Bool.and_false, Bool.false_and]
theorem toE_swT (e : ME) (e0 : Expr) (ts : List Expr) (k : Nat) (p : Pos) (l : Nat) (env : PySem.Env) : swapsWithSole [.Tuple ts k p] (toE e e0) l env = pure false := by
  cases e <;> rw [toE] <;> rfl
theorem toE_swS (e : ME) (e0 : Expr) (o i : Expr) (p : Pos) (l : Nat) (env : PySem.Env) : swapsWithSole [.Subscript o i p] (toE e e0) l env = pure false := by
  cases e <;> rw [toE] <;> rfl
theorem toE_st (e : ME) (e0 : Expr) (ts : List Expr) (k : Nat) (p : Pos) (env : PySem.Env) (h : isTupE e = false) : swappedStores [.Tuple ts k p] (toE e e0) env = pure none := by
  cases e with
  | tup => cases h
  | _ => rw [toE] <;> rfl
theorem toE_stS (e : ME) (e0 : Expr) (o i : Expr) (p : Pos) (env : PySem.Env) : swappedStores [.Subscript o i p] (toE e e0) env = pure none := by
  cases e <;> rw [toE] <;> rfl
end
end Qm

/-! S13: o[i] = v; the statements one by one; every block. -/
namespace Qm
open PySem PySem.Spec PyProof.Rows L2
section
variable {C : XC} {M : List Addr} {H : Hp} {h : MHp} {κ : Type} [DecidableEq κ]
theorem rep_ok {f : κ → PV} (inj : ∀ a b, peq (f a) (f b) = decide (a = b)) {k : κ} {z : PV} {v : V} (rz : RV C.K M H z v) : ∀ {kvs : List (κ × V)} {ws : List PV}, RVs C.K M H ws (kvs.map (·.2)) →
    RVs C.K M H (repV (kvs.map fun p => f p.1) ws (f k) z) ((kvs.map fun kv => if kv.1 = k then (kv.1, v) else kv).map (·.2))
  | [], ws, r => by
    rw [List.map_nil] at r
    cases ws with
    | nil => exact .nil
    | cons _ _ => rw [RVs] at r; obtain ⟨_, _, e, _⟩ := r; cases e
  | p :: kvs, ws, r => by
    cases ws with
    | nil => rw [List.map_cons, RVs] at r; cases r
    | cons w ws =>
      rw [List.map_cons, RVs] at r
      obtain ⟨y, ys, e, r1, r2⟩ := r
      cases e
      simp only [List.map_cons, repV, inj]
      refine .cons ?_ (rep_ok inj rz r2)
      by_cases c : p.1 = k
      · simp only [c, decide_true, if_true]; exact rz
      · simp only [c, decide_false, if_false, Bool.false_eq_true]; exact r1
theorem setK_ok {f : κ → PV} (inj : ∀ a b, peq (f a) (f b) = decide (a = b)) {k : κ} {z : PV} {v : V} (rz : RV C.K M H z v) {kvs : List (κ × V)} {ws : List PV} (r : RVs C.K M H ws (kvs.map (·.2))) :
    (setK (kvs.map fun p => f p.1) ws (f k) z).1 = (putK kvs k v).map (fun p => f p.1) ∧ RVs C.K M H (setK (kvs.map fun p => f p.1) ws (f k) z).2 ((putK kvs k v).map (·.2)) := by
  have ea : ((kvs.map fun p => f p.1).any fun y => peq y (f k)) = kvs.any fun kv => decide (kv.1 = k) := by
    rw [List.any_map]
    congr 1
    funext p
    simp [inj]
  unfold setK putK
  rw [ea]
  cases c : kvs.any fun kv => decide (kv.1 = k) with
  | true =>
    simp only [if_true]
    refine ⟨?_, rep_ok inj rz r⟩
    rw [List.map_map]
    congr 1
    funext p
    by_cases c2 : p.1 = k <;> simp [c2]
  | false =>
    simp only [Bool.false_eq_true, if_false]
    refine ⟨by simp, ?_⟩
    rw [List.map_append]
    exact r.append (.one rz)
theorem setK_len {ks ws : List PV} {x z : PV} : (setK ks ws x z).1.length ≤ ks.length + 1 := by
  unfold setK
  split <;> simp
end
section
variable {X : Cx} {S : Sc} {P : Prog} {F : Fn} {C : XC} {W : WX} {cx : Option MX}
def rSt (C : XC) : TSet := fun o i v H Q => ∃ M h x y z h', HRel C.K M H h ∧ RV C.K M H x o ∧ RV C.K M H y i ∧ RV C.K M H z v ∧ storeIx x y z h = some h' ∧ ∀ H', Ext M H M H' → HRel C.K M H' h' → Q H'
theorem set_any (hu : X.A.units + 1 < cLine) : PSet X (rSt C) := by
  intro pins s σ H o i v ov iv u Q I ro ri ru q
  obtain ⟨M, h, x, y, z, h', hr, rx, ry, rz, e, k⟩ := q
  unfold storeIx at e
  split at e
  · rename_i n
    split at e
    · rename_i xs eh
      split at e
      · rename_i j
        obtain ⟨m, em, rfl⟩ := Option.map_eq_some_iff.mp e
        obtain ⟨a, ws, rfl, ea, eH, zz, rws⟩ := hlst hr rx eh
        have := rv_int ry; subst this
        refine set_list pins s σ H _ _ v ov iv u Q I ro ri ru ⟨a, ws, j, m, rfl, rfl, eH, by rw [rws.len]; exact em, k _ (Ext.chg (List.mem_of_getElem? ea)) (hr.chg ea ⟨_, rfl, by simpa using zz, rws.set m rz⟩)⟩
      · cases e
    · rename_i t ks ws eh
      split at e
      · rename_i c
        cases e
        obtain ⟨c1, c2⟩ := and2 c
        obtain ⟨a, rfl, ea⟩ := rv_ref rx
        obtain ⟨us, u', eH, d, rws⟩ := hr.at_ n a _ ea eh
        have c2 : ks.length < big := of_decide_eq_true c2
        rw [big_eq] at c2
        obtain rfl : ov = Value.ref a := ro
        cases t with
        | false =>
          obtain ⟨kvs, rfl, rfl, rfl⟩ := (show ∃ kvs : List (Key × V), u' = .dK kvs ∧ ks = kvs.map (fun p => keyP p.1) ∧ us = kvs.map (·.2) from d)
          obtain ⟨kk, rfl, rfl⟩ := key_false c1 ry
          obtain ⟨e1, e2⟩ := setK_ok (v := v) key_inj (k := kk) rz rws
          refine d_setItem hu I (DPut.k eH (by simpa using c2)) ri ru fun s' I' => ⟨_, I', k _ (Ext.chg (List.mem_of_getElem? ea)) (hr.chg ea ⟨_, _, rfl, ⟨_, rfl, e1, rfl⟩, e2⟩)⟩
        | true =>
          obtain ⟨kvs, rfl, rfl, rfl⟩ := (show ∃ kvs : List (List Key × V), u' = .dT kvs ∧ ks = kvs.map (fun p => .tup (p.1.map keyP)) ∧ us = kvs.map (·.2) from d)
          obtain ⟨kk, b, rfl, rfl, eb⟩ := key_true c1 ry
          obtain ⟨e1, e2⟩ := setK_ok (v := v) (f := fun p : List Key => .tup (p.map keyP)) tkey_inj (k := kk) rz rws
          refine d_setItem hu I (DPut.t eH eb (by simpa using c2)) ri ru fun s' I' => ⟨_, I', k _ (Ext.chg (List.mem_of_getElem? ea)) (hr.chg ea ⟨_, _, rfl, ⟨_, rfl, e1, rfl⟩, e2⟩)⟩
      · cases e
    · cases e
  · cases e
/-! ### the statements -/
theorem ps_stx' (c : Cok X S P F C W) {o i e : ME} {o0 i0 e0 : Expr} {fo fi fe : Sem1} {tp pos : Pos} (ho : PE X (toE o o0) (RdE C W fo)) (hi : PE X (toE i i0) (RdE C W fi)) (he : PE X (toE e e0) (RdE C W fe)) :
    PS X (.Assign [.Subscript (toE o o0) (toE i i0) tp] (toE e e0) pos) (RdS C W fun σ h => ofResV (fe σ h) σ fun v h1 => ofResV (fo σ h1) σ fun x h2 => ofResV (fi σ h2) σ fun y h3 => match storeIx x y v h3 with | some h4 => .nx σ h4 | none => .stuck) := by
  refine ps_weak (ps_asg he (pg_sub ho hi (set_any (C := C) (by have := c.hun; omega)) (by intro v; cases i <;> rw [toE] <;> rfl)) (toE_swS _ _ _ _ _ _ _) (toE_stS _ _ _ _ _ _) (by rfl)) fun D σ H q => ?_
  obtain ⟨M, h, env, hr, er, o⟩ := q
  refine RdE.goS hr er o fun v H1 M1 h1 p x1 hr1 er1 rv o1 => ?_
  refine RdE.goS hr1 er1 o1 fun w H2 M2 h2 q2 x2 hr2 er2 rw2 o2 => ?_
  refine RdE.goS hr2 er2 o2 fun u H3 M3 h3 q3 x3 hr3 er3 rw3 o3 => ?_
  cases e : storeIx q2 q3 p h3 with
  | none => rw [e] at o3; exact o3.elim
  | some h4 =>
    rw [e] at o3
    exact ⟨M3, h3, q2, q3, p, h4, hr3, rw2.ext x3, rw3, (rv.ext x2).ext x3, e, fun H' x4 hr4 => o3 σ H' M3 x4 hr4 (er3.ext x4)⟩
theorem ps_if' {c : Expr} {a b : List Stmt} {f : Sem1} {fa fb : SemS} {pos : Pos} (hc : PT X c (RdT C W (tst f))) (ha : PSs X a (RdS C W fa)) (hb : PSs X b (RdS C W fb)) :
    PS X (.If c a b pos) (RdS C W fun σ h => ofResV (f σ h) σ fun x h1 => match truth x h1 with | some true => fa σ h1 | some false => fb σ h1 | none => .stuck) := by
  refine ps_weak (ps_if hc ha hb) fun D σ H q => ?_
  obtain ⟨M, h, env, hr, er, o⟩ := q
  have o : OutS C W D M H (ofRes (tst f env h) env fun b h1 => if b then fa env h1 else fb env h1) := by
    rw [← ofResV_tst]
    exact o
  refine RdT.goS hr er o fun k H1 M1 h1 x1 hr1 er1 o1 => ?_
  cases k with
  | true => exact ⟨M1, h1, env, hr1, er1, o1⟩
  | false => exact ⟨M1, h1, env, hr1, er1, o1⟩
theorem for_read {fi : Env → MHp → Res Wk} {fb : SemS} {t : MT} {D : Ends} {σ : L2.St} {H : Hp} (q : RdS C W (fun σ h => ofResV (fi σ h) σ fun r h1 => loopF fb t r.src r.items σ h1) D σ H) : tFor (RdI C W fi) (gT C.K.f t) (RdS C W fb) D σ H := by
  obtain ⟨M, h, env, hr, er, o⟩ := q
  refine RdI.goS hr er o fun J H1 M1 h1 r x1 hr1 er1 ok o1 => ?_
  refine ⟨fun i m σ' H' => i ≤ r.items.length ∧ m = r.items.length - i ∧ ∃ M' h' env', Ext M1 H1 M' H' ∧ HRel C.K M' H' h' ∧ ERel C.K M' H' σ' env' ∧ OutS C W D M' H' (loopF fb t r.src (r.items.drop i) env' h'),
    ⟨r.items.length, Nat.zero_le _, rfl, M1, h1, env, Ext.refl, hr1, er1, by simpa using o1⟩, ?_⟩
  rintro i m σ' H' ⟨hi, rfl, M', h', env', xE, hr', er', oL⟩
  by_cases hlt : i < r.items.length
  · refine .inr ?_
    have ei : r.items[i]? = some r.items[i] := List.getElem?_eq_getElem hlt
    rw [List.drop_eq_getElem_cons hlt, loopF] at oL
    split at oL
    · rename_i src
      obtain ⟨go, yld⟩ := (ok C.K.z (fun a ha => .inl ha) M' H' h' xE hr' src i).1 _ ei
      refine ⟨go, fun σ2 H2 => i + 1 ≤ r.items.length ∧ ∃ M' h' env', Ext M1 H1 M' H2 ∧ HRel C.K M' H2 h' ∧ ERel C.K M' H2 σ2 env' ∧ OutS C W D M' H2 (loopF fb t r.src (r.items.drop (i + 1)) env' h'),
        fun σ2 H2 ⟨l, z⟩ => ⟨r.items.length - (i + 1), by omega, l, rfl, z⟩, fun v Hy hy => ?_⟩
      obtain ⟨xy, hry, rvy⟩ := yld v Hy hy
      have oL := oL.shift xy
      split at oL
      · exact oL.elim
      · rename_i env1 ea
        refine gT_ok (er'.ext xy) rvy ea fun σ1 er2 => ⟨M', h', env1, hry, er2, ?_⟩
        cases eb : fb env1 h' with
        | nx env2 h2 =>
          rw [eb] at oL
          exact fun σ3 H3 M3 x3 hr3 er3 => ⟨hlt, M3, h2, env2, (xE.trans xy).trans x3, hr3, er3, oL.shift x3⟩
        | ct env2 h2 =>
          rw [eb] at oL
          exact fun σ3 H3 M3 x3 hr3 er3 => ⟨hlt, M3, h2, env2, (xE.trans xy).trans x3, hr3, er3, oL.shift x3⟩
        | bk env2 h2 => rw [eb] at oL; exact oL
        | rt p h2 => rw [eb] at oL; exact oL
        | ex x env2 h2 => rw [eb] at oL; exact oL
        | stuck => rw [eb] at oL; exact oL
    · exact oL.elim
  · have e : i = r.items.length := by omega
    subst e
    rw [List.drop_length, loopF] at oL
    split at oL
    · rename_i src
      exact .inl ⟨(ok C.K.z (fun a ha => .inl ha) M' H' h' xE hr' src _).2 (Nat.le_refl _), oL σ' H' M' Ext.refl hr' er'⟩
    · exact oL.elim
theorem while_read {fc : Env → MHp → Res Bool} {fb : SemS} {n : Nat} {D : Ends} {σ : L2.St} {H : Hp} (q : RdS C W (fun σ h => loopW fc fb n σ h) D σ H) : tWhile (RdT C W fc) (RdS C W fb) D σ H := by
  obtain ⟨M, h, env, hr, er, o⟩ := q
  refine ⟨fun m σ' H' => ∃ M' h' env', HRel C.K M' H' h' ∧ ERel C.K M' H' σ' env' ∧ OutS C W D M' H' (loopW fc fb m env' h'), ⟨n, M, h, env, hr, er, o⟩, ?_⟩
  rintro m σ' H' ⟨M', h', env', hr', er', oL⟩
  cases m with
  | zero => rw [loopW] at oL; exact oL.elim
  | succ m =>
    rw [loopW] at oL
    refine RdT.goS hr' er' oL fun b H1 M1 h1 x1 hr1 er1 o1 => ?_
    cases b with
    | false => exact o1 σ' H1 M1 Ext.refl hr1 er1
    | true =>
      simp only [if_true] at o1 ⊢
      refine ⟨fun σ2 H2 => ∃ M' h' env', HRel C.K M' H2 h' ∧ ERel C.K M' H2 σ2 env' ∧ OutS C W D M' H2 (loopW fc fb m env' h'), fun σ2 H2 z => ⟨m, Nat.lt_succ_self m, z⟩, M1, h1, env', hr1, er1, ?_⟩
      cases eb : fb env' h1 with
      | nx env2 h2 =>
        rw [eb] at o1
        exact fun σ3 H3 M3 x3 hr3 er3 => ⟨M3, h2, env2, hr3, er3, o1.shift x3⟩
      | ct env2 h2 =>
        rw [eb] at o1
        exact fun σ3 H3 M3 x3 hr3 er3 => ⟨M3, h2, env2, hr3, er3, o1.shift x3⟩
      | bk env2 h2 => rw [eb] at o1; exact o1
      | rt p h2 => rw [eb] at o1; exact o1
      | ex x env2 h2 => rw [eb] at o1; exact o1
      | stuck => rw [eb] at o1; exact o1
theorem pip_bop {o : BO} (ho : o = .add ∨ o = .sub) : ∃ f : Int → Int → Int, PIp X (oper o) (ipI f) ∧ ∀ i j, bopI o i j = some (.int (f i j)) := by
  rcases ho with rfl | rfl
  · exact ⟨_, ip_add, fun i j => rfl⟩
  · exact ⟨_, ip_sub, fun i j => rfl⟩
theorem ps_aug' (c : Cok X S P F C W) (hfn : ∀ x, X.fn x = true) {i : Nat} {x : Str} {o : BO} {e : Expr} {f : Sem1} {px pos : Pos} (hl : wfLoc S i x = true) (ho : o = .add ∨ o = .sub) (he : PE X e (RdE C W f)) :
    PS X (.AugAssign (.Name x px) (oper o) e pos) (RdS C W fun σ h => match σ[i]? with
    | some (some x) => ofResV (f σ h) σ fun y h1 => (match x, y with
      | .int a, .int b => (match bopI o a b with | some z => .nx (σ.set i (some z)) h1 | none => .stuck)
      | _, _ => .stuck)
    | _ => .stuck) := by
  obtain ⟨h1, h2⟩ := lnOk c hl
  obtain ⟨g, hp, hg⟩ := pip_bop (X := X) ho
  refine ps_weak (ps_aug (by rw [c.hN]; exact c.nd) h1 h2 he hp (.inl (hfn _))) fun D σ H q => ?_
  obtain ⟨M, h, env, hr, er, o⟩ := q
  dsimp only at o
  cases ei : env[i]? with
  | none => rw [ei] at o; exact o.elim
  | some q =>
    cases q with
    | none => rw [ei] at o; exact o.elim
    | some p =>
      rw [ei] at o
      obtain ⟨w, ew, rw_⟩ := er.2 i p ei
      refine ⟨w, ew, RdE.goS hr er o fun v H1 M1 h1 p' x1 hr1 er1 rv o1 => ?_⟩
      cases p with
      | int a =>
        cases p' with
        | int b =>
          simp only [hg] at o1
          exact ⟨a, b, rv_int rw_, rv_int rv, o1 _ H1 M1 Ext.refl hr1 (er1.set rv_i)⟩
        | _ => exact o1.elim
      | _ => exact o1.elim
theorem ps_exp' {e : Expr} {f : Sem1} {pos : Pos} (he : PE X e (RdE C W f)) (hs : swapsWith e none pos.line X.env = pure false) : PS X (.Expr e pos) (RdS C W fun σ h => ofResV (f σ h) σ fun _ h1 => .nx σ h1) := by
  refine ps_weak (ps_expr he hs) fun D σ H q => ?_
  obtain ⟨M, h, env, hr, er, o⟩ := q
  exact RdE.goS hr er o fun v H1 M1 h1 p x1 hr1 er1 rv o1 => o1 σ H1 M1 Ext.refl hr1 er1
theorem ps_ret' {e : Expr} {f : Sem1} {pos : Pos} (he : PE X e (RdE C W f)) : PS X (.Return (some e) pos) (RdS C W fun σ h => ofResV (f σ h) σ fun x h1 => .rt x h1) := by
  refine ps_weak (ps_ret he) fun D σ H q => ?_
  obtain ⟨M, h, env, hr, er, o⟩ := q
  exact RdE.goS hr er o fun v H1 M1 h1 p x1 hr1 er1 rv o1 => o1 v H1 M1 Ext.refl hr1 rv
theorem pss_nil' : PSs X [] (RdS C W fun σ h => .nx σ h) := by
  refine pss_weak pss_nil fun D σ H q => ?_
  obtain ⟨M, h, env, hr, er, o⟩ := q
  exact o σ H M Ext.refl hr er
theorem pss_cons' {s : Stmt} {r : List Stmt} {f g : SemS} (hs : PS X s (RdS C W f)) (hr : PSs X r (RdS C W g)) : PSs X (s :: r) (RdS C W fun σ h => match f σ h with | .nx σ1 h1 => g σ1 h1 | x => x) := by
  refine pss_weak (pss_cons hs hr) fun D σ H q => ?_
  obtain ⟨M, h, env, hr', er, o⟩ := q
  refine ⟨M, h, env, hr', er, ?_⟩
  dsimp only at o
  cases e : f env h with
  | nx σ1 h1 => rw [e] at o; exact fun σ' H' M' x hr2 er2 => ⟨M', h1, σ1, hr2, er2, o.shift x⟩
  | rt p h1 => rw [e] at o; exact o
  | bk σ1 h1 => rw [e] at o; exact o
  | ct σ1 h1 => rw [e] at o; exact o
  | ex x σ1 h1 => rw [e] at o; exact o
  | stuck => rw [e] at o; exact o
end
end Qm

/-! S14: raise; every block of statements. -/
namespace Qm
open PySem PySem.Spec PyProof.Rows L2
section
variable {X : Cx} {S : Sc} {P : Prog} {F : Fn} {C : XC} {W : WX} {cx : Option MX}
theorem Cok.cls (c : Cok X S P F C W) {x : Str} {k : Nat} (h : isCls S x k = true) : Gl X x ∧ (x == ("__debug__" : Str)) = false ∧ GF X P F C S.hot (.cls k) x := by
  unfold isCls at h
  rw [Bool.and_eq_true] at h
  obtain ⟨g, n, d⟩ := c.gl h.1
  have h2 := h.2
  split at h2
  · rename_i j e
    have := of_decide_eq_true h2
    subst this
    exact ⟨g, d, c.glb x _ e⟩
  · cases h2
theorem ps_rai' (c : Cok X S P F C W) {k : Nat} {x : Str} {e : ME} {r : MEs} {l : List Expr} {g : SemA} {p p2 pos : Pos} (hh : S.hot = false) (hne : C.fld k ≠ []) (h : isCls S x k = true) (hl : ∀ env h xs h', g env h = .ok xs h' → xs.length = (C.fld k).length ∧ xs.length ≤ 900) (ha : PA X (toEs (.cons e r) l) (RdA C W g)) :
    PS X (.Raise (some (.Call (.Name x p) (toEs (.cons e r) l) [] p2)) none pos) (RdS C W fun σ h => ofResV (g σ h) σ fun xs h1 => .ex ⟨k, xs⟩ σ h1) := by
  obtain ⟨gl, hd, a, ca, hm, hr⟩ := c.cls h
  obtain ⟨lv, fI, fd, ps, T, iC, tI, F1, room, hb⟩ := hr hh hne
  have hs := toEs_star0 e r l X.env
  rw [toEs] at ha hs ⊢
  refine ps_weak (ps_raise (c.calm hh) c.tk (pmk_oex T iC tI F1 room hb .nil (passes_call c.tk fun _ _ _ _ z => z.elim) gl hm ha hd hs (toEs_star _ _ _ _))) fun D σ H q => ?_
  obtain ⟨M, h, env, hr, er, o⟩ := q
  refine ⟨M, h, env, hr, er, ?_⟩
  dsimp only at o
  cases eg : g env h with
  | ok xs h1 =>
    rw [eg] at o
    intro vs H1 M1 x1 hr1 rv
    obtain ⟨l1, l2⟩ := hl _ _ _ _ eg
    refine ⟨by rw [rv.len]; omega, fun s hs => ?_⟩
    refine ⟨by simp [rv.len, l1], s, vs, by simp, upd_same, fun d hd ds fs hfs => ?_⟩
    have hd1 : H1 d = none := by rw [upd_ne ds] at hd; exact hd
    refine ⟨rfl, d, fs, upd_same, by rw [upd_ne ds, upd_same], hd1, ?_⟩
    have eH : upd (del (upd (upd (upd H1 s (exo s a none)) d (exd d fs)) s (exo s a (some d))) s) d (.xd fs) = upd H1 d (.xd fs) := by
      funext b
      by_cases b1 : b = d
      · subst b1; rw [upd_same, upd_same]
      · rw [upd_ne b1, upd_ne b1]
        by_cases b2 : b = s
        · subst b2; rw [del_same, hs]
        · rw [del_ne b2, upd_ne b2, upd_ne b1, upd_ne b2]
    rw [eH]
    have x2 : Ext M H M1 (upd H1 d (.xd fs)) := x1.trans (Ext.laid hd1)
    refine o (.ref a) (some d) σ _ M1 x2 (hr1.laid hd1) (er.ext x2) ⟨a, d, fs, ca, rfl, rfl, hr1.fresh hd1, upd_same, l1, fun i p n ep en => ?_⟩
    obtain ⟨w, ew, rw_⟩ := rv.get ep
    exact ⟨w, hfs i w n ew en, rw_.ext (Ext.laid hd1)⟩
  | exn x h1 => 
    rw [eg] at o
    exact fun cls d H' M' y hr' xr => o cls d σ H' M' y hr' (er.ext y) xr
  | stuck => rw [eg] at o; exact o.elim
theorem fldC_len (k : Nat) : (fldC k).length ≤ 900 := by
  unfold fldC
  split <;> decide
theorem ps_setN (c : Cok X S P F C W) (hfn : ∀ x, X.fn x = true) {i : Nat} {e : ME} {e0 : Expr} {x : Str} {px pos : Pos} (h : wfE S e e0 = true) (hl : wfLoc S i x = true) (hlc : (!isLc e || (swB S x px e0.pos (scE e0) || !(px.line == e0.pos.line) || !decide (S.sc.names.lookup x = some .local))) = true) :
    PS X (.Assign [.Name x px] (toE e e0) pos) (RdS C W fun env h => ofResV (ev P F cx e env h) env fun x h1 => match asgT (.nm i) x env with | some σ' => .nx σ' h1 | none => .stuck) := by
  obtain ⟨h1, h2⟩ := lnOk c hl
  have hN : X.N.Nodup := by rw [c.hN]; exact c.nd
  have plain : swapsWith (toE e e0) (some (.Name x px)) pos.line X.env = pure false → PS X (.Assign [.Name x px] (toE e e0) pos) (RdS C W fun env h => ofResV (ev P F cx e env h) env fun x h1 => match asgT (.nm i) x env with | some σ' => .nx σ' h1 | none => .stuck) := fun hs =>
    ps_weak (ps_set hN h1 h2 (e_sound e c e0 h).1 hs (.inl (hfn _))) fun D σ H q => asg_read (t := .nm i) q
  cases hb : isLc e with
  | false => exact plain (toE_sw e e0 _ _ _ _ hb)
  | true =>
    cases e with
    | lcm => rw [wfE] at h; cases h
    | lc own elt tg it ifs =>
      have ep : (Expr.ListComp (toE elt (kid e0 0)) [⟨toT tg (gnE e0).target, toI it (gnE e0).iter, toEs ifs (gnE e0).ifs, 0⟩] (scE e0) e0.pos).pos = e0.pos := rfl
      rw [hb, Bool.not_true, Bool.false_or, Bool.or_eq_true, Bool.or_eq_true] at hlc
      rcases hlc with (hs | hl') | hcell
      · unfold swB at hs
        obtain ⟨k1, k2, k3, k4⟩ := and4 hs
        have h2 : X.env.scope.names.lookup x = some .local := by rw [c.hsc]; exact of_decide_eq_true k2
        have kf : X.env.scope.kind = .function := by
          rw [c.hsc]
          cases ek : S.sc.kind <;> rw [ek] at k1 <;> first | rfl | cases k1
        have hsw : swapsWith (.ListComp (toE elt (kid e0 0)) [⟨toT tg (gnE e0).target, toI it (gnE e0).iter, toEs ifs (gnE e0).ifs, 0⟩] (scE e0) e0.pos) (some (.Name x px)) pos.line X.env = pure true := sw_true kf h2 k3 (bnot k4)
        rw [wfE] at h
        obtain ⟨h, h8⟩ := and2 h
        obtain ⟨h, h7⟩ := and2 h
        obtain ⟨h, h6⟩ := and2 h
        obtain ⟨h, h5⟩ := and2 h
        obtain ⟨g1, g2, g3, g4⟩ := and4 h
        have hblk : ∀ (s : Shared) (H : Hp) (D : Addr) (cl : List (Str × Addr)) (fp : List Addr), Cok (X.blk s H (scE e0) (compEnvC (scE e0) cl D X.env) fp) (inner S (scE e0)) P F C W0 := fun s H D cl fp => c.blk s H (scE e0) cl D fp
        rw [toE]
        refine ps_weak (ps_setLc (own := ownP S own) (c.calm (bnot g1)) hN h1 h2 hsw (i_sound (cx := cx) it c _ _ g2) (blkOk_by (by rw [c.hN, c.hsc]; exact g3)) (g := gT C.K.f tg) (tt := RdTz C W0 (evT P F cx ifs)) (te := RdEz C W0 (ev P F cx elt)) ?_ ?_ ?_ (toI_folded it _ _)) fun D σ H q => ?_
        · intro s H D cl fp
          have cb := hblk s H D cl fp
          exact pg_sound cb.hN cb.nd cb.hsc cb.hK cb.calm (fun x hx => hx) tg _ g4
        · intro s H D cl fp
          exact pts_z fun z => ts_sound ifs ((hblk s H D cl fp).zz z) _ (of_decide_eq_true h7) h6
        · intro s H D cl fp
          exact pe_z fun z => (e_sound elt ((hblk s H D cl fp).zz z) _ h5).1
        · have q2 := asg_read (t := .nm i) q
          rw [show ev P F cx (.lc own elt tg it ifs) = fun env h => (evI P F cx it env h).bind fun r h1 => match loopC (ev P F cx elt) (evT P F cx ifs) tg r.src r.items (wipeE env own) h1 with | .ok ys h2 => .ok (.lst ys) h2 | _ => .stuck from by funext env h; rw [ev] <;> rfl] at q2
          have := lc_ok h8 (show RdE C W _ σ H (fun v H1 => gT C.K.f (.nm i) v σ H1 D.nx) from q2)
          rw [ownP_snd]
          exact this
      · refine plain ?_
        rw [toE]
        exact sw_off (bnot hl')
      · refine plain ?_
        rw [toE]
        refine sw_cell ?_
        rw [c.hsc]
        exact of_decide_eq_false (bnot hcell)
    | _ => cases hb
mutual
theorem s_sound : ∀ (s : MS) {X : Cx} {S : Sc} {C : XC} {W : WX} (c : Cok X S P F C W) (po : PassesOwn (model X.prog X.w) X.A X.env X.xe) (hfn : ∀ x, X.fn x = true) (s0 : Stmt), wfS S s s0 = true → PS X (toS s s0) (RdS C W (ex P F cx s))
  | .asg (.nm i) e, X, S, C, W, c, po, hfn, s0, h => by
    rw [wfS] at h
    obtain ⟨h1, h2, h3⟩ := and3 h
    rw [toS, toT, show ex P F cx (.asg (.nm i) e) = fun env h => ofResV (ev P F cx e env h) env fun x h1 => match asgT (.nm i) x env with | some σ' => .nx σ' h1 | none => .stuck from by funext env h; rw [ex] <;> rfl]
    exact ps_setN c hfn h1 h2 h3
  | .asg (.tp ts) e, X, S, C, W, c, po, hfn, s0, h => by
    rw [wfS] at h
    obtain ⟨h1, h2, h3⟩ := and3 h
    have pg := pg_sound c.hN c.nd c.hsc c.hK c.calm (fl := fun _ => true) (fun x _ => hfn x) (.tp ts) _ h2
    rw [toS, show ex P F cx (.asg (.tp ts) e) = fun env h => ofResV (ev P F cx e env h) env fun x h1 => match asgT (.tp ts) x env with | some σ' => .nx σ' h1 | none => .stuck from by funext env h; rw [ex] <;> rfl]
    rw [toT] at pg ⊢
    exact ps_weak (ps_asg (e_sound e c _ h1).1 pg (toE_swT _ _ _ _ _ _ _) (toE_st _ _ _ _ _ _ (bnot h3)) (by rfl)) fun D σ H q => asg_read (t := .tp ts) q
  | .aug i o e, X, S, C, W, c, po, hfn, s0, h => by
    rw [wfS] at h
    obtain ⟨h1, h2, h3⟩ := and3 h
    rw [Bool.or_eq_true] at h3
    rw [toS, show ex P F cx (.aug i o e) = fun σ h => match σ[i]? with
      | some (some x) => ofResV (ev P F cx e σ h) σ fun y h1 => (match x, y with
        | .int a, .int b => (match bopI o a b with | some z => .nx (σ.set i (some z)) h1 | none => .stuck)
        | _, _ => .stuck)
      | _ => .stuck from by funext env h; rw [ex] <;> rfl]
    exact ps_aug' c hfn h2 (h3.imp of_decide_eq_true of_decide_eq_true) (e_sound e c _ h1).1
  | .stx o i e, X, S, C, W, c, po, hfn, s0, h => by
    rw [wfS] at h
    obtain ⟨h1, h2, h3⟩ := and3 h
    rw [toS, show ex P F cx (.stx o i e) = fun σ h => ofResV (ev P F cx e σ h) σ fun v h1 => ofResV (ev P F cx o σ h1) σ fun x h2 => ofResV (ev P F cx i σ h2) σ fun y h3 => match storeIx x y v h3 with | some h4 => .nx σ h4 | none => .stuck from by funext env h; rw [ex] <;> rfl]
    exact ps_stx' c (e_sound o c _ h2).1 (e_sound i c _ h3).1 (e_sound e c _ h1).1
  | .exp e, X, S, C, W, c, po, hfn, s0, h => by
    rw [wfS] at h
    obtain ⟨h1, h2⟩ := and2 h
    rw [toS, show ex P F cx (.exp e) = fun σ h => ofResV (ev P F cx e σ h) σ fun _ h1 => .nx σ h1 from by funext env h; rw [ex] <;> rfl]
    exact ps_exp' (e_sound e c _ h1).1 (toE_sw0 _ _ _ _ (bnot h2))
  | .ite d a b, X, S, C, W, c, po, hfn, s0, h => by
    rw [wfS] at h
    obtain ⟨h1, h2, h3⟩ := and3 h
    rw [toS, show ex P F cx (.ite d a b) = fun σ h => ofResV (ev P F cx d σ h) σ fun x h1 => match truth x h1 with | some true => exs P F cx a σ h1 | some false => exs P F cx b σ h1 | none => .stuck from by funext env h; rw [ex] <;> rfl]
    exact ps_if' (e_sound d c _ h1).2 (ss_sound a c po hfn _ h2) (ss_sound b c po hfn _ h3)
  | .for t it b, X, S, C, W, c, po, hfn, s0, h => by
    rw [wfS] at h
    obtain ⟨h1, h2, h3, h4⟩ := and4 h
    have pg := pg_sound c.hN c.nd c.hsc c.hK c.calm (fl := fun _ => true) (fun x _ => hfn x) t _ h2
    rw [toS, show ex P F cx (.for t it b) = fun σ h => ofResV (evI P F cx it σ h) σ fun r h1 => loopF (exs P F cx b) t r.src r.items σ h1 from by funext env h; rw [ex] <;> rfl]
    exact ps_weak (ps_for po (c.calm (bnot h1)) (i_sound it c _ t h3) pg (ss_sound b c po hfn _ h4) (toI_folded it _ _)) fun D σ H q => for_read q
  | .whl n d b, X, S, C, W, c, po, hfn, s0, h => by
    rw [wfS] at h
    obtain ⟨h1, h2⟩ := and2 h
    rw [toS, show ex P F cx (.whl n d b) = fun σ h => loopW (tst (ev P F cx d)) (exs P F cx b) n σ h from by funext env h; rw [ex] <;> rfl]
    exact ps_weak (ps_while po (e_sound d c _ h1).2 (ss_sound b c po hfn _ h2)) fun D σ H q => while_read q
  | .ret e, X, S, C, W, c, po, hfn, s0, h => by
    rw [wfS] at h
    rw [toS, show ex P F cx (.ret e) = fun σ h => ofResV (ev P F cx e σ h) σ fun x h1 => .rt x h1 from by funext env h; rw [ex] <;> rfl]
    exact ps_ret' (e_sound e c _ h).1
  | .retN, X, S, C, W, c, po, hfn, s0, h => by
    rw [toS, show ex P F cx .retN = fun _ h => .rt .non h from by funext env h; rw [ex] <;> rfl]
    refine ps_weak ps_retN fun D σ H q => ?_
    obtain ⟨M, h, env, hr, er, o⟩ := q
    exact o .non H M Ext.refl hr rv_n
  | .rai k es, X, S, C, W, c, po, hfn, s0, h => by
    rw [wfS] at h
    obtain ⟨h, h5⟩ := and2 h
    obtain ⟨h1, h2, h3, h4⟩ := and4 h
    obtain ⟨e, r, rfl⟩ := mes_ne (of_decide_eq_true h4)
    rw [toS]
    have hf := c.hf
    have h5 := of_decide_eq_true h5
    cases cx with
    | none =>
      rw [show ex P F none (.rai k (.cons e r)) = fun σ h => ofResV (evs P F none (.cons e r) σ h) σ fun xs h1 => .ex ⟨k, xs⟩ σ h1 from by funext env h; rw [ex] <;> rfl]
      exact ps_rai' c (bnot h1) (by rw [hf]; intro z; rw [z] at h5; simp [mesLen] at h5) h2 (fun env h xs h' e => by rw [evs_len e, hf, h5]; exact ⟨rfl, fldC_len k⟩) (es_sound (.cons e r) c _ h3)
    | some x =>
      refine ps_weak ps_never fun D σ H q => ?_
      obtain ⟨M, h, env, hr, er, o⟩ := q
      rw [ex] at o
      exact o
  | .try _ _ _ _, X, S, C, W, c, po, hfn, s0, h => by rw [wfS] at h; cases h
  | .pas, X, S, C, W, c, po, hfn, s0, h => by
    rw [toS, show ex P F cx .pas = fun σ h => .nx σ h from by funext env h; rw [ex] <;> rfl]
    refine ps_weak ps_pass fun D σ H q => ?_
    obtain ⟨M, h, env, hr, er, o⟩ := q
    exact o σ H M Ext.refl hr er
  | .brk, X, S, C, W, c, po, hfn, s0, h => by
    rw [toS, show ex P F cx .brk = fun σ h => .bk σ h from by funext env h; rw [ex] <;> rfl]
    refine ps_weak ps_break fun D σ H q => ?_
    obtain ⟨M, h, env, hr, er, o⟩ := q
    exact o σ H M Ext.refl hr er
  | .cnt, X, S, C, W, c, po, hfn, s0, h => by
    rw [toS, show ex P F cx .cnt = fun σ h => .ct σ h from by funext env h; rw [ex] <;> rfl]
    refine ps_weak ps_continue fun D σ H q => ?_
    obtain ⟨M, h, env, hr, er, o⟩ := q
    exact o σ H M Ext.refl hr er
theorem ss_sound : ∀ (s : MSs) {X : Cx} {S : Sc} {C : XC} {W : WX} (c : Cok X S P F C W) (po : PassesOwn (model X.prog X.w) X.A X.env X.xe) (hfn : ∀ x, X.fn x = true) (l : List Stmt), wfSs S s l = true → PSs X (toSs s l) (RdS C W (exs P F cx s))
  | .nil, X, S, C, W, c, po, hfn, l, h => by
    rw [toSs, show exs P F cx .nil = fun σ h => .nx σ h from by funext env h; rw [exs] <;> rfl]
    exact pss_nil'
  | .cons s r, X, S, C, W, c, po, hfn, l, h => by
    rw [wfSs] at h
    obtain ⟨h1, h2⟩ := and2 h
    rw [toSs, show exs P F cx (.cons s r) = fun σ h => match ex P F cx s σ h with | .nx σ1 h1 => exs P F cx r σ1 h1 | x => x from by funext env h; rw [exs] <;> rfl]
    exact pss_cons' (s_sound s c po hfn _ h1) (ss_sound r c po hfn _ h2)
end
end
end Qm

/-! S15: the end of a call: what is handed back. -/
namespace Qm
open PySem PySem.Spec PyProof.Rows L2
theorem frz_kk {g : Nat → Option PV} : ∀ {kvs : List (Key × V)} {a : List PV}, frzTs g (kvs.map fun p => keyP p.1) = some a → a = kvs.map fun p => keyP p.1
  | [], a, e => by rw [List.map_nil, frzTs] at e; cases e; rfl
  | ⟨k, v⟩ :: r, a, e => by
    rw [List.map_cons, frzTs] at e
    split at e
    · rename_i a' b ea eb
      cases e
      rw [frz_kk eb]
      cases k <;> simp only [keyP, frzT] at ea <;> cases ea <;> rfl
    · cases e
theorem frz_ks {g : Nat → Option PV} : ∀ {ks : List Key} {a : List PV}, frzTs g (ks.map keyP) = some a → a = ks.map keyP
  | [], a, e => by rw [List.map_nil, frzTs] at e; cases e; rfl
  | k :: r, a, e => by
    rw [List.map_cons, frzTs] at e
    split at e
    · rename_i a' b ea eb
      cases e
      rw [frz_ks eb]
      cases k <;> simp only [keyP, frzT] at ea <;> cases ea <;> rfl
    · cases e
theorem frz_tk {g : Nat → Option PV} : ∀ {kvs : List (List Key × V)} {a : List PV}, frzTs g (kvs.map fun p => .tup (p.1.map keyP)) = some a → a = kvs.map fun p => .tup (p.1.map keyP)
  | [], a, e => by rw [List.map_nil, frzTs] at e; cases e; rfl
  | ⟨k, v⟩ :: r, a, e => by
    rw [List.map_cons, frzTs] at e
    split at e
    · rename_i a' b ea eb
      cases e
      rw [frz_tk eb]
      rw [frzT] at ea
      obtain ⟨c, ec, rfl⟩ := Option.map_eq_some_iff.mp ea
      rw [frz_ks ec]
      rfl
    · cases e
section
variable {K : KZ} {M M' : List Addr} {H H0 : Hp}
theorem Off.sub (s : ∀ a ∈ M, a ∈ M') {a : Addr} (o : Off K M' a) : Off K M a := ⟨fun h => o.1 (s a h), o.2⟩
theorem TupAt.sub (s : ∀ a ∈ M, a ∈ M') {a : Addr} {vs : List V} (t : TupAt K M' H a vs) : TupAt K M H a vs := by
  rcases t with ⟨z, n, r⟩ | r
  · exact .inl ⟨z, n.sub s, r⟩
  · exact .inr r
mutual
theorem frzT_ok (s : ∀ a ∈ M, a ∈ M') {g : Nat → Option PV} (hg : ∀ n v p, g n = some p → RV K M' H (.ref n) v → RV K M H p v) : ∀ {x y : PV} {v : V}, frzT g x = some y → RV K M' H x v → RV K M H y v
  | .non, y, v, e, r => by rw [frzT] at e; cases e; rw [RV] at r ⊢; exact r
  | .bl _, y, v, e, r => by rw [frzT] at e; cases e; rw [RV] at r ⊢; exact r
  | .int _, y, v, e, r => by rw [frzT] at e; cases e; rw [RV] at r ⊢; exact r
  | .str _, y, v, e, r => by rw [frzT] at e; cases e; rw [RV] at r ⊢; exact r
  | .tup xs, y, v, e, r => by
    rw [frzT] at e
    obtain ⟨ys, e', rfl⟩ := Option.map_eq_some_iff.mp e
    rw [RV] at r ⊢
    obtain ⟨a, vs, ev, t, rs⟩ := r
    exact ⟨a, vs, ev, t.sub s, frzTs_ok s hg e' rs⟩
  | .lst xs, y, v, e, r => by
    rw [frzT] at e
    obtain ⟨ys, e', rfl⟩ := Option.map_eq_some_iff.mp e
    rw [RV] at r ⊢
    obtain ⟨a, vs, ev, z, n, t, rs⟩ := r
    exact ⟨a, vs, ev, z, n.sub s, t, frzTs_ok s hg e' rs⟩
  | .dic t ks ws, y, v, e, r => by
    rw [frzT] at e
    split at e
    · rename_i a b ea eb
      cases e
      rw [RV] at r ⊢
      obtain ⟨p, us, u, ev, n, z, d, rs⟩ := r
      have ek : a = ks := by
        unfold DK at d
        split at d
        · obtain ⟨kvs, _, rfl, _⟩ := d
          exact frz_tk ea
        · obtain ⟨kvs, _, rfl, _⟩ := d
          exact frz_kk ea
      subst ek
      exact ⟨p, us, u, ev, n.sub s, z, d, frzTs_ok s hg eb rs⟩
    · cases e
  | .scr _, y, v, e, r => by rw [frzT] at e; cases e
  | .ref n, y, v, e, r => by rw [frzT] at e; exact hg n v y e r
theorem frzTs_ok (s : ∀ a ∈ M, a ∈ M') {g : Nat → Option PV} (hg : ∀ n v p, g n = some p → RV K M' H (.ref n) v → RV K M H p v) : ∀ {x y : List PV} {v : List V}, frzTs g x = some y → RVs K M' H x v → RVs K M H y v
  | [], y, v, e, r => by rw [frzTs] at e; cases e; rw [RVs] at r ⊢; exact r
  | x :: xs, y, v, e, r => by
    rw [frzTs] at e
    split at e
    · rename_i a b ea eb
      cases e
      rw [RVs] at r ⊢
      obtain ⟨w, ws, rfl, r1, r2⟩ := r
      exact ⟨w, ws, rfl, frzT_ok s hg ea r1, frzTs_ok s hg eb r2⟩
    · cases e
end
theorem pre_get (x : ∃ l, M' = M ++ l) {n : Nat} (h : n < M.length) : M'[n]? = M[n]? := by
  obtain ⟨l, rfl⟩ := x
  exact List.getElem?_append_left h
theorem pre_mem (x : ∃ l, M' = M ++ l) : ∀ a ∈ M, a ∈ M' := by
  obtain ⟨l, rfl⟩ := x
  exact fun a h => List.mem_append_left _ h
theorem pre_out (x : ∃ l, M' = M ++ l) (nd : M'.Nodup) {n : Nat} {a : Addr} (e : M'[n]? = some a) (h : M.length ≤ n) : a ∉ M := fun z => by
  obtain ⟨l, rfl⟩ := x
  rw [List.getElem?_append_right h] at e
  have := (List.nodup_append.mp nd).2.2 a z a (List.mem_of_getElem? e)
  exact this rfl
theorem frzG_ok {h' : MHp} (x : ∃ l, M' = M ++ l) (hr : HRel K M' H h') : ∀ (k n : Nat) (v : V) (p : PV), frzG M.length h' k n = some p → RV K M' H (.ref n) v → RV K M H p v
  | 0, n, v, p, e, r => by rw [frzG] at e; cases e
  | k + 1, n, v, p, e, r => by
    rw [frzG] at e
    split at e
    · rename_i c
      cases e
      rw [RV] at r ⊢
      obtain ⟨a, ev, ea⟩ := r
      rw [pre_get x c] at ea
      exact ⟨a, ev, ea⟩
    · rename_i c
      rw [RV] at r
      obtain ⟨a, rfl, ea⟩ := r
      have na : Off K M a := ⟨pre_out x hr.nd ea (by omega), fun z => (hr.zs a z).1 (List.mem_of_getElem? ea)⟩
      split at e
      · rename_i xs eh
        obtain ⟨ys, e', rfl⟩ := Option.map_eq_some_iff.mp e
        obtain ⟨vs, eu, z, rs⟩ := hr.at_ n a _ ea eh
        rw [RV]
        exact ⟨a, vs, rfl, z, na, eu, frzTs_ok (pre_mem x) (frzG_ok x hr k) e' rs⟩
      · rename_i t ks ws eh
        obtain ⟨us, u, eu, d, rs⟩ := hr.at_ n a _ ea eh
        split at e
        · rename_i a1 b1 e1 e2
          cases e
          have ek : a1 = ks := by
            unfold DK at d
            split at d
            · obtain ⟨kvs, _, rfl, _⟩ := d
              exact frz_tk e1
            · obtain ⟨kvs, _, rfl, _⟩ := d
              exact frz_kk e1
          subst ek
          rw [RV]
          exact ⟨a, us, u, rfl, na, eu, d, frzTs_ok (pre_mem x) (frzG_ok x hr k) e2 rs⟩
        · cases e
      · cases e
/-! ### the caller's own things -/
mutual
/-- a thing that stood at M holds places of M alone -/
theorem RV.back (x : ∃ l, M' = M ++ l) : ∀ {p : PV} {v0 v : V}, RV K M H0 p v0 → RV K M' H p v → RV K M H p v
  | .non, _, _, _, r => by rw [RV] at r ⊢; exact r
  | .bl _, _, _, _, r => by rw [RV] at r ⊢; exact r
  | .int _, _, _, _, r => by rw [RV] at r ⊢; exact r
  | .str _, _, _, _, r => by rw [RV] at r ⊢; exact r
  | .tup xs, _, _, r0, r => by
    rw [RV] at r0 r ⊢
    obtain ⟨_, _, _, _, q0⟩ := r0
    obtain ⟨a, vs, ev, t, rs⟩ := r
    exact ⟨a, vs, ev, t.sub (pre_mem x), RVs.back x q0 rs⟩
  | .lst xs, _, _, r0, r => by
    rw [RV] at r0 r ⊢
    obtain ⟨_, _, _, _, _, _, q0⟩ := r0
    obtain ⟨a, vs, ev, z, n, t, rs⟩ := r
    exact ⟨a, vs, ev, z, n.sub (pre_mem x), t, RVs.back x q0 rs⟩
  | .dic _ _ ws, _, _, r0, r => by
    rw [RV] at r0 r ⊢
    obtain ⟨_, _, _, _, _, _, _, q0⟩ := r0
    obtain ⟨a, us, u, ev, n, z, d, rs⟩ := r
    exact ⟨a, us, u, ev, n.sub (pre_mem x), z, d, RVs.back x q0 rs⟩
  | .ref n, _, _, r0, r => by
    rw [RV] at r0 r ⊢
    obtain ⟨a0, _, e0⟩ := r0
    obtain ⟨a, ev, e⟩ := r
    rw [pre_get x (List.getElem?_eq_some_iff.mp e0).1] at e
    exact ⟨a, ev, e⟩
  | .scr _, _, _, _, r => by
    rw [RV] at r ⊢
    obtain ⟨a, ev, z, q⟩ := r
    refine ⟨a, ev, z, ?_⟩
    rcases q with ⟨n, q⟩ | q
    · exact .inl ⟨n.sub (pre_mem x), q⟩
    · exact .inr q
theorem RVs.back (x : ∃ l, M' = M ++ l) : ∀ {p : List PV} {v0 v : List V}, RVs K M H0 p v0 → RVs K M' H p v → RVs K M H p v
  | [], _, _, _, r => by rw [RVs] at r ⊢; exact r
  | _ :: _, _, _, r0, r => by
    rw [RVs] at r0 r ⊢
    obtain ⟨_, _, _, q1, q2⟩ := r0
    obtain ⟨v, vs, ev, r1, r2⟩ := r
    exact ⟨v, vs, ev, RV.back x q1 r1, RVs.back x q2 r2⟩
end
mutual
/-- .. or trees -/
theorem RV.tree (s : ∀ a ∈ M, a ∈ M') : ∀ {p : PV} {v : V}, nor p = true → RV K M' H p v → RV K M H p v
  | .non, _, _, r => by rw [RV] at r ⊢; exact r
  | .bl _, _, _, r => by rw [RV] at r ⊢; exact r
  | .int _, _, _, r => by rw [RV] at r ⊢; exact r
  | .str _, _, _, r => by rw [RV] at r ⊢; exact r
  | .tup xs, _, n, r => by
    rw [nor] at n
    rw [RV] at r ⊢
    obtain ⟨a, vs, ev, t, rs⟩ := r
    exact ⟨a, vs, ev, t.sub s, RVs.tree s n rs⟩
  | .lst xs, _, n, r => by
    rw [nor] at n
    rw [RV] at r ⊢
    obtain ⟨a, vs, ev, z, o, t, rs⟩ := r
    exact ⟨a, vs, ev, z, o.sub s, t, RVs.tree s n rs⟩
  | .dic _ _ ws, _, n, r => by
    rw [nor, Bool.and_eq_true] at n
    rw [RV] at r ⊢
    obtain ⟨a, us, u, ev, o, z, d, rs⟩ := r
    exact ⟨a, us, u, ev, o.sub s, z, d, RVs.tree s n.2 rs⟩
  | .ref _, _, n, _ => by rw [nor] at n; cases n
  | .scr _, _, n, _ => by rw [nor] at n; cases n
theorem RVs.tree (s : ∀ a ∈ M, a ∈ M') : ∀ {p : List PV} {v : List V}, nors p = true → RVs K M' H p v → RVs K M H p v
  | [], _, _, r => by rw [RVs] at r ⊢; exact r
  | _ :: _, _, n, r => by
    rw [nors, Bool.and_eq_true] at n
    rw [RVs] at r ⊢
    obtain ⟨v, vs, ev, r1, r2⟩ := r
    exact ⟨v, vs, ev, RV.tree s n.1 r1, RVs.tree s n.2 r2⟩
end
theorem keep_at : ∀ {h h' : MHp} {n : Nat} {o o' : MO}, keepOk h h' = true → h[n]? = some o → h'[n]? = some o' → o' = o ∨ norO o' = true
  | [], _, _, _, _, _, e, _ => by simp at e
  | a :: r, [], _, _, _, k, _, _ => by rw [keepOk] at k; cases k
  | a :: r, b :: r', 0, o, o', k, e, e' => by
    rw [keepOk, Bool.and_eq_true, Bool.or_eq_true] at k
    simp at e e'
    subst e e'
    exact k.1.imp of_decide_eq_true id
  | a :: r, b :: r', n + 1, o, o', k, e, e' => by
    rw [keepOk, Bool.and_eq_true] at k
    exact keep_at k.2 (by simpa using e) (by simpa using e')
/-- the end of a call: the callee's own things are the caller's trees -/
theorem leave_rel {h h' : MHp} (hr0 : HRel K M H0 h) (x : Ext M H0 M' H) (hr : HRel K M' H h') (k : keepOk h h' = true) : Ext M H0 M H ∧ HRel K M H (h'.take h.length) := by
  obtain ⟨l, el⟩ := x.pre
  refine ⟨⟨⟨[], by simp⟩, x.keep, fun _ m => .inl m⟩, ?_⟩
  have hl : h.length ≤ h'.length := by
    have := hr.len
    rw [el, List.length_append, hr0.len] at this
    omega
  refine ⟨by rw [List.length_take, hr0.len]; omega, hr0.nd, fun a ha => ?_, fun n a o en eo => ?_⟩
  · obtain ⟨n, e⟩ := hr.zs a ha
    exact ⟨(hr0.zs a ha).1, e⟩
  · have hn : n < M.length := (List.getElem?_eq_some_iff.mp en).1
    have hn' : n < h.length := by rw [← hr0.len]; exact hn
    rw [List.getElem?_take_of_lt hn'] at eo
    have en' : M'[n]? = some a := by rw [el, List.getElem?_append_left hn]; exact en
    have r := hr.at_ n a o en' eo
    have e0 : h[n]? = some h[n] := List.getElem?_eq_getElem hn'
    have sub : ∀ a ∈ M, a ∈ M' := fun a m => x.mem m
    rcases keep_at k e0 eo with rfl | no
    · have r0 := hr0.at_ n a _ en e0
      cases eo_ : h[n] with
      | lst xs =>
        rw [eo_] at r r0
        obtain ⟨vs, e, z, rs⟩ := r
        obtain ⟨_, _, _, q0⟩ := r0
        exact ⟨vs, e, z, RVs.back x.pre q0 rs⟩
      | dic t ks ws =>
        rw [eo_] at r r0
        obtain ⟨us, u, e, d, rs⟩ := r
        obtain ⟨_, _, _, _, q0⟩ := r0
        exact ⟨us, u, e, d, RVs.back x.pre q0 rs⟩
      | ins _ _ => rw [eo_] at r; exact r
    · cases o with
      | lst xs =>
        obtain ⟨vs, e, z, rs⟩ := r
        exact ⟨vs, e, z, RVs.tree sub no rs⟩
      | dic t ks ws =>
        rw [norO, Bool.and_eq_true] at no
        obtain ⟨us, u, e, d, rs⟩ := r
        exact ⟨us, u, e, d, RVs.tree sub no.2 rs⟩
      | ins _ _ => cases no
end
section
variable {C : XC} {E : XK} {Q : VK} {M : List Addr} {H : Hp} {h : MHp}
theorem leave_ok {raw : Bool} {h' : MHp} {p : PV} (hr0 : HRel C.K M H h) (o : Out C E Q M H (leave raw h h' p)) : ∀ v H' M', Ext M H M' H' → HRel C.K M' H' h' → RV C.K M' H' p v → Q v H' := fun v H' M' x hr rv => by
  unfold leave at o
  cases raw with
  | true => exact o v H' M' x hr rv
  | false =>
    simp only [Bool.false_eq_true, if_false] at o
    split at o
    · rename_i k
      obtain ⟨x1, hr1⟩ := leave_rel hr0 x hr k
      cases e : frz h.length h' p with
      | none => rw [e] at o; exact o.elim
      | some y =>
        rw [e] at o
        rw [← hr0.len] at e
        exact o v H' M x1 hr1 (frzT_ok (fun a m => x.mem m) (frzG_ok x.pre hr 4) e rv)
    · exact o.elim
theorem leaveX_ok {raw : Bool} {h' : MHp} {y : MX} (hr0 : HRel C.K M H h) (o : Out C E Q M H (leaveX raw h h' y)) : ∀ cls d H' M', Ext M H M' H' → HRel C.K M' H' h' → XRel C M' H' y cls d → E cls d H' := fun cls d H' M' x hr xr => by
  unfold leaveX at o
  cases raw with
  | true => exact o cls d H' M' x hr xr
  | false =>
    simp only [Bool.false_eq_true, if_false] at o
    split at o
    · rename_i k
      obtain ⟨x1, hr1⟩ := leave_rel hr0 x hr k
      cases e : frzs h.length h' y.fs with
      | none => rw [e] at o; exact o.elim
      | some fs' =>
        rw [e] at o
        rw [← hr0.len] at e
        refine o cls d H' M x1 hr1 ?_
        obtain ⟨a, dd, fs, ca, e1, e2, nd, ed, el, ef⟩ := xr
        have all : ∀ {xs ys : List PV} , frzTs (frzG M.length h' 4) xs = some ys → ys.length = xs.length ∧ ∀ (i : Nat) (p : PV), ys[i]? = some p → ∃ p0, xs[i]? = some p0 ∧ ∀ v, RV C.K M' H' p0 v → RV C.K M H' p v := by
          intro xs
          induction xs with
          | nil => intro ys e; rw [frzTs] at e; cases e; exact ⟨rfl, fun i p e => by simp at e⟩
          | cons z zs ih =>
            intro ys e
            rw [frzTs] at e
            split at e
            · rename_i a1 b1 e1 e2
              cases e
              obtain ⟨l1, i1⟩ := ih e2
              refine ⟨by simp [l1], fun i p ep => ?_⟩
              cases i with
              | zero =>
                simp at ep
                subst ep
                exact ⟨z, rfl, fun v rv => frzT_ok (fun a m => x.mem m) (frzG_ok x.pre hr 4) e1 rv⟩
              | succ i =>
                obtain ⟨p0, q1, q2⟩ := i1 i p (by simpa using ep)
                exact ⟨p0, by simpa using q1, q2⟩
            · cases e
        obtain ⟨l1, i1⟩ := all e
        refine ⟨a, dd, fs, ca, e1, e2, fun m => nd (x.mem m), ed, by rw [l1]; exact el, fun i p n ep en => ?_⟩
        obtain ⟨p0, q1, q2⟩ := i1 i p ep
        obtain ⟨v, lv, rv⟩ := ef i p0 n q1 en
        exact ⟨v, lv, q2 v rv⟩
    · exact o.elim
/-! ### calls with trees alone -/
/-- all that the caller can change is hidden -/
def hidM (K : KZ) (M : List Addr) : KZ := ⟨K.f, K.z ++ M⟩
mutual
theorem RV.inn {K : KZ} {M : List Addr} {H : Hp} : ∀ {p : PV} {v : V}, nor p = true → RV K M H p v → RV (hidM K M) [] H p v
  | .non, _, _, r => by rw [RV] at r ⊢; exact r
  | .bl _, _, _, r => by rw [RV] at r ⊢; exact r
  | .int _, _, _, r => by rw [RV] at r ⊢; exact r
  | .str _, _, _, r => by rw [RV] at r ⊢; exact r
  | .tup xs, _, n, r => by
    rw [nor] at n
    rw [RV] at r ⊢
    obtain ⟨a, vs, ev, t, rs⟩ := r
    refine ⟨a, vs, ev, ?_, RVs.inn n rs⟩
    rcases t with ⟨z, o, t⟩ | t
    · exact .inl ⟨z, ⟨by simp, by simp [hidM, o.1, o.2]⟩, t⟩
    · exact .inr t
  | .lst xs, _, n, r => by
    rw [nor] at n
    rw [RV] at r ⊢
    obtain ⟨a, vs, ev, z, o, t, rs⟩ := r
    exact ⟨a, vs, ev, z, ⟨by simp, by simp [hidM, o.1, o.2]⟩, t, RVs.inn n rs⟩
  | .dic _ ks vs, _, n, r => by
    rw [nor, Bool.and_eq_true] at n
    rw [RV] at r ⊢
    obtain ⟨a, us, u, ev, o, z, d, rs⟩ := r
    exact ⟨a, us, u, ev, ⟨by simp, by simp [hidM, o.1, o.2]⟩, z, d, RVs.inn n.2 rs⟩
  | .ref _, _, n, _ => by rw [nor] at n; cases n
  | .scr _, _, n, _ => by rw [nor] at n; cases n
theorem RVs.inn {K : KZ} {M : List Addr} {H : Hp} : ∀ {p : List PV} {v : List V}, nors p = true → RVs K M H p v → RVs (hidM K M) [] H p v
  | [], _, _, r => by rw [RVs] at r ⊢; exact r
  | _ :: _, _, n, r => by
    rw [nors, Bool.and_eq_true] at n
    rw [RVs] at r ⊢
    obtain ⟨v, vs, ev, r1, r2⟩ := r
    exact ⟨v, vs, ev, RV.inn n.1 r1, RVs.inn n.2 r2⟩
end
mutual
theorem frzT_nor {g : Nat → Option PV} (hg : ∀ n y, g n = some y → nor y = true) : ∀ {x y : PV}, frzT g x = some y → nor y = true
  | .non, y, e => by rw [frzT] at e; cases e; rfl
  | .bl _, y, e => by rw [frzT] at e; cases e; rfl
  | .int _, y, e => by rw [frzT] at e; cases e; rfl
  | .str _, y, e => by rw [frzT] at e; cases e; rfl
  | .tup xs, y, e => by
    rw [frzT] at e
    obtain ⟨ys, e', rfl⟩ := Option.map_eq_some_iff.mp e
    rw [nor]; exact frzTs_nor hg e'
  | .lst xs, y, e => by
    rw [frzT] at e
    obtain ⟨ys, e', rfl⟩ := Option.map_eq_some_iff.mp e
    rw [nor]; exact frzTs_nor hg e'
  | .dic t ks ws, y, e => by
    rw [frzT] at e
    split at e
    · rename_i a b ea eb
      cases e
      rw [nor, Bool.and_eq_true]
      exact ⟨frzTs_nor hg ea, frzTs_nor hg eb⟩
    · cases e
  | .scr _, y, e => by rw [frzT] at e; cases e
  | .ref n, y, e => by rw [frzT] at e; exact hg n y e
theorem frzTs_nor {g : Nat → Option PV} (hg : ∀ n y, g n = some y → nor y = true) : ∀ {x y : List PV}, frzTs g x = some y → nors y = true
  | [], y, e => by rw [frzTs] at e; cases e; rfl
  | x :: xs, y, e => by
    rw [frzTs] at e
    split at e
    · rename_i a b ea eb
      cases e
      rw [nors, Bool.and_eq_true]
      exact ⟨frzT_nor hg ea, frzTs_nor hg eb⟩
    · cases e
end
theorem frzG_nor {h : MHp} : ∀ (k n : Nat) (y : PV), frzG 0 h k n = some y → nor y = true
  | 0, n, y, e => by rw [frzG] at e; cases e
  | k + 1, n, y, e => by
    rw [frzG] at e
    rw [if_neg (by omega)] at e
    split at e
    · obtain ⟨ys, e', rfl⟩ := Option.map_eq_some_iff.mp e
      rw [nor]; exact frzTs_nor (frzG_nor k) e'
    · split at e
      · rename_i a b ea eb
        cases e
        rw [nor, Bool.and_eq_true]
        exact ⟨frzTs_nor (frzG_nor k) ea, frzTs_nor (frzG_nor k) eb⟩
      · cases e
    · cases e
theorem off_out {K : KZ} {M : List Addr} {a : Addr} (o : Off (hidM K M) [] a) : Off K M a := by
  have := o.2
  simp only [hidM, List.mem_append, not_or] at this
  exact ⟨this.2, this.1⟩
mutual
theorem RV.out {K : KZ} {M : List Addr} {H : Hp} : ∀ {p : PV} {v : V}, nor p = true → RV (hidM K M) [] H p v → RV K M H p v
  | .non, _, _, r => by rw [RV] at r ⊢; exact r
  | .bl _, _, _, r => by rw [RV] at r ⊢; exact r
  | .int _, _, _, r => by rw [RV] at r ⊢; exact r
  | .str _, _, _, r => by rw [RV] at r ⊢; exact r
  | .tup xs, _, n, r => by
    rw [nor] at n
    rw [RV] at r ⊢
    obtain ⟨a, vs, ev, t, rs⟩ := r
    refine ⟨a, vs, ev, ?_, RVs.out n rs⟩
    rcases t with ⟨z, o, t⟩ | t
    · exact .inl ⟨z, off_out o, t⟩
    · exact .inr t
  | .lst xs, _, n, r => by
    rw [nor] at n
    rw [RV] at r ⊢
    obtain ⟨a, vs, ev, z, o, t, rs⟩ := r
    exact ⟨a, vs, ev, z, off_out o, t, RVs.out n rs⟩
  | .dic _ ks vs, _, n, r => by
    rw [nor, Bool.and_eq_true] at n
    rw [RV] at r ⊢
    obtain ⟨a, us, u, ev, o, z, d, rs⟩ := r
    exact ⟨a, us, u, ev, off_out o, z, d, RVs.out n.2 rs⟩
  | .ref _, _, n, _ => by rw [nor] at n; cases n
  | .scr _, _, n, _ => by rw [nor] at n; cases n
theorem RVs.out {K : KZ} {M : List Addr} {H : Hp} : ∀ {p : List PV} {v : List V}, nors p = true → RVs (hidM K M) [] H p v → RVs K M H p v
  | [], _, _, r => by rw [RVs] at r ⊢; exact r
  | _ :: _, _, n, r => by
    rw [nors, Bool.and_eq_true] at n
    rw [RVs] at r ⊢
    obtain ⟨v, vs, ev, r1, r2⟩ := r
    exact ⟨v, vs, ev, RV.out n.1 r1, RVs.out n.2 r2⟩
end
end
section
variable {C : XC} {E : XK} {Q : VK} {M : List Addr} {H : Hp} {h : MHp}
/-- the caller's things stand through such a call -/
theorem hid_hrel (hr : HRel C.K M H h) : HRel (hidM C.K M) [] H [] where
  len := rfl
  nd := List.nodup_nil
  zs := fun a ha => by
    refine ⟨by simp, ?_⟩
    rcases List.mem_append.mp ha with ha | ha
    · exact (hr.zs a ha).2
    · exact hr.mem ha
  at_ := fun n a o e => by simp at e
theorem out_hrel {M' : List Addr} {H' : Hp} (hr : HRel C.K M H h) (x : Ext [] H M' H') : Ext M H M H' ∧ HRel C.K M H' h := by
  have k : ∀ a o, H a = some o → H' a = some o := fun a o e => x.keep a o (by simp) e
  have x1 : Ext M H M H' := ⟨⟨[], by simp⟩, fun a o _ e => k a o e, fun _ m => .inl m⟩
  refine ⟨x1, hr.ext x1 fun a m => ?_⟩
  cases e : H a with
  | none => exact (hr.mem m e).elim
  | some o => exact k a o e
theorem frzs_each {base : Nat} {h' : MHp} : ∀ {xs ys : List PV}, frzTs (frzG base h' 4) xs = some ys → ys.length = xs.length ∧ ∀ (i : Nat) (p : PV), ys[i]? = some p → ∃ p0, xs[i]? = some p0 ∧ frzT (frzG base h' 4) p0 = some p
  | [], ys, e => by rw [frzTs] at e; cases e; exact ⟨rfl, fun i p e => by simp at e⟩
  | z :: zs, ys, e => by
    rw [frzTs] at e
    split at e
    · rename_i a1 b1 e1 e2
      cases e
      obtain ⟨l1, i1⟩ := frzs_each e2
      refine ⟨by simp [l1], fun i p ep => ?_⟩
      cases i with
      | zero =>
        simp at ep
        subst ep
        exact ⟨z, rfl, e1⟩
      | succ i =>
        obtain ⟨p0, q1, q2⟩ := i1 i p (by simpa using ep)
        exact ⟨p0, by simpa using q1, q2⟩
    · cases e
theorem leaveT_ok {h' : MHp} {p : PV} (hr0 : HRel C.K M H h) (o : Out C E Q M H (leaveT h h' p)) : ∀ v H' M', Ext [] H M' H' → HRel (hidM C.K M) M' H' h' → RV (hidM C.K M) M' H' p v → Q v H' := fun v H' M' x hr rv => by
  unfold leaveT at o
  cases e : frz 0 h' p with
  | none => rw [e] at o; exact o.elim
  | some y =>
    rw [e] at o
    obtain ⟨x1, hr1⟩ := out_hrel hr0 x
    have rv1 := frzT_ok (M := []) (fun a m => nomatch m) (frzG_ok (M := []) ⟨M', by simp⟩ hr 4) e rv
    exact o v H' M x1 hr1 (RV.out (frzT_nor (frzG_nor 4) e) rv1)
theorem leaveTX_ok {h' : MHp} {y : MX} (hr0 : HRel C.K M H h) (o : Out C E Q M H (leaveTX h h' y)) : ∀ cls d H' M', Ext [] H M' H' → HRel (hidM C.K M) M' H' h' → XRel { C with K := hidM C.K M } M' H' y cls d → E cls d H' := fun cls d H' M' x hr xr => by
  unfold leaveTX at o
  cases e : frzs 0 h' y.fs with
  | none => rw [e] at o; exact o.elim
  | some fs' =>
    rw [e] at o
    obtain ⟨x1, hr1⟩ := out_hrel hr0 x
    refine o cls d H' M x1 hr1 ?_
    obtain ⟨a, dd, fs, ca, e1, e2, nd, ed, el, ef⟩ := xr
    obtain ⟨l1, i1⟩ := frzs_each e
    refine ⟨a, dd, fs, ca, e1, e2, fun m => ?_, ed, by rw [l1]; exact el, fun i p n ep en => ?_⟩
    · obtain ⟨n, hn⟩ := List.getElem?_of_mem m
      have hl : n < h.length := by rw [← hr1.len]; exact (List.getElem?_eq_some_iff.mp hn).1
      have := hr1.at_ n dd _ hn (List.getElem?_eq_getElem hl)
      rw [ed] at this
      cases q : h[n] with
      | lst xs => rw [q] at this; obtain ⟨_, z, _⟩ := this; cases z
      | dic t ks ws =>
        rw [q] at this
        obtain ⟨us, u, z, dk, _⟩ := this
        cases z
        unfold DK at dk
        split at dk
        · obtain ⟨_, z, _⟩ := dk; cases z
        · obtain ⟨_, z, _⟩ := dk; cases z
      | ins _ _ => rw [q] at this; exact this
    · obtain ⟨p0, q1, q2⟩ := i1 i p ep
      obtain ⟨v, lv, rv⟩ := ef i p0 n q1 en
      have rv1 := frzT_ok (M := []) (fun a m => nomatch m) (frzG_ok (M := []) ⟨M', by simp⟩ hr 4) q2 rv
      exact ⟨v, lv, RV.out (frzT_nor (frzG_nor 4) q2) rv1⟩
end
end Qm

/-! S16: every def keeps its promise. -/
namespace Qm
open PySem PySem.Spec PyProof.Rows L2
/-- a body behind its docstring -/
def toB (b : MSs) : List Stmt → List Stmt
  | .Expr (.Constant (.str x) k p) q :: r => .Expr (.Constant (.str x) k p) q :: toSs b r
  | l => toSs b l
def wfB (S : Sc) (b : MSs) : List Stmt → Bool
  | .Expr (.Constant (.str _) _ _) _ :: r => wfSs S b r
  | l => wfSs S b l
/-- a def of the text: its name, its statement, its names, its parameters -/
structure DM where
  x : Str
  st : Stmt
  N : List Str
  ps : List Str
structure Txt (gl : List (Str × GK)) (dm : DM) (fd : FnD) : Prop where
  bd : toB fd.body (defBody dm.st) = defBody dm.st
  wf : wfB ⟨dm.N, defScope dm.st, gl, false⟩ fd.body (defBody dm.st) = true
  sc : FnScope dm.N dm.ps (defScope dm.st)
  np : fd.np = dm.ps.length
  nl : fd.nl = dm.N.length
structure Top (P : Prog) (prog : Program) (w : World) (mg : Str → Option Value) (C : XC) (base : Heap) (gl : List (Str × GK)) (tab : Nat → Option DM) : Prop where
  hf : C.fld = fldC
  txt : ∀ k fd, P.fns k = some fd → ∃ dm, tab k = some dm ∧ Txt gl dm fd
  fn : ∀ x k, gl.lookup x = some (.fn k) → ∃ fdm dm fa fd, P.fns k = some fdm ∧ tab k = some dm ∧ mg x = some (.ref fa) ∧ Fun C.K.f dm.x dm.x dm.st fa fd ∧ Binds C.K.f fd dm.ps []
  con : ∀ x k, gl.lookup x = some (.con k) → ∃ u v p, mg x = some u ∧ RelV v u ∧ P.con k = some p ∧ ∀ z M H, RV (C.zz z).K M H p v
  cls : ∀ x k, gl.lookup x = some (.cls k) → ∃ a, C.ca k = some a ∧ mg x = some (.ref a) ∧ (fldC k ≠ [] → ∃ (fI : Addr) (fd : FuncData) (ps : List Str), OexC C.K.f a ∧ PySem.W.findIn C.K.f (.ref a) "__init__" = some (some (.ref fI)) ∧ PySem.W.typeIn C.K.f (.ref fI) = some (.type "function") ∧
      FnOk prog w C.K.f mg base (L2.CX prog w) 1 fI fd ps (spI a (fldC k)) ∧ Binds C.K.f fd ps [])
  bi : ∀ x, gl.lookup x = some .bi → mg x = none
section
variable {P : Prog} {prog : Program} {w : World} {mg : Str → Option Value} {C : XC} {base : Heap} {gl : List (Str × GK)} {tab : Nat → Option DM}
theorem start_erel {K : KZ} {M : List Addr} {H : Hp} {N : List Str} {vs : List V} {args : List PV} {np nl : Nat} (r : RVs K M H args vs) (ha : args.length = np) (hl : nl = N.length) (hle : np ≤ nl) : ERel K M H (L2.start N vs) (args.map some ++ List.replicate (nl - np) none) := by
  have hv := r.len
  unfold L2.start
  refine ⟨by simp; omega, fun i p e => ?_⟩
  by_cases hi : i < args.length
  · rw [List.getElem?_append_left (by simpa using hi), List.getElem?_map] at e
    rw [List.getElem?_append_left (by simp; omega), List.getElem?_map]
    cases q : args[i]? with
    | none => rw [q] at e; cases e
    | some p' =>
      rw [q] at e
      cases e
      obtain ⟨v, ev, rv⟩ := r.get q
      exact ⟨v, by rw [ev]; rfl, rv⟩
  · rw [List.getElem?_append_right (by simpa using hi), List.getElem?_replicate] at e
    split at e <;> cases e
theorem body_sound {X : Cx} {S : Sc} {F : Fn} {W : WX} (c : Cok X S P F C W) (po : PassesOwn (model X.prog X.w) X.A X.env X.xe) (hfn : ∀ x, X.fn x = true) {b : MSs} {l : List Stmt} (hb : toB b l = l) (h : wfB S b l = true) : PSs X l (RdS C W (exs P F none b)) := by
  have plain : wfSs S b l = true → toSs b l = l → PSs X l (RdS C W (exs P F none b)) := fun h e => by
    have := ss_sound (cx := none) b c po hfn l h
    rw [e] at this
    exact this
  unfold toB wfB at *
  split at hb
  · rename_i x k p q r
    have e : toSs b r = r := by injection hb
    have h2 := ss_sound (cx := none) b c po hfn r h
    rw [e] at h2
    exact pss_weak (pss_cons ps_doc h2) fun D σ H q => q
  · rename_i hn
    split at h
    · rename_i x k p q r
      exact absurd rfl (hn x k p q r)
    · exact plain h hb
theorem fns_ok (T : Top P prog w mg C base gl tab) : ∀ (n k : Nat) (dm : DM) (fdm : FnD) (fa : Addr) (fd : FuncData), P.fns k = some fdm → tab k = some dm → Fun C.K.f dm.x dm.x dm.st fa fd →
    FnOk prog w C.K.f mg base (L2.CX prog w) (n + 3) fa fd dm.ps (spF C (callN P n k))
  | 0, k, dm, fdm, fa, fd, hp, ht, F => by
    obtain ⟨dm', ht', tx⟩ := T.txt k fdm hp
    rw [ht] at ht'
    cases ht'
    refine F.okX tx.sc (fun vs H Q E h => ?_) (fun cdv A outer s H vs Q E hr h => ?_)
    · obtain ⟨_, _, _, _, _, _, o⟩ := h
      exact o.elim
    · obtain ⟨_, _, _, _, _, _, o⟩ := h
      exact o.elim
  | n + 1, k, dm, fdm, fa, fd, hp, ht, F => by
    obtain ⟨dm', ht', tx⟩ := T.txt k fdm hp
    rw [ht] at ht'
    cases ht'
    have hc : ∀ args h, callN P (n + 1) k args h = runFn P (callN P n) fdm args h := fun args h => by rw [callN]; dsimp only; rw [hp]
    have hlen : ∀ {z : List Addr} {M : List Addr} {H : Hp} {h : MHp} {args : List PV} {E : XK} {Q : VK}, Out (C.zz z) E Q M H (callN P (n + 1) k args h) → args.length = fdm.np := fun {z M H h args E Q} o => by
      rw [hc] at o
      unfold runFn at o
      split at o
      · rename_i e; exact e
      · exact o.elim
    refine F.okX tx.sc (fun vs H Q E h => ?_) (fun cdv A outer s H vs Q E hr h => ?_)
    · obtain ⟨z, M, h, args, _, rv, o⟩ := h
      rw [rv.len, hlen o, tx.np]
    · obtain ⟨z, M, h, args, hr0, rv, o⟩ := h
      have la := hlen o
      have room : Room (n + 3) (A.deeper (envOfC dm.x (defScope dm.st) s.heap.objs.size fa cdv)) := hr
      have cok : ∀ z, Cok (cxOf (L2.CX prog w) prog w C.K.f mg base dm.N dm.x (defScope dm.st) fa cdv A outer s H E) ⟨dm.N, defScope dm.st, gl, false⟩ P (callN P n) (C.zz z) (fun cls d _ H => E cls d H) := fun z => {
        hK := rfl
        hN := rfl
        nd := tx.sc.nd
        hsc := rfl
        calm := fun _ => rfl
        hun := by
          have := room.un
          show (A.deeper _).units + 70 < cLine
          omega
        glb := fun x g e => by
          cases g with
          | con k => exact T.con x k e
          | bi => exact T.bi x e
          | cls k =>
            obtain ⟨a, h1, h2, hx⟩ := T.cls x k e
            refine ⟨a, h1, h2, fun _ hne => ?_⟩
            obtain ⟨fI, fd, ps, h3, h4, h5, h6, h7⟩ := hx (by rw [← T.hf]; exact hne)
            refine ⟨1, fI, fd, ps, h3, h4, h5, ?_, room.mono (by omega), h7⟩
            show FnOk prog w C.K.f mg base (L2.CX prog w) 1 fI fd ps (spI a (C.fld k))
            rw [T.hf]
            exact h6
          | fn k =>
            intro _
            obtain ⟨fdm', dm', fa', fd', h1, h2, h3, h4, h5⟩ := T.fn x k e
            exact ⟨n + 3, fa', fd', dm'.ps, h3, h4.kp, h5, fns_ok T n k dm' fdm' fa' fd' h1 h2 h4, room⟩
        tk := takes_of rfl rfl rfl rfl
        hf := T.hf }
      have hle : fdm.np ≤ fdm.nl := by
        rw [tx.np, tx.nl]
        have := congrArg List.length tx.sc.pre
        rw [List.length_take] at this
        omega
      rw [hc] at o
      unfold runFn at o
      rw [if_pos la] at o
      split at o
      · rename_i hn
        obtain ⟨_, hn⟩ := and2 hn
        refine ⟨_, body_sound (cok (z ++ M)) (passes_of rfl) (fun _ => rfl) tx.bd tx.wf, ?_⟩
        refine ⟨[], [], args.map some ++ List.replicate (fdm.nl - fdm.np) none, hid_hrel hr0, start_erel (RVs.inn hn rv) la tx.nl hle, ?_⟩
        cases e : exs P (callN P n) none fdm.body (args.map some ++ List.replicate (fdm.nl - fdm.np) none) [] with
        | nx env h' =>
          rw [e] at o
          exact fun σ' H' M' x hr' er' => leaveT_ok hr0 o .non H' M' x hr' (by rw [RV])
        | rt p h' =>
          rw [e] at o
          exact fun v H' M' x hr' rv' => leaveT_ok hr0 o v H' M' x hr' rv'
        | ex y env h' =>
          rw [e] at o
          exact fun cls d σ' H' M' x hr' er' xr => leaveTX_ok hr0 o cls d H' M' x hr' xr
        | bk _ _ => rw [e] at o; exact o.elim
        | ct _ _ => rw [e] at o; exact o.elim
        | stuck => rw [e] at o; exact o.elim
      · refine ⟨_, body_sound (cok z) (passes_of rfl) (fun _ => rfl) tx.bd tx.wf, ?_⟩
        refine ⟨M, h, args.map some ++ List.replicate (fdm.nl - fdm.np) none, hr0, start_erel rv la tx.nl hle, ?_⟩
        cases e : exs P (callN P n) none fdm.body (args.map some ++ List.replicate (fdm.nl - fdm.np) none) h with
        | nx env h' =>
          rw [e] at o
          exact fun σ' H' M' x hr' er' => leave_ok hr0 o .non H' M' x hr' rv_n
        | rt p h' =>
          rw [e] at o
          exact fun v H' M' x hr' rv' => leave_ok hr0 o v H' M' x hr' rv'
        | ex y env h' =>
          rw [e] at o
          exact fun cls d σ' H' M' x hr' er' xr => leaveX_ok hr0 o cls d H' M' x hr' xr
        | bk _ _ => rw [e] at o; exact o.elim
        | ct _ _ => rw [e] at o; exact o.elim
        | stuck => rw [e] at o; exact o.elim
end
end Qm

/-! S17: the law's head. -/
namespace Qm
open PySem PySem.Spec PyProof.Rows L2
def fnsL (l : List (Nat × FnD × DM)) (k : Nat) : Option FnD := (l.lookup k).map (·.1)
def tabL (l : List (Nat × FnD × DM)) (k : Nat) : Option DM := (l.lookup k).map (·.2)
def AllTxt (gl : List (Str × GK)) : List (Nat × FnD × DM) → Prop
  | [] => True
  | e :: r => Txt gl e.2.2 e.2.1 ∧ AllTxt gl r
theorem AllTxt.get {gl : List (Str × GK)} : ∀ {l : List (Nat × FnD × DM)} {k : Nat} {p : FnD × DM}, AllTxt gl l → l.lookup k = some p → Txt gl p.2 p.1
  | [], k, p, _, e => by simp [List.lookup] at e
  | x :: r, k, p, h, e => by
    obtain ⟨j, q⟩ := x
    rw [List.lookup] at e
    split at e
    · cases e; exact h.1
    · exact AllTxt.get h.2 e
def GQ (P : Prog) (prog : Program) (w : World) (mg : Str → Option Value) (C : XC) (base : Heap) (tab : Nat → Option DM) (x : Str) : GK → Prop
  | .fn k => ∃ fdm dm fa fd, P.fns k = some fdm ∧ tab k = some dm ∧ mg x = some (.ref fa) ∧ Fun C.K.f dm.x dm.x dm.st fa fd ∧ Binds C.K.f fd dm.ps []
  | .con k => ∃ u v p, mg x = some u ∧ RelV v u ∧ P.con k = some p ∧ ∀ z M H, RV (C.zz z).K M H p v
  | .cls k => ∃ a, C.ca k = some a ∧ mg x = some (.ref a) ∧ (fldC k ≠ [] → ∃ (fI : Addr) (fd : FuncData) (ps : List Str), OexC C.K.f a ∧ PySem.W.findIn C.K.f (.ref a) "__init__" = some (some (.ref fI)) ∧ PySem.W.typeIn C.K.f (.ref fI) = some (.type "function") ∧
      FnOk prog w C.K.f mg base (L2.CX prog w) 1 fI fd ps (spI a (fldC k)) ∧ Binds C.K.f fd ps [])
  | .bi => mg x = none
def AllG (Q : Str → GK → Prop) : List (Str × GK) → Prop
  | [] => True
  | e :: r => Q e.1 e.2 ∧ AllG Q r
theorem AllG.get {Q : Str → GK → Prop} : ∀ {l : List (Str × GK)} {x : Str} {g : GK}, AllG Q l → l.lookup x = some g → Q x g
  | [], x, g, _, e => by simp [List.lookup] at e
  | (y, q) :: r, x, g, h, e => by
    rw [List.lookup] at e
    split at e
    · rename_i c
      cases e
      have : x = y := by simpa using c
      rw [this]
      exact h.1
    · exact AllG.get h.2 e
theorem top_mk {P : Prog} {prog : Program} {w : World} {mg : Str → Option Value} {C : XC} {base : Heap} {gl : List (Str × GK)} {tb : List (Nat × FnD × DM)} (hP : P.fns = fnsL tb) (ht : AllTxt gl tb) (hg : AllG (GQ P prog w mg C base (tabL tb)) gl) (hf : C.fld = fldC := by rfl) : Top P prog w mg C base gl (tabL tb) where
  hf := hf
  txt := fun k fd e => by
    rw [hP] at e
    obtain ⟨p, ep, rfl⟩ := Option.map_eq_some_iff.mp e
    exact ⟨p.2, by unfold tabL; rw [ep]; rfl, ht.get ep⟩
  fn := fun x k e => hg.get e
  con := fun x k e => hg.get e
  cls := fun x k e => hg.get e
  bi := fun x e => hg.get e
theorem room_top {n : Nat} (h : n ≤ 60) : Room (n + 3) callerA := by
  have r : Room 63 callerA := ⟨rfl, by decide, by decide⟩
  exact r.mono (by omega)
/-- what the law is asked -/
def spLaw (K : PySem.W.Frag) (f : List PV → MHp → Res PV) : Sp := fun vs H Q _ => ∃ a ns, vs = [.ref a] ∧ ns.length ≤ 1000 ∧ SqL K H a (ns.map V.int) ∧ (∃ h, f [.scr ns] [] = .ok (.bl true) h) ∧ ∀ H', Q (.bl true) H'
theorem FnOk.weak {P : Program} {w : World} {K : PySem.W.Frag} {mg : Str → Option Value} {base : Heap} {CX : CXT} {k : Nat} {f : Addr} {fd : FuncData} {ps : List Str} {sp sp' : Sp} (F : FnOk P w K mg base CX k f fd ps sp) (h : ∀ vs H Q E, sp' vs H Q E → sp vs H Q E) : FnOk P w K mg base CX k f fd ps sp' :=
  ⟨fun vs H Q E q => F.len vs H Q E (h _ _ _ _ q), fun A outer s H args us vs Q E hr e0 hb r q => F.run A outer s H args us vs Q E hr e0 hb r (h _ _ _ _ q)⟩
theorem law_weak {K : PySem.W.Frag} {ca : Nat → Option Addr} {f : List PV → MHp → Res PV} (vs : List V) (H : Hp) (Q : VK) (E : XK) (h : spLaw K f vs H Q E) : spF ⟨⟨K, []⟩, ca, fldC⟩ f vs H Q E := by
  obtain ⟨a, ns, rfl, hl, hS, ⟨h, e⟩, q⟩ := h
  refine ⟨[], [], [], [.scr ns], ⟨rfl, List.nodup_nil, fun a ha => (nomatch (show a ∈ ([] : List Addr) from ha)), fun n a o e => (by simp at e)⟩, .one ?_, ?_⟩
  · rw [RV]
    refine ⟨a, rfl, hl, ?_⟩
    rcases hS with hS | hS
    · exact .inl ⟨⟨by simp, by show a ∉ ([] : List Addr); simp⟩, hS⟩
    · exact .inr hS
  · rw [e]
    intro v H' M' _ _ rv
    have := rv_bl (C := ⟨⟨K, []⟩, ca, fldC⟩) rv
    rw [this]
    exact q _
theorem law_sp {f : List PV → MHp → Res PV} {H : Hp} {a : Addr} {ns : List Int} {K : PySem.W.Frag} {E : XK} (hd : ∃ h, f [.scr ns] [] = .ok (.bl true) h) (hl : ns.length ≤ 1000) (hS : SqL K H a (ns.map V.int)) : spLaw K f [.ref a] H (fun v _ => v = .bl true) E := ⟨a, ns, rfl, hl, hS, hd, fun _ => rfl⟩
/-! ### __init__ of an own exception -/
theorem init1_ok {prog : Program} {w : World} {K : PySem.W.Frag} {mg : Str → Option Value} {base : Heap} {a fI : Addr} {f x qual : Str} {st : Stmt} {oc kV doc pm cdv ct : Value} {od an : Option Addr} {osl : Array (Option Value)} {p1 p2 p3 p4 : Pos}
    (T : OexC K a) (hno : PySem.W.findIn K (.ref a) f = some none) (lk : K.lookup fI = some ⟨oc, od, .func (PySem.W.fnOf "__init__" qual (defArgs st) (defBody st) (defScope st) .none kV doc pm an cdv ct), osl⟩) (hcd : PySem.W.codeIn K cdv qual = true)
    (S : FnScope ["self", x] ["self", x] (defScope st)) (hx : (defScope st).names.lookup x = some NameKind.local ∧ (defScope st).names.lookup ("self" : Str) = some NameKind.local) (hd : (x == ("__debug__" : Str)) = false ∧ (x == ("__classdict__" : Str)) = false) (hb : defBody st = [.Assign [.Attribute (.Name "self" p1) f p2] (.Name x p3) p4]) :
    FnOk prog w K mg base (L2.CX prog w) 1 fI (PySem.W.fnOf "__init__" qual (defArgs st) (defBody st) (defScope st) .none kV doc pm an cdv ct) ["self", x] (spI a [f]) := by
  refine fn_of lk hcd S (fun vs H Q E h => h.1) fun A outer s H vs Q E hr h => ?_
  obtain ⟨hl, s', ws, rfl, hs, k⟩ := h
  match ws, hl with
  | [v], _ =>
    refine ⟨tOst K f (tVar 0) (tVar 1), ?_, v, rfl, .ref s', rfl, s', a, rfl, T, hno, .inl ⟨hs, fun dx hdx ne => ?_⟩⟩
    · rw [hb]
      exact pss_one (ps_ost (pe_var (i := 0) rfl (.inl hx.2)) (pe_var (i := 1) rfl (.inl hx.1) hd.1 hd.2) (by rfl))
    · refine k dx hdx ne [(f, v)] fun i v' n ei en => ?_
      cases i with
      | zero =>
        simp at ei en
        subst ei en
        simp [List.lookup]
      | succ i => simp at ei
  | [], hl => simp at hl
  | _ :: _ :: _, hl => simp at hl
theorem cx_never {prog : Program} {w : World} {outer : List PySem.Env} {H : Hp} {s : Shared} {e : Value} {s' : Shared} (h : L2.CX prog w outer H s (fun _ _ _ => False) e s') : False := by
  obtain ⟨_, _, _, _, _, _, _, _, _, _, _, _, z⟩ := h
  exact z
theorem rv_strc {C : XC} {z : List Addr} {M : List Addr} {H : Hp} {s : Str} (h : s.length ≤ 1000) : RV (C.zz z).K M H (.str s) (.str s) := by
  rw [RV, sizeLine_eq]
  exact ⟨rfl, by omega⟩
end Qm

/-! M0: the laws' stream. -/
namespace Qm
def fdStream : FnD := ⟨1, 1, true,
  (.cons (.ret (.lst true (.cons (.bil .list false (.cons (.var 0) .nil)) (.cons (.cst (.int 0)) (.cons (.cst (.int 0)) .nil))))) .nil)⟩
def fdNext : FnD := ⟨2, 5, false,
  (.cons (.ite (.cmp .eq (.ix (.var 0) (.cst (.int 1))) (.cst (.int 0))) (.cons (.asg (.nm 2) (.ix (.var 0) (.cst (.int 2)))) (.cons (.asg (.nm 3) (.bin .add (.cst (.int 7)) (.var 2))) (.cons (.ite (.cmp .lt (.var 2) (.bif .len (.cons (.ix (.var 0) (.cst (.int 0))) .nil))) (.cons (.asg (.nm 3) (.bif .abs (.cons (.ix (.ix (.var 0) (.cst (.int 0))) (.var 2)) .nil))) .nil) .nil) (.cons (.ite (.cmp .lt (.var 3) (.bin .pow (.cst (.int 10)) (.cst (.int 18)))) (.cons (.asg (.nm 3) (.bin .mod (.bif .int (.cons (.bin .add (.bin .add (.bin .mul (.var 3) (.cst (.int 48271))) (.bin .mul (.var 2) (.cst (.int 69621)))) (.cst (.int 11))) .nil)) (.cst (.int 2147483647)))) (.cons (.asg (.nm 3) (.bin .add (.bin .mul (.bin .mod (.bif .int (.cons (.bin .add (.bin .mul (.var 3) (.cst (.int 16807))) (.cst (.int 13))) .nil)) (.cst (.int 2147483647))) (.cst (.int 65537))) (.var 3))) .nil)) .nil) (.cons (.stx (.var 0) (.cst (.int 1)) (.var 3)) (.cons (.stx (.var 0) (.cst (.int 2)) (.bin .add (.var 2) (.cst (.int 1)))) .nil)))))) .nil) (.cons (.asg (.nm 4) (.bin .mod (.bif .int (.cons (.ix (.var 0) (.cst (.int 1))) .nil)) (.var 1))) (.cons (.stx (.var 0) (.cst (.int 1)) (.bin .fdv (.ix (.var 0) (.cst (.int 1))) (.var 1))) (.cons (.ret (.var 4)) .nil))))⟩
def strO (ns : List Int) (c k : Int) : MO := .lst [.lst (ns.map .int), .int c, .int k]
/-- the stream's own state -/
def St (o : MO) : Prop := ∃ ns c k, o = strO ns c k ∧ 0 ≤ c ∧ 0 ≤ k
theorem nors_ints : ∀ ns : List Int, nors (ns.map .int) = true
  | [] => rfl
  | n :: ns => by rw [List.map_cons, nors, nor, nors_ints ns]; rfl
theorem st_nor {o : MO} (s : St o) : norO o = true := by
  obtain ⟨ns, c, k, rfl, _, _⟩ := s
  simp [strO, norO, nors, nor, nors_ints]
theorem stream_ok (P : Prog) (F : Fn) (ns : List Int) : runFn P F fdStream [.scr ns] [] = .ok (.ref 0) [strO ns 0 0] := rfl
section
variable {P : Prog} {F : Fn}
@[simp] theorem eq_int (i j : Int) (h : MHp) : cop .eq (.int i) (.int j) h = some (decide (i = j)) := by
  simp only [cop, dataOf, eqD, flatD, dep, peq]
  simp
  rfl
theorem ix_st {h : MHp} {a b c : PV} (e : h[0]? = some (.lst [a, b, c])) : index (.ref 0) (.int 0) h = some a ∧ index (.ref 0) (.int 1) h = some b ∧ index (.ref 0) (.int 2) h = some c := by
  refine ⟨?_, ?_, ?_⟩ <;> simp [index, indexR, itemsT, e, indexI, atI, ixN]
theorem stx_st {h : MHp} {a b c v : PV} (e : h[0]? = some (.lst [a, b, c])) : storeIx (.ref 0) (.int 1) v h = some (h.set 0 (.lst [a, v, c])) ∧ storeIx (.ref 0) (.int 2) v h = some (h.set 0 (.lst [a, b, v])) := by
  refine ⟨?_, ?_⟩ <;> simp [storeIx, e, ixN]
/-- the first half: a new cell -/
def cellOf (ns : List Int) (k : Int) : Int :=
  let c := if k < ns.length then (if (ns.getD k.toNat 0) < 0 then -(ns.getD k.toNat 0) else ns.getD k.toNat 0) else 7 + k
  if c < 10 ^ 18 then
    let d := (c * 48271 + k * 69621 + 11) % 2147483647
    ((d * 16807 + 13) % 2147483647) * 65537 + d
  else c
theorem cellOf_nn {ns : List Int} {k : Int} (hk : 0 ≤ k) : 0 ≤ cellOf ns k := by
  have h1 : ∀ a : Int, 0 ≤ a % 2147483647 := fun a => Int.emod_nonneg _ (by decide)
  unfold cellOf
  dsimp only
  generalize hc : (if k < (ns.length : Int) then (if (ns.getD k.toNat 0) < 0 then -(ns.getD k.toNat 0) else ns.getD k.toNat 0) else 7 + k) = c
  have hc0 : 0 ≤ c := by
    rw [← hc]
    split
    · split <;> omega
    · omega
  by_cases h : c < 10 ^ 18
  · rw [if_pos h]
    exact Int.add_nonneg (Int.mul_nonneg (h1 _) (Int.le_of_lt (by decide))) (h1 _)
  · rw [if_neg h]
    exact hc0
theorem cgt_i (i j : Int) (h : MHp) : cop .lt (.int i) (.int j) h = some (decide (i < j)) := rfl
theorem next_tail {h : MHp} {l : PV} {c k m : Int} {e2 e3 e4 : Option PV} (e : h[0]? = some (.lst [l, .int c, .int k])) (hm : 0 < m) (hm2 : m < 1073741824) :
    exs P F none (.cons (.asg (.nm 4) (.bin .mod (.bif .int (.cons (.ix (.var 0) (.cst (.int 1))) .nil)) (.var 1))) (.cons (.stx (.var 0) (.cst (.int 1)) (.bin .fdv (.ix (.var 0) (.cst (.int 1))) (.var 1))) (.cons (.ret (.var 4)) .nil)))
      [some (.ref 0), some (.int m), e2, e3, e4] h = .rt (.int (c % m)) (h.set 0 (.lst [l, .int (c / m), .int k])) := by
  obtain ⟨i0, i1, i2⟩ := ix_st e
  obtain ⟨s1, s2⟩ := stx_st (v := .int (c / m)) e
  simp [exs, ex, ev, evs, ofResV, i1, biS, bi1, intP, bop, bopI, hm, hm2, asgT, s1]
theorem next_head {h : MHp} {ns : List Int} {k m : Int} {e2 e3 e4 : Option PV} (e : h[0]? = some (strO ns 0 k)) (hk : 0 ≤ k) :
    ∃ c v2 v3, exs P F none (.cons (.asg (.nm 2) (.ix (.var 0) (.cst (.int 2)))) (.cons (.asg (.nm 3) (.bin .add (.cst (.int 7)) (.var 2))) (.cons (.ite (.cmp .lt (.var 2) (.bif .len (.cons (.ix (.var 0) (.cst (.int 0))) .nil))) (.cons (.asg (.nm 3) (.bif .abs (.cons (.ix (.ix (.var 0) (.cst (.int 0))) (.var 2)) .nil))) .nil) .nil) (.cons (.ite (.cmp .lt (.var 3) (.bin .pow (.cst (.int 10)) (.cst (.int 18)))) (.cons (.asg (.nm 3) (.bin .mod (.bif .int (.cons (.bin .add (.bin .add (.bin .mul (.var 3) (.cst (.int 48271))) (.bin .mul (.var 2) (.cst (.int 69621)))) (.cst (.int 11))) .nil)) (.cst (.int 2147483647)))) (.cons (.asg (.nm 3) (.bin .add (.bin .mul (.bin .mod (.bif .int (.cons (.bin .add (.bin .mul (.var 3) (.cst (.int 16807))) (.cst (.int 13))) .nil)) (.cst (.int 2147483647))) (.cst (.int 65537))) (.var 3))) .nil)) .nil) (.cons (.stx (.var 0) (.cst (.int 1)) (.var 3)) (.cons (.stx (.var 0) (.cst (.int 2)) (.bin .add (.var 2) (.cst (.int 1)))) .nil))))))
      [some (.ref 0), some (.int m), e2, e3, e4] h = .nx [some (.ref 0), some (.int m), v2, v3, e4] (h.set 0 (.lst [.lst (ns.map .int), .int c, .int (k + 1)])) ∧ 0 ≤ c := by
  obtain ⟨i0, i1, i2⟩ := ix_st e
  have hs : ∀ v, storeIx (.ref 0) (.int 1) v h = some (h.set 0 (.lst [.lst (ns.map .int), v, .int k])) := fun v => (stx_st e).1
  have hl0 : 0 < h.length := (List.getElem?_eq_some_iff.mp e).1
  have hs2 : ∀ v, (h.set 0 (.lst [.lst (ns.map .int), v, .int k]))[0]? = some (.lst [.lst (ns.map .int), v, .int k]) := fun v => by simp [hl0]
  have hs3 : ∀ v u, storeIx (.ref 0) (.int 2) u (h.set 0 (.lst [.lst (ns.map .int), v, .int k])) = some (h.set 0 (.lst [.lst (ns.map .int), v, u])) := fun v u => by
    rw [(stx_st (hs2 v)).2]
    simp
  have hat : k < (ns.length : Int) → index (.lst (ns.map .int)) (.int k) h = some (.int (ns.getD k.toNat 0)) := fun hlt => by
    have hn : k.toNat < ns.length := by omega
    simp [index, indexR, itemsT, indexI, atI, ixN, hk, hlt, hn, List.getD]
  have tail : ∀ c : Int, 0 ≤ c → ∃ c' v2 v3, exs P F none (.cons (.ite (.cmp .lt (.var 3) (.bin .pow (.cst (.int 10)) (.cst (.int 18)))) (.cons (.asg (.nm 3) (.bin .mod (.bif .int (.cons (.bin .add (.bin .add (.bin .mul (.var 3) (.cst (.int 48271))) (.bin .mul (.var 2) (.cst (.int 69621)))) (.cst (.int 11))) .nil)) (.cst (.int 2147483647)))) (.cons (.asg (.nm 3) (.bin .add (.bin .mul (.bin .mod (.bif .int (.cons (.bin .add (.bin .mul (.var 3) (.cst (.int 16807))) (.cst (.int 13))) .nil)) (.cst (.int 2147483647))) (.cst (.int 65537))) (.var 3))) .nil)) .nil) (.cons (.stx (.var 0) (.cst (.int 1)) (.var 3)) (.cons (.stx (.var 0) (.cst (.int 2)) (.bin .add (.var 2) (.cst (.int 1)))) .nil)))
      [some (.ref 0), some (.int m), some (.int k), some (.int c), e4] h = .nx [some (.ref 0), some (.int m), v2, v3, e4] (h.set 0 (.lst [.lst (ns.map .int), .int c', .int (k + 1)])) ∧ 0 ≤ c' := fun c hc => by
    have hp : bop .pow (.int 10) (.int 18) h = some (.int (10 ^ 18)) := rfl
    have h1 : ∀ a : Int, 0 ≤ a % 2147483647 := fun a => Int.emod_nonneg _ (by decide)
    have sm : ∀ i : Int, bop .mul (.int i) (.int 48271) h = some (.int (i * 48271)) ∧ bop .mul (.int i) (.int 69621) h = some (.int (i * 69621)) ∧ bop .mul (.int i) (.int 16807) h = some (.int (i * 16807)) ∧ bop .mul (.int i) (.int 65537) h = some (.int (i * 65537)) := fun i => ⟨rfl, rfl, rfl, rfl⟩
    have ad : ∀ i j : Int, bop .add (.int i) (.int j) h = some (.int (i + j)) := fun i j => rfl
    have md : ∀ i : Int, bop .mod (.int i) (.int 2147483647) h = some (.int (i % 2147483647)) := fun i => rfl
    have ad2 : ∀ (i j : Int) (h : MHp), bop .add (.int i) (.int j) h = some (.int (i + j)) := fun i j h => rfl
    by_cases hlt : c < 10 ^ 18
    · refine ⟨(((((c * 48271 + k * 69621 + 11) % 2147483647) * 16807 + 13) % 2147483647) * 65537 + ((c * 48271 + k * 69621 + 11) % 2147483647)), some (.int k), some (.int (((((c * 48271 + k * 69621 + 11) % 2147483647) * 16807 + 13) % 2147483647) * 65537 + ((c * 48271 + k * 69621 + 11) % 2147483647))), ?_, ?_⟩
      · simp only [exs, ex, ev, evs, ofResV, Res.bind_ok, List.getElem?_cons_succ, List.getElem?_cons_zero, hp, cgt_i, ofOpt_some, truth, decide_eq_true hlt, biS, bi1, intP, sm, ad, md, asgT, List.set, hs, hs3, ad2]
      · exact Int.add_nonneg (Int.mul_nonneg (h1 _) (Int.le_of_lt (by decide))) (h1 _)
    · refine ⟨c, some (.int k), some (.int c), ?_, ?_⟩
      · simp only [exs, ex, ev, evs, ofResV, Res.bind_ok, List.getElem?_cons_succ, List.getElem?_cons_zero, hp, cgt_i, ofOpt_some, truth, decide_eq_false hlt, biS, bi1, intP, sm, ad, md, asgT, List.set, hs, hs3, ad2]
      · exact hc
  have ad : ∀ i j : Int, bop .add (.int i) (.int j) h = some (.int (i + j)) := fun i j => rfl
  have ln : lenP (.lst (ns.map .int)) h = some (.int ns.length) := by simp [lenP, lenR, itemsT]
  by_cases hlt : k < (ns.length : Int)
  · obtain ⟨c', v2, v3, e1, e2⟩ := tail (if (ns.getD k.toNat 0) < 0 then -(ns.getD k.toNat 0) else ns.getD k.toNat 0) (by split <;> omega)
    refine ⟨c', v2, v3, ?_, e2⟩
    rw [← e1]
    simp only [exs, ex, ev, evs, ofResV, Res.bind_ok, List.getElem?_cons_succ, List.getElem?_cons_zero, i0, i1, i2, cgt_i, ofOpt_some, truth, decide_eq_true hlt, biS, bi1, absP, ad, asgT, List.set, ln, hat hlt]
  · obtain ⟨c', v2, v3, e1, e2⟩ := tail (7 + k) (by omega)
    refine ⟨c', v2, v3, ?_, e2⟩
    rw [← e1]
    simp only [exs, ex, ev, evs, ofResV, Res.bind_ok, List.getElem?_cons_succ, List.getElem?_cons_zero, i0, i1, i2, cgt_i, ofOpt_some, truth, decide_eq_false hlt, biS, bi1, absP, ad, asgT, List.set, ln]
theorem keep_refl : ∀ h : MHp, keepOk h h = true
  | [] => rfl
  | o :: r => by rw [keepOk, decide_eq_true rfl, keep_refl r]; rfl
theorem keep_set : ∀ (h : MHp) (n : Nat) (o : MO), norO o = true → keepOk h (h.set n o) = true
  | [], _, _, _ => rfl
  | a :: r, 0, o, s => by rw [List.set_cons_zero, keepOk, s, Bool.or_true, keep_refl r]; rfl
  | a :: r, n + 1, o, s => by rw [List.set_cons_succ, keepOk, decide_eq_true rfl, keep_set r n o s]; rfl
theorem next_ok {h : MHp} {o : MO} {m : Int} (e : h[0]? = some o) (s : St o) (hm : 0 < m) (hm2 : m < 1073741824) : ∃ d o', St o' ∧ 0 ≤ d ∧ d < m ∧ runFn P F fdNext [.ref 0, .int m] h = .ok (.int d) (h.set 0 o') := by
  obtain ⟨ns, c, k, rfl, hc, hk⟩ := s
  have hl0 : 0 < h.length := (List.getElem?_eq_some_iff.mp e).1
  have fin : ∀ (c k : Int) (e2 e3 e4 : Option PV), 0 ≤ c → 0 ≤ k → exs P F none fdNext.body [some (.ref 0), some (.int m), none, none, none] h = exs P F none (.cons (.asg (.nm 4) (.bin .mod (.bif .int (.cons (.ix (.var 0) (.cst (.int 1))) .nil)) (.var 1))) (.cons (.stx (.var 0) (.cst (.int 1)) (.bin .fdv (.ix (.var 0) (.cst (.int 1))) (.var 1))) (.cons (.ret (.var 4)) .nil)))
      [some (.ref 0), some (.int m), e2, e3, e4] (h.set 0 (.lst [.lst (ns.map .int), .int c, .int k])) → ∃ d o', St o' ∧ 0 ≤ d ∧ d < m ∧ runFn P F fdNext [.ref 0, .int m] h = .ok (.int d) (h.set 0 o') := fun c k e2 e3 e4 hc hk ee => by
    have e1 : (h.set 0 (.lst [.lst (ns.map .int), .int c, .int k]))[0]? = some (.lst [.lst (ns.map .int), .int c, .int k]) := by simp [hl0]
    rw [next_tail e1 hm hm2] at ee
    have st : St (strO ns (c / m) k) := ⟨ns, c / m, k, rfl, Int.ediv_nonneg hc (Int.le_of_lt hm), hk⟩
    refine ⟨c % m, strO ns (c / m) k, st, Int.emod_nonneg _ (by omega), Int.emod_lt_of_pos _ hm, ?_⟩
    unfold runFn
    rw [if_pos (show ([PV.ref 0, PV.int m] : List PV).length = fdNext.np from rfl)]
    rw [if_neg (show ¬ ((!fdNext.raw && nors [PV.ref 0, PV.int m]) = true) from by simp [fdNext, nors, nor])]
    show (match exs P F none fdNext.body [some (.ref 0), some (.int m), none, none, none] h with
      | .nx _ h' => leave false h h' .non
      | .rt v h' => leave false h h' v
      | .ex x _ h' => leaveX false h h' x
      | _ => .stuck) = _
    rw [ee]
    dsimp only
    unfold leave
    rw [if_neg (by decide)]
    have hs : (h.set 0 (.lst [.lst (ns.map .int), .int c, .int k])).set 0 (.lst [.lst (ns.map .int), .int (c / m), .int k]) = h.set 0 (strO ns (c / m) k) := by simp [strO]
    rw [hs, if_pos (keep_set h 0 _ (st_nor st))]
    show ofOpt (some (PV.int (c % m))) _ = _
    rw [show ((h.set 0 (strO ns (c / m) k)).take h.length) = h.set 0 (strO ns (c / m) k) from List.take_of_length_le (by simp)]
    rfl
  obtain ⟨i0, i1, i2⟩ := ix_st (show h[0]? = some (.lst [.lst (ns.map .int), .int c, .int k]) from e)
  by_cases h0 : c = 0
  · subst h0
    obtain ⟨c', v2, v3, e1, e2⟩ := next_head (P := P) (F := F) (m := m) (e2 := none) (e3 := none) (e4 := none) e hk
    refine fin c' (k + 1) v2 v3 none e2 (by omega) ?_
    unfold fdNext
    rw [exs, ex]
    simp only [ev, ofResV, Res.bind_ok, List.getElem?_cons_zero, i1, ofOpt_some, eq_int, decide_true, truth]
    rw [e1]
  · refine fin c k none none none hc hk ?_
    unfold fdNext
    rw [exs, ex]
    simp only [ev, ofResV, Res.bind_ok, List.getElem?_cons_zero, i1, ofOpt_some, eq_int, decide_eq_false h0, truth]
    rw [exs]
    have : h.set 0 (.lst [.lst (ns.map .int), .int c, .int k]) = h := by
      have := List.set_getElem_self (as := h) (i := 0) hl0
      have e' := (List.getElem?_eq_some_iff.mp e).2
      unfold strO at e'
      rw [e'] at this
      exact this
    rw [this]
end
end Qm

/-! M1: loops and calls in plain terms. -/
namespace Qm
/-- a comprehension whose test and value change nothing -/
theorem loopC_pure {fe : Env → MHp → Res PV} {ft : Env → MHp → Res Bool} {tg : MT} {src : List (Nat × MO)} {h : MHp} {σ : Env} (hs : srcOk src h = true) (t : PV → Bool) (f : PV → PV) : ∀ {items : List PV},
    (∀ x ∈ items, ∃ σ', asgT tg x σ = some σ' ∧ ft σ' h = .ok (t x) h ∧ (t x = true → fe σ' h = .ok (f x) h)) → loopC fe ft tg src items σ h = .ok ((items.filter t).map f) h
  | [], _ => by rw [loopC, if_pos hs]; rfl
  | x :: xs, hx => by
    obtain ⟨σ', e1, e2, e3⟩ := hx x List.mem_cons_self
    have ih := loopC_pure hs t f (items := xs) fun y hy => hx y (List.mem_cons_of_mem _ hy)
    rw [loopC, if_pos hs, e1]
    dsimp only
    rw [e2, Res.bind_ok]
    cases ht : t x with
    | true => simp [e3 ht, ih, ht]
    | false => simp [ih, ht]
theorem loopC_map {fe : Env → MHp → Res PV} {tg : MT} {src : List (Nat × MO)} {h : MHp} {σ : Env} (hs : srcOk src h = true) (f : PV → PV) {items : List PV}
    (hx : ∀ x ∈ items, ∃ σ', asgT tg x σ = some σ' ∧ fe σ' h = .ok (f x) h) : loopC fe (fun _ h => .ok true h) tg src items σ h = .ok (items.map f) h := by
  have := loopC_pure (fe := fe) (ft := fun _ h => .ok true h) (tg := tg) (σ := σ) hs (fun _ => true) f (items := items) fun x hx' => by
    obtain ⟨σ', e1, e2⟩ := hx x hx'
    exact ⟨σ', e1, rfl, fun _ => e2⟩
  rw [this, List.filter_eq_self.mpr (fun _ _ => rfl)]
/-- a for whose body goes on: by an invariant over places -/
theorem loopF_inv {fb : Env → MHp → SRes} {tg : MT} {src : List (Nat × MO)} {items : List PV} (Iv : Nat → Env → MHp → Prop) (hs : ∀ i σ h, i ≤ items.length → Iv i σ h → srcOk src h = true)
    (step : ∀ i x σ h, items[i]? = some x → Iv i σ h → ∃ σ', asgT tg x σ = some σ' ∧ ∃ σ1 h1, (fb σ' h = .nx σ1 h1 ∨ fb σ' h = .ct σ1 h1) ∧ Iv (i + 1) σ1 h1) : ∀ {k i : Nat} {σ : Env} {h : MHp}, items.length - i = k → i ≤ items.length → Iv i σ h →
    ∃ σ1 h1, loopF fb tg src (items.drop i) σ h = .nx σ1 h1 ∧ Iv items.length σ1 h1
  | 0, i, σ, h, hk, hi, iv => by
    have e : i = items.length := by omega
    subst e
    refine ⟨σ, h, ?_, iv⟩
    rw [List.drop_length, loopF, if_pos (hs _ _ _ (Nat.le_refl _) iv)]
  | k + 1, i, σ, h, hk, hi, iv => by
    have hlt : i < items.length := by omega
    obtain ⟨σ', e1, σ1, h1, e2, iv1⟩ := step i _ σ h (List.getElem?_eq_getElem hlt) iv
    obtain ⟨σ2, h2, e3, iv2⟩ := loopF_inv Iv hs step (k := k) (i := i + 1) (by omega) hlt iv1
    refine ⟨σ2, h2, ?_, iv2⟩
    rw [List.drop_eq_getElem_cons hlt, loopF, if_pos (hs _ _ _ hi iv), e1]
    dsimp only
    rcases e2 with e2 | e2 <;> rw [e2] <;> exact e3
/-- a call with trees alone -/
theorem run_tree {P : Prog} {F : Fn} {fd : FnD} {args : List PV} {h h' : MHp} {v w : PV} (hr : fd.raw = false) (hl : args.length = fd.np) (hn : nors args = true) (e : exs P F none fd.body (args.map some ++ List.replicate (fd.nl - fd.np) none) [] = .rt v h') (hv : frz 0 h' v = some w) :
    runFn P F fd args h = .ok w h := by
  unfold runFn
  rw [if_pos hl, if_pos (by rw [hr, hn]; rfl), e]
  show ofOpt (frz 0 h' v) h = _
  rw [hv]
  rfl
mutual
theorem frzT_id {g : Nat → Option PV} : ∀ {x : PV}, nor x = true → frzT g x = some x
  | .non, _ => rfl
  | .bl _, _ => rfl
  | .int _, _ => rfl
  | .str _, _ => rfl
  | .tup xs, h => by rw [nor] at h; rw [frzT, frzTs_id h]; rfl
  | .lst xs, h => by rw [nor] at h; rw [frzT, frzTs_id h]; rfl
  | .dic t ks vs, h => by
    rw [nor, Bool.and_eq_true] at h
    rw [frzT, frzTs_id h.1, frzTs_id h.2]
  | .scr _, h => by rw [nor] at h; cases h
  | .ref _, h => by rw [nor] at h; cases h
theorem frzTs_id {g : Nat → Option PV} : ∀ {x : List PV}, nors x = true → frzTs g x = some x
  | [], _ => rfl
  | x :: xs, h => by
    rw [nors, Bool.and_eq_true] at h
    rw [frzTs, frzT_id h.1, frzTs_id h.2]
end
end Qm

/-! V0: typed values; the rules by which a def's walk is read off its text. -/
namespace Qm
open PySem (Str)
/-! ### typed values -/
abbrev eI : Int → PV := PV.int
abbrev eB : Bool → PV := PV.bl
/-- a tree -/
structure NV where
  v : PV
  n : nor v = true
def eA (x : NV) : PV := x.v
structure SV where
  s : Str
  ok : s.cps.all (· < 0x110000) = true
  deriving DecidableEq
def eS (x : SV) : PV := .str x.s
def eN (_ : Unit) : PV := .non
def eT {α : Type} (e : α → PV) (l : List α) : PV := .tup (l.map e)
def eL {α : Type} (e : α → PV) (l : List α) : PV := .lst (l.map e)
def eO {α : Type} (e : α → PV) : Option α → PV
  | none => .non
  | some a => e a
def eP1 {α : Type} (e : α → PV) (p : α) : PV := .tup [e p]
def eP2 {α β : Type} (e : α → PV) (f : β → PV) (p : α × β) : PV := .tup [e p.1, f p.2]
def eP3 {α β γ : Type} (e : α → PV) (f : β → PV) (g : γ → PV) (p : α × β × γ) : PV := .tup [e p.1, f p.2.1, g p.2.2]
def eP4 {α β γ δ : Type} (e : α → PV) (f : β → PV) (g : γ → PV) (k : δ → PV) (p : α × β × γ × δ) : PV := .tup [e p.1, f p.2.1, g p.2.2.1, k p.2.2.2]
def eD {α β : Type} (t : Bool) (e : α → PV) (f : β → PV) (l : List (α × β)) : PV := .dic t (l.map fun p => e p.1) (l.map fun p => f p.2)
class Nr {α : Type} (e : α → PV) : Prop where
  nor : ∀ a, nor (e a) = true
theorem nors_map {α : Type} {e : α → PV} [Nr e] : ∀ l : List α, nors (l.map e) = true
  | [] => rfl
  | x :: r => by rw [List.map_cons, nors, Nr.nor, nors_map r]; rfl
theorem nors_mapf {α : Type} {f : α → PV} (h : ∀ a, nor (f a) = true) : ∀ l : List α, nors (l.map f) = true
  | [] => rfl
  | x :: r => by rw [List.map_cons, nors, h, nors_mapf h r]; rfl
instance : Nr eI := ⟨fun _ => rfl⟩
instance : Nr eB := ⟨fun _ => rfl⟩
instance : Nr eA := ⟨fun x => x.n⟩
instance : Nr eS := ⟨fun _ => rfl⟩
instance : Nr eN := ⟨fun _ => rfl⟩
instance {α : Type} {e : α → PV} [Nr e] : Nr (eT e) := ⟨fun l => by rw [eT, nor]; exact nors_map l⟩
instance {α : Type} {e : α → PV} [Nr e] : Nr (eL e) := ⟨fun l => by rw [eL, nor]; exact nors_map l⟩
instance {α : Type} {e : α → PV} [Nr e] : Nr (eO e) := ⟨fun o => by cases o with | none => rfl | some a => exact Nr.nor a⟩
instance {α : Type} {e : α → PV} [Nr e] : Nr (eP1 e) := ⟨fun p => by rw [eP1, nor, nors, Nr.nor]; rfl⟩
instance {α β : Type} {e : α → PV} {f : β → PV} [Nr e] [Nr f] : Nr (eP2 e f) := ⟨fun p => by rw [eP2, nor, nors, nors, Nr.nor, Nr.nor]; rfl⟩
instance {α β γ : Type} {e : α → PV} {f : β → PV} {g : γ → PV} [Nr e] [Nr f] [Nr g] : Nr (eP3 e f g) := ⟨fun p => by rw [eP3, nor, nors, nors, nors, Nr.nor, Nr.nor, Nr.nor]; rfl⟩
instance {α β γ δ : Type} {e : α → PV} {f : β → PV} {g : γ → PV} {k : δ → PV} [Nr e] [Nr f] [Nr g] [Nr k] : Nr (eP4 e f g k) := ⟨fun p => by rw [eP4, nor, nors, nors, nors, nors, Nr.nor, Nr.nor, Nr.nor, Nr.nor]; rfl⟩
instance {α β : Type} {t : Bool} {e : α → PV} {f : β → PV} [Nr e] [Nr f] : Nr (eD t e f) := ⟨fun l => by rw [eD, nor, nors_mapf (fun a => Nr.nor _), nors_mapf (fun a => Nr.nor _)]; rfl⟩
def toA {α : Type} (e : α → PV) [Nr e] (a : α) : NV := ⟨e a, Nr.nor a⟩
@[simp] theorem eA_toA {α : Type} (e : α → PV) [Nr e] (a : α) : eA (toA e a) = e a := rfl
/-- data, of a depth -/
class Fl {α : Type} (e : α → PV) (d : outParam Nat) : Prop where
  dp : ∀ a, ∃ k, dep (e a) = some k ∧ k ≤ d
instance : Fl eI 0 := ⟨fun _ => ⟨0, rfl, Nat.le_refl _⟩⟩
instance : Fl eB 0 := ⟨fun _ => ⟨0, rfl, Nat.le_refl _⟩⟩
instance : Fl eN 0 := ⟨fun _ => ⟨0, rfl, Nat.le_refl _⟩⟩
instance : Fl eS 0 := ⟨fun x => ⟨0, by rw [eS, dep, if_pos x.ok], Nat.le_refl _⟩⟩
theorem deps_map {α : Type} {e : α → PV} {d : Nat} [Fl e d] : ∀ l : List α, ∃ k, deps (l.map e) = some k ∧ k ≤ d
  | [] => ⟨0, rfl, Nat.zero_le _⟩
  | x :: r => by
    obtain ⟨k, e1, h1⟩ := Fl.dp (e := e) x
    obtain ⟨j, e2, h2⟩ := deps_map (e := e) r
    exact ⟨max k j, by rw [List.map_cons, deps, e1, e2], Nat.max_le.mpr ⟨h1, h2⟩⟩
instance {α : Type} {e : α → PV} {d : Nat} [Fl e d] : Fl (eT e) (d + 1) := ⟨fun l => by
  obtain ⟨k, e1, h1⟩ := deps_map (e := e) l
  exact ⟨k + 1, by rw [eT, dep, e1]; rfl, Nat.succ_le_succ h1⟩⟩
instance {α : Type} {e : α → PV} {d : Nat} [Fl e d] : Fl (eL e) (d + 1) := ⟨fun l => by
  obtain ⟨k, e1, h1⟩ := deps_map (e := e) l
  exact ⟨k + 1, by rw [eL, dep, e1]; rfl, Nat.succ_le_succ h1⟩⟩
instance {α : Type} {e : α → PV} {d : Nat} [Fl e d] : Fl (eO e) d := ⟨fun o => by
  cases o with
  | none => exact ⟨0, rfl, Nat.zero_le _⟩
  | some a => exact Fl.dp (e := e) a⟩
instance {α : Type} {e : α → PV} {a : Nat} [Fl e a] : Fl (eP1 e) (a + 1) := ⟨fun p => by
  obtain ⟨k, e1, h1⟩ := Fl.dp (e := e) p
  exact ⟨max k 0 + 1, by rw [eP1, dep, deps, e1, deps]; rfl, by omega⟩⟩
instance {α β : Type} {e : α → PV} {f : β → PV} {a b : Nat} [Fl e a] [Fl f b] : Fl (eP2 e f) (max a b + 1) := ⟨fun p => by
  obtain ⟨k, e1, h1⟩ := Fl.dp (e := e) p.1
  obtain ⟨j, e2, h2⟩ := Fl.dp (e := f) p.2
  exact ⟨max k (max j 0) + 1, by rw [eP2, dep, deps, e1, deps, e2, deps]; rfl, by omega⟩⟩
instance {α β γ : Type} {e : α → PV} {f : β → PV} {g : γ → PV} {a b c : Nat} [Fl e a] [Fl f b] [Fl g c] : Fl (eP3 e f g) (max a (max b c) + 1) := ⟨fun p => by
  obtain ⟨k, e1, h1⟩ := Fl.dp (e := e) p.1
  obtain ⟨j, e2, h2⟩ := Fl.dp (e := f) p.2.1
  obtain ⟨i, e3, h3⟩ := Fl.dp (e := g) p.2.2
  exact ⟨max k (max j (max i 0)) + 1, by rw [eP3, dep, deps, e1, deps, e2, deps, e3, deps]; rfl, by omega⟩⟩
instance {α β γ δ : Type} {e : α → PV} {f : β → PV} {g : γ → PV} {q : δ → PV} {a b c d : Nat} [Fl e a] [Fl f b] [Fl g c] [Fl q d] : Fl (eP4 e f g q) (max a (max b (max c d)) + 1) := ⟨fun p => by
  obtain ⟨k, e1, h1⟩ := Fl.dp (e := e) p.1
  obtain ⟨j, e2, h2⟩ := Fl.dp (e := f) p.2.1
  obtain ⟨i, e3, h3⟩ := Fl.dp (e := g) p.2.2.1
  obtain ⟨l, e4, h4⟩ := Fl.dp (e := q) p.2.2.2
  exact ⟨max k (max j (max i (max l 0))) + 1, by rw [eP4, dep, deps, e1, deps, e2, deps, e3, deps, e4, deps]; rfl, by omega⟩⟩
theorem fl_flat {α : Type} {e : α → PV} {d : Nat} [Fl e d] (hd : d ≤ 60) (a : α) : flatD (e a) = true := by
  obtain ⟨k, e1, h1⟩ := Fl.dp (e := e) a
  unfold flatD
  rw [e1]
  exact decide_eq_true (Nat.le_trans h1 hd)
theorem fl_all {α : Type} {e : α → PV} {d : Nat} [Fl e d] (hd : d ≤ 60) (l : List α) : (l.map e).all flatD = true := by
  rw [List.all_map, List.all_eq_true]
  exact fun a _ => fl_flat hd a
/-- equal as Python sees it: equal -/
class Ke {α : Type} [DecidableEq α] (e : α → PV) : Prop where
  eq : ∀ a b, peq (e a) (e b) = decide (a = b)
class Nn {α : Type} (e : α → PV) : Prop where
  l : ∀ a, peq .non (e a) = false
  r : ∀ a, peq (e a) .non = false
theorem str_beq' {a b : Str} : (a == b) = decide (a = b) := by
  by_cases h : a = b
  · subst h; simp
  · simp [h]
instance : Ke eI := ⟨fun a b => by show (a == b) = _; by_cases h : a = b <;> simp [h]⟩
instance : Ke eB := ⟨fun a b => by show (a == b) = _; by_cases h : a = b <;> simp [h]⟩
instance : Ke eN := ⟨fun a b => rfl⟩
instance : Ke eS := ⟨fun a b => by
  rw [eS, eS, peq, str_beq']
  by_cases h : a = b
  · subst h; simp
  · have : a.s ≠ b.s := fun z => h (by cases a; cases b; simp at z; simp [z])
    simp [h, this]⟩
theorem peqs_map {α : Type} [DecidableEq α] {e : α → PV} [Ke e] : ∀ a b : List α, peqs (a.map e) (b.map e) = decide (a = b)
  | [], [] => rfl
  | [], _ :: _ => rfl
  | _ :: _, [] => rfl
  | x :: xs, y :: ys => by
    rw [List.map_cons, List.map_cons, peqs, Ke.eq, peqs_map xs ys]
    by_cases h1 : x = y <;> by_cases h2 : xs = ys <;> simp [h1, h2]
instance {α : Type} [DecidableEq α] {e : α → PV} [Ke e] : Ke (eT e) := ⟨fun a b => by rw [eT, eT, peq, peqs_map]⟩
instance {α : Type} [DecidableEq α] {e : α → PV} [Ke e] : Ke (eL e) := ⟨fun a b => by rw [eL, eL, peq, peqs_map]⟩
instance : Nn eI := ⟨fun _ => rfl, fun _ => rfl⟩
instance : Nn eB := ⟨fun _ => rfl, fun _ => rfl⟩
instance : Nn eS := ⟨fun _ => rfl, fun _ => rfl⟩
instance {α : Type} {e : α → PV} : Nn (eT e) := ⟨fun _ => rfl, fun _ => rfl⟩
instance {α : Type} {e : α → PV} : Nn (eL e) := ⟨fun _ => rfl, fun _ => rfl⟩
instance {α : Type} {e : α → PV} : Nn (eP1 e) := ⟨fun _ => rfl, fun _ => rfl⟩
instance {α β : Type} {e : α → PV} {f : β → PV} : Nn (eP2 e f) := ⟨fun _ => rfl, fun _ => rfl⟩
instance {α β γ : Type} {e : α → PV} {f : β → PV} {g : γ → PV} : Nn (eP3 e f g) := ⟨fun _ => rfl, fun _ => rfl⟩
instance {α β γ δ : Type} {e : α → PV} {f : β → PV} {g : γ → PV} {q : δ → PV} : Nn (eP4 e f g q) := ⟨fun _ => rfl, fun _ => rfl⟩
instance {α : Type} [DecidableEq α] {e : α → PV} [Ke e] [Nn e] : Ke (eO e) := ⟨fun a b => by
  cases a <;> cases b <;> simp [eO, Nn.l, Nn.r, Ke.eq] <;> rfl⟩
instance {α : Type} [DecidableEq α] {e : α → PV} [Ke e] : Ke (eP1 e) := ⟨fun a b => by
  simp [eP1, peq, peqs, Ke.eq]⟩
instance {α β : Type} [DecidableEq α] [DecidableEq β] {e : α → PV} {f : β → PV} [Ke e] [Ke f] : Ke (eP2 e f) := ⟨fun a b => by
  obtain ⟨a1, a2⟩ := a; obtain ⟨b1, b2⟩ := b
  simp only [eP2, peq, peqs, Ke.eq]
  by_cases h1 : a1 = b1 <;> by_cases h2 : a2 = b2 <;> simp [h1, h2]⟩
instance {α β γ : Type} [DecidableEq α] [DecidableEq β] [DecidableEq γ] {e : α → PV} {f : β → PV} {g : γ → PV} [Ke e] [Ke f] [Ke g] : Ke (eP3 e f g) := ⟨fun a b => by
  obtain ⟨a1, a2, a3⟩ := a; obtain ⟨b1, b2, b3⟩ := b
  simp only [eP3, peq, peqs, Ke.eq]
  by_cases h1 : a1 = b1 <;> by_cases h2 : a2 = b2 <;> by_cases h3 : a3 = b3 <;> simp [h1, h2, h3]⟩
instance {α β γ δ : Type} [DecidableEq α] [DecidableEq β] [DecidableEq γ] [DecidableEq δ] {e : α → PV} {f : β → PV} {g : γ → PV} {q : δ → PV} [Ke e] [Ke f] [Ke g] [Ke q] : Ke (eP4 e f g q) := ⟨fun a b => by
  obtain ⟨a1, a2, a3, a4⟩ := a; obtain ⟨b1, b2, b3, b4⟩ := b
  simp only [eP4, peq, peqs, Ke.eq]
  by_cases h1 : a1 = b1 <;> by_cases h2 : a2 = b2 <;> by_cases h3 : a3 = b3 <;> by_cases h4 : a4 = b4 <;> simp [h1, h2, h3, h4]⟩
/-! ### the program -/
class HasF (P : Prog) (k : Nat) (fd : outParam FnD) : Prop where
  e : P.fns k = some fd
class HasC (P : Prog) (k : Nat) (v : outParam PV) : Prop where
  e : P.con k = some v
/-! ### the stream -/
structure Sm where
  ns : List Int
  c : Int
  k : Int
  hc : 0 ≤ c
  hk : 0 ≤ k
def eM (s : Sm) : MO := strO s.ns s.c s.k
/-! ### expressions -/
section
variable {P : Prog} {F : Fn} {cx : Option MX} {σ : Env} {h h1 h2 h3 h4 : MHp}
def evB (P : Prog) (F : Fn) (cx : Option MX) (e : ME) (σ : Env) (h : MHp) : Res Bool := (ev P F cx e σ h).bind fun x h1 => ofOpt (truth x h1) h1
def evBA (P : Prog) (F : Fn) (cx : Option MX) (e : MEs) (σ : Env) (h : MHp) : Res Bool := (evAnd P F cx e σ h).bind fun x h1 => ofOpt (truth x h1) h1
def evBO (P : Prog) (F : Fn) (cx : Option MX) (e : MEs) (σ : Env) (h : MHp) : Res Bool := (evOr P F cx e σ h).bind fun x h1 => ofOpt (truth x h1) h1
theorem ev_var {i : Nat} {v : PV} (e : σ[i]? = some (some v)) : ev P F cx (.var i) σ h = .ok v h := by rw [ev, e]
theorem ev_cst {v : PV} : ev P F cx (.cst v) σ h = .ok v h := by rw [ev]
theorem ev_glb {k : Nat} {v : PV} [c : HasC P k v] : ev P F cx (.glb k) σ h = .ok v h := by rw [ev, c.e]; rfl
theorem ev_bin {o : BO} {a b : ME} {x y z : PV} (ha : ev P F cx a σ h = .ok x h1) (hb : ev P F cx b σ h1 = .ok y h2) (hz : bop o x y h2 = some z) : ev P F cx (.bin o a b) σ h = .ok z h2 := by
  rw [ev, ha, Res.bind_ok, hb, Res.bind_ok, hz]; rfl
theorem ev_bnm {o : BO} {a b : ME} {x y : PV} {zs : List PV} (ha : ev P F cx a σ h = .ok x h1) (hb : ev P F cx b σ h1 = .ok y h2) (hz : bopL o x y h2 = some zs) : ev P F cx (.bnm o a b) σ h = .ok (.ref h2.length) (h2 ++ [.lst zs]) := by
  rw [ev, ha, Res.bind_ok, hb, Res.bind_ok, hz]; rfl
theorem ev_neg {a : ME} {i : Int} (ha : ev P F cx a σ h = .ok (eI i) h1) : ev P F cx (.neg a) σ h = .ok (eI (-i)) h1 := by
  rw [ev, ha]; rfl
theorem ev_not {a : ME} {c : Bool} (ha : evB P F cx a σ h = .ok c h1) : ev P F cx (.not a) σ h = .ok (eB (!c)) h1 := by
  rw [ev]
  unfold evB at ha
  cases e : ev P F cx a σ h with
  | ok x h5 =>
    rw [e, Res.bind_ok] at ha
    rw [Res.bind_ok]
    cases et : truth x h5 with
    | none => rw [et] at ha; cases ha
    | some b => rw [et] at ha; cases ha; rfl
  | exn _ _ => rw [e] at ha; cases ha
  | stuck => rw [e] at ha; cases ha
theorem evB_of {a : ME} {c : Bool} (ha : ev P F cx a σ h = .ok (eB c) h1) : evB P F cx a σ h = .ok c h1 := by
  unfold evB; rw [ha]; rfl
theorem evB_v {a : ME} {x : PV} {c : Bool} (ha : ev P F cx a σ h = .ok x h1) (ht : truth x h1 = some c) : evB P F cx a σ h = .ok c h1 := by
  unfold evB; rw [ha, Res.bind_ok, ht]; rfl
theorem evB_not {a : ME} {c : Bool} (ha : evB P F cx a σ h = .ok c h1) : evB P F cx (.not a) σ h = .ok (!c) h1 := evB_of (ev_not ha)
theorem ev_cmp {o : CO} {a b : ME} {x y : PV} {k : Bool} (ha : ev P F cx a σ h = .ok x h1) (hb : ev P F cx b σ h1 = .ok y h2) (hk : cop o x y h2 = some k) : ev P F cx (.cmp o a b) σ h = .ok (eB k) h2 := by
  rw [ev, ha, Res.bind_ok, hb, Res.bind_ok, hk]; rfl
theorem ev_chn {o p : CO} {a b c : ME} {x y z : PV} {k j : Bool} (ha : ev P F cx a σ h = .ok x h1) (hb : ev P F cx b σ h1 = .ok y h2) (hk : cop o x y h2 = some k) (hc : k = true → ev P F cx c σ h2 = .ok z h2 ∧ cop p y z h2 = some j) : ev P F cx (.chn o p a b c) σ h = .ok (eB (k && j)) h2 := by
  rw [ev, ha, Res.bind_ok, hb, Res.bind_ok, hk, ofOpt_some, Res.bind_ok]
  cases k with
  | false => rfl
  | true =>
    obtain ⟨e1, e2⟩ := hc rfl
    rw [if_pos rfl, e1, Res.bind_ok, e2]; rfl
theorem evB_and {es : MEs} {r : Res Bool} (e : evBA P F cx es σ h = r) : evB P F cx (.and es) σ h = r := by unfold evB; rw [ev]; exact e
theorem evB_or {es : MEs} {r : Res Bool} (e : evBO P F cx es σ h = r) : evB P F cx (.or es) σ h = r := by unfold evB; rw [ev]; exact e
theorem evBA_one {a : ME} {c : Bool} (ha : evB P F cx a σ h = .ok c h1) : evBA P F cx (.cons a .nil) σ h = .ok c h1 := by
  unfold evBA; rw [evAnd, bind_id']; exact ha
where bind_id' {α : Type} {r : Res α} : (r.bind fun x h => .ok x h) = r := by cases r <;> rfl
theorem evBO_one {a : ME} {c : Bool} (ha : evB P F cx a σ h = .ok c h1) : evBO P F cx (.cons a .nil) σ h = .ok c h1 := by
  unfold evBO; rw [evOr, evBA_one.bind_id']; exact ha
theorem evB_inv {a : ME} {c : Bool} (ha : evB P F cx a σ h = .ok c h1) : ∃ x, ev P F cx a σ h = .ok x h1 ∧ truth x h1 = some c := by
  unfold evB at ha
  cases e : ev P F cx a σ h with
  | ok x h5 =>
    rw [e, Res.bind_ok] at ha
    cases et : truth x h5 with
    | none => rw [et] at ha; cases ha
    | some b => rw [et] at ha; cases ha; exact ⟨x, rfl, et⟩
  | exn _ _ => rw [e] at ha; cases ha
  | stuck => rw [e] at ha; cases ha
theorem evBA_cons {a b : ME} {r : MEs} {c k : Bool} (ha : evB P F cx a σ h = .ok c h1) (hb : c = true → evBA P F cx (.cons b r) σ h1 = .ok k h1) : evBA P F cx (.cons a (.cons b r)) σ h = .ok (c && k) h1 := by
  obtain ⟨x, e1, e2⟩ := evB_inv ha
  unfold evBA
  rw [evAnd, e1, Res.bind_ok]
  dsimp only
  rw [e2, ofOpt_some, Res.bind_ok]
  cases c with
  | false => rw [if_neg (by decide), Res.bind_ok, e2]; rfl
  | true => rw [if_pos rfl]; exact hb rfl
theorem evBO_cons {a b : ME} {r : MEs} {c k : Bool} (ha : evB P F cx a σ h = .ok c h1) (hb : c = false → evBO P F cx (.cons b r) σ h1 = .ok k h1) : evBO P F cx (.cons a (.cons b r)) σ h = .ok (c || k) h1 := by
  obtain ⟨x, e1, e2⟩ := evB_inv ha
  unfold evBO
  rw [evOr, e1, Res.bind_ok]
  dsimp only
  rw [e2, ofOpt_some, Res.bind_ok]
  cases c with
  | true => rw [if_pos rfl, Res.bind_ok, e2]; rfl
  | false => rw [if_neg (by decide)]; exact hb rfl
/-- a test with draws behind the first part -/
theorem evBA_consE {a b : ME} {r : MEs} {c : Bool} {B : Sm → MHp} {s : Sm} {y : Bool × Sm} (ha : evB P F cx a σ h = .ok c (B s)) (hb : c = true → evBA P F cx (.cons b r) σ (B s) = .ok y.1 (B y.2)) : evBA P F cx (.cons a (.cons b r)) σ h = .ok (if c = true then y else (false, s)).1 (B (if c = true then y else (false, s)).2) := by
  obtain ⟨x, e1, e2⟩ := evB_inv ha
  unfold evBA
  rw [evAnd, e1, Res.bind_ok]
  dsimp only
  rw [e2, ofOpt_some, Res.bind_ok]
  cases c with
  | false => rw [if_neg (by decide), if_neg (by decide), Res.bind_ok, e2]; rfl
  | true => rw [if_pos rfl, if_pos rfl]; exact hb rfl
theorem evBO_consE {a b : ME} {r : MEs} {c : Bool} {B : Sm → MHp} {s : Sm} {y : Bool × Sm} (ha : evB P F cx a σ h = .ok c (B s)) (hb : c = false → evBO P F cx (.cons b r) σ (B s) = .ok y.1 (B y.2)) : evBO P F cx (.cons a (.cons b r)) σ h = .ok (if c = true then (true, s) else y).1 (B (if c = true then (true, s) else y).2) := by
  obtain ⟨x, e1, e2⟩ := evB_inv ha
  unfold evBO
  rw [evOr, e1, Res.bind_ok]
  dsimp only
  rw [e2, ofOpt_some, Res.bind_ok]
  cases c with
  | true => rw [if_pos rfl, if_pos rfl, Res.bind_ok, e2]; rfl
  | false => rw [if_neg (by decide), if_neg (by decide)]; exact hb rfl
/-- and, or as values: bools -/
theorem ev_and {es : MEs} {r : Res PV} (e : evAnd P F cx es σ h = r) : ev P F cx (.and es) σ h = r := by rw [ev]; exact e
theorem ev_or {es : MEs} {r : Res PV} (e : evOr P F cx es σ h = r) : ev P F cx (.or es) σ h = r := by rw [ev]; exact e
theorem evA_one {a : ME} {r : Res PV} (ha : ev P F cx a σ h = r) : evAnd P F cx (.cons a .nil) σ h = r := by rw [evAnd, evBA_one.bind_id']; exact ha
theorem evO_one {a : ME} {r : Res PV} (ha : ev P F cx a σ h = r) : evOr P F cx (.cons a .nil) σ h = r := by rw [evOr, evBA_one.bind_id']; exact ha
theorem evA_cons {a b : ME} {r : MEs} {c k : Bool} (ha : ev P F cx a σ h = .ok (eB c) h1) (hb : c = true → evAnd P F cx (.cons b r) σ h1 = .ok (eB k) h1) : evAnd P F cx (.cons a (.cons b r)) σ h = .ok (eB (c && k)) h1 := by
  rw [evAnd, ha, Res.bind_ok]
  show (ofOpt (some c) h1).bind _ = _
  rw [ofOpt_some, Res.bind_ok]
  cases c with
  | false => rfl
  | true => rw [if_pos rfl]; exact hb rfl
theorem evO_cons {a b : ME} {r : MEs} {c k : Bool} (ha : ev P F cx a σ h = .ok (eB c) h1) (hb : c = false → evOr P F cx (.cons b r) σ h1 = .ok (eB k) h1) : evOr P F cx (.cons a (.cons b r)) σ h = .ok (eB (c || k)) h1 := by
  rw [evOr, ha, Res.bind_ok]
  show (ofOpt (some c) h1).bind _ = _
  rw [ofOpt_some, Res.bind_ok]
  cases c with
  | true => rfl
  | false => rw [if_neg (by decide)]; exact hb rfl
theorem ev_ife {α : Type} {e : α → PV} {c a b : ME} {k : Bool} {x y : α} (hc : evB P F cx c σ h = .ok k h1) (ha : k = true → ev P F cx a σ h1 = .ok (e x) h1) (hb : k = false → ev P F cx b σ h1 = .ok (e y) h1) : ev P F cx (.ife c a b) σ h = .ok (e (if k = true then x else y)) h1 := by
  obtain ⟨v, e1, e2⟩ := evB_inv hc
  rw [ev, e1, Res.bind_ok, e2, ofOpt_some, Res.bind_ok]
  cases k with
  | true => rw [if_pos rfl, if_pos rfl]; exact ha rfl
  | false => rw [if_neg (by decide), if_neg (by decide)]; exact hb rfl
theorem ev_ifeE {α : Type} {e : α → PV} {B : Sm → MHp} {c a b : ME} {k : Bool} {x y : α × Sm} (hc : evB P F cx c σ h = .ok k h1) (ha : k = true → ev P F cx a σ h1 = .ok (e x.1) (B x.2)) (hb : k = false → ev P F cx b σ h1 = .ok (e y.1) (B y.2)) : ev P F cx (.ife c a b) σ h = .ok (e (if k = true then x else y).1) (B (if k = true then x else y).2) := by
  obtain ⟨v, e1, e2⟩ := evB_inv hc
  rw [ev, e1, Res.bind_ok, e2, ofOpt_some, Res.bind_ok]
  cases k with
  | true => rw [if_pos rfl, if_pos rfl]; exact ha rfl
  | false => rw [if_neg (by decide), if_neg (by decide)]; exact hb rfl
theorem ev_ix {a i : ME} {x y z : PV} (ha : ev P F cx a σ h = .ok x h1) (hi : ev P F cx i σ h1 = .ok y h2) (hz : index x y h2 = some z) : ev P F cx (.ix a i) σ h = .ok z h2 := by
  rw [ev, ha, Res.bind_ok, hi, Res.bind_ok, hz]; rfl
theorem evO_no : evO P F cx .no σ h = .ok none h := by rw [evO]
theorem evO_some {e : ME} {i : Int} (he : ev P F cx e σ h = .ok (eI i) h1) : evO P F cx (.some e) σ h = .ok (some i) h1 := by
  rw [evO, he]; rfl
theorem ev_sl {a : ME} {lo hi : MOp} {x z : PV} {l u : Option Int} (ha : ev P F cx a σ h = .ok x h1) (hl : evO P F cx lo σ h1 = .ok l h2) (hu : evO P F cx hi σ h2 = .ok u h3) (hz : slice x l u h3 = some z) : ev P F cx (.sl a lo hi) σ h = .ok z h3 := by
  rw [ev, ha, Res.bind_ok, hl, Res.bind_ok, hu, Res.bind_ok, hz]; rfl
theorem ev_rev {a : ME} {x z : PV} (ha : ev P F cx a σ h = .ok x h1) (hz : revS x h1 = some z) : ev P F cx (.rev a) σ h = .ok z h1 := by
  rw [ev, ha, Res.bind_ok, hz]; rfl
theorem evs_nil : evs P F cx .nil σ h = .ok [] h := by rw [evs]
theorem evs_cons {e : ME} {r : MEs} {x : PV} {xs : List PV} (he : ev P F cx e σ h = .ok x h1) (hr : evs P F cx r σ h1 = .ok xs h2) : evs P F cx (.cons e r) σ h = .ok (x :: xs) h2 := by
  rw [evs, he, Res.bind_ok, hr]; rfl
theorem ev_tup {es : MEs} {xs : List PV} (he : evs P F cx es σ h = .ok xs h1) (hl : decide (xs.length ≤ big) = true := by rfl) : ev P F cx (.tup es) σ h = .ok (.tup xs) h1 := by
  rw [ev, he, Res.bind_ok, if_pos hl]
theorem ev_lst {es : MEs} {xs : List PV} (he : evs P F cx es σ h = .ok xs h1) (hl : decide (xs.length ≤ big) = true := by rfl) : ev P F cx (.lst false es) σ h = .ok (.lst xs) h1 := by
  rw [ev, he, Res.bind_ok, if_pos hl]; rfl
theorem ev_lstm {es : MEs} {xs : List PV} (he : evs P F cx es σ h = .ok xs h1) (hl : decide (xs.length ≤ big) = true := by rfl) : ev P F cx (.lst true es) σ h = .ok (.ref h1.length) (h1 ++ [.lst xs]) := by
  rw [ev, he, Res.bind_ok, if_pos hl]; rfl
theorem ev_dc0 {t : Bool} : ev P F cx (.dc0 false t) σ h = .ok (.dic t [] []) h := by rw [ev]; rfl
theorem ev_dc0m {t : Bool} : ev P F cx (.dc0 true t) σ h = .ok (.ref h.length) (h ++ [.dic t [] []]) := by rw [ev]; rfl
theorem ev_call {f : Nat} {es : MEs} {xs : List PV} {r : Res PV} (he : evs P F cx es σ h = .ok xs h1) (hF : F f xs h1 = r) : ev P F cx (.call f es) σ h = r := by
  rw [ev, he, Res.bind_ok, hF]
theorem ev_bif {b : Bi} {es : MEs} {xs : List PV} {z : PV} (he : evs P F cx es σ h = .ok xs h1) (hz : biS b xs h1 = some z) : ev P F cx (.bif b es) σ h = .ok z h1 := by
  rw [ev, he, Res.bind_ok, hz]; rfl
theorem ev_bil {b : Bl} {es : MEs} {xs zs : List PV} (he : evs P F cx es σ h = .ok xs h1) (hz : blS b xs h1 = some zs) : ev P F cx (.bil b false es) σ h = .ok (.lst zs) h1 := by
  rw [ev, he, Res.bind_ok, hz]; rfl
theorem ev_bilm {b : Bl} {es : MEs} {xs zs : List PV} (he : evs P F cx es σ h = .ok xs h1) (hz : blS b xs h1 = some zs) : ev P F cx (.bil b true es) σ h = .ok (.ref h1.length) (h1 ++ [.lst zs]) := by
  rw [ev, he, Res.bind_ok, hz]; rfl
theorem ev_lrg {es : MEs} {xs zs : List PV} (he : evs P F cx es σ h = .ok xs h1) (hz : rangeOf xs = some zs) : ev P F cx (.lrg false es) σ h = .ok (.lst zs) h1 := by
  rw [ev, he, Res.bind_ok, hz]; rfl
theorem ev_lrgm {es : MEs} {xs zs : List PV} (he : evs P F cx es σ h = .ok xs h1) (hz : rangeOf xs = some zs) : ev P F cx (.lrg true es) σ h = .ok (.ref h1.length) (h1 ++ [.lst zs]) := by
  rw [ev, he, Res.bind_ok, hz]; rfl
theorem ev_isi {t : Ty} {a : ME} {x : PV} {k : Bool} (ha : ev P F cx a σ h = .ok x h1) (hk : isTy t x h1 = some k) : ev P F cx (.isi t a) σ h = .ok (eB k) h1 := by
  rw [ev, ha, Res.bind_ok, hk]; rfl
theorem ev_mth {m : Mt} {o : ME} {es : MEs} {x v : PV} {xs : List PV} (ho : ev P F cx o σ h = .ok x h1) (hr : rcv m x h1 = true) (he : evs P F cx es σ h1 = .ok xs h2) (hm : mth m x xs h2 = some (v, h3)) : ev P F cx (.mth m o es) σ h = .ok v h3 := by
  rw [ev, ho, Res.bind_ok, if_pos hr, he, Res.bind_ok, hm]
/-! ### what is walked through -/
def rng (i j : Int) : List Int := (List.range (j - i).toNat).map fun (k : Nat) => i + (k : Int)
def RngOk (i j : Int) : Prop := -(2 ^ 62) ≤ i ∧ i < 2 ^ 62 ∧ -(2 ^ 62) ≤ j ∧ j < 2 ^ 62 ∧ (j - i).toNat ≤ 16777216
theorem smallR_of {i : Int} (h1 : -(2 ^ 62) ≤ i) (h2 : i < 2 ^ 62) : smallR i = true := decide_eq_true ⟨h1, h2⟩
theorem range1 {j : Int} (r : RngOk 0 j) : rangeOf [eI j] = some ((rng 0 j).map eI) := by
  obtain ⟨_, _, h3, h4, h5⟩ := r
  show (if smallR j && decide (j.toNat ≤ big) then some (rngI 0 j.toNat) else none) = _
  rw [smallR_of h3 h4, decide_eq_true (show j.toNat ≤ big by simpa using h5)]
  simp [rng, rngI]
theorem range2 {i j : Int} (r : RngOk i j) : rangeOf [eI i, eI j] = some ((rng i j).map eI) := by
  obtain ⟨h1, h2, h3, h4, h5⟩ := r
  show (if smallR i && smallR j && decide ((j - i).toNat ≤ big) then some (rngI i (j - i).toNat) else none) = _
  rw [smallR_of h3 h4, smallR_of h1 h2, decide_eq_true h5]
  simp [rng, rngI]
/-- range with a step -/
def rngC' (i j c : Int) : List Int := (List.range ((j - i + c - 1) / c).toNat).map fun (k : Nat) => i + (k : Int) * c
theorem range3 {i j c : Int} (hc : 0 < c) (hc2 : c < 1000) (r : RngOk i j) : rangeOf [eI i, eI j, eI c] = some ((rngC' i j c).map eI) := by
  obtain ⟨h1, h2, h3, h4, h5⟩ := r
  show (if smallR i && smallR j && decide (0 < c) && decide (c < 1000) && decide ((j - i).toNat ≤ big) then some (rngC i c ((j - i + c - 1) / c).toNat) else _) = _
  rw [smallR_of h3 h4, smallR_of h1 h2, decide_eq_true h5, decide_eq_true hc, decide_eq_true hc2]
  simp [rngC', rngC]
/-- range that goes down by 1 -/
def rngD (i j : Int) : List Int := (List.range (i - j).toNat).map fun (k : Nat) => i - (k : Int)
theorem range3d {i j : Int} (r : RngOk j i) : rangeOf [eI i, eI j, eI (-1)] = some ((rngD i j).map eI) := by
  obtain ⟨h1, h2, h3, h4, h5⟩ := r
  show (if smallR i && smallR j && decide (0 < (-1 : Int)) && decide ((-1 : Int) < 1000) && decide ((j - i).toNat ≤ big) then _ else
    if smallR i && smallR j && decide ((-1 : Int) = -1) && decide ((i - j).toNat ≤ big) then some (rngC i (-1) (i - j).toNat) else none) = _
  rw [smallR_of h3 h4, smallR_of h1 h2, decide_eq_true h5]
  simp [rngD, rngC]
  intro k hk
  omega
theorem evI_seqT {α : Type} {e : α → PV} {a : ME} {xs : List α} (ha : ev P F cx a σ h = .ok (eT e xs) h1) : evI P F cx (.seq a) σ h = .ok ⟨xs.map e, []⟩ h1 := by rw [evI, ha]; rfl
theorem evI_seqL {α : Type} {e : α → PV} {a : ME} {xs : List α} (ha : ev P F cx a σ h = .ok (eL e xs) h1) : evI P F cx (.seq a) σ h = .ok ⟨xs.map e, []⟩ h1 := by rw [evI, ha]; rfl
theorem evI_seqR {α : Type} {e : α → PV} {a : ME} {n : Nat} {xs : List α} (ha : ev P F cx a σ h = .ok (.ref n) h1) (hn : h1[n]? = some (.lst (xs.map e))) : evI P F cx (.seq a) σ h = .ok ⟨xs.map e, [(n, .lst (xs.map e))]⟩ h1 := by
  rw [evI, ha, Res.bind_ok]
  simp only [itemsT, hn]
  rfl
theorem evI_rng {es : MEs} {xs ys : List PV} (he : evs P F cx es σ h = .ok xs h1) (hr : rangeOf xs = some ys) : evI P F cx (.rng es) σ h = .ok ⟨ys, []⟩ h1 := by rw [evI, he, Res.bind_ok, hr]; rfl
/-! ### comprehensions -/
theorem loopC_map' {α β : Type} {e : α → PV} {g : β → PV} {fe : Env → MHp → Res PV} {ft : Env → MHp → Res Bool} {tg : MT} {src : List (Nat × MO)} {h : MHp} {σ : Env} (hs : srcOk src h = true) (p : α → Bool) (f : α → β) : ∀ {xs : List α},
    (∀ x ∈ xs, ∃ σ', asgT tg (e x) σ = some σ' ∧ ft σ' h = .ok (p x) h ∧ (p x = true → fe σ' h = .ok (g (f x)) h)) → loopC fe ft tg src (xs.map e) σ h = .ok (((xs.filter p).map f).map g) h
  | [], _ => by rw [List.map_nil, loopC, if_pos hs]; rfl
  | x :: xs, hx => by
    obtain ⟨σ', e1, e2, e3⟩ := hx x List.mem_cons_self
    have ih := loopC_map' hs p f (xs := xs) fun y hy => hx y (List.mem_cons_of_mem _ hy)
    rw [List.map_cons, loopC, if_pos hs, e1]
    dsimp only
    rw [e2, Res.bind_ok]
    cases ht : p x with
    | true => simp [e3 ht, ih, ht]
    | false => simp [ih, ht]
theorem ev_lc {α β : Type} {e : α → PV} {g : β → PV} {own : List Nat} {elt : ME} {tg : MT} {it : MI} {xs : List α} {src : List (Nat × MO)} {f : α → β}
    (hi : evI P F cx it σ h = .ok ⟨xs.map e, src⟩ h1) (hs : srcOk src h1 = true) (hb : ∀ x ∈ xs, ∃ σ', asgT tg (e x) (wipeE σ own) = some σ' ∧ ev P F cx elt σ' h1 = .ok (g (f x)) h1) : ev P F cx (.lc own elt tg it .nil) σ h = .ok (eL g (xs.map f)) h1 := by
  rw [ev, hi, Res.bind_ok]
  dsimp only
  rw [loopC_map' hs (fun _ => true) f (e := e) (g := g) (xs := xs) fun x hx => by
    obtain ⟨σ', e1, e2⟩ := hb x hx
    exact ⟨σ', e1, by rw [evT], fun _ => e2⟩]
  rw [List.filter_eq_self.mpr fun _ _ => rfl]
  rfl
theorem ev_lcf {α β : Type} {e : α → PV} {g : β → PV} {own : List Nat} {elt c : ME} {tg : MT} {it : MI} {xs : List α} {src : List (Nat × MO)} {p : α → Bool} {f : α → β}
    (hi : evI P F cx it σ h = .ok ⟨xs.map e, src⟩ h1) (hs : srcOk src h1 = true) (hb : ∀ x ∈ xs, ∃ σ', asgT tg (e x) (wipeE σ own) = some σ' ∧ evB P F cx c σ' h1 = .ok (p x) h1 ∧ (p x = true → ev P F cx elt σ' h1 = .ok (g (f x)) h1)) : ev P F cx (.lc own elt tg it (.cons c .nil)) σ h = .ok (eL g ((xs.filter p).map f)) h1 := by
  rw [ev, hi, Res.bind_ok]
  dsimp only
  rw [loopC_map' hs p f (e := e) (g := g) (xs := xs) fun x hx => by
    obtain ⟨σ', e1, e2, e3⟩ := hb x hx
    exact ⟨σ', e1, by rw [evT]; exact e2, e3⟩]
  rfl
/-- with draws in the values -/
def mapS {S α β : Type} (f : S → α → β × S) : S → List α → List β × S
  | s, [] => ([], s)
  | s, x :: r => ((f s x).1 :: (mapS f (f s x).2 r).1, (mapS f (f s x).2 r).2)
theorem loopC_st {α β : Type} {e : α → PV} {g : β → PV} {fe : Env → MHp → Res PV} {ft : Env → MHp → Res Bool} {tg : MT} {σ : Env} {B : Sm → MHp} {f : Sm → α → β × Sm} : ∀ {xs : List α} {s : Sm},
    (∀ x ∈ xs, ∃ σ', asgT tg (e x) σ = some σ' ∧ (∀ h, ft σ' h = .ok true h) ∧ ∀ s, fe σ' (B s) = .ok (g (f s x).1) (B (f s x).2)) → loopC fe ft tg [] (xs.map e) σ (B s) = .ok ((mapS f s xs).1.map g) (B (mapS f s xs).2)
  | [], s, _ => by rw [List.map_nil, loopC, if_pos (by rfl)]; rfl
  | x :: xs, s, hx => by
    obtain ⟨σ', e1, e2, e3⟩ := hx x List.mem_cons_self
    have ih := loopC_st (fe := fe) (ft := ft) (tg := tg) (σ := σ) (f := f) (g := g) (B := B) (e := e) (xs := xs) (s := (f s x).2) fun y hy => hx y (List.mem_cons_of_mem _ hy)
    rw [List.map_cons, loopC, if_pos (by rfl), e1]
    dsimp only
    rw [e2, Res.bind_ok, if_pos rfl, e3, Res.bind_ok, ih]
    rfl
theorem ev_lcS {α β : Type} {e : α → PV} {g : β → PV} {own : List Nat} {elt : ME} {tg : MT} {it : MI} {xs : List α} {B : Sm → MHp} {s : Sm} {f : Sm → α → β × Sm}
    (hi : evI P F cx it σ h = .ok ⟨xs.map e, []⟩ (B s)) (hb : ∀ x ∈ xs, ∃ σ', asgT tg (e x) (wipeE σ own) = some σ' ∧ ∀ s, ev P F cx elt σ' (B s) = .ok (g (f s x).1) (B (f s x).2)) : ev P F cx (.lc own elt tg it .nil) σ h = .ok (eL g (mapS f s xs).1) (B (mapS f s xs).2) := by
  rw [ev, hi, Res.bind_ok]
  dsimp only
  rw [loopC_st (f := f) (e := e) (g := g) (xs := xs) (B := B) fun x hx => by
    obtain ⟨σ', e1, e2⟩ := hb x hx
    exact ⟨σ', e1, fun h => by rw [evT], e2⟩]
  rfl
end
end Qm

/-! V1: the operators over typed values; the rules of statements. -/
namespace Qm
open PySem (Str)
section
variable {h : MHp} {α β : Type} {e : α → PV}
/-! ### operators -/
theorem o_add {i j : Int} : bop .add (eI i) (eI j) h = some (eI (i + j)) := rfl
theorem o_sub {i j : Int} : bop .sub (eI i) (eI j) h = some (eI (i - j)) := rfl
def MulOk (i j : Int) : Prop := (-(2 ^ 64) < j ∧ j < 2 ^ 64) ∨ (-(2 ^ 64) < i ∧ i < 2 ^ 64)
theorem o_mul {i j : Int} (c : MulOk i j) : bop .mul (eI i) (eI j) h = some (eI (i * j)) := by
  show (if small64 j || small64 i then some (PV.int (i * j)) else none) = _
  rcases c with c | c
  · rw [show small64 j = true from decide_eq_true c]; rfl
  · rw [show small64 i = true from decide_eq_true c, Bool.or_true]; rfl
theorem o_fdv {i j : Int} (c : 0 < j ∧ j < 1073741824) : bop .fdv (eI i) (eI j) h = some (eI (i / j)) := by
  show (if decide (0 < j) && decide (j < 1073741824) then some (PV.int (i / j)) else none) = _
  rw [decide_eq_true c.1, decide_eq_true c.2]; rfl
theorem o_mod {i j : Int} (c : 0 < j) : bop .mod (eI i) (eI j) h = some (eI (i % j)) := by
  show (if decide (0 < j) then some (PV.int (i % j)) else none) = _
  rw [decide_eq_true c]; rfl
theorem o_pow {i j : Int} (c : 0 ≤ j ∧ j ≤ 1000000 ∧ i.natAbs < 2 ^ 64) : bop .pow (eI i) (eI j) h = some (eI (i ^ j.toNat)) := by
  show (if decide (0 ≤ j) && decide (j ≤ 1000000) && decide (i.natAbs < 2 ^ 64) then some (PV.int (i ^ j.toNat)) else none) = _
  rw [decide_eq_true c.1, decide_eq_true c.2.1, decide_eq_true c.2.2]; rfl
def BigOk (n m : Nat) : Prop := n + m ≤ 16777216
theorem o_addT {a b : List α} (c : BigOk a.length b.length) : bop .add (eT e a) (eT e b) h = some (eT e (a ++ b)) := by
  show (if decide ((a.map e).length + (b.map e).length ≤ big) then some (PV.tup (a.map e ++ b.map e)) else none) = _
  rw [decide_eq_true (by rw [List.length_map, List.length_map]; exact c)]
  rw [eT, List.map_append]; rfl
theorem o_addL {a b : List α} (c : BigOk a.length b.length) : bop .add (eL e a) (eL e b) h = some (eL e (a ++ b)) := by
  show (if decide ((a.map e).length + (b.map e).length ≤ big) then some (PV.lst (a.map e ++ b.map e)) else none) = _
  rw [decide_eq_true (by rw [List.length_map, List.length_map]; exact c)]
  rw [eL, List.map_append]; rfl
theorem o_addR {a b : List α} {n : Nat} (hn : h[n]? = some (.lst (b.map e))) (c : BigOk a.length b.length) : bop .add (eL e a) (.ref n) h = some (eL e (a ++ b)) := by
  show (match itemsL (eL e a) h, itemsL (.ref n) h with | some a, some b => if decide (a.length + b.length ≤ big) then some (PV.lst (a ++ b)) else none | _, _ => none) = _
  simp only [itemsL, hn, eL]
  rw [decide_eq_true (by rw [List.length_map, List.length_map]; exact c), List.map_append]; rfl
theorem o_addRL {a b : List α} {n : Nat} (hn : h[n]? = some (.lst (a.map e))) (c : BigOk a.length b.length) : bop .add (.ref n) (eL e b) h = some (eL e (a ++ b)) := by
  show (match itemsL (.ref n) h, itemsL (eL e b) h with | some a, some b => if decide (a.length + b.length ≤ big) then some (PV.lst (a ++ b)) else none | _, _ => none) = _
  simp only [itemsL, hn, eL]
  rw [decide_eq_true (by rw [List.length_map, List.length_map]; exact c), List.map_append]; rfl
theorem o_addS {a b : SV} (c : BigOk a.s.length b.s.length) {k : SV} (hk : a.s ++ b.s = k.s) : bop .add (eS a) (eS b) h = some (eS k) := by
  show (if decide (a.s.length + b.s.length ≤ big) then some (PV.str (a.s ++ b.s)) else none) = _
  rw [decide_eq_true (show _ ≤ big from c), hk]; rfl
def rep (l : List α) : Nat → List α
  | 0 => []
  | n + 1 => l ++ rep l n
theorem repN_map (l : List α) : ∀ n, repN (l.map e) n = (rep l n).map e
  | 0 => rfl
  | n + 1 => by rw [repN, rep, repN_map l n, List.map_append]
/-- how often a tuple may be told (the model's own bounds) -/
def RepT (n : Nat) (j : Int) : Prop := 2 ≤ j ∧ j ≤ 1000 ∧ n ≠ 0 ∧ n ≤ 1000
theorem o_mulT {a : List α} {j : Int} (c : RepT a.length j) : bop .mul (eT e a) (eI j) h = some (eT e (rep a j.toNat)) := by
  obtain ⟨c1, c2, c3, c4⟩ := c
  show (if smallR j then (if decide (2 ≤ j) && decide (j ≤ 1000) && decide (a.map e ≠ []) && decide ((a.map e).length ≤ 1000) then some (PV.tup (repN (a.map e) j.toNat)) else none) else none) = _
  have : a.map e ≠ [] := fun z => c3 (by simpa using z)
  rw [smallR_of (by omega) (by omega), decide_eq_true c1, decide_eq_true c2, decide_eq_true this, decide_eq_true (by rw [List.length_map]; exact c4), repN_map]; rfl
def RepL (n : Nat) (j : Int) : Prop := -(2 ^ 62) ≤ j ∧ j < 2 ^ 62 ∧ n * j.toNat ≤ 16777216
theorem o_mulL {a : List α} {j : Int} (c : RepL a.length j) : bop .mul (eL e a) (eI j) h = some (eL e (rep a j.toNat)) := by
  obtain ⟨c1, c2, c3⟩ := c
  show (if smallR j then (if decide ((a.map e).length * j.toNat ≤ big) then some (PV.lst (repN (a.map e) j.toNat)) else none) else none) = _
  rw [smallR_of c1 c2, decide_eq_true (by rw [List.length_map]; exact c3), repN_map]; rfl
theorem ol_mulL {a : List α} {j : Int} (c : RepL a.length j) : bopL .mul (eL e a) (eI j) h = some ((rep a j.toNat).map e) := by
  obtain ⟨c1, c2, c3⟩ := c
  show (if smallR j && decide ((a.map e).length * j.toNat ≤ big) then some (repN (a.map e) j.toNat) else none) = _
  rw [smallR_of c1 c2, decide_eq_true (by rw [List.length_map]; exact c3), repN_map]; rfl
theorem ol_addL {a b : List α} (c : BigOk a.length b.length) : bopL .add (eL e a) (eL e b) h = some ((a ++ b).map e) := by
  show (if decide ((a.map e).length + (b.map e).length ≤ big) then some (a.map e ++ b.map e) else none) = _
  rw [decide_eq_true (by rw [List.length_map, List.length_map]; exact c), List.map_append]; rfl
/-! ### comparisons -/
theorem c_lt {i j : Int} : cop .lt (eI i) (eI j) h = some (decide (i < j)) := rfl
theorem c_le {i j : Int} : cop .le (eI i) (eI j) h = some (decide (i ≤ j)) := rfl
theorem c_gt {i j : Int} : cop .gt (eI i) (eI j) h = some (decide (j < i)) := rfl
theorem c_ge {i j : Int} : cop .ge (eI i) (eI j) h = some (decide (j ≤ i)) := rfl
theorem dataOf_nor {x : PV} (hn : nor x = true) : dataOf x h = x := by
  cases x <;> first | rfl | (rw [nor] at hn; cases hn)
theorem eqD_of {x y : PV} (h1 : flatD x = true) (h2 : flatD y = true) : eqD x y = some (peq x y) := by
  unfold eqD; rw [h1, h2]; rfl
theorem c_eqA {x y : PV} (hx : nor x = true) (hy : nor y = true) (h1 : flatD x = true) (h2 : flatD y = true) : cop .eq x y h = some (peq x y) := by
  show eqD (dataOf x h) (dataOf y h) = _
  rw [dataOf_nor hx, dataOf_nor hy, eqD_of h1 h2]
theorem c_neA {x y : PV} (hx : nor x = true) (hy : nor y = true) (h1 : flatD x = true) (h2 : flatD y = true) : cop .ne x y h = some (!peq x y) := by
  show (eqD (dataOf x h) (dataOf y h)).map not = _
  rw [dataOf_nor hx, dataOf_nor hy, eqD_of h1 h2]; rfl
theorem c_eq {d : Nat} [DecidableEq α] [Nr e] [Fl e d] [Ke e] {a b : α} (hd : d ≤ 60 := by decide) : cop .eq (e a) (e b) h = some (decide (a = b)) := by
  rw [c_eqA (Nr.nor a) (Nr.nor b) (fl_flat hd a) (fl_flat hd b), Ke.eq]
theorem c_ne {d : Nat} [DecidableEq α] [Nr e] [Fl e d] [Ke e] {a b : α} (hd : d ≤ 60 := by decide) : cop .ne (e a) (e b) h = some (!decide (a = b)) := by
  rw [c_neA (Nr.nor a) (Nr.nor b) (fl_flat hd a) (fl_flat hd b), Ke.eq]
/-- values of several types -/
theorem c_eqX {d d' : Nat} {f : β → PV} [Nr e] [Fl e d] [Nr f] [Fl f d'] {a : α} {b : β} (hd : d ≤ 60 := by decide) (hd' : d' ≤ 60 := by decide) : cop .eq (e a) (f b) h = some (peq (e a) (f b)) :=
  c_eqA (Nr.nor a) (Nr.nor b) (fl_flat hd a) (fl_flat hd' b)
theorem c_neX {d d' : Nat} {f : β → PV} [Nr e] [Fl e d] [Nr f] [Fl f d'] {a : α} {b : β} (hd : d ≤ 60 := by decide) (hd' : d' ≤ 60 := by decide) : cop .ne (e a) (f b) h = some (!peq (e a) (f b)) :=
  c_neA (Nr.nor a) (Nr.nor b) (fl_flat hd a) (fl_flat hd' b)
theorem dataOf_ref {n : Nat} {xs : List PV} (hn : h[n]? = some (.lst xs)) : dataOf (.ref n) h = .lst xs := by simp only [dataOf, hn]
theorem c_eqR {d : Nat} [DecidableEq α] [Nr e] [Fl e d] [Ke e] {n : Nat} {a b : List α} (hn : h[n]? = some (.lst (a.map e))) (hd : d + 1 ≤ 60 := by decide) : cop .eq (.ref n) (eL e b) h = some (decide (a = b)) := by
  show eqD (dataOf (.ref n) h) (dataOf (eL e b) h) = _
  rw [dataOf_ref hn, dataOf_nor (Nr.nor b)]
  rw [show PV.lst (a.map e) = eL e a from rfl, eqD_of (fl_flat hd a) (fl_flat hd b), Ke.eq]
theorem c_neR {d : Nat} [DecidableEq α] [Nr e] [Fl e d] [Ke e] {n : Nat} {a b : List α} (hn : h[n]? = some (.lst (a.map e))) (hd : d + 1 ≤ 60 := by decide) : cop .ne (.ref n) (eL e b) h = some (!decide (a = b)) := by
  show (eqD (dataOf (.ref n) h) (dataOf (eL e b) h)).map not = _
  rw [dataOf_ref hn, dataOf_nor (Nr.nor b)]
  rw [show PV.lst (a.map e) = eL e a from rfl, eqD_of (fl_flat hd a) (fl_flat hd b), Ke.eq]; rfl
theorem c_isN {x : PV} : cop .isN x .non h = some (decide (x = .non)) := rfl
theorem c_isNO [Nn e] {o : Option α} : cop .isN (eO e o) .non h = some o.isNone := by
  rw [c_isN]
  cases o with
  | none => rfl
  | some a =>
    have : e a ≠ .non := fun z => by have := Nn.l (e := e) a; rw [z] at this; cases this
    simp [eO, this]
theorem c_notNO [Nn e] {o : Option α} : cop .notN (eO e o) .non h = some o.isSome := by
  show some (!decide (eO e o = .non)) = _
  cases o with
  | none => rfl
  | some a =>
    have : e a ≠ .non := fun z => by have := Nn.l (e := e) a; rw [z] at this; cases this
    simp [eO, this]
theorem c_isNA {x : PV} : cop .isN x .non h = some (decide (x = .non)) := rfl
theorem c_notNA {x : PV} : cop .notN x .non h = some (!decide (x = .non)) := rfl
theorem any_mem [DecidableEq α] [Ke e] (x : α) : ∀ l : List α, ((l.map e).any fun z => peq z (e x)) = decide (x ∈ l)
  | [] => rfl
  | y :: r => by
    rw [List.map_cons, List.any_cons, Ke.eq, any_mem x r]
    by_cases h1 : y = x
    · subst h1; simp
    · by_cases h2 : x ∈ r <;> simp [h1, h2, Ne.symm h1]
theorem isin_items {d : Nat} [DecidableEq α] [Nr e] [Fl e d] [Ke e] {x : α} {y : PV} {l : List α} (hy : itemsT y h = some (l.map e)) (hs : ∀ z, y ≠ .str z) (hd : d ≤ 60) : isinS (e x) y h = some (decide (x ∈ l)) := by
  have : isinS (e x) y h = isinR (e x) y h := by
    cases y with
    | str z => exact (hs z rfl).elim
    | _ => rfl
  rw [this, isinR, hy]
  dsimp only
  rw [fl_flat hd x, fl_all hd l, Bool.true_and, if_pos rfl, any_mem]
theorem c_inT {d : Nat} [DecidableEq α] [Nr e] [Fl e d] [Ke e] {x : α} {l : List α} (hd : d ≤ 60 := by decide) : cop .isin (e x) (eT e l) h = some (decide (x ∈ l)) := by
  show isinS (e x) (.tup (l.map e)) h = _
  exact isin_items rfl (fun z q => nomatch q) hd
theorem c_inL {d : Nat} [DecidableEq α] [Nr e] [Fl e d] [Ke e] {x : α} {l : List α} (hd : d ≤ 60 := by decide) : cop .isin (e x) (eL e l) h = some (decide (x ∈ l)) := by
  show isinS (e x) (.lst (l.map e)) h = _
  exact isin_items rfl (fun z q => nomatch q) hd
theorem c_inR {d : Nat} [DecidableEq α] [Nr e] [Fl e d] [Ke e] {x : α} {n : Nat} {l : List α} (hn : h[n]? = some (.lst (l.map e))) (hd : d ≤ 60 := by decide) : cop .isin (e x) (.ref n) h = some (decide (x ∈ l)) := by
  show isinS (e x) (.ref n) h = _
  exact isin_items (by simp only [itemsT, hn]) (fun z q => nomatch q) hd
theorem c_notin {x y : PV} {k : Bool} (hi : cop .isin x y h = some k) : cop .notin x y h = some (!k) := by
  show (isinS x y h).map not = _
  rw [show isinS x y h = some k from hi]; rfl
/-! ### truth -/
theorem t_I {i : Int} : truth (eI i) h = some (i != 0) := rfl
theorem t_B {b : Bool} : truth (eB b) h = some b := rfl
theorem t_N : truth .non h = some false := rfl
theorem t_T {l : List α} : truth (eT e l) h = some (!l.isEmpty) := by cases l <;> rfl
theorem t_L {l : List α} : truth (eL e l) h = some (!l.isEmpty) := by cases l <;> rfl
theorem t_R {n : Nat} {l : List α} (hn : h[n]? = some (.lst (l.map e))) : truth (.ref n) h = some (!l.isEmpty) := by
  show truthR (.ref n) h = _
  unfold truthR
  simp only [itemsT, hn]
  cases l <;> rfl
theorem t_S {x : SV} : truth (eS x) h = some (x.s.length != 0) := rfl
/-! ### items -/
def InR (n : Nat) (i : Int) : Prop := -(n : Int) ≤ i ∧ i < n
/-- an item at a place, counted from the end if it is negative -/
def gt [Inhabited α] (l : List α) (i : Int) : α := (l[(if 0 ≤ i then i.toNat else (i + l.length).toNat)]?).getD default
theorem atI_gt [Inhabited α] {l : List α} {i : Int} (r : InR l.length i) : atI (l.map e) i = some (e (gt l i)) := by
  obtain ⟨r1, r2⟩ := r
  unfold atI ixN gt
  rw [List.length_map]
  by_cases h0 : 0 ≤ i
  · rw [if_pos h0, if_pos r2, if_pos h0]
    have : i.toNat < l.length := by omega
    simp [this]
  · rw [if_neg h0, if_neg h0, if_pos r1]
    have : (i + l.length).toNat < l.length := by omega
    simp [this]
theorem i_T [Inhabited α] {l : List α} {i : Int} (r : InR l.length i) : index (eT e l) (eI i) h = some (e (gt l i)) := atI_gt r
theorem i_L [Inhabited α] {l : List α} {i : Int} (r : InR l.length i) : index (eL e l) (eI i) h = some (e (gt l i)) := atI_gt r
theorem i_R [Inhabited α] {n : Nat} {l : List α} {i : Int} (hn : h[n]? = some (.lst (l.map e))) (r : InR l.length i) : index (.ref n) (eI i) h = some (e (gt l i)) := by
  show indexR (.ref n) (eI i) h = _
  unfold indexR
  simp only [itemsT, hn]
  exact atI_gt r
theorem cut_map (l : List α) (lo hi : Option Int) : cut (l.map e) lo hi = (cut l lo hi).map e := by
  unfold cut; rw [List.length_map, List.map_take, List.map_drop]
theorem s_T {l : List α} {lo hi : Option Int} : slice (eT e l) lo hi h = some (eT e (cut l lo hi)) := by
  show some (PV.tup (cut (l.map e) lo hi)) = _
  rw [cut_map]; rfl
theorem s_L {l : List α} {lo hi : Option Int} : slice (eL e l) lo hi h = some (eL e (cut l lo hi)) := by
  show some (PV.lst (cut (l.map e) lo hi)) = _
  rw [cut_map]; rfl
theorem s_R {n : Nat} {l : List α} {lo hi : Option Int} (hn : h[n]? = some (.lst (l.map e))) : slice (.ref n) lo hi h = some (eL e (cut l lo hi)) := by
  show (match itemsL (.ref n) h with | some xs => some (PV.lst (cut xs lo hi)) | none => none) = _
  simp only [itemsL, hn]
  rw [cut_map]; rfl
theorem r_T {l : List α} : revS (eT e l) h = some (eT e l.reverse) := by
  show some (PV.tup (l.map e).reverse) = _
  rw [eT, List.map_reverse]
theorem r_L {l : List α} : revS (eL e l) h = some (eL e l.reverse) := by
  show some (PV.lst (l.map e).reverse) = _
  rw [eL, List.map_reverse]
theorem r_R {n : Nat} {l : List α} (hn : h[n]? = some (.lst (l.map e))) : revS (.ref n) h = some (eL e l.reverse) := by
  show (match itemsL (.ref n) h with | some xs => some (PV.lst xs.reverse) | none => none) = _
  simp only [itemsL, hn]
  rw [eL, List.map_reverse]
/-! ### built-in functions -/
theorem b_lenT {l : List α} : biS .len [eT e l] h = some (eI l.length) := by
  show some (PV.int ((l.map e).length : Nat)) = _
  rw [List.length_map]
theorem b_lenL {l : List α} : biS .len [eL e l] h = some (eI l.length) := by
  show some (PV.int ((l.map e).length : Nat)) = _
  rw [List.length_map]
theorem b_lenR {n : Nat} {l : List α} (hn : h[n]? = some (.lst (l.map e))) : biS .len [.ref n] h = some (eI l.length) := by
  show lenR (.ref n) h = _
  unfold lenR
  simp only [itemsT, hn]
  rw [List.length_map]
theorem b_lenS {x : SV} : biS .len [eS x] h = some (eI x.s.length) := rfl
theorem b_abs {i : Int} : biS .abs [eI i] h = some (eI (if i < 0 then -i else i)) := rfl
theorem b_intI {i : Int} : biS .int [eI i] h = some (eI i) := rfl
theorem b_intB {b : Bool} : biS .int [eB b] h = some (eI (if b = true then 1 else 0)) := by cases b <;> rfl
theorem intsOf_map : ∀ l : List Int, intsOf (l.map eI) = some l
  | [] => rfl
  | x :: r => by
    show (intsOf (r.map eI)).map (x :: ·) = _
    rw [intsOf_map r]; rfl
theorem b_sum {l : List Int} : biS .sum [eL eI l] h = some (eI l.sum) := by
  show (some (l.map eI)).bind sumP = _
  rw [Option.bind_some, sumP, intsOf_map]; rfl
theorem b_sumT {l : List Int} : biS .sum [eT eI l] h = some (eI l.sum) := by
  show (some (l.map eI)).bind sumP = _
  rw [Option.bind_some, sumP, intsOf_map]; rfl
theorem b_sumR {n : Nat} {l : List Int} (hn : h[n]? = some (.lst (l.map eI))) : biS .sum [.ref n] h = some (eI l.sum) := by
  show (itemsT (.ref n) h).bind sumP = _
  simp only [itemsT, hn]
  rw [Option.bind_some, sumP, intsOf_map]; rfl
/-- may be compared with one another -/
class Al {α : Type} (e : α → PV) : Prop where
  al : ∀ a b, alikeP (e a) (e b) = true
class Nz {α : Type} (e : α → PV) : Prop where
  nz : ∀ a, isNon (e a) = false
instance : Al eI := ⟨fun _ _ => rfl⟩
instance : Al eB := ⟨fun _ _ => rfl⟩
instance : Al eS := ⟨fun _ _ => rfl⟩
theorem als_map {e : α → PV} [Al e] : ∀ a b : List α, alikePs (a.map e) (b.map e) = true
  | [], [] => rfl
  | [], _ :: _ => rfl
  | _ :: _, [] => rfl
  | x :: xs, y :: ys => by rw [List.map_cons, List.map_cons, alikePs, Al.al, als_map xs ys]; rfl
instance {e : α → PV} [Al e] : Al (eT e) := ⟨fun a b => by rw [eT, eT, alikeP, als_map]⟩
instance {e : α → PV} [Al e] : Al (eL e) := ⟨fun a b => by rw [eL, eL, alikeP, als_map]⟩
instance {f : β → PV} [Al e] [Al f] : Al (eP2 e f) := ⟨fun a b => by simp [eP2, alikeP, alikePs, Al.al]⟩
instance {γ : Type} {f : β → PV} {g : γ → PV} [Al e] [Al f] [Al g] : Al (eP3 e f g) := ⟨fun a b => by simp [eP3, alikeP, alikePs, Al.al]⟩
instance {γ δ : Type} {f : β → PV} {g : γ → PV} {k : δ → PV} [Al e] [Al f] [Al g] [Al k] : Al (eP4 e f g k) := ⟨fun a b => by simp [eP4, alikeP, alikePs, Al.al]⟩
instance : Nz eI := ⟨fun _ => rfl⟩
instance : Nz eB := ⟨fun _ => rfl⟩
instance : Nz eS := ⟨fun _ => rfl⟩
instance {e : α → PV} : Nz (eT e) := ⟨fun _ => rfl⟩
instance {e : α → PV} : Nz (eL e) := ⟨fun _ => rfl⟩
instance {f : β → PV} : Nz (eP2 e f) := ⟨fun _ => rfl⟩
instance {γ : Type} {f : β → PV} {g : γ → PV} : Nz (eP3 e f g) := ⟨fun _ => rfl⟩
instance {γ δ : Type} {f : β → PV} {g : γ → PV} {k : δ → PV} : Nz (eP4 e f g k) := ⟨fun _ => rfl⟩
theorem ord_ok {d : Nat} [Al e] [Nz e] [Fl e d] (hd : d ≤ 60) (l : List α) : okOrd (l.map e) = true := by
  unfold okOrd
  rw [fl_all hd l, Bool.true_and, Bool.and_eq_true]
  refine ⟨List.all_eq_true.mpr fun x hx => ?_, List.all_eq_true.mpr fun x hx => List.all_eq_true.mpr fun y hy => ?_⟩
  · obtain ⟨a, _, rfl⟩ := List.mem_map.mp hx; rw [Nz.nz]; rfl
  · obtain ⟨a, _, rfl⟩ := List.mem_map.mp hx; obtain ⟨b, _, rfl⟩ := List.mem_map.mp hy; exact Al.al a b
/-- the least, the greatest one, the first of several -/
def minE [Inhabited α] (e : α → PV) : List α → α
  | [] => default
  | x :: r => r.foldl (fun a y => if pLt (e y) (e a) = true then y else a) x
def maxE [Inhabited α] (e : α → PV) : List α → α
  | [] => default
  | x :: r => r.foldl (fun a y => if pLt (e a) (e y) = true then y else a) x
theorem fold_map (c : PV → PV → Bool) : ∀ (r : List α) (x : α), (r.map e).foldl (fun a y => if c a y = true then y else a) (e x) = e (r.foldl (fun a y => if c (e a) (e y) = true then y else a) x)
  | [], _ => rfl
  | y :: r, x => by
    rw [List.map_cons, List.foldl_cons, List.foldl_cons, ← fold_map c r]
    congr 1
    split <;> rfl
theorem minP_map [Inhabited α] {d : Nat} [Al e] [Nz e] [Fl e d] (hd : d ≤ 60) {l : List α} (c : l ≠ []) : minP (l.map e) = some (e (minE e l)) := by
  cases l with
  | nil => exact (c rfl).elim
  | cons x r =>
    show (if okOrd ((x :: r).map e) then some (minV (e x) (r.map e)) else none) = _
    rw [ord_ok hd, if_pos rfl]
    exact congrArg some (fold_map (fun a y => pLt y a) r x)
theorem maxP_map [Inhabited α] {d : Nat} [Al e] [Nz e] [Fl e d] (hd : d ≤ 60) {l : List α} (c : l ≠ []) : maxP (l.map e) = some (e (maxE e l)) := by
  cases l with
  | nil => exact (c rfl).elim
  | cons x r =>
    show (if okOrd ((x :: r).map e) then some (maxV (e x) (r.map e)) else none) = _
    rw [ord_ok hd, if_pos rfl]
    exact congrArg some (fold_map (fun a y => pLt a y) r x)
theorem b_minE_L [Inhabited α] {d : Nat} [Al e] [Nz e] [Fl e d] {l : List α} (c : l ≠ []) (hd : d ≤ 60 := by decide) : biS .min1 [eL e l] h = some (e (minE e l)) := minP_map hd c
theorem b_minE_T [Inhabited α] {d : Nat} [Al e] [Nz e] [Fl e d] {l : List α} (c : l ≠ []) (hd : d ≤ 60 := by decide) : biS .min1 [eT e l] h = some (e (minE e l)) := minP_map hd c
theorem b_minE_R [Inhabited α] {d : Nat} [Al e] [Nz e] [Fl e d] {n : Nat} {l : List α} (hn : h[n]? = some (.lst (l.map e))) (c : l ≠ []) (hd : d ≤ 60 := by decide) : biS .min1 [.ref n] h = some (e (minE e l)) := by
  show (itemsT (.ref n) h).bind minP = _
  simp only [itemsT, hn]
  exact minP_map hd c
theorem b_maxE_L [Inhabited α] {d : Nat} [Al e] [Nz e] [Fl e d] {l : List α} (c : l ≠ []) (hd : d ≤ 60 := by decide) : biS .max1 [eL e l] h = some (e (maxE e l)) := maxP_map hd c
theorem b_maxE_T [Inhabited α] {d : Nat} [Al e] [Nz e] [Fl e d] {l : List α} (c : l ≠ []) (hd : d ≤ 60 := by decide) : biS .max1 [eT e l] h = some (e (maxE e l)) := maxP_map hd c
theorem b_maxE_R [Inhabited α] {d : Nat} [Al e] [Nz e] [Fl e d] {n : Nat} {l : List α} (hn : h[n]? = some (.lst (l.map e))) (c : l ≠ []) (hd : d ≤ 60 := by decide) : biS .max1 [.ref n] h = some (e (maxE e l)) := by
  show (itemsT (.ref n) h).bind maxP = _
  simp only [itemsT, hn]
  exact maxP_map hd c
def minL : List Int → Int
  | [] => 0
  | x :: r => minI x r
def maxL : List Int → Int
  | [] => 0
  | x :: r => maxI x r
theorem minI_fold : ∀ (r : List Int) (x : Int), r.foldl (fun a y => if pLt (eI y) (eI a) = true then y else a) x = minI x r
  | [], _ => rfl
  | y :: r, x => by
    rw [List.foldl_cons, minI_fold, minI]
    congr 1
    show (if decide (y < x) = true then y else x) = _
    by_cases c : y < x <;> simp [c]
theorem maxI_fold : ∀ (r : List Int) (x : Int), r.foldl (fun a y => if pLt (eI a) (eI y) = true then y else a) x = maxI x r
  | [], _ => rfl
  | y :: r, x => by
    rw [List.foldl_cons, maxI_fold, maxI]
    congr 1
    show (if decide (x < y) = true then y else x) = _
    by_cases c : x < y <;> simp [c]
theorem minE_I {l : List Int} : minE eI l = minL l := by
  cases l with
  | nil => rfl
  | cons x r => exact minI_fold r x
theorem maxE_I {l : List Int} : maxE eI l = maxL l := by
  cases l with
  | nil => rfl
  | cons x r => exact maxI_fold r x
theorem b_minL {l : List Int} (c : l ≠ []) : biS .min1 [eL eI l] h = some (eI (minL l)) := by rw [b_minE_L c, minE_I]
theorem b_minT {l : List Int} (c : l ≠ []) : biS .min1 [eT eI l] h = some (eI (minL l)) := by rw [b_minE_T c, minE_I]
theorem b_minR {n : Nat} {l : List Int} (hn : h[n]? = some (.lst (l.map eI))) (c : l ≠ []) : biS .min1 [.ref n] h = some (eI (minL l)) := by rw [b_minE_R hn c, minE_I]
theorem b_maxL {l : List Int} (c : l ≠ []) : biS .max1 [eL eI l] h = some (eI (maxL l)) := by rw [b_maxE_L c, maxE_I]
theorem b_maxT {l : List Int} (c : l ≠ []) : biS .max1 [eT eI l] h = some (eI (maxL l)) := by rw [b_maxE_T c, maxE_I]
theorem b_maxR {n : Nat} {l : List Int} (hn : h[n]? = some (.lst (l.map eI))) (c : l ≠ []) : biS .max1 [.ref n] h = some (eI (maxL l)) := by rw [b_maxE_R hn c, maxE_I]
theorem b_min2 {i j : Int} : biS .min2 [eI i, eI j] h = some (eI (if j < i then j else i)) := rfl
theorem b_max2 {i j : Int} : biS .max2 [eI i, eI j] h = some (eI (if i < j then j else i)) := rfl
theorem bools_map' : ∀ l : List Bool, bools (l.map eB) = some l
  | [] => rfl
  | x :: r => by
    show (bools (r.map eB)).map (x :: ·) = _
    rw [bools_map' r]; rfl
theorem b_all {l : List Bool} : biS .all [eL eB l] h = some (eB (l.all id)) := by
  show (some (l.map eB)).bind (fun xs => (bools xs).map fun bs => PV.bl (bs.all id)) = _
  rw [Option.bind_some, bools_map']; rfl
theorem b_any {l : List Bool} : biS .any [eL eB l] h = some (eB (l.any id)) := by
  show (some (l.map eB)).bind (fun xs => (bools xs).map fun bs => PV.bl (bs.any id)) = _
  rw [Option.bind_some, bools_map']; rfl
theorem b_tupL {l : List α} : biS .tuple [eL e l] h = some (eT e l) := rfl
theorem b_tupT {l : List α} : biS .tuple [eT e l] h = some (eT e l) := rfl
theorem b_tupR {n : Nat} {l : List α} (hn : h[n]? = some (.lst (l.map e))) : biS .tuple [.ref n] h = some (eT e l) := by
  show (itemsT (.ref n) h).map PV.tup = _
  simp only [itemsT, hn]; rfl
theorem l_listL {l : List α} : blS .list [eL e l] h = some (l.map e) := rfl
theorem l_listT {l : List α} : blS .list [eT e l] h = some (l.map e) := rfl
theorem l_listR {n : Nat} {l : List α} (hn : h[n]? = some (.lst (l.map e))) : blS .list [.ref n] h = some (l.map e) := by
  show itemsT (.ref n) h = _
  simp only [itemsT, hn]
theorem l_sortI {l : List Int} : blS .sorted [eL eI l] h = some ((sortI l).map eI) := by
  show (some (l.map eI)).bind sortedP = _
  rw [Option.bind_some, sortedP, intsOf_map]
/-! ### of what type -/
theorem ty_A {t : Ty} {x : PV} (hn : nor x = true) : isTy t x h = isTy t x [] := by
  cases x <;> first | rfl | (rw [nor] at hn; cases hn)
end
end Qm

/-! V2: the rules of statements, of calls. -/
namespace Qm
open PySem (Str)
abbrev Jk := Nat → Option PV
def appS : MSs → MSs → MSs
  | .nil, r => r
  | .cons s a, r => .cons s (appS a r)
section
variable {P : Prog} {F : Fn} {cx : Option MX} {σ : Env} {h h1 h2 h3 h4 : MHp}
theorem exs_app (r : MSs) : ∀ (a : MSs) (σ : Env) (h : MHp), exs P F cx (appS a r) σ h = (match exs P F cx a σ h with | .nx σ1 h1 => exs P F cx r σ1 h1 | x => x)
  | .nil, σ, h => by rw [appS, exs]
  | .cons s a, σ, h => by
    rw [appS, exs, exs]
    cases ex P F cx s σ h with
    | nx σ1 h1 => exact exs_app r a σ1 h1
    | _ => rfl
variable {Q : SRes → Prop} {r a b : MSs} {e : ME}
theorem xs_asg {t : MT} {v : PV} (σ' : Env) (he : ev P F cx e σ h = .ok v h1) (ht : asgT t v σ = some σ') (hr : Q (exs P F cx r σ' h1)) : Q (exs P F cx (.cons (.asg t e) r) σ h) := by
  rw [exs, ex, he]
  simp only [ofResV, ht]
  exact hr
theorem xs_aug {i : Nat} {o : BO} {x y : Int} {z : PV} (σ' : Env) (hv : σ[i]? = some (some (.int x))) (he : ev P F cx e σ h = .ok (eI y) h1) (hz : bopI o x y = some z) (hσ : σ.set i (some z) = σ') (hr : Q (exs P F cx r σ' h1)) : Q (exs P F cx (.cons (.aug i o e) r) σ h) := by
  rw [exs, ex, hv]
  simp only [he, ofResV, hz, hσ]
  exact hr
theorem xs_stx {o i : ME} {x y v : PV} (h5 : MHp) (he : ev P F cx e σ h = .ok v h1) (ho : ev P F cx o σ h1 = .ok x h2) (hi : ev P F cx i σ h2 = .ok y h3) (hs : storeIx x y v h3 = some h5) (hr : Q (exs P F cx r σ h5)) : Q (exs P F cx (.cons (.stx o i e) r) σ h) := by
  rw [exs, ex, he]
  simp only [ofResV, ho, hi, hs]
  exact hr
theorem xs_exp {v : PV} (he : ev P F cx e σ h = .ok v h1) (hr : Q (exs P F cx r σ h1)) : Q (exs P F cx (.cons (.exp e) r) σ h) := by
  rw [exs, ex, he]
  exact hr
theorem xs_ret {v : PV} (he : ev P F cx e σ h = .ok v h1) (hr : Q (.rt v h1)) : Q (exs P F cx (.cons (.ret e) r) σ h) := by
  rw [exs, ex, he]
  exact hr
theorem xs_retN (hr : Q (.rt .non h)) : Q (exs P F cx (.cons .retN r) σ h) := by
  rw [exs, ex]; exact hr
theorem xs_pas (hr : Q (exs P F cx r σ h)) : Q (exs P F cx (.cons .pas r) σ h) := by
  rw [exs, ex]; exact hr
theorem xs_cnt (hr : Q (.ct σ h)) : Q (exs P F cx (.cons .cnt r) σ h) := by
  rw [exs, ex]; exact hr
theorem xs_brk (hr : Q (.bk σ h)) : Q (exs P F cx (.cons .brk r) σ h) := by
  rw [exs, ex]; exact hr
theorem xs_nil (hr : Q (.nx σ h)) : Q (exs P F cx .nil σ h) := by
  rw [exs]; exact hr
theorem xs_rai {c : Nat} {es : MEs} {vs : List PV} (he : evs P F none es σ h = .ok vs h1) (hr : Q (.ex ⟨c, vs⟩ σ h1)) : Q (exs P F none (.cons (.rai c es) r) σ h) := by
  rw [exs, ex, he]; exact hr
/-- an error raised in an expression -/
theorem xs_exp_x {x : MX} (he : ev P F cx e σ h = .exn x h1) (hr : Q (.ex x σ h1)) : Q (exs P F cx (.cons (.exp e) r) σ h) := by
  rw [exs, ex, he]; exact hr
theorem xs_ret_x {x : MX} (he : ev P F cx e σ h = .exn x h1) (hr : Q (.ex x σ h1)) : Q (exs P F cx (.cons (.ret e) r) σ h) := by
  rw [exs, ex, he]; exact hr
theorem xs_asg_x {t : MT} {x : MX} (he : ev P F cx e σ h = .exn x h1) (hr : Q (.ex x σ h1)) : Q (exs P F cx (.cons (.asg t e) r) σ h) := by
  rw [exs, ex, he]; exact hr
theorem ex_ite {ce : ME} {c : Bool} (hc : evB P F cx ce σ h = .ok c h1) : ex P F cx (.ite ce a b) σ h = if c = true then exs P F cx a σ h1 else exs P F cx b σ h1 := by
  obtain ⟨v, e1, e2⟩ := evB_inv hc
  rw [ex, e1]
  simp only [ofResV, e2]
  cases c <;> rfl
theorem xs_ite' {ce : ME} {c : Bool} (hc : evB P F cx ce σ h = .ok c h1) (ht : c = true → Q (exs P F cx (appS a r) σ h1)) (hf : c = false → Q (exs P F cx (appS b r) σ h1)) : Q (exs P F cx (.cons (.ite ce a b) r) σ h) := by
  rw [exs, ex_ite hc]
  cases c with
  | true => rw [if_pos rfl]; have := ht rfl; rw [exs_app] at this; exact this
  | false => rw [if_neg (by decide)]; have := hf rfl; rw [exs_app] at this; exact this
theorem xs_ite {T : Type} {Q : T → SRes → Prop} {V1 V2 : T} {ce : ME} {c : Bool} (hc : evB P F cx ce σ h = .ok c h1) (ht : c = true → Q V1 (exs P F cx (appS a r) σ h1)) (hf : c = false → Q V2 (exs P F cx (appS b r) σ h1)) : Q (if c = true then V1 else V2) (exs P F cx (.cons (.ite ce a b) r) σ h) := by
  refine xs_ite' hc (fun z => ?_) (fun z => ?_)
  · subst z; rw [if_pos rfl]; exact ht rfl
  · subst z; rw [if_neg (by decide)]; exact hf rfl
/-- an end without a jump, in a typed state -/
def NxJ {S : Type} (σS : S → Jk → Env) (hS : S → MHp) (s : S) (r : SRes) : Prop := ∃ J, r = .nx (σS s J) (hS s)
/-- .. of a loop's body -/
def NxG {S : Type} (σS : S → Jk → Env) (hS : S → MHp) (s : S) (r : SRes) : Prop := ∃ J, r = .nx (σS s J) (hS s) ∨ r = .ct (σS s J) (hS s)
theorem nxJ {S : Type} {σS : S → Jk → Env} {hS : S → MHp} {s : S} (J : Jk) (e1 : σ = σS s J) (e2 : h = hS s) : NxJ σS hS s (.nx σ h) := ⟨J, by rw [e1, e2]⟩
theorem nxG {S : Type} {σS : S → Jk → Env} {hS : S → MHp} {s : S} (J : Jk) (e1 : σ = σS s J) (e2 : h = hS s) : NxG σS hS s (.nx σ h) := ⟨J, .inl (by rw [e1, e2])⟩
theorem ctG {S : Type} {σS : S → Jk → Env} {hS : S → MHp} {s : S} (J : Jk) (e1 : σ = σS s J) (e2 : h = hS s) : NxG σS hS s (.ct σ h) := ⟨J, .inr (by rw [e1, e2])⟩
theorem xs_join {S : Type} (σS : S → Jk → Env) (hS : S → MHp) {S1 S2 : S} {ce : ME} {c : Bool} (hc : evB P F cx ce σ h = .ok c h1) (ht : c = true → NxJ σS hS S1 (exs P F cx a σ h1)) (hf : c = false → NxJ σS hS S2 (exs P F cx b σ h1))
    (hr : ∀ J, Q (exs P F cx r (σS (if c = true then S1 else S2) J) (hS (if c = true then S1 else S2)))) : Q (exs P F cx (.cons (.ite ce a b) r) σ h) := by
  rw [exs, ex_ite hc]
  cases c with
  | true =>
    obtain ⟨J, e1⟩ := ht rfl
    rw [if_pos rfl, e1]
    have := hr J
    rw [if_pos rfl] at this
    exact this
  | false =>
    obtain ⟨J, e1⟩ := hf rfl
    rw [if_neg (by decide), e1]
    have := hr J
    rw [if_neg (by decide)] at this
    exact this
/-! ### loops -/
def FoldD {S α : Type} (step : S → α → S) (D : S → α → Prop) : S → List α → Prop
  | _, [] => True
  | s, x :: r => D s x ∧ FoldD step D (step s x) r
theorem FoldD.of_inv {S α : Type} {step : S → α → S} {D : S → α → Prop} (I : List α → S → Prop) : ∀ {xs : List α} {s : S}, I xs s → (∀ x r s, I (x :: r) s → D s x ∧ I r (step s x)) → FoldD step D s xs
  | [], _, _, _ => trivial
  | x :: r, s, i, hs => ⟨(hs x r s i).1, FoldD.of_inv I (hs x r s i).2 hs⟩
theorem loopF_fold {S α : Type} {e : α → PV} {fb : Env → MHp → SRes} {t : MT} {src : List (Nat × MO)} {σS : S → Jk → Env} {hS : S → MHp} {step : S → α → S} {D : S → α → Prop} (hsrc : ∀ s, srcOk src (hS s) = true)
    (hb : ∀ s J x, D s x → ∃ σ1, asgT t (e x) (σS s J) = some σ1 ∧ NxG σS hS (step s x) (fb σ1 (hS s))) : ∀ (xs : List α) (s : S) (J : Jk), FoldD step D s xs → ∃ J', loopF fb t src (xs.map e) (σS s J) (hS s) = .nx (σS (xs.foldl step s) J') (hS (xs.foldl step s))
  | [], s, J, _ => ⟨J, by rw [List.map_nil, loopF, if_pos (hsrc s)]; rfl⟩
  | x :: xs, s, J, d => by
    obtain ⟨σ1, e1, J1, e2⟩ := hb s J x d.1
    obtain ⟨J2, e3⟩ := loopF_fold hsrc hb xs (step s x) J1 d.2
    refine ⟨J2, ?_⟩
    rw [List.map_cons, loopF, if_pos (hsrc s), e1]
    dsimp only
    rcases e2 with e2 | e2 <;> rw [e2] <;> exact e3
theorem xs_for {S α : Type} {e : α → PV} {t : MT} {it : MI} {src : List (Nat × MO)} {xs : List α} (σS : S → Jk → Env) (hS : S → MHp) (step : S → α → S) (D : S → α → Prop) (s0 : S) (J0 : Jk)
    (hi : evI P F cx it σ h = .ok ⟨xs.map e, src⟩ h1) (hσ : σ = σS s0 J0) (hh : h1 = hS s0) (hsrc : ∀ s, srcOk src (hS s) = true) (hD : FoldD step D s0 xs)
    (hb : ∀ s J x, D s x → ∃ σ1, asgT t (e x) (σS s J) = some σ1 ∧ NxG σS hS (step s x) (exs P F cx b σ1 (hS s)))
    (hr : ∀ J, Q (exs P F cx r (σS (xs.foldl step s0) J) (hS (xs.foldl step s0)))) : Q (exs P F cx (.cons (.for t it b) r) σ h) := by
  obtain ⟨J', e'⟩ := loopF_fold hsrc hb xs s0 J0 hD
  rw [exs, ex, hi]
  simp only [ofResV]
  rw [hσ, hh, e']
  exact hr J'
/-- a loop that may end the def -/
def foldX {T S α : Type} (step : S → α → T ⊕ S) : S → List α → T ⊕ S
  | s, [] => .inr s
  | s, x :: r => match step s x with
    | .inl t => .inl t
    | .inr s' => foldX step s' r
def FoldXD {T S α : Type} (step : S → α → T ⊕ S) (D : S → α → Prop) : S → List α → Prop
  | _, [] => True
  | s, x :: r => D s x ∧ (match step s x with | .inl _ => True | .inr s' => FoldXD step D s' r)
theorem FoldXD.of_inv {T S α : Type} {step : S → α → T ⊕ S} {D : S → α → Prop} (I : List α → S → Prop) : ∀ {xs : List α} {s : S}, I xs s → (∀ x r s, I (x :: r) s → D s x ∧ ∀ s', step s x = .inr s' → I r s') → FoldXD step D s xs
  | [], _, _, _ => trivial
  | x :: r, s, i, hs => by
    refine ⟨(hs x r s i).1, ?_⟩
    cases e : step s x with
    | inl _ => trivial
    | inr s' => exact FoldXD.of_inv I ((hs x r s i).2 s' e) hs
def isExit : SRes → Prop
  | .rt _ _ => True
  | .ex _ _ _ => True
  | _ => False
def NxX {T S : Type} (QV : T → SRes → Prop) (σS : S → Jk → Env) (hS : S → MHp) : T ⊕ S → SRes → Prop
  | .inl v, r => QV v r ∧ isExit r
  | .inr s, r => NxG σS hS s r
def sumK {T S : Type} (r : T ⊕ S) (k : S → T) : T := match r with | .inl v => v | .inr s => k s
@[simp] theorem sumK_inl {T S : Type} (v : T) (k : S → T) : sumK (.inl v) k = v := rfl
@[simp] theorem sumK_inr {T S : Type} (s : S) (k : S → T) : sumK (.inr s) k = k s := rfl
theorem nxX_ret {T S : Type} {QV : T → SRes → Prop} {σS : S → Jk → Env} {hS : S → MHp} {v : T} {r : SRes} (q : QV v r) (i : isExit r := by trivial) : NxX QV σS hS (.inl v) r := ⟨q, i⟩
theorem nxX_nx {T S : Type} {QV : T → SRes → Prop} {σS : S → Jk → Env} {hS : S → MHp} {s : S} {r : SRes} (q : NxG σS hS s r) : NxX QV σS hS (.inr s) r := q
theorem loopF_foldX {T S α : Type} {QV : T → SRes → Prop} {e : α → PV} {fb : Env → MHp → SRes} {t : MT} {src : List (Nat × MO)} {σS : S → Jk → Env} {hS : S → MHp} {step : S → α → T ⊕ S} {D : S → α → Prop} (hsrc : ∀ s, srcOk src (hS s) = true)
    (hb : ∀ s J x, D s x → ∃ σ1, asgT t (e x) (σS s J) = some σ1 ∧ NxX QV σS hS (step s x) (fb σ1 (hS s))) : ∀ (xs : List α) (s : S) (J : Jk), FoldXD step D s xs →
      (∃ v, foldX step s xs = .inl v ∧ QV v (loopF fb t src (xs.map e) (σS s J) (hS s)) ∧ isExit (loopF fb t src (xs.map e) (σS s J) (hS s))) ∨ (∃ s' J', foldX step s xs = .inr s' ∧ loopF fb t src (xs.map e) (σS s J) (hS s) = .nx (σS s' J') (hS s'))
  | [], s, J, _ => .inr ⟨s, J, rfl, by rw [List.map_nil, loopF, if_pos (hsrc s)]⟩
  | x :: xs, s, J, d => by
    obtain ⟨σ1, e1, e2⟩ := hb s J x d.1
    rw [List.map_cons, loopF, if_pos (hsrc s), e1, foldX]
    dsimp only
    have d2 := d.2
    cases es : step s x with
    | inl v =>
      rw [es] at e2
      obtain ⟨q, i⟩ := e2
      refine .inl ⟨v, rfl, ?_⟩
      cases er : fb σ1 (hS s) with
      | rt v h => rw [er] at q; exact ⟨q, trivial⟩
      | ex x σ h => rw [er] at q; exact ⟨q, trivial⟩
      | nx _ _ => rw [er] at i; exact i.elim
      | ct _ _ => rw [er] at i; exact i.elim
      | bk _ _ => rw [er] at i; exact i.elim
      | stuck => rw [er] at i; exact i.elim
    | inr s' =>
      rw [es] at e2 d2
      obtain ⟨J1, e2⟩ := e2
      have := loopF_foldX (QV := QV) hsrc hb xs s' J1 d2
      rcases e2 with e2 | e2 <;> rw [e2] <;> exact this
theorem xs_forX {T S α : Type} {QV : T → SRes → Prop} {e : α → PV} {t : MT} {it : MI} {src : List (Nat × MO)} {xs : List α} (σS : S → Jk → Env) (hS : S → MHp) (step : S → α → T ⊕ S) (D : S → α → Prop) (s0 : S) (J0 : Jk) {rest : S → T}
    (hi : evI P F cx it σ h = .ok ⟨xs.map e, src⟩ h1) (hσ : σ = σS s0 J0) (hh : h1 = hS s0) (hsrc : ∀ s, srcOk src (hS s) = true) (hD : FoldXD step D s0 xs)
    (hb : ∀ s J x, D s x → ∃ σ1, asgT t (e x) (σS s J) = some σ1 ∧ NxX QV σS hS (step s x) (exs P F cx b σ1 (hS s)))
    (hr : ∀ s J, foldX step s0 xs = .inr s → QV (rest s) (exs P F cx r (σS s J) (hS s))) : QV (sumK (foldX step s0 xs) rest) (exs P F cx (.cons (.for t it b) r) σ h) := by
  rw [exs, ex, hi]
  simp only [ofResV]
  rw [hσ, hh]
  rcases loopF_foldX (QV := QV) hsrc hb xs s0 J0 hD with ⟨v, e1, q, i⟩ | ⟨s', J', e1, e2⟩
  · rw [e1, sumK_inl]
    generalize loopF (exs P F cx b) t src (xs.map e) (σS s0 J0) (hS s0) = R at q i
    cases R with
    | rt v h => exact q
    | ex x σ h => exact q
    | nx _ _ => exact i.elim
    | ct _ _ => exact i.elim
    | bk _ _ => exact i.elim
    | stuck => exact i.elim
  · rw [e1, e2, sumK_inr]
    exact hr s' J' e1
/-- while -/
def whF {S : Type} (c : S → Bool) (step : S → S) : Nat → S → S
  | 0, s => s
  | n + 1, s => if c s = true then whF c step n (step s) else s
def WhD {S : Type} (c : S → Bool) (step : S → S) (Dc D : S → Prop) : Nat → S → Prop
  | 0, _ => False
  | n + 1, s => Dc s ∧ (c s = true → D s ∧ WhD c step Dc D n (step s))
theorem loopW_fold {S : Type} {fc : Env → MHp → Res Bool} {fb : Env → MHp → SRes} {σS : S → Jk → Env} {hS : S → MHp} {c : S → Bool} {step : S → S} {Dc D : S → Prop}
    (hc : ∀ s J, Dc s → fc (σS s J) (hS s) = .ok (c s) (hS s)) (hb : ∀ s J, c s = true → D s → NxG σS hS (step s) (fb (σS s J) (hS s))) : ∀ (n : Nat) (s : S) (J : Jk), WhD c step Dc D n s → ∃ J', loopW fc fb n (σS s J) (hS s) = .nx (σS (whF c step n s) J') (hS (whF c step n s))
  | 0, _, _, d => d.elim
  | n + 1, s, J, d => by
    rw [loopW, hc s J d.1]
    simp only [ofRes]
    rw [whF]
    cases e : c s with
    | false => exact ⟨J, rfl⟩
    | true =>
      obtain ⟨J1, e1⟩ := hb s J e (d.2 e).1
      obtain ⟨J2, e2⟩ := loopW_fold hc hb n (step s) J1 (d.2 e).2
      refine ⟨J2, ?_⟩
      rw [if_pos rfl, if_pos rfl]
      rcases e1 with e1 | e1 <;> rw [e1] <;> exact e2
theorem xs_whl {S : Type} {ce : ME} {n : Nat} (σS : S → Jk → Env) (hS : S → MHp) (c : S → Bool) (step : S → S) (Dc D : S → Prop) (s0 : S) (J0 : Jk)
    (hσ : σ = σS s0 J0) (hh : h = hS s0) (hD : WhD c step Dc D n s0)
    (hc : ∀ s J, Dc s → evB P F cx ce (σS s J) (hS s) = .ok (c s) (hS s)) (hb : ∀ s J, c s = true → D s → NxG σS hS (step s) (exs P F cx b (σS s J) (hS s)))
    (hr : ∀ J, Q (exs P F cx r (σS (whF c step n s0) J) (hS (whF c step n s0)))) : Q (exs P F cx (.cons (.whl n ce b) r) σ h) := by
  obtain ⟨J', e'⟩ := loopW_fold (fc := evB P F cx ce) hc hb n s0 J0 hD
  rw [exs, ex, hσ, hh]
  show Q (match loopW (evB P F cx ce) (exs P F cx b) n (σS s0 J0) (hS s0) with | .nx σ1 h1 => exs P F cx r σ1 h1 | x => x)
  rw [e']
  exact hr J'
/-! ### lists that grow -/
theorem xs_app {i n : Nat} {y : PV} {xs : List PV} (h' : MHp) (hv : σ[i]? = some (some (.ref n))) (he : ev P F cx e σ h = .ok y h1) (hn0 : (itemsL (.ref n) h).isSome = true) (hn : h1[n]? = some (.lst xs)) (hl : xs.length < 16777216) (hh : h1.set n (.lst (xs ++ [y])) = h') (hr : Q (exs P F cx r σ h')) : Q (exs P F cx (.cons (.exp (.mth .append (.var i) (.cons e .nil))) r) σ h) := by
  refine xs_exp (v := .non) (h1 := h') (ev_mth (ev_var hv) (by show (itemsL (.ref n) h).isSome = true; exact hn0) (evs_cons he evs_nil) ?_) hr
  show (match h1[n]? with | some (.lst xs) => if decide (xs.length < big) then some (PV.non, h1.set n (.lst (xs ++ [y]))) else none | _ => none) = _
  rw [hn]
  dsimp only
  rw [decide_eq_true (show xs.length < big from hl), if_pos rfl, hh]
theorem xs_ext {i n : Nat} {y : PV} {xs ys : List PV} (h' : MHp) (hv : σ[i]? = some (some (.ref n))) (he : ev P F cx e σ h = .ok y h1) (hn0 : (itemsL (.ref n) h).isSome = true) (hy : itemsL y h1 = some ys) (hn : h1[n]? = some (.lst xs)) (hl : BigOk xs.length ys.length) (hh : h1.set n (.lst (xs ++ ys)) = h') (hr : Q (exs P F cx r σ h')) : Q (exs P F cx (.cons (.exp (.mth .extend (.var i) (.cons e .nil))) r) σ h) := by
  refine xs_exp (v := .non) (h1 := h') (ev_mth (ev_var hv) (by show (itemsL (.ref n) h).isSome = true; exact hn0) (evs_cons he evs_nil) ?_) hr
  show (match h1[n]? with | some (.lst xs) => (itemsL y h1).bind fun ys => if decide (xs.length + ys.length ≤ big) then some (PV.non, h1.set n (.lst (xs ++ ys))) else none | _ => none) = _
  rw [hn]
  dsimp only
  rw [hy, Option.bind_some, decide_eq_true (show xs.length + ys.length ≤ big from hl), if_pos rfl, hh]
end
/-! ### the end of a def -/
/-- an error as the typed defs hand it on -/
structure XV where
  c : Nat
  fs : List PV
  n : nors fs = true
def eX (x : XV) : MX := ⟨x.c, x.fs⟩
def RtG {T : Type} (G : T → Except XV PV × MHp) (V : T) (r : SRes) : Prop :=
  match (G V).1 with
  | .ok p => ∃ l, (∃ q, r = .rt q ((G V).2 ++ l) ∧ frz (G V).2.length ((G V).2 ++ l) q = some p) ∨ (p = .non ∧ ∃ σ, r = .nx σ ((G V).2 ++ l))
  | .error x => ∃ l σ, r = .ex (eX x) σ ((G V).2 ++ l)
/-- of trees alone -/
def Gp {α : Type} (e : α → PV) (v : α) : Except XV PV × MHp := (.ok (e v), [])
/-- .. that may raise -/
def Gx {α : Type} (e : α → PV) (v : Except XV α) : Except XV PV × MHp := (match v with | .ok a => .ok (e a) | .error x => .error x, [])
/-- with the stream -/
def Gs {α : Type} (e : α → PV) (rest : MHp) (v : α × Sm) : Except XV PV × MHp := (.ok (e v.1), eM v.2 :: rest)
theorem frz_id {b : Nat} {h : MHp} {p : PV} (n : nor p = true) : frz b h p = some p := frzT_id n
theorem frz_cell {α : Type} {e : α → PV} [Nr e] {b n : Nat} {h : MHp} {l : List α} (hb : b ≤ n) (hn : h[n]? = some (.lst (l.map e))) : frz b h (.ref n) = some (eL e l) := by
  show frzG b h 4 n = _
  unfold frzG
  rw [if_neg (by omega), hn]
  dsimp only
  rw [frzTs_id (nors_map l)]; rfl
theorem rt_p {α : Type} {e : α → PV} [Nr e] {v : α} {h : MHp} {p : PV} (hp : p = e v := by rfl) : RtG (Gp e) v (.rt p h) := ⟨h, .inl ⟨p, rfl, by subst hp; exact frz_id (Nr.nor v)⟩⟩
theorem rt_pR {α : Type} {e : α → PV} [Nr e] {l : List α} {n : Nat} {h : MHp} (hn : h[n]? = some (.lst (l.map e))) : RtG (Gp (eL e)) l (.rt (.ref n) h) := ⟨h, .inl ⟨.ref n, rfl, frz_cell (Nat.zero_le _) hn⟩⟩
theorem rt_pN {h : MHp} {σ : Env} {v : Unit} : RtG (Gp eN) v (.nx σ h) := ⟨h, .inr ⟨rfl, σ, rfl⟩⟩
theorem rt_x {α : Type} {e : α → PV} [Nr e] {v : α} {h : MHp} {p : PV} (hp : p = e v := by rfl) : RtG (Gx e) (.ok v) (.rt p h) := ⟨h, .inl ⟨p, rfl, by subst hp; exact frz_id (Nr.nor v)⟩⟩
theorem rt_xR {α : Type} {e : α → PV} [Nr e] {l : List α} {n : Nat} {h : MHp} (hn : h[n]? = some (.lst (l.map e))) : RtG (Gx (eL e)) (.ok l) (.rt (.ref n) h) := ⟨h, .inl ⟨.ref n, rfl, frz_cell (Nat.zero_le _) hn⟩⟩
theorem rt_xN {h : MHp} {σ : Env} {v : Unit} : RtG (Gx eN) (.ok v) (.nx σ h) := ⟨h, .inr ⟨rfl, σ, rfl⟩⟩
theorem rt_xX {α : Type} {e : α → PV} {x : XV} {h : MHp} {σ : Env} : RtG (Gx e) (.error x) (.ex (eX x) σ h) := ⟨h, σ, rfl⟩
theorem rt_s {α : Type} {e : α → PV} [Nr e] {rest : MHp} {v : α × Sm} {p : PV} {h : MHp} (l : MHp) (hp : p = e v.1 := by rfl) (hh : h = eM v.2 :: (rest ++ l) := by rfl) : RtG (Gs e rest) v (.rt p h) := ⟨l, .inl ⟨p, by rw [hh]; rfl, by subst hp; exact frz_id (Nr.nor v.1)⟩⟩
theorem rt_sR {α : Type} {e : α → PV} [Nr e] {rest : MHp} {v : List α × Sm} {n : Nat} {h : MHp} (l : MHp) (hb : rest.length + 1 ≤ n) (hn : h[n]? = some (.lst (v.1.map e))) (hh : h = eM v.2 :: (rest ++ l) := by rfl) : RtG (Gs (eL e) rest) v (.rt (.ref n) h) := ⟨l, .inl ⟨.ref n, by rw [hh]; rfl, by subst hh; exact frz_cell hb hn⟩⟩
theorem call_eq' {P : Prog} {n k : Nat} {fd : FnD} (hp : P.fns k = some fd) {args : List PV} {h : MHp} : callN P (n + 1) k args h = runFn P (callN P n) fd args h := by
  rw [callN]
  dsimp only
  rw [hp]
/-- a call's value -/
def xRes {α : Type} (e : α → PV) (h : MHp) : Except XV α → Res PV
  | .ok a => .ok (e a) h
  | .error x => .exn (eX x) h
section
variable {P : Prog} {k n : Nat} {fd : FnD} {args : List PV} {h : MHp}
theorem nors_c {α : Type} {e : α → PV} [Nr e] {a : α} {r : List PV} (hr : nors r = true) : nors (e a :: r) = true := by rw [nors, Nr.nor, hr]; rfl
theorem call_p {τ : Type} {e : τ → PV} [Nr e] {V : τ} [c : HasF P k fd] (σ : Env) (hr : fd.raw = false) (hl : args.length = fd.np) (hn : nors args = true) (hσ : args.map some ++ List.replicate (fd.nl - fd.np) none = σ)
    (hQ : RtG (Gp e) V (exs P (callN P n) none fd.body σ [])) : callN P (n + 1) k args h = .ok (e V) h := by
  rw [call_eq' c.e]
  unfold runFn
  rw [if_pos hl, if_pos (by rw [hr, hn]; rfl), hσ]
  obtain ⟨l, q⟩ := hQ
  rcases q with ⟨p, q, z⟩ | ⟨p, σ', q⟩
  · rw [q]
    show ofOpt (frz 0 _ p) h = _
    rw [show frz 0 _ p = some (e V) from z]; rfl
  · rw [q]
    show ofOpt (frz 0 _ .non) h = _
    rw [p]; rfl
theorem call_x {τ : Type} {e : τ → PV} [Nr e] {V : Except XV τ} [c : HasF P k fd] (σ : Env) (hr : fd.raw = false) (hl : args.length = fd.np) (hn : nors args = true) (hσ : args.map some ++ List.replicate (fd.nl - fd.np) none = σ)
    (hQ : RtG (Gx e) V (exs P (callN P n) none fd.body σ [])) : callN P (n + 1) k args h = xRes e h V := by
  rw [call_eq' c.e]
  unfold runFn
  rw [if_pos hl, if_pos (by rw [hr, hn]; rfl), hσ]
  cases V with
  | ok a =>
    obtain ⟨l, q⟩ := hQ
    rcases q with ⟨p, q, z⟩ | ⟨p, σ', q⟩
    · rw [q]
      show ofOpt (frz 0 _ p) h = _
      rw [show frz 0 _ p = some (e a) from z]; rfl
    · rw [q]
      show ofOpt (frz 0 _ .non) h = .ok (e a) h
      have p : e a = .non := p
      rw [p]; rfl
  | error x =>
    obtain ⟨l, σ', q⟩ := hQ
    rw [q]
    show (match frzs 0 _ x.fs with | some fs => Res.exn ⟨x.c, fs⟩ h | none => .stuck) = _
    rw [frzs, frzTs_id x.n]; rfl
theorem call_s {τ : Type} {e : τ → PV} [Nr e] {V : τ × Sm} {s : Sm} {rest : MHp} [c : HasF P k fd] (σ : Env) (hr : fd.raw = false) (hl : args.length = fd.np) (hn : nors args = false) (hσ : args.map some ++ List.replicate (fd.nl - fd.np) none = σ)
    (hQ : RtG (Gs e rest) V (exs P (callN P n) none fd.body σ (eM s :: rest))) : callN P (n + 1) k args (eM s :: rest) = .ok (e V.1) (eM V.2 :: rest) := by
  have hk : ∀ l, keepOk (eM s :: rest) ((eM V.2 :: rest) ++ l) = true := fun l => by
    rw [List.cons_append, keepOk, (st_nor ⟨V.2.ns, V.2.c, V.2.k, rfl, V.2.hc, V.2.hk⟩ : norO (eM V.2) = true), Bool.or_true, Bool.true_and]
    exact go rest l
  have ht : ∀ l, ((eM V.2 :: rest) ++ l).take (eM s :: rest).length = eM V.2 :: rest := fun l => List.take_left' (by simp)
  rw [call_eq' c.e]
  unfold runFn
  rw [if_pos hl, if_neg (by rw [hr, hn]; decide), hσ]
  obtain ⟨l, q⟩ := hQ
  rcases q with ⟨p, q, z⟩ | ⟨p, σ', q⟩
  · rw [q]
    show leave fd.raw (eM s :: rest) ((eM V.2 :: rest) ++ l) p = _
    unfold leave
    rw [hr, if_neg (by decide), if_pos (hk l), show frz (eM s :: rest).length ((eM V.2 :: rest) ++ l) p = some (e V.1) from z, ht]; rfl
  · rw [q]
    show leave fd.raw (eM s :: rest) ((eM V.2 :: rest) ++ l) .non = _
    unfold leave
    have p : e V.1 = .non := p
    rw [hr, if_neg (by decide), if_pos (hk l), ht, p]; rfl
where go : ∀ (r l : MHp), keepOk r (r ++ l) = true
  | [], _ => rfl
  | o :: r, l => by rw [List.cons_append, keepOk, decide_eq_true rfl, go r l]; rfl
end
end Qm

/-! V3: the stream as a function. -/
namespace Qm
section
variable {P : Prog} {F : Fn}
theorem next_headF {h : MHp} {ns : List Int} {k m : Int} {e2 e3 e4 : Option PV} (e : h[0]? = some (strO ns 0 k)) (hk : 0 ≤ k) :
    ∃ v2 v3, exs P F none (.cons (.asg (.nm 2) (.ix (.var 0) (.cst (.int 2)))) (.cons (.asg (.nm 3) (.bin .add (.cst (.int 7)) (.var 2))) (.cons (.ite (.cmp .lt (.var 2) (.bif .len (.cons (.ix (.var 0) (.cst (.int 0))) .nil))) (.cons (.asg (.nm 3) (.bif .abs (.cons (.ix (.ix (.var 0) (.cst (.int 0))) (.var 2)) .nil))) .nil) .nil) (.cons (.ite (.cmp .lt (.var 3) (.bin .pow (.cst (.int 10)) (.cst (.int 18)))) (.cons (.asg (.nm 3) (.bin .mod (.bif .int (.cons (.bin .add (.bin .add (.bin .mul (.var 3) (.cst (.int 48271))) (.bin .mul (.var 2) (.cst (.int 69621)))) (.cst (.int 11))) .nil)) (.cst (.int 2147483647)))) (.cons (.asg (.nm 3) (.bin .add (.bin .mul (.bin .mod (.bif .int (.cons (.bin .add (.bin .mul (.var 3) (.cst (.int 16807))) (.cst (.int 13))) .nil)) (.cst (.int 2147483647))) (.cst (.int 65537))) (.var 3))) .nil)) .nil) (.cons (.stx (.var 0) (.cst (.int 1)) (.var 3)) (.cons (.stx (.var 0) (.cst (.int 2)) (.bin .add (.var 2) (.cst (.int 1)))) .nil))))))
      [some (.ref 0), some (.int m), e2, e3, e4] h = .nx [some (.ref 0), some (.int m), v2, v3, e4] (h.set 0 (.lst [.lst (ns.map .int), .int (cellOf ns k), .int (k + 1)])) := by
  obtain ⟨i0, i1, i2⟩ := ix_st e
  have hs : ∀ v, storeIx (.ref 0) (.int 1) v h = some (h.set 0 (.lst [.lst (ns.map .int), v, .int k])) := fun v => (stx_st e).1
  have hl0 : 0 < h.length := (List.getElem?_eq_some_iff.mp e).1
  have hs2 : ∀ v, (h.set 0 (.lst [.lst (ns.map .int), v, .int k]))[0]? = some (.lst [.lst (ns.map .int), v, .int k]) := fun v => by simp [hl0]
  have hs3 : ∀ v u, storeIx (.ref 0) (.int 2) u (h.set 0 (.lst [.lst (ns.map .int), v, .int k])) = some (h.set 0 (.lst [.lst (ns.map .int), v, u])) := fun v u => by
    rw [(stx_st (hs2 v)).2]
    simp
  have hat : k < (ns.length : Int) → index (.lst (ns.map .int)) (.int k) h = some (.int (ns.getD k.toNat 0)) := fun hlt => by
    have hn : k.toNat < ns.length := by omega
    simp [index, indexR, itemsT, indexI, atI, ixN, hk, hlt, hn, List.getD]
  have tail : ∀ c : Int, ∃ v2 v3, exs P F none (.cons (.ite (.cmp .lt (.var 3) (.bin .pow (.cst (.int 10)) (.cst (.int 18)))) (.cons (.asg (.nm 3) (.bin .mod (.bif .int (.cons (.bin .add (.bin .add (.bin .mul (.var 3) (.cst (.int 48271))) (.bin .mul (.var 2) (.cst (.int 69621)))) (.cst (.int 11))) .nil)) (.cst (.int 2147483647)))) (.cons (.asg (.nm 3) (.bin .add (.bin .mul (.bin .mod (.bif .int (.cons (.bin .add (.bin .mul (.var 3) (.cst (.int 16807))) (.cst (.int 13))) .nil)) (.cst (.int 2147483647))) (.cst (.int 65537))) (.var 3))) .nil)) .nil) (.cons (.stx (.var 0) (.cst (.int 1)) (.var 3)) (.cons (.stx (.var 0) (.cst (.int 2)) (.bin .add (.var 2) (.cst (.int 1)))) .nil)))
      [some (.ref 0), some (.int m), some (.int k), some (.int c), e4] h = .nx [some (.ref 0), some (.int m), v2, v3, e4] (h.set 0 (.lst [.lst (ns.map .int), .int (if c < 10 ^ 18 then (((c * 48271 + k * 69621 + 11) % 2147483647) * 16807 + 13) % 2147483647 * 65537 + ((c * 48271 + k * 69621 + 11) % 2147483647) else c), .int (k + 1)])) := fun c => by
    have hp : bop .pow (.int 10) (.int 18) h = some (.int (10 ^ 18)) := rfl
    have h1 : ∀ a : Int, 0 ≤ a % 2147483647 := fun a => Int.emod_nonneg _ (by decide)
    have sm : ∀ i : Int, bop .mul (.int i) (.int 48271) h = some (.int (i * 48271)) ∧ bop .mul (.int i) (.int 69621) h = some (.int (i * 69621)) ∧ bop .mul (.int i) (.int 16807) h = some (.int (i * 16807)) ∧ bop .mul (.int i) (.int 65537) h = some (.int (i * 65537)) := fun i => ⟨rfl, rfl, rfl, rfl⟩
    have ad : ∀ i j : Int, bop .add (.int i) (.int j) h = some (.int (i + j)) := fun i j => rfl
    have md : ∀ i : Int, bop .mod (.int i) (.int 2147483647) h = some (.int (i % 2147483647)) := fun i => rfl
    have ad2 : ∀ (i j : Int) (h : MHp), bop .add (.int i) (.int j) h = some (.int (i + j)) := fun i j h => rfl
    by_cases hlt : c < 10 ^ 18
    · rw [if_pos hlt]
      refine ⟨some (.int k), some (.int (((((c * 48271 + k * 69621 + 11) % 2147483647) * 16807 + 13) % 2147483647) * 65537 + ((c * 48271 + k * 69621 + 11) % 2147483647))), ?_⟩
      · simp only [exs, ex, ev, evs, ofResV, Res.bind_ok, List.getElem?_cons_succ, List.getElem?_cons_zero, hp, cgt_i, ofOpt_some, truth, decide_eq_true hlt, biS, bi1, intP, sm, ad, md, asgT, List.set, hs, hs3, ad2]
    · rw [if_neg hlt]
      refine ⟨some (.int k), some (.int c), ?_⟩
      · simp only [exs, ex, ev, evs, ofResV, Res.bind_ok, List.getElem?_cons_succ, List.getElem?_cons_zero, hp, cgt_i, ofOpt_some, truth, decide_eq_false hlt, biS, bi1, intP, sm, ad, md, asgT, List.set, hs, hs3, ad2]
  have ad : ∀ i j : Int, bop .add (.int i) (.int j) h = some (.int (i + j)) := fun i j => rfl
  have ln : lenP (.lst (ns.map .int)) h = some (.int ns.length) := by simp [lenP, lenR, itemsT]
  unfold cellOf
  by_cases hlt : k < (ns.length : Int)
  · obtain ⟨v2, v3, e1⟩ := tail (if (ns.getD k.toNat 0) < 0 then -(ns.getD k.toNat 0) else ns.getD k.toNat 0)
    refine ⟨v2, v3, ?_⟩
    rw [if_pos hlt]
    dsimp only
    rw [← e1]
    simp only [exs, ex, ev, evs, ofResV, Res.bind_ok, List.getElem?_cons_succ, List.getElem?_cons_zero, i0, i1, i2, cgt_i, ofOpt_some, truth, decide_eq_true hlt, biS, bi1, absP, ad, asgT, List.set, ln, hat hlt]
  · obtain ⟨v2, v3, e1⟩ := tail (7 + k)
    refine ⟨v2, v3, ?_⟩
    rw [if_neg hlt]
    dsimp only
    rw [← e1]
    simp only [exs, ex, ev, evs, ofResV, Res.bind_ok, List.getElem?_cons_succ, List.getElem?_cons_zero, i0, i1, i2, cgt_i, ofOpt_some, truth, decide_eq_false hlt, biS, bi1, absP, ad, asgT, List.set, ln]
end
/-- a draw: the digit, the stream behind it -/
def nx (s : Sm) (m : Int) : Int × Sm :=
  ((if s.c = 0 then cellOf s.ns s.k else s.c) % m, ⟨s.ns, if 0 < m then (if s.c = 0 then cellOf s.ns s.k else s.c) / m else 0, if s.c = 0 then s.k + 1 else s.k, by
    split
    · exact Int.ediv_nonneg (by split; exact cellOf_nn s.hk; exact s.hc) (by omega)
    · decide, by have := s.hk; split <;> omega⟩)
theorem nx_ge (s : Sm) {m : Int} (h : 0 < m) : 0 ≤ (nx s m).1 := Int.emod_nonneg _ (by omega)
theorem nx_lt (s : Sm) {m : Int} (h : 0 < m) : (nx s m).1 < m := Int.emod_lt_of_pos _ h
def DrOk (m : Int) : Prop := 0 < m ∧ m < 1073741824
theorem o_next {P : Prog} [c : HasF P 230 fdNext] {n : Nat} {s : Sm} {m : Int} {rest : MHp} (hm : DrOk m) : callN P (n + 1) 230 [.ref 0, eI m] (eM s :: rest) = .ok (eI (nx s m).1) (eM (nx s m).2 :: rest) := by
  obtain ⟨hm, hm2⟩ := hm
  refine call_s (e := eI) (V := nx s m) [some (.ref 0), some (.int m), none, none, none] rfl rfl rfl rfl ?_
  have e : (eM s :: rest)[0]? = some (strO s.ns s.c s.k) := rfl
  obtain ⟨i0, i1, i2⟩ := ix_st (show (eM s :: rest)[0]? = some (.lst [.lst (s.ns.map .int), .int s.c, .int s.k]) from rfl)
  have fin : ∀ (c k : Int) (e2 e3 e4 : Option PV), c = (if s.c = 0 then cellOf s.ns s.k else s.c) → k = (if s.c = 0 then s.k + 1 else s.k) → RtG (Gs eI rest) (nx s m) (exs P (callN P n) none (.cons (.asg (.nm 4) (.bin .mod (.bif .int (.cons (.ix (.var 0) (.cst (.int 1))) .nil)) (.var 1))) (.cons (.stx (.var 0) (.cst (.int 1)) (.bin .fdv (.ix (.var 0) (.cst (.int 1))) (.var 1))) (.cons (.ret (.var 4)) .nil)))
      [some (.ref 0), some (.int m), e2, e3, e4] (.lst [.lst (s.ns.map .int), .int c, .int k] :: rest)) := fun c k e2 e3 e4 h1 h2 => by
    rw [next_tail rfl hm hm2, List.set_cons_zero]
    refine rt_s [] ?_ ?_
    · show PV.int _ = PV.int _
      rw [h1]; rfl
    · rw [List.append_nil]
      show _ = MO.lst [.lst (s.ns.map .int), .int (if 0 < m then _ else 0), .int _] :: rest
      rw [if_pos hm, h1, h2]; rfl
  by_cases h0 : s.c = 0
  · obtain ⟨v2, v3, e1⟩ := next_headF (P := P) (F := callN P n) (m := m) (e2 := none) (e3 := none) (e4 := none) (h := eM s :: rest) (ns := s.ns) (k := s.k) (by rw [e, h0]) s.hk
    have := fin (cellOf s.ns s.k) (s.k + 1) v2 v3 none (by rw [if_pos h0]) (by rw [if_pos h0])
    unfold fdNext
    rw [exs, ex]
    simp only [ev, ofResV, Res.bind_ok, List.getElem?_cons_zero, i1, ofOpt_some, eq_int, decide_eq_true h0, truth]
    rw [e1]
    exact this
  · have := fin s.c s.k none none none (by rw [if_neg h0]) (by rw [if_neg h0])
    unfold fdNext
    rw [exs, ex]
    simp only [ev, ofResV, Res.bind_ok, List.getElem?_cons_zero, i1, ofOpt_some, eq_int, decide_eq_false h0, truth]
    rw [exs]
    exact this
def st0 (ns : List Int) : Sm := ⟨ns, 0, 0, by decide, by decide⟩
end Qm

/-! V4: trees read as typed values; more rules. -/
namespace Qm
open PySem (Str)
instance : Inhabited NV := ⟨⟨.non, rfl⟩⟩
instance : Inhabited SV := ⟨⟨⟨#[]⟩, by simp⟩⟩
instance : Inhabited Sm := ⟨⟨[], 0, 0, by decide, by decide⟩⟩
theorem NV.ext' {x y : NV} (h : x.v = y.v) : x = y := by cases x; cases y; cases h; rfl
def nI (x : NV) : Int := match x.v with | .int i => i | _ => 0
def nB (x : NV) : Bool := match x.v with | .bl b => b | _ => false
theorem nors_all : ∀ {l : List PV}, nors l = true → ∀ y ∈ l, nor y = true
  | x :: r, h, y, m => by
    rw [nors, Bool.and_eq_true] at h
    rcases List.mem_cons.mp m with rfl | m
    · exact h.1
    · exact nors_all h.2 y m
def liftN : (l : List PV) → nors l = true → List NV
  | [], _ => []
  | x :: r, h => ⟨x, by rw [nors, Bool.and_eq_true] at h; exact h.1⟩ :: liftN r (by rw [nors, Bool.and_eq_true] at h; exact h.2)
theorem liftN_map : ∀ (l : List PV) (h : nors l = true), (liftN l h).map eA = l
  | [], _ => rfl
  | x :: r, h => by rw [liftN, List.map_cons, liftN_map]; rfl
def nTup : (p : PV) → nor p = true → List NV
  | .tup xs, h => liftN xs (by rw [nor] at h; exact h)
  | _, _ => []
def nT (x : NV) : List NV := nTup x.v x.n
def nTI (x : NV) : List Int := (nT x).map nI
def nLst : (p : PV) → nor p = true → List NV
  | .lst xs, h => liftN xs (by rw [nor] at h; exact h)
  | _, _ => []
def nL (x : NV) : List NV := nLst x.v x.n
def isTup (x : NV) : Bool := match x.v with | .tup _ => true | _ => false
def isInt (x : NV) : Bool := match x.v with | .int _ => true | _ => false
theorem nT_eq {x : NV} (h : isTup x = true) : eA x = eT eA (nT x) := by
  obtain ⟨v, n⟩ := x
  cases v with
  | tup xs => exact congrArg PV.tup (liftN_map xs _).symm
  | _ => cases h
theorem nI_eq {x : NV} (h : isInt x = true) : eA x = eI (nI x) := by
  obtain ⟨v, n⟩ := x
  cases v with
  | int i => rfl
  | _ => cases h
def isY (t : Ty) (x : NV) : Bool := (isTy t x.v []).getD false
theorem isY_ok {t : Ty} {x : NV} {h : MHp} : isTy t (eA x) h = some (isY t x) := by
  obtain ⟨v, n⟩ := x
  cases v with
  | ref _ => rw [nor] at n; cases n
  | scr _ => rw [nor] at n; cases n
  | _ => rfl
section
variable {P : Prog} {F : Fn} {cx : Option MX} {σ : Env} {h h1 h2 h3 h4 : MHp} {α β : Type} {e : α → PV}
theorem ev_cast {a : ME} {p q : PV} (he : ev P F cx a σ h = .ok p h1) (hq : p = q) : ev P F cx a σ h = .ok q h1 := hq ▸ he
theorem ev_coL [Nr e] {a : ME} {l : List α} (he : ev P F cx a σ h = .ok (eL e l) h1) : ev P F cx a σ h = .ok (eL eA (l.map (toA e))) h1 :=
  ev_cast he (by unfold eL; rw [List.map_map]; rfl)
theorem ev_coT [Nr e] {a : ME} {l : List α} (he : ev P F cx a σ h = .ok (eT e l) h1) : ev P F cx a σ h = .ok (eT eA (l.map (toA e))) h1 :=
  ev_cast he (by unfold eT; rw [List.map_map]; rfl)
/-! ### places -/
def idx [DecidableEq α] (l : List α) (x : α) : Int := (l.idxOf x : Nat)
theorem findP_map [DecidableEq α] [Ke e] (x : α) : ∀ (l : List α) (n : Nat), x ∈ l → findP (e x) (l.map e) n = some (n + l.idxOf x)
  | [], _, m => by simp at m
  | y :: r, n, m => by
    rw [List.map_cons, findP, Ke.eq]
    by_cases h : y = x
    · subst h; simp
    · have m' : x ∈ r := by
        rcases List.mem_cons.mp m with rfl | m
        · exact (h rfl).elim
        · exact m
      rw [decide_eq_false h, if_neg (by decide), findP_map x r (n + 1) m', List.idxOf_cons]
      have hb : (y == x) = false := by simpa using h
      rw [hb]
      simp only [cond_false]
      congr 1; omega
theorem m_index {d : Nat} [DecidableEq α] [Nr e] [Fl e d] [Ke e] {l : List α} {x : α} (m : x ∈ l) (hd : d ≤ 60 := by decide) : mth .index (eL e l) [e x] h = some (eI (idx l x), h) := by
  show (some (l.map e)).bind (fun xs => if flatD (e x) && xs.all flatD then (findP (e x) xs 0).map fun (k : Nat) => (PV.int (k : Int), h) else none) = _
  rw [Option.bind_some, fl_flat hd x, fl_all hd l]
  simp [findP_map x l 0 m, idx]
theorem m_indexR {d : Nat} [DecidableEq α] [Nr e] [Fl e d] [Ke e] {n : Nat} {l : List α} {x : α} (hn : h[n]? = some (.lst (l.map e))) (m : x ∈ l) (hd : d ≤ 60 := by decide) : mth .index (.ref n) [e x] h = some (eI (idx l x), h) := by
  show (itemsL (.ref n) h).bind (fun xs => if flatD (e x) && xs.all flatD then (findP (e x) xs 0).map fun (k : Nat) => (PV.int (k : Int), h) else none) = _
  simp only [itemsL, hn]
  rw [Option.bind_some, fl_flat hd x, fl_all hd l]
  simp [findP_map x l 0 m, idx]
theorem m_count {l : List Int} {i : Int} : mth .count (eT eI l) [eI i] h = some (eI ((l.count i : Nat) : Int), h) := by
  show (intsOf (l.map eI)).map (fun ns => (PV.int (ns.count i : Nat), h)) = _
  rw [intsOf_map]; rfl
/-! ### lists changed -/
def place (n : Nat) (i : Int) : Nat := if 0 ≤ i then i.toNat else (i + n).toNat
theorem ixN_place {n : Nat} {i : Int} (r : InR n i) : ixN n i = some (place n i) := by
  obtain ⟨r1, r2⟩ := r
  unfold ixN place
  by_cases h0 : 0 ≤ i
  · rw [if_pos h0, if_pos r2, if_pos h0]
  · rw [if_neg h0, if_pos r1, if_neg h0]
theorem place_lt {n : Nat} {i : Int} (r : InR n i) : place n i < n := by
  obtain ⟨r1, r2⟩ := r
  unfold place
  split <;> omega
def delAt (l : List α) (i : Int) : List α := l.eraseIdx (place l.length i)
def setAt (l : List α) (i : Int) (x : α) : List α := l.set (place l.length i) x
variable {Q : SRes → Prop} {r : MSs}
theorem eraseIdx_map (f : α → β) : ∀ (l : List α) (n : Nat), (l.map f).eraseIdx n = (l.eraseIdx n).map f
  | [], n => by simp
  | x :: r, 0 => by simp
  | x :: r, n + 1 => by simp [eraseIdx_map f r n]
theorem xs_popAt [Inhabited α] {i n : Nat} {t : MT} {a : ME} {l : List α} {j : Int} (σ' : Env) (h' : MHp) (hv : σ[i]? = some (some (.ref n))) (hi : ev P F cx a σ h = .ok (eI j) h1) (hn0 : (itemsL (.ref n) h).isSome = true) (hn : h1[n]? = some (.lst (l.map e))) (c : InR l.length j) (ht : asgT t (e (gt l j)) σ = some σ') (hh : h1.set n (.lst ((delAt l j).map e)) = h') (hr : Q (exs P F cx r σ' h')) :
    Q (exs P F cx (.cons (.asg t (.mth .popAt (.var i) (.cons a .nil))) r) σ h) := by
  refine xs_asg (v := e (gt l j)) (h1 := h') σ' (ev_mth (ev_var hv) (by show (itemsL (.ref n) h).isSome = true; exact hn0) (evs_cons hi evs_nil) ?_) ht hr
  show (match h1[n]? with | some (.lst xs) => (ixN xs.length j).bind fun k => (xs[k]?).map fun y => (y, h1.set n (.lst (xs.eraseIdx k))) | _ => none) = _
  rw [hn]
  dsimp only
  rw [List.length_map, ixN_place c, Option.bind_some, ← hh]
  have hp := place_lt c
  have : gt l j = l[place l.length j] := by
    unfold gt place
    have := List.getElem?_eq_getElem hp
    unfold place at this
    rw [this]; rfl
  rw [this]
  simp [hp, delAt, eraseIdx_map]
theorem xs_setAt {n : Nat} {o a b : ME} {l : List α} {y : α} {j : Int} (h' : MHp) (hb : ev P F cx b σ h = .ok (e y) h1) (ho : ev P F cx o σ h1 = .ok (.ref n) h2) (hi : ev P F cx a σ h2 = .ok (eI j) h3) (hn : h3[n]? = some (.lst (l.map e))) (c : InR l.length j) (hh : h3.set n (.lst ((setAt l j y).map e)) = h') (hr : Q (exs P F cx r σ h')) :
    Q (exs P F cx (.cons (.stx o a b) r) σ h) := by
  refine xs_stx h' hb ho hi ?_ hr
  unfold storeIx
  dsimp only
  rw [hn]
  dsimp only
  rw [List.length_map, ixN_place c, Option.map_some, ← hh]
  simp [setAt]
/-! ### sorted -/
theorem intsOf_tupN (x : List Int) (r : List PV) : intsOf (eT eI x :: r) = none := rfl
theorem intsL_map : ∀ l : List (List Int), intsL (l.map (eT eI)) = some l
  | [] => rfl
  | x :: r => by
    show (match intsOf (x.map eI), intsL (r.map (eT eI)) with | some a, some b => some (a :: b) | _, _ => none) = _
    rw [intsOf_map, intsL_map r]
def SrtT (l : List (List Int)) : Prop := l.length < 2 ∨ ∀ x ∈ l, x ≠ []
theorem srtT_ok {l : List (List Int)} (c : SrtT l) : (decide (l.length < 2) || l.all (fun l => !l.isEmpty)) = true := by
  rcases c with c | c
  · rw [decide_eq_true c]; rfl
  · rw [Bool.or_eq_true]
    refine .inr (List.all_eq_true.mpr fun x hx => ?_)
    have := c x hx
    cases x with
    | nil => exact (this rfl).elim
    | cons a b => rfl
def sortT (l : List (List Int)) : List (List Int) := sortL l
theorem sortedP_map {l : List (List Int)} (c : SrtT l) : sortedP (l.map (eT eI)) = some ((sortT l).map (eT eI)) := by
  cases l with
  | nil => rfl
  | cons x r =>
    unfold sortedP
    rw [show intsOf ((x :: r).map (eT eI)) = none from rfl, intsL_map]
    dsimp only
    rw [srtT_ok c, if_pos rfl]
    rfl
theorem l_sortT {l : List (List Int)} (c : SrtT l) : blS .sorted [eL (eT eI) l] h = some ((sortT l).map (eT eI)) := by
  show (some (l.map (eT eI))).bind sortedP = _
  rw [Option.bind_some, sortedP_map c]
theorem l_sortTR {n : Nat} {l : List (List Int)} (hn : h[n]? = some (.lst (l.map (eT eI)))) (c : SrtT l) : blS .sorted [.ref n] h = some ((sortT l).map (eT eI)) := by
  show (itemsL (.ref n) h).bind sortedP = _
  simp only [itemsL, hn]
  rw [Option.bind_some, sortedP_map c]
def p2l (p : Int × Int) : List Int := [p.1, p.2]
def l2p (l : List Int) : Int × Int := (l.getD 0 0, l.getD 1 0)
theorem p2l_map (l : List (Int × Int)) : (l.map p2l).map (eT eI) = l.map (eP2 eI eI) := by rw [List.map_map]; rfl
def sortP2 (l : List (Int × Int)) : List (Int × Int) := (sortL (l.map p2l)).map l2p
theorem insL_mem {x y : List Int} : ∀ {l : List (List Int)}, y ∈ insL x l → y = x ∨ y ∈ l
  | [], m => by simp [insL] at m; exact .inl m
  | z :: r, m => by
    rw [insL] at m
    split at m
    · rcases List.mem_cons.mp m with rfl | m
      · exact .inr List.mem_cons_self
      · rcases insL_mem m with h | h
        · exact .inl h
        · exact .inr (List.mem_cons_of_mem _ h)
    · rcases List.mem_cons.mp m with rfl | m
      · exact .inl rfl
      · exact .inr m
theorem sortL_mem {y : List Int} : ∀ {l : List (List Int)}, y ∈ sortL l → y ∈ l
  | [], m => by simp [sortL] at m
  | x :: r, m => by
    rw [sortL] at m
    rcases insL_mem m with rfl | h
    · exact List.mem_cons_self
    · exact List.mem_cons_of_mem _ (sortL_mem h)
theorem sortP2_map (l : List (Int × Int)) : (sortT (l.map p2l)).map (eT eI) = (sortP2 l).map (eP2 eI eI) := by
  unfold sortP2 sortT
  rw [← p2l_map, List.map_map (g := p2l)]
  refine congrArg (List.map (eT eI)) ?_
  symm
  refine (List.map_congr_left (g := id) fun y hy => ?_).trans (List.map_id _)
  have := sortL_mem hy
  obtain ⟨p, _, rfl⟩ := List.mem_map.mp this
  rfl
theorem srtP2 (l : List (Int × Int)) : SrtT (l.map p2l) := .inr fun x hx => by
  obtain ⟨p, _, rfl⟩ := List.mem_map.mp hx
  exact fun z => nomatch z
theorem l_sortP2 {l : List (Int × Int)} : blS .sorted [eL (eP2 eI eI) l] h = some ((sortP2 l).map (eP2 eI eI)) := by
  show (some (l.map (eP2 eI eI))).bind sortedP = _
  rw [Option.bind_some, ← p2l_map, sortedP_map (srtP2 l), sortP2_map]
theorem l_sortP2R {n : Nat} {l : List (Int × Int)} (hn : h[n]? = some (.lst (l.map (eP2 eI eI)))) : blS .sorted [.ref n] h = some ((sortP2 l).map (eP2 eI eI)) := by
  show (itemsL (.ref n) h).bind sortedP = _
  simp only [itemsL, hn]
  rw [Option.bind_some, ← p2l_map, sortedP_map (srtP2 l), sortP2_map]
end
end Qm

/-! V5: the laws' own equality; the law's head. -/
namespace Qm
open PySem (Str)
abbrev fd229 : FnD := fdStream
abbrev fd230 : FnD := fdNext
/-- _law_is_integer -/
def fd16 : FnD := ⟨1, 1, false,
  (.cons (.ret (.and (.cons (.isi .int (.var 0)) (.cons (.not (.isi .bool (.var 0))) .nil)))) .nil)⟩
/-- _law_equal -/
def fd282 : FnD := ⟨2, 3, false,
  (.cons (.ite (.cmp .isN (.var 1) (.cst .non)) (.cons (.ret (.cmp .isN (.var 0) (.cst .non))) .nil) .nil) (.cons (.ite (.isi .bool (.var 1)) (.cons (.ret (.and (.cons (.isi .bool (.var 0)) (.cons (.cmp .eq (.var 0) (.var 1)) .nil)))) .nil) .nil) (.cons (.ite (.isi .int (.var 1)) (.cons (.ret (.and (.cons (.call 16 (.cons (.var 0) .nil)) (.cons (.cmp .eq (.var 0) (.var 1)) .nil)))) .nil) .nil) (.cons (.ite (.isi .str (.var 1)) (.cons (.ret (.and (.cons (.isi .str (.var 0)) (.cons (.cmp .eq (.var 0) (.var 1)) .nil)))) .nil) .nil) (.cons (.ite (.and (.cons (.isi .tuple (.var 1)) (.cons (.not (.isi .tuple (.var 0))) .nil))) (.cons (.ret (.cst (.bl false))) .nil) .nil) (.cons (.ite (.and (.cons (.isi .list (.var 1)) (.cons (.not (.isi .list (.var 0))) .nil))) (.cons (.ret (.cst (.bl false))) .nil) .nil) (.cons (.ite (.cmp .ne (.bif .len (.cons (.var 0) .nil)) (.bif .len (.cons (.var 1) .nil))) (.cons (.ret (.cst (.bl false))) .nil) .nil) (.cons (.ret (.bif .all (.cons (.lc [2] (.call 282 (.cons (.ix (.var 0) (.var 2)) (.cons (.ix (.var 1) (.var 2)) .nil))) (.nm 2) (.rng (.cons (.bif .len (.cons (.var 1) .nil)) .nil)) .nil) .nil))) .nil))))))))⟩
mutual
/-- what is told, what is due -/
def lawEq : PV → PV → Bool
  | a, .non => decide (a = .non)
  | a, .bl b => match a with | .bl c => c == b | _ => false
  | a, .int i => match a with | .int j => j == i | _ => false
  | a, .str s => match a with | .str t => t == s | _ => false
  | a, .tup ds => match a with | .tup xs => lawEqs xs ds | _ => false
  | a, .lst ds => match a with | .lst xs => lawEqs xs ds | _ => false
  | _, _ => false
def lawEqs : List PV → List PV → Bool
  | [], [] => true
  | x :: xs, y :: ys => lawEq x y && lawEqs xs ys
  | _, _ => false
end
/-- data, flat to a depth -/
def Dq (k : Nat) (p : PV) : Prop := nor p = true ∧ ∃ j, dep p = some j ∧ j ≤ k
theorem Dq.mono {k k' : Nat} {p : PV} (h : Dq k p) (hk : k ≤ k') : Dq k' p := ⟨h.1, h.2.choose, h.2.choose_spec.1, Nat.le_trans h.2.choose_spec.2 hk⟩
theorem dq_of {α : Type} {e : α → PV} {d k : Nat} [Nr e] [Fl e d] (a : α) (hd : d ≤ k := by decide) : Dq k (e a) := ⟨Nr.nor a, by
  obtain ⟨j, e1, h1⟩ := Fl.dp (e := e) a
  exact ⟨j, e1, Nat.le_trans h1 hd⟩⟩
def Dqs (k : Nat) (l : List PV) : Prop := nors l = true ∧ ∃ j, deps l = some j ∧ j ≤ k
theorem dqs_nil {k : Nat} : Dqs k [] := ⟨rfl, 0, rfl, Nat.zero_le _⟩
theorem dqs_cons {k : Nat} {x : PV} {r : List PV} (hx : Dq k x) (hr : Dqs k r) : Dqs k (x :: r) := by
  obtain ⟨n1, j1, e1, l1⟩ := hx
  obtain ⟨n2, j2, e2, l2⟩ := hr
  exact ⟨by rw [nors, n1, n2]; rfl, max j1 j2, by rw [deps, e1, e2], Nat.max_le.mpr ⟨l1, l2⟩⟩
theorem dq_lst {k : Nat} {l : List PV} (h : Dqs k l) : Dq (k + 1) (.lst l) := ⟨by rw [nor]; exact h.1, by
  obtain ⟨n, j, e, l⟩ := h
  exact ⟨j + 1, by rw [dep, e]; rfl, Nat.succ_le_succ l⟩⟩
theorem dq_tup {k : Nat} {l : List PV} (h : Dqs k l) : Dq (k + 1) (.tup l) := ⟨by rw [nor]; exact h.1, by
  obtain ⟨n, j, e, l⟩ := h
  exact ⟨j + 1, by rw [dep, e]; rfl, Nat.succ_le_succ l⟩⟩
theorem Dq.lst {k : Nat} {l : List PV} (h : Dq k (.lst l)) : ∃ k', k = k' + 1 ∧ Dqs k' l := by
  obtain ⟨n, j, e, hj⟩ := h
  rw [nor] at n
  rw [dep] at e
  obtain ⟨i, ei, rfl⟩ := Option.map_eq_some_iff.mp e
  exact ⟨k - 1, by omega, n, i, ei, by omega⟩
theorem Dq.tup {k : Nat} {l : List PV} (h : Dq k (.tup l)) : ∃ k', k = k' + 1 ∧ Dqs k' l := by
  obtain ⟨n, j, e, hj⟩ := h
  rw [nor] at n
  rw [dep] at e
  obtain ⟨i, ei, rfl⟩ := Option.map_eq_some_iff.mp e
  exact ⟨k - 1, by omega, n, i, ei, by omega⟩
theorem Dqs.get {k : Nat} : ∀ {l : List PV} {i : Nat} (h : Dqs k l) (hi : i < l.length), Dq k l[i]
  | x :: r, i, h, hi => by
    obtain ⟨n, j, e, hj⟩ := h
    rw [nors, Bool.and_eq_true] at n
    rw [deps] at e
    split at e
    · rename_i a b ea eb
      cases e
      cases i with
      | zero => exact ⟨n.1, a, ea, by omega⟩
      | succ i => exact Dqs.get ⟨n.2, b, eb, by omega⟩ (by simpa using hi)
    · cases e
section
variable {P : Prog} {F : Fn} {cx : Option MX} {σ : Env} {h h1 : MHp} {Q : SRes → Prop} {r a : MSs} {ce : ME}
theorem evBA_T {a b : ME} {r : MEs} {k : Bool} (ha : evB P F cx a σ h = .ok true h1) (hb : evBA P F cx (.cons b r) σ h1 = .ok k h1) : evBA P F cx (.cons a (.cons b r)) σ h = .ok k h1 := evBA_cons ha (fun _ => hb)
theorem evBA_F {a b : ME} {r : MEs} (ha : evB P F cx a σ h = .ok false h1) : evBA P F cx (.cons a (.cons b r)) σ h = .ok false h1 := evBA_cons (k := true) ha (fun z => nomatch z)
theorem xs_no (hc : evB P F cx ce σ h = .ok false h1) (hr : Q (exs P F cx r σ h1)) : Q (exs P F cx (.cons (.ite ce a .nil) r) σ h) :=
  xs_ite' hc (fun z => nomatch z) (fun _ => hr)
theorem xs_yes (hc : evB P F cx ce σ h = .ok true h1) (hr : Q (exs P F cx (appS a r) σ h1)) : Q (exs P F cx (.cons (.ite ce a .nil) r) σ h) :=
  xs_ite' hc (fun _ => hr) (fun z => nomatch z)
end
def isIP : PV → Bool
  | .int _ => true
  | _ => false
def leafP : PV → Bool
  | .tup _ => false
  | .lst _ => false
  | _ => true
theorem o_isint {P : Prog} [HasF P 16 fd16] (n : Nat) (h : MHp) (x : PV) (hx : nor x = true) : callN P (n + 1) 16 [x] h = .ok (eB (isIP x)) h := by
  have c : HasF P 16 fd16 := inferInstance
  refine call_p (fd := fd16) (e := eB) (V := isIP x) [some x] rfl rfl (by rw [nors, hx]; rfl) rfl ?_
  cases x with
  | ref _ => rw [nor] at hx; cases hx
  | scr _ => rw [nor] at hx; cases hx
  | _ => exact ⟨[], .inl ⟨_, rfl, rfl⟩⟩
theorem lawEqs_all (g : PV) : ∀ (as ds : List PV), as.length = ds.length → ((rng 0 (ds.length : Int)).map fun i => lawEq (as.getD i.toNat g) (ds.getD i.toNat g)).all id = lawEqs as ds := by
  have go : ∀ (as ds : List PV), as.length = ds.length → ((List.range ds.length).map fun i => lawEq (as.getD i g) (ds.getD i g)).all id = lawEqs as ds := by
    intro as
    induction as with
    | nil => intro ds h; cases ds with | nil => rfl | cons _ _ => simp at h
    | cons x xs ih =>
      intro ds h
      cases ds with
      | nil => simp at h
      | cons y ys =>
        have h' : xs.length = ys.length := by simpa using h
        rw [lawEqs, ← ih ys h', List.length_cons, List.range_succ_eq_map]
        simp [Function.comp_def]
  intro as ds h
  rw [← go as ds h]
  unfold rng
  rw [List.map_map]
  simp [Function.comp_def]
theorem ty_ok {t : Ty} {x : PV} {h : MHp} (hx : nor x = true) : isTy t x h = some (isY t ⟨x, hx⟩) := isY_ok (x := ⟨x, hx⟩)
theorem flat_of {x : PV} {j : Nat} (e : dep x = some j) (h : j ≤ 60) : flatD x = true := by
  unfold flatD; rw [e]; exact decide_eq_true h
theorem dep_str {s : Str} {j : Nat} (e : dep (.str s) = some j) : dep (.str s) = some 0 := by
  rw [dep] at e ⊢
  split at e
  · rename_i c; rw [if_pos c]
  · cases e
section
variable {P : Prog} {n : Nat} [HasF P 16 fd16] {a : PV}
theorem ret_no {r : MSs} {V : Bool} {σ : Env} {h : MHp} {F : Fn} (e : V = false) : RtG (Gp eB) V (exs P F none (.cons (.ret (.cst (.bl false))) r) σ h) := xs_ret ev_cst (rt_p (by rw [e]))
theorem eq_leaf {F : Fn} (hF : ∀ x h, nor x = true → F 16 [x] h = .ok (eB (isIP x)) h) {b : PV} {m : Nat} (hb : Dq m b) (ha : nor a = true) (hd : ∃ j, dep a = some j) (hs : leafP b = true) : RtG (Gp eB) (lawEq a b) (exs P F none fd282.body [some a, some b, none] []) := by
  cases b with
  | tup _ => cases hs
  | lst _ => cases hs
  | dic _ _ _ => obtain ⟨_, j, e, _⟩ := hb; simp [dep] at e
  | ref _ => have := hb.1; rw [nor] at this; cases this
  | scr _ => have := hb.1; rw [nor] at this; cases this
  | non => exact xs_yes (evB_of (ev_cmp (ev_var rfl) ev_cst rfl)) (xs_ret (ev_cmp (ev_var rfl) ev_cst c_isN) (rt_p (by rw [lawEq])))
  | bl b =>
    refine xs_no (evB_of (ev_cmp (ev_var rfl) ev_cst rfl)) (xs_yes (evB_of (ev_isi (ev_var rfl) rfl)) ?_)
    cases a with
    | bl c => exact xs_ret (ev_and (evA_cons (ev_isi (ev_var rfl) rfl) (fun _ => evA_one (ev_cmp (ev_var rfl) (ev_var rfl) rfl)))) (rt_p (by rw [lawEq]; rfl))
    | _ => exact xs_ret (ev_and (evA_cons (k := true) (ev_isi (ev_var rfl) (ty_ok ha)) (fun hc => nomatch hc))) (rt_p (by simp [lawEq]; rfl))
  | int b =>
    refine xs_no (evB_of (ev_cmp (ev_var rfl) ev_cst rfl)) (xs_no (evB_of (ev_isi (ev_var rfl) rfl)) (xs_yes (evB_of (ev_isi (ev_var rfl) rfl)) ?_))
    cases a with
    | int c => exact xs_ret (ev_and (evA_cons (ev_call (evs_cons (ev_var rfl) evs_nil) (hF _ _ ha)) (fun _ => evA_one (ev_cmp (ev_var rfl) (ev_var rfl) rfl)))) (rt_p (by rw [lawEq]; rfl))
    | _ => exact xs_ret (ev_and (evA_cons (k := true) (ev_call (evs_cons (ev_var rfl) evs_nil) (hF _ _ ha)) (fun hc => nomatch hc))) (rt_p (by simp [lawEq, isIP]))
  | str b =>
    refine xs_no (evB_of (ev_cmp (ev_var rfl) ev_cst rfl)) (xs_no (evB_of (ev_isi (ev_var rfl) rfl)) (xs_no (evB_of (ev_isi (ev_var rfl) rfl)) (xs_yes (evB_of (ev_isi (ev_var rfl) rfl)) ?_)))
    cases a with
    | str c =>
      obtain ⟨_, j, e1, _⟩ := hb
      obtain ⟨i, e2⟩ := hd
      exact xs_ret (ev_and (evA_cons (ev_isi (ev_var rfl) rfl) (fun _ => evA_one (ev_cmp (ev_var rfl) (ev_var rfl) (c_eqA rfl rfl (flat_of (dep_str e2) (by decide)) (flat_of (dep_str e1) (by decide))))))) (rt_p (by rw [lawEq]; rfl))
    | _ => exact xs_ret (ev_and (evA_cons (k := true) (ev_isi (ev_var rfl) (ty_ok ha)) (fun hc => nomatch hc))) (rt_p (by simp [lawEq]; rfl))
def seqOf (t : Bool) (l : List PV) : PV := if t then .tup l else .lst l
theorem len_of {t : Bool} {l : List PV} {h : MHp} : biS .len [seqOf t l] h = some (eI l.length) := by cases t <;> rfl
theorem ix_of {t : Bool} {l : List PV} {i : Int} {h : MHp} (h0 : 0 ≤ i) (h1 : i < l.length) : index (seqOf t l) (eI i) h = some (l.getD i.toNat .non) := by
  have : i.toNat < l.length := by omega
  cases t <;> simp [seqOf, index, indexR, itemsT, indexI, atI, ixN, h0, h1, this]
def node7 : MSs := .cons (.ite (.cmp .ne (.bif .len (.cons (.var 0) .nil)) (.bif .len (.cons (.var 1) .nil))) (.cons (.ret (.cst (.bl false))) .nil) .nil) (.cons (.ret (.bif .all (.cons (.lc [2] (.call 282 (.cons (.ix (.var 0) (.var 2)) (.cons (.ix (.var 1) (.var 2)) .nil))) (.nm 2) (.rng (.cons (.bif .len (.cons (.var 1) .nil)) .nil)) .nil) .nil))) .nil)
theorem deps_get : ∀ {l : List PV} {i : Nat}, (∃ j, deps l = some j) → (hi : i < l.length) → ∃ j, dep l[i] = some j
  | x :: r, i, h, hi => by
    obtain ⟨j, e⟩ := h
    rw [deps] at e
    split at e
    · rename_i a b ea eb
      cases i with
      | zero => exact ⟨a, ea⟩
      | succ i => exact deps_get ⟨b, eb⟩ (by simpa using hi)
    · cases e
theorem lawEqs_len : ∀ {as ds : List PV}, as.length ≠ ds.length → lawEqs as ds = false
  | [], [], h => (h rfl).elim
  | [], _ :: _, _ => by rw [lawEqs] <;> simp
  | _ :: _, [], _ => by rw [lawEqs] <;> simp
  | x :: xs, y :: ys, h => by
    rw [lawEqs, lawEqs_len (as := xs) (ds := ys) (by simpa using h), Bool.and_false]
theorem eq_node {F : Fn} {t : Bool} {as ds : List PV} {m : Nat} (hb : Dqs m ds) (ha : nors as = true) (hd : ∃ j, deps as = some j) (hz : ds.length ≤ 16777216)
    (ih : ∀ (a b : PV), b ∈ ds → Dq m b → nor a = true → (∃ j, dep a = some j) → F 282 [a, b] [] = .ok (eB (lawEq a b)) []) : RtG (Gp eB) (lawEqs as ds) (exs P F none node7 [some (seqOf t as), some (seqOf t ds), none] []) := by
  by_cases hl : as.length = ds.length
  · refine xs_no (evB_of (ev_cmp (ev_bif (evs_cons (ev_var rfl) evs_nil) len_of) (ev_bif (evs_cons (ev_var rfl) evs_nil) len_of) ?_)) ?_
    · rw [c_ne (e := eI) (a := (as.length : Int)) (b := ds.length), hl]; simp
    · have e1 := lawEqs_all .non as ds hl
      refine xs_ret (ev_bif (evs_cons (ev_lc (e := eI) (g := eB) (xs := rng 0 ds.length) (f := fun i => lawEq (as.getD i.toNat .non) (ds.getD i.toNat .non)) (evI_rng (evs_cons (ev_bif (evs_cons (ev_var rfl) evs_nil) len_of) evs_nil) (range1 ⟨by omega, by omega, by omega, by omega, by omega⟩)) rfl (fun i hi => ⟨[some (seqOf t as), some (seqOf t ds), some (eI i)], rfl, ?_⟩)) evs_nil) b_all) (rt_p (by rw [e1]))
      obtain ⟨k, hk, rfl⟩ := List.mem_map.mp hi
      have hk := List.mem_range.mp hk
      have hk2 : k < ds.length := by omega
      have hk1 : k < as.length := by omega
      refine ev_call (evs_cons (ev_ix (ev_var rfl) (ev_var rfl) (ix_of (by omega) (by omega))) (evs_cons (ev_ix (ev_var rfl) (ev_var rfl) (ix_of (by omega) (by omega))) evs_nil)) (ih _ _ ?_ ?_ ?_ ?_)
      · simp only [Int.zero_add, Int.toNat_natCast, List.getD_eq_getElem?_getD, List.getElem?_eq_getElem hk2, Option.getD_some]
        exact List.getElem_mem hk2
      · simp only [Int.zero_add, Int.toNat_natCast, List.getD_eq_getElem?_getD, List.getElem?_eq_getElem hk2, Option.getD_some]
        exact hb.get hk2
      · simp only [Int.zero_add, Int.toNat_natCast, List.getD_eq_getElem?_getD, List.getElem?_eq_getElem hk1, Option.getD_some]
        exact nors_all ha _ (List.getElem_mem hk1)
      · simp only [Int.zero_add, Int.toNat_natCast, List.getD_eq_getElem?_getD, List.getElem?_eq_getElem hk1, Option.getD_some]
        exact deps_get hd hk1
  · refine xs_yes (evB_of (ev_cmp (ev_bif (evs_cons (ev_var rfl) evs_nil) len_of) (ev_bif (evs_cons (ev_var rfl) evs_nil) len_of) ?_)) (ret_no (lawEqs_len hl))
    rw [c_ne (e := eI) (a := (as.length : Int)) (b := ds.length)]
    have : ¬ (as.length : Int) = ds.length := by omega
    simp [this]
end
mutual
/-- lists within are of a bounded length -/
def bz : PV → Bool
  | .tup l => decide (l.length ≤ 16777216) && bzs l
  | .lst l => decide (l.length ≤ 16777216) && bzs l
  | _ => true
def bzs : List PV → Bool
  | [] => true
  | x :: r => bz x && bzs r
end
theorem bzs_get : ∀ {l : List PV} {i : Nat}, bzs l = true → (hi : i < l.length) → bz l[i] = true
  | x :: r, i, h, hi => by
    rw [bzs, Bool.and_eq_true] at h
    cases i with
    | zero => exact h.1
    | succ i => exact bzs_get h.2 (by simpa using hi)
theorem bzs_mem {l : List PV} {b : PV} (h : bzs l = true) (m : b ∈ l) : bz b = true := by
  obtain ⟨i, hi, rfl⟩ := List.getElem_of_mem m
  exact bzs_get h hi
theorem o_equal {P : Prog} [HasF P 16 fd16] [HasF P 282 fd282] : ∀ (m n : Nat) (h : MHp) (a b : PV), Dq m b → nor a = true → (∃ j, dep a = some j) → bz b = true → callN P (n + m + 2) 282 [a, b] h = .ok (eB (lawEq a b)) h := by
  have leaf : ∀ (m n : Nat) (h : MHp) (a b : PV), Dq m b → nor a = true → (∃ j, dep a = some j) → leafP b = true → callN P (n + m + 2) 282 [a, b] h = .ok (eB (lawEq a b)) h := fun m n h a b hb ha hd hs =>
    call_p (fd := fd282) (e := eB) (V := lawEq a b) [some a, some b, none] rfl rfl (by rw [nors, ha, nors, hb.1]; rfl) rfl (eq_leaf (fun x h hx => o_isint (n + m) h x hx) hb ha hd hs)
  intro m
  induction m with
  | zero =>
    intro n h a b hb ha hd hz
    refine leaf 0 n h a b hb ha hd ?_
    cases b with
    | tup l => obtain ⟨k, e, _⟩ := hb.tup; omega
    | lst l => obtain ⟨k, e, _⟩ := hb.lst; omega
    | _ => rfl
  | succ m ih =>
    intro n h a b hb ha hd hz
    cases b with
    | tup ds =>
      refine call_p (fd := fd282) (e := eB) (V := lawEq a (.tup ds)) [some a, some (.tup ds), none] rfl rfl (by rw [nors, ha, nors, hb.1]; rfl) rfl ?_
      refine xs_no (evB_of (ev_cmp (ev_var rfl) ev_cst rfl)) (xs_no (evB_of (ev_isi (ev_var rfl) rfl)) (xs_no (evB_of (ev_isi (ev_var rfl) rfl)) (xs_no (evB_of (ev_isi (ev_var rfl) rfl)) ?_)))
      obtain ⟨k, e, hb'⟩ := hb.tup
      cases e
      rw [bz, Bool.and_eq_true] at hz
      cases a with
      | tup as =>
        refine xs_no (evB_and (evBA_T (evB_of (ev_isi (ev_var rfl) rfl)) (evBA_one (evB_not (c := true) (evB_of (ev_isi (ev_var rfl) rfl)))))) (xs_no (evB_and (evBA_F (evB_of (ev_isi (ev_var rfl) rfl)))) ?_)
        rw [nor] at ha
        obtain ⟨j, ej⟩ := hd
        rw [dep] at ej
        obtain ⟨i, ei, _⟩ := Option.map_eq_some_iff.mp ej
        rw [lawEq]
        exact eq_node (t := true) hb' ha ⟨i, ei⟩ (of_decide_eq_true hz.1) fun a b p0 p1 p2 p3 => ih n [] a b p1 p2 p3 (bzs_mem hz.2 p0)
      | _ => exact xs_yes (evB_and (evBA_T (evB_of (ev_isi (ev_var rfl) rfl)) (evBA_one (evB_not (c := false) (evB_of (ev_isi (ev_var rfl) (ty_ok ha))))))) (ret_no (by simp [lawEq]))
    | lst ds =>
      refine call_p (fd := fd282) (e := eB) (V := lawEq a (.lst ds)) [some a, some (.lst ds), none] rfl rfl (by rw [nors, ha, nors, hb.1]; rfl) rfl ?_
      refine xs_no (evB_of (ev_cmp (ev_var rfl) ev_cst rfl)) (xs_no (evB_of (ev_isi (ev_var rfl) rfl)) (xs_no (evB_of (ev_isi (ev_var rfl) rfl)) (xs_no (evB_of (ev_isi (ev_var rfl) rfl)) ?_)))
      obtain ⟨k, e, hb'⟩ := hb.lst
      cases e
      rw [bz, Bool.and_eq_true] at hz
      cases a with
      | lst as =>
        refine xs_no (evB_and (evBA_F (evB_of (ev_isi (ev_var rfl) rfl)))) (xs_no (evB_and (evBA_T (evB_of (ev_isi (ev_var rfl) rfl)) (evBA_one (evB_not (c := true) (evB_of (ev_isi (ev_var rfl) rfl)))))) ?_)
        rw [nor] at ha
        obtain ⟨j, ej⟩ := hd
        rw [dep] at ej
        obtain ⟨i, ei, _⟩ := Option.map_eq_some_iff.mp ej
        rw [lawEq]
        exact eq_node (t := false) hb' ha ⟨i, ei⟩ (of_decide_eq_true hz.1) fun a b p0 p1 p2 p3 => ih n [] a b p1 p2 p3 (bzs_mem hz.2 p0)
      | _ => exact xs_no (evB_and (evBA_F (evB_of (ev_isi (ev_var rfl) rfl)))) <| xs_yes (evB_and (evBA_T (evB_of (ev_isi (ev_var rfl) rfl)) (evBA_one (evB_not (c := false) (evB_of (ev_isi (ev_var rfl) (ty_ok ha))))))) (ret_no (by simp [lawEq]))
    | _ => exact leaf (m + 1) n h _ _ hb ha hd rfl
/-! ### typed -/
class Lq {α : Type} [DecidableEq α] (e : α → PV) : Prop where
  eq : ∀ a b, lawEq (e a) (e b) = decide (a = b)
  z : ∀ a, (e a = .non) = False
instance : Lq eI := ⟨fun a b => by show (a == b) = _; by_cases h : a = b <;> simp [h], fun a => by simp⟩
instance : Lq eB := ⟨fun a b => by show (a == b) = _; by_cases h : a = b <;> simp [h], fun a => by simp⟩
instance : Lq eS := ⟨fun a b => by
  show (a.s == b.s) = _
  rw [str_beq']
  by_cases h : a = b
  · subst h; simp
  · have : a.s ≠ b.s := fun z => h (by cases a; cases b; simp at z; simp [z])
    simp [h, this], fun a => by simp [eS]⟩
theorem lawEqs_map {α : Type} [DecidableEq α] {e : α → PV} [Lq e] : ∀ a b : List α, lawEqs (a.map e) (b.map e) = decide (a = b)
  | [], [] => rfl
  | [], _ :: _ => by simp [lawEqs]
  | _ :: _, [] => by simp [lawEqs]
  | x :: xs, y :: ys => by
    rw [List.map_cons, List.map_cons, lawEqs, Lq.eq, lawEqs_map xs ys]
    by_cases h1 : x = y <;> by_cases h2 : xs = ys <;> simp [h1, h2]
instance {α : Type} [DecidableEq α] {e : α → PV} [Lq e] : Lq (eT e) := ⟨fun a b => by rw [eT, eT, lawEq, lawEqs_map], fun a => by simp [eT]⟩
instance {α : Type} [DecidableEq α] {e : α → PV} [Lq e] : Lq (eL e) := ⟨fun a b => by rw [eL, eL, lawEq, lawEqs_map], fun a => by simp [eL]⟩
instance {α β : Type} [DecidableEq α] [DecidableEq β] {e : α → PV} {f : β → PV} [Lq e] [Lq f] : Lq (eP2 e f) := ⟨fun a b => by
  obtain ⟨a1, a2⟩ := a; obtain ⟨b1, b2⟩ := b
  simp only [eP2, lawEq, lawEqs, Lq.eq]
  by_cases h1 : a1 = b1 <;> by_cases h2 : a2 = b2 <;> simp [h1, h2], fun a => by simp [eP2]⟩
instance {α β γ : Type} [DecidableEq α] [DecidableEq β] [DecidableEq γ] {e : α → PV} {f : β → PV} {g : γ → PV} [Lq e] [Lq f] [Lq g] : Lq (eP3 e f g) := ⟨fun a b => by
  obtain ⟨a1, a2, a3⟩ := a; obtain ⟨b1, b2, b3⟩ := b
  simp only [eP3, lawEq, lawEqs, Lq.eq]
  by_cases h1 : a1 = b1 <;> by_cases h2 : a2 = b2 <;> by_cases h3 : a3 = b3 <;> simp [h1, h2, h3], fun a => by simp [eP3]⟩
theorem lawEq_o {α : Type} [DecidableEq α] {e : α → PV} [Lq e] (a b : Option α) : lawEq (eO e a) (eO e b) = decide (a = b) := by
  cases b with
  | none => cases a <;> simp [eO, lawEq, Lq.z]
  | some b =>
    cases a with
    | some a => simp [eO, Lq.eq]
    | none =>
      simp only [eO]
      have : ∀ p : PV, p ≠ .non → lawEq .non p = false := by
        intro p hp
        cases p <;> simp [lawEq] at hp ⊢
      rw [this _ (by simp [Lq.z])]
      simp
/-! ### the law -/
theorem o_stream {P : Prog} [c : HasF P 229 fd229] {n : Nat} {ns : List Int} : callN P (n + 1) 229 [.scr ns] [] = .ok (.ref 0) [eM (st0 ns)] := by
  rw [call_eq' c.e]; rfl
theorem call_law {P : Prog} {k n : Nat} {fd : FnD} [c : HasF P k fd] {V : Bool} {ns : List Int} (σ : Env) (hr : fd.raw = false) (hl : [PV.scr ns].length = fd.np) (hσ : [PV.scr ns].map some ++ List.replicate (fd.nl - fd.np) none = σ)
    (hQ : RtG (Gp eB) V (exs P (callN P n) none fd.body σ [])) : callN P (n + 1) k [.scr ns] [] = .ok (eB V) [] := by
  rw [call_eq' c.e]
  unfold runFn
  rw [if_pos hl, if_neg (by rw [hr]; simp [nors, nor]), hσ]
  obtain ⟨l, q⟩ := hQ
  rcases q with ⟨p, q, z⟩ | ⟨p, σ', q⟩
  · rw [q]
    show leave fd.raw [] _ p = _
    unfold leave
    rw [hr, if_neg (by decide), if_pos (by rfl)]
    rw [show frz ([] : MHp).length _ p = some (eB V) from z]; rfl
  · cases p
end Qm

/-! V6: the laws' own picks. -/
namespace Qm
open PySem (Str)
theorem o_equal' {P : Prog} [HasF P 16 fd16] [HasF P 282 fd282] (m n : Nat) (h : MHp) (a b : PV) (hb : Dq m b) (ha : Dq m a) (hz : bz b = true) : callN P (n + m + 2) 282 [a, b] h = .ok (eB (lawEq a b)) h :=
  o_equal m n h a b hb ha.1 ⟨_, ha.2.choose_spec.1⟩ hz
theorem o_isintA {P : Prog} [HasF P 16 fd16] (n : Nat) (h : MHp) (x : NV) : callN P (n + 1) 16 [eA x] h = .ok (eB (isInt x)) h := by
  rw [o_isint n h (eA x) x.n]; rfl
def sv (s : String) (h : (Str.ofString s).cps.all (· < 0x110000) = true := by decide +kernel) : SV := ⟨Str.ofString s, h⟩
theorem xs_asg_new {P : Prog} {F : Fn} {cx : Option MX} {σ : Env} {h h1 : MHp} {Q : SRes → Prop} {r : MSs} {e : ME} {t : MT} {v : PV} (σ' : Env) (v' : PV) (h' : MHp) (he : ev P F cx e σ h = .ok v h1) (hv : v = v') (hh : h1 = h') (ht : asgT t v' σ = some σ') (hr : Q (exs P F cx r σ' h')) : Q (exs P F cx (.cons (.asg t e) r) σ h) := by
  subst hv hh
  exact xs_asg σ' he ht hr
theorem cget {s : Sm} {rest cells : MHp} (k : Nat) {o : MO} (h : cells[k]? = some o) : (eM s :: (rest ++ cells))[rest.length + (k + 1)]? = some o := by
  rw [show rest.length + (k + 1) = (rest.length + k) + 1 from rfl, List.getElem?_cons_succ, List.getElem?_append_right (by omega), Nat.add_sub_cancel_left]
  exact h
theorem citems {s : Sm} {rest cells : MHp} (k : Nat) {l : List PV} (h : cells[k]? = some (.lst l)) : (itemsL (.ref (rest.length + (k + 1))) (eM s :: (rest ++ cells))).isSome = true := by
  simp only [itemsL, cget k h]; rfl
theorem cset {s : Sm} {rest cells cells' : MHp} (k : Nat) {o : MO} (h : cells.set k o = cells') : (eM s :: (rest ++ cells)).set (rest.length + (k + 1)) o = eM s :: (rest ++ cells') := by
  rw [show rest.length + (k + 1) = (rest.length + k) + 1 from rfl, List.set_cons_succ, List.set_append_right _ _ (by omega), Nat.add_sub_cancel_left, h]
theorem cnew {s : Sm} {rest cells cells' : MHp} {o : MO} (h : cells ++ [o] = cells') : (eM s :: (rest ++ cells)) ++ [o] = eM s :: (rest ++ cells') := by
  rw [List.cons_append, List.append_assoc, h]
theorem cref {s : Sm} {rest cells : MHp} (k : Nat) (h : cells.length = k) : PV.ref (eM s :: (rest ++ cells)).length = .ref (rest.length + (k + 1)) := by
  rw [List.length_cons, List.length_append, h]; rfl
section
variable {P : Prog} {F : Fn} {cx : Option MX} {σ : Env} {h h1 : MHp} {Q : SRes → Prop} {r : MSs} {a : ME} {α : Type} {e : α → PV}
theorem xs_appT {i n : Nat} {y : α} {l : List α} (h' : MHp) (hv : σ[i]? = some (some (.ref n))) (he : ev P F cx a σ h = .ok (e y) h1) (hn0 : (itemsL (.ref n) h).isSome = true) (hn : h1[n]? = some (.lst (l.map e))) (hl : l.length < 16777216) (hh : h1.set n (.lst ((l ++ [y]).map e)) = h') (hr : Q (exs P F cx r σ h')) : Q (exs P F cx (.cons (.exp (.mth .append (.var i) (.cons a .nil))) r) σ h) :=
  xs_app h' hv he hn0 hn (by rw [List.length_map]; exact hl) (by rw [← hh, List.map_append]; rfl) hr
theorem xs_extT {i n : Nat} {l l2 : List α} (h' : MHp) (hv : σ[i]? = some (some (.ref n))) (he : ev P F cx a σ h = .ok (eL e l2) h1) (hn0 : (itemsL (.ref n) h).isSome = true) (hn : h1[n]? = some (.lst (l.map e))) (hl : BigOk l.length l2.length) (hh : h1.set n (.lst ((l ++ l2).map e)) = h') (hr : Q (exs P F cx r σ h')) : Q (exs P F cx (.cons (.exp (.mth .extend (.var i) (.cons a .nil))) r) σ h) :=
  xs_ext (ys := l2.map e) h' hv he hn0 rfl hn (by rw [List.length_map, List.length_map]; exact hl) (by rw [← hh, List.map_append]) hr
end
section
variable {P : Prog} {F : Fn} {cx : Option MX} {σ : Env} {h h1 h2 : MHp} {a b : ME} {α β : Type} {e : α → PV} {f : β → PV}
theorem zipL_map : ∀ (xs : List α) (ys : List β), zipL (xs.map e) (ys.map f) = (List.zip xs ys).map (eP2 e f)
  | [], _ => by simp [zipL]
  | _ :: _, [] => by simp [zipL]
  | x :: xs, y :: ys => by simp [zipL, zipL_map xs ys, eP2]
theorem evI_zipL {xs : List α} {ys : List β} (ha : ev P F cx a σ h = .ok (eL e xs) h1) (hb : ev P F cx b σ h1 = .ok (eL f ys) h2) : evI P F cx (.zip a b) σ h = .ok ⟨(List.zip xs ys).map (eP2 e f), []⟩ h2 := by
  rw [evI, ha, Res.bind_ok, hb, Res.bind_ok]
  show ofOpt (some (⟨zipL (xs.map e) (ys.map f), _⟩ : Wk)) h2 = _
  rw [zipL_map]; rfl
theorem evI_zipT {xs : List α} {ys : List β} (ha : ev P F cx a σ h = .ok (eT e xs) h1) (hb : ev P F cx b σ h1 = .ok (eT f ys) h2) : evI P F cx (.zip a b) σ h = .ok ⟨(List.zip xs ys).map (eP2 e f), []⟩ h2 := by
  rw [evI, ha, Res.bind_ok, hb, Res.bind_ok]
  show ofOpt (some (⟨zipL (xs.map e) (ys.map f), _⟩ : Wk)) h2 = _
  rw [zipL_map]; rfl
theorem evI_rvdL {xs : List α} (ha : ev P F cx a σ h = .ok (eL e xs) h1) : evI P F cx (.rvd a) σ h = .ok ⟨xs.reverse.map e, []⟩ h1 := by
  rw [evI, ha, Res.bind_ok, List.map_reverse]; rfl
theorem evI_rvdT {xs : List α} (ha : ev P F cx a σ h = .ok (eT e xs) h1) : evI P F cx (.rvd a) σ h = .ok ⟨xs.reverse.map e, []⟩ h1 := by
  rw [evI, ha, Res.bind_ok, List.map_reverse]; rfl
end
theorem sP4_1 {α β γ δ : Type} {e : α → PV} {f : β → PV} {g : γ → PV} {k : δ → PV} {v : α × β × γ × δ} {h : MHp} : slice (eP4 e f g k v) (some 1) none h = some (eP3 f g k v.2) := rfl
theorem sP4_2 {α β γ δ : Type} {e : α → PV} {f : β → PV} {g : γ → PV} {k : δ → PV} {v : α × β × γ × δ} {h : MHp} : slice (eP4 e f g k v) (some 2) none h = some (eP2 g k v.2.2) := rfl
theorem sP3_1 {α β γ : Type} {e : α → PV} {f : β → PV} {g : γ → PV} {v : α × β × γ} {h : MHp} : slice (eP3 e f g v) (some 1) none h = some (eP2 f g v.2) := rfl
theorem ev_coLo {P : Prog} {F : Fn} {cx : Option MX} {σ : Env} {h h1 : MHp} {a : ME} {α : Type} {e : α → PV} {l : List α} (he : ev P F cx a σ h = .ok (eL e l) h1) : ev P F cx a σ h = .ok (eL (eO e) (l.map some)) h1 :=
  ev_cast he (by unfold eL; rw [List.map_map]; rfl)
theorem ev_coTo {P : Prog} {F : Fn} {cx : Option MX} {σ : Env} {h h1 : MHp} {a : ME} {α : Type} {e : α → PV} {l : List α} (he : ev P F cx a σ h = .ok (eT e l) h1) : ev P F cx a σ h = .ok (eT (eO e) (l.map some)) h1 :=
  ev_cast he (by unfold eT; rw [List.map_map]; rfl)
/-- told as a tuple -/
class Tp {α : Type} (e : α → PV) : Prop where
  tp : ∀ a, ∃ l, e a = .tup l
instance {α : Type} {e : α → PV} : Tp (eT e) := ⟨fun _ => ⟨_, rfl⟩⟩
instance {α : Type} {e : α → PV} : Tp (eP1 e) := ⟨fun _ => ⟨_, rfl⟩⟩
instance {α β : Type} {e : α → PV} {f : β → PV} : Tp (eP2 e f) := ⟨fun _ => ⟨_, rfl⟩⟩
instance {α β γ : Type} {e : α → PV} {f : β → PV} {g : γ → PV} : Tp (eP3 e f g) := ⟨fun _ => ⟨_, rfl⟩⟩
instance {α β γ δ : Type} {e : α → PV} {f : β → PV} {g : γ → PV} {k : δ → PV} : Tp (eP4 e f g k) := ⟨fun _ => ⟨_, rfl⟩⟩
theorem c_ord {α : Type} {e : α → PV} {d : Nat} [Tp e] [Fl e d] [Al e] {a b : α} {h : MHp} (hd : d ≤ 60) : ∀ o, (match o with | .lt => true | .le => true | .gt => true | .ge => true | _ => false) = true → cop o (e a) (e b) h = (match o with | .lt => some (pLt (e a) (e b)) | .gt => some (pLt (e b) (e a)) | .le => some (!pLt (e b) (e a)) | .ge => some (!pLt (e a) (e b)) | _ => none) := by
  intro o ho
  obtain ⟨l, e1⟩ := Tp.tp (e := e) a
  obtain ⟨m, e2⟩ := Tp.tp (e := e) b
  have f1 := fl_flat (e := e) hd a
  have f2 := fl_flat (e := e) hd b
  have al := Al.al (e := e) a b
  rw [e1] at f1 al
  rw [e2] at f2 al
  rw [alikeP] at al
  rw [e1, e2]
  have g : ∀ o, ordS o (.tup l) (.tup m) = ordT o l m := fun o => by
    show (if flatD (.tup l) && flatD (.tup m) && alikePs l m then ordT o l m else none) = _
    rw [f1, f2, al]; rfl
  cases o <;> first | (cases ho; done) | (show ordS _ (.tup l) (.tup m) = _; rw [g]; simp only [pLt]; rfl)
theorem c_ltE {α : Type} {e : α → PV} {d : Nat} [Tp e] [Fl e d] [Al e] {a b : α} {h : MHp} (hd : d ≤ 60 := by decide) : cop .lt (e a) (e b) h = some (pLt (e a) (e b)) := c_ord hd .lt rfl
theorem c_gtE {α : Type} {e : α → PV} {d : Nat} [Tp e] [Fl e d] [Al e] {a b : α} {h : MHp} (hd : d ≤ 60 := by decide) : cop .gt (e a) (e b) h = some (pLt (e b) (e a)) := c_ord hd .gt rfl
theorem c_leE {α : Type} {e : α → PV} {d : Nat} [Tp e] [Fl e d] [Al e] {a b : α} {h : MHp} (hd : d ≤ 60 := by decide) : cop .le (e a) (e b) h = some (!pLt (e b) (e a)) := c_ord hd .le rfl
theorem c_geE {α : Type} {e : α → PV} {d : Nat} [Tp e] [Fl e d] [Al e] {a b : α} {h : MHp} (hd : d ≤ 60 := by decide) : cop .ge (e a) (e b) h = some (!pLt (e a) (e b)) := c_ord hd .ge rfl
/-- _law_pick -/
def fd232 : FnD := ⟨2, 2, false,
  (.cons (.ret (.ix (.var 1) (.call 230 (.cons (.var 0) (.cons (.bif .len (.cons (.var 1) .nil)) .nil))))) .nil)⟩
def pick {α : Type} [Inhabited α] (s : Sm) (l : List α) : α × Sm := (gt l (nx s l.length).1, (nx s l.length).2)
theorem pick_in {s : Sm} {n : Nat} (h : DrOk n) : InR n (nx s n).1 := by
  have h1 := nx_ge s h.1
  have h2 := nx_lt s h.1
  exact ⟨by omega, h2⟩
section
variable {P : Prog} [HasF P 230 fd230] [HasF P 232 fd232] {α : Type} [Inhabited α] {e : α → PV} [Nr e] {l : List α} {s : Sm} {rest : MHp}
theorem o_pickL (n : Nat) (d : DrOk l.length) : callN P (n + 2) 232 [.ref 0, eL e l] (eM s :: rest) = .ok (e (pick s l).1) (eM (pick s l).2 :: rest) := by
  refine call_s (fd := fd232) (e := e) (V := pick s l) [some (.ref 0), some (eL e l)] rfl rfl rfl rfl ?_
  rw [show (eM s :: rest) = eM s :: (rest ++ []) from by rw [List.append_nil]]
  exact xs_ret (ev_ix (ev_var rfl) (ev_call (evs_cons (ev_var rfl) (evs_cons (ev_bif (evs_cons (ev_var rfl) evs_nil) b_lenL) evs_nil)) (o_next d)) (i_L (pick_in d))) (rt_s [])
theorem o_pickT (n : Nat) (d : DrOk l.length) : callN P (n + 2) 232 [.ref 0, eT e l] (eM s :: rest) = .ok (e (pick s l).1) (eM (pick s l).2 :: rest) := by
  refine call_s (fd := fd232) (e := e) (V := pick s l) [some (.ref 0), some (eT e l)] rfl rfl rfl rfl ?_
  rw [show (eM s :: rest) = eM s :: (rest ++ []) from by rw [List.append_nil]]
  exact xs_ret (ev_ix (ev_var rfl) (ev_call (evs_cons (ev_var rfl) (evs_cons (ev_bif (evs_cons (ev_var rfl) evs_nil) b_lenT) evs_nil)) (o_next d)) (i_T (pick_in d))) (rt_s [])
theorem o_pickR (n : Nat) {k : Nat} (hk : rest[k]? = some (.lst (l.map e))) (d : DrOk l.length) : callN P (n + 2) 232 [.ref 0, .ref (k + 1)] (eM s :: rest) = .ok (e (pick s l).1) (eM (pick s l).2 :: rest) := by
  refine call_s (fd := fd232) (e := e) (V := pick s l) [some (.ref 0), some (.ref (k + 1))] rfl rfl rfl rfl ?_
  rw [show (eM s :: rest) = eM s :: (rest ++ []) from by rw [List.append_nil]]
  have e1 : ∀ s : Sm, (eM s :: (rest ++ []))[k + 1]? = some (.lst (l.map e)) := fun s => by rw [List.append_nil]; exact hk
  have e2 : ∀ s : Sm, (eM s :: rest)[k + 1]? = some (.lst (l.map e)) := fun s => hk
  refine xs_ret (ev_ix (ev_var rfl) (ev_call (evs_cons (ev_var rfl) (evs_cons (ev_bif (evs_cons (ev_var rfl) evs_nil) (b_lenR (e1 _))) evs_nil)) (o_next d)) (i_R (e1 _) (pick_in d))) (rt_s [])
end
end Qm

/-! V7: dicts. -/
namespace Qm
open PySem (Str)
class Ko {α : Type} (e : α → PV) (t : outParam Bool) : Prop where
  ok : ∀ a, keyOk t (e a) = true
instance : Ko eI false := ⟨fun _ => rfl⟩
instance : Ko eS false := ⟨fun _ => rfl⟩
instance : Ko (eT eI) true := ⟨fun l => by
  show (l.map eI).all _ = true
  rw [List.all_map]
  exact List.all_eq_true.mpr fun _ _ => rfl⟩
instance : Ko (eP2 eI eI) true := ⟨fun _ => rfl⟩
instance : Ko (eP3 eI eI eI) true := ⟨fun _ => rfl⟩
section
variable {α β : Type} [DecidableEq α] {e : α → PV} {f : β → PV}
def dget [Inhabited β] (l : List (α × β)) (k : α) : β := ((l.find? fun p => decide (p.1 = k)).map Prod.snd).getD default
def dgetD (l : List (α × β)) (k : α) (d : β) : β := ((l.find? fun p => decide (p.1 = k)).map Prod.snd).getD d
def dhas (l : List (α × β)) (k : α) : Bool := l.any fun p => decide (p.1 = k)
def dset (l : List (α × β)) (k : α) (v : β) : List (α × β) := if dhas l k = true then l.map (fun p => if p.1 = k then (p.1, v) else p) else l ++ [(k, v)]
/-- the cell of a dict -/
def cD (t : Bool) (e : α → PV) (f : β → PV) (l : List (α × β)) : MO := .dic t (l.map fun p => e p.1) (l.map fun p => f p.2)
theorem lookK_map [Ke e] (k : α) : ∀ l : List (α × β), lookK (l.map fun p => e p.1) (l.map fun p => f p.2) (e k) = ((l.find? fun p => decide (p.1 = k)).map Prod.snd).map f
  | [] => rfl
  | (a, b) :: r => by
    rw [List.map_cons, List.map_cons, lookK, Ke.eq, List.find?_cons]
    by_cases h : a = k
    · subst h; simp
    · simp only [h, decide_false, Bool.false_eq_true, if_false]
      exact lookK_map k r
theorem find_has {l : List (α × β)} {k : α} (h : dhas l k = true) : ∃ p, (l.find? fun p => decide (p.1 = k)) = some p := by
  obtain ⟨p, hp, hk⟩ := List.any_eq_true.mp h
  cases e : l.find? fun p => decide (p.1 = k) with
  | some q => exact ⟨q, rfl⟩
  | none => have := List.find?_eq_none.mp e p hp; exact (this hk).elim
theorem keys_any [Ke e] (k : α) (l : List (α × β)) : ((l.map fun p => e p.1).any fun z => peq z (e k)) = dhas l k := by
  rw [List.any_map]
  unfold dhas
  congr 1
  funext p
  exact Ke.eq _ _
variable {h : MHp}
theorem asDic_ref {n : Nat} {t : Bool} {ks vs : List PV} (hn : h[n]? = some (.dic t ks vs)) : asDic (.ref n) h = some (t, ks, vs) := by simp only [asDic, hn]
theorem itemsT_dic {n : Nat} {t : Bool} {ks vs : List PV} (hn : h[n]? = some (.dic t ks vs)) : itemsT (.ref n) h = none := by simp only [itemsT, hn]
theorem i_DR [Inhabited β] [Ke e] {t : Bool} [Ko e t] {n : Nat} {l : List (α × β)} {k : α} (hn : h[n]? = some (cD t e f l)) (hk : dhas l k = true) : index (.ref n) (e k) h = some (f (dget l k)) := by
  show indexR (.ref n) (e k) h = _
  unfold indexR
  rw [itemsT_dic hn, asDic_ref hn]
  dsimp only
  rw [if_pos (Ko.ok k), lookK_map]
  obtain ⟨p, hp⟩ := find_has hk
  unfold dget
  rw [hp]; rfl
theorem i_D [Inhabited β] [Ke e] {t : Bool} [Ko e t] {l : List (α × β)} {k : α} (hk : dhas l k = true) : index (eD t e f l) (e k) h = some (f (dget l k)) := by
  show (if keyOk t (e k) then lookK _ _ (e k) else none) = _
  rw [if_pos (Ko.ok k), lookK_map]
  obtain ⟨p, hp⟩ := find_has hk
  unfold dget
  rw [hp]; rfl
theorem c_inDR [Ke e] {t : Bool} [Ko e t] {n : Nat} {l : List (α × β)} {k : α} (hn : h[n]? = some (cD t e f l)) : cop .isin (e k) (.ref n) h = some (dhas l k) := by
  show isinR (e k) (.ref n) h = _
  unfold isinR
  rw [itemsT_dic hn, asDic_ref hn]
  dsimp only
  rw [if_pos (Ko.ok k), keys_any]
theorem c_inD [Ke e] {t : Bool} [Ko e t] {l : List (α × β)} {k : α} : cop .isin (e k) (eD t e f l) h = some (dhas l k) := by
  show (if keyOk t (e k) then some (List.any _ _) else none) = _
  rw [if_pos (Ko.ok k), keys_any]
theorem repV_map [Ke e] (k : α) (v : β) : ∀ l : List (α × β), repV (l.map fun p => e p.1) (l.map fun p => f p.2) (e k) (f v) = (l.map fun p => if p.1 = k then (p.1, v) else p).map fun p => f p.2
  | [] => rfl
  | (a, b) :: r => by
    rw [List.map_cons, List.map_cons, repV, Ke.eq, List.map_cons, List.map_cons, repV_map k v r]
    by_cases h : a = k
    · subst h; simp
    · simp [h]
theorem setK_map [Ke e] (l : List (α × β)) (k : α) (v : β) : setK (l.map fun p => e p.1) (l.map fun p => f p.2) (e k) (f v) = ((dset l k v).map (fun p => e p.1), (dset l k v).map fun p => f p.2) := by
  unfold setK dset
  rw [keys_any]
  by_cases h : dhas l k = true
  · rw [if_pos h, if_pos h, repV_map]
    congr 1
    rw [List.map_map]
    refine List.map_congr_left fun p _ => ?_
    show e p.1 = e (if p.1 = k then (p.1, v) else p).1
    by_cases q : p.1 = k
    · rw [if_pos q]
    · rw [if_neg q]
  · rw [if_neg h, if_neg h]; simp
theorem st_D [Ke e] {t : Bool} [Ko e t] {n : Nat} {l : List (α × β)} {k : α} {v : β} (hn : h[n]? = some (cD t e f l)) (hl : l.length < 16777216) : storeIx (.ref n) (e k) (f v) h = some (h.set n (cD t e f (dset l k v))) := by
  show (match h[n]? with | some (.lst xs) => _ | some (.dic t ks vs) => if keyOk t (e k) && decide (ks.length < big) then some (h.set n (.dic t (setK ks vs (e k) (f v)).1 (setK ks vs (e k) (f v)).2)) else none | _ => none) = _
  rw [hn]
  show (if keyOk t (e k) && decide ((l.map fun p => e p.1).length < big) then _ else none) = _
  rw [Ko.ok k, List.length_map, decide_eq_true (show l.length < big from hl), if_pos (by rfl), setK_map]
  rfl
variable {P : Prog} {F : Fn} {cx : Option MX} {σ : Env} {h1 h2 : MHp}
theorem ev_dc1m {t : Bool} {k v : ME} {a : α} {b : β} [Ko e false] (hk : ev P F cx k σ h = .ok (e a) h1) (hv : ev P F cx v σ h1 = .ok (f b) h2) : ev P F cx (.dc1 true k v) σ h = .ok (.ref h2.length) (h2 ++ [cD false e f [(a, b)]]) := by
  rw [ev, hk]
  dsimp only
  rw [hv]
  dsimp only
  rw [if_pos (Ko.ok a)]; rfl
theorem ev_dc0mD {t : Bool} : ev P F cx (.dc0 true t) σ h = .ok (.ref h.length) (h ++ [cD t e f ([] : List (α × β))]) := ev_dc0m
theorem evI_seqQ {α : Type} {e : α → PV} {a : ME} {q : PV} {xs : List α} (ha : ev P F cx a σ h = .ok q h1) (hq : itemsT q h1 = some (xs.map e)) : evI P F cx (.seq a) σ h = .ok ⟨xs.map e, srcOf q (xs.map e)⟩ h1 := by rw [evI, ha, Res.bind_ok, hq]; rfl
theorem rt_pD {α β : Type} {e : α → PV} {f : β → PV} [Nr e] [Nr f] {t : Bool} {l : List (α × β)} {n : Nat} {h : MHp} (hn : h[n]? = some (cD t e f l)) : RtG (Gp (eD t e f)) l (.rt (.ref n) h) := ⟨h, .inl ⟨.ref n, rfl, by
  show frzG 0 h 4 n = _
  unfold frzG
  rw [if_neg (by omega), hn]
  show (match frzTs _ _, frzTs _ _ with | some a, some b => some (PV.dic t a b) | _, _ => none) = _
  rw [frzTs_id (nors_mapf (f := fun p : α × β => e p.1) (fun a => Nr.nor _) l), frzTs_id (nors_mapf (f := fun p : α × β => f p.2) (fun a => Nr.nor _) l)]; rfl⟩⟩
end
theorem c_isNN {h : MHp} : cop .isN .non .non h = some true := by show some (decide (PV.non = PV.non)) = _; rw [decide_eq_true rfl]
theorem c_isBB {a b : Bool} {h : MHp} : cop .isN (eB a) (eB b) h = some (decide (a = b)) := rfl
theorem c_notBB {a b : Bool} {h : MHp} : cop .notN (eB a) (eB b) h = some (!decide (a = b)) := rfl
theorem c_notNN {h : MHp} : cop .notN .non .non h = some false := by show some (!decide (PV.non = PV.non)) = _; rw [decide_eq_true rfl]; rfl
theorem ev_unO {α : Type} [Inhabited α] {e : α → PV} {o : Option α} {P : Prog} {F : Fn} {cx : Option MX} {σ : Env} {h h1 : MHp} {a : ME} (ha : ev P F cx a σ h = .ok (eO e o) h1) (hs : o.isSome = true) : ev P F cx a σ h = .ok (e (o.getD default)) h1 := by
  cases o with
  | none => cases hs
  | some x => exact ha
/-! a tuple of some things -/
theorem tup2_of {α : Type} [Inhabited α] {e : α → PV} {l : List α} (h : l.length = 2) : eT e l = eP2 e e (gt l 0, gt l 1) := by
  match l, h with
  | [a, b], _ => rfl
theorem tup3_of {α : Type} [Inhabited α] {e : α → PV} {l : List α} (h : l.length = 3) : eT e l = eP3 e e e (gt l 0, gt l 1, gt l 2) := by
  match l, h with
  | [a, b, c], _ => rfl
/-! enumerate -/
def enm {α : Type} : Nat → List α → List (Int × α)
  | _, [] => []
  | n, x :: r => ((n : Int), x) :: enm (n + 1) r
theorem enumL_map {α : Type} {e : α → PV} : ∀ (l : List α) (n : Nat), enumL n (l.map e) = (enm n l).map (eP2 eI e)
  | [], _ => rfl
  | x :: r, n => by rw [List.map_cons, enumL, enm, List.map_cons, enumL_map r]; rfl
section
variable {α : Type} {e : α → PV} {P : Prog} {F : Fn} {cx : Option MX} {σ : Env} {h h1 : MHp} {a : ME} {xs : List α}
theorem evI_enuT (ha : ev P F cx a σ h = .ok (eT e xs) h1) : evI P F cx (.enu a) σ h = .ok ⟨(enm 0 xs).map (eP2 eI e), []⟩ h1 := by rw [evI, ha, Res.bind_ok, ← enumL_map]; rfl
theorem evI_enuL (ha : ev P F cx a σ h = .ok (eL e xs) h1) : evI P F cx (.enu a) σ h = .ok ⟨(enm 0 xs).map (eP2 eI e), []⟩ h1 := by rw [evI, ha, Res.bind_ok, ← enumL_map]; rfl
theorem evI_enuR {n : Nat} (ha : ev P F cx a σ h = .ok (.ref n) h1) (hn : h1[n]? = some (.lst (xs.map e))) : evI P F cx (.enu a) σ h = .ok ⟨(enm 0 xs).map (eP2 eI e), [(n, .lst (xs.map e))]⟩ h1 := by
  rw [evI, ha, Res.bind_ok, ← enumL_map]
  simp only [itemsT, hn]
  rfl
end
theorem mem_enm {α : Type} : ∀ {l : List α} {n : Nat} {q : Int × α}, q ∈ enm n l ↔ ∃ i : Nat, q.1 = ((n + i : Nat) : Int) ∧ l[i]? = some q.2
  | [], n, q => by simp [enm]
  | x :: r, n, q => by
    rw [enm, List.mem_cons, mem_enm (l := r)]
    constructor
    · rintro (h | ⟨i, h1, h2⟩)
      · subst h; exact ⟨0, rfl, rfl⟩
      · exact ⟨i + 1, by rw [h1, show n + 1 + i = n + (i + 1) from by omega], by simpa using h2⟩
    · rintro ⟨i, h1, h2⟩
      cases i with
      | zero =>
        left
        have h2 : x = q.2 := by simpa using h2
        exact Prod.ext h1 h2.symm
      | succ i => exact .inr ⟨i, by rw [h1, show n + 1 + i = n + (i + 1) from by omega], by simpa using h2⟩
/-! membership, as a test -/
section
variable {α : Type} {e : α → PV} {h : MHp}
def memb [DecidableEq α] (x : α) (l : List α) : Bool := l.any fun y => decide (y = x)
theorem memb_iff [DecidableEq α] {x : α} {l : List α} : memb x l = true ↔ x ∈ l := by
  unfold memb
  rw [List.any_eq_true]
  constructor
  · rintro ⟨y, h1, h2⟩
    have := of_decide_eq_true h2
    exact this ▸ h1
  · intro h; exact ⟨x, h, decide_eq_true rfl⟩
theorem memb_dec [DecidableEq α] (x : α) (l : List α) [i : Decidable (x ∈ l)] : memb x l = decide (x ∈ l) := by
  by_cases h : x ∈ l
  · rw [memb_iff.mpr h]; exact (decide_eq_true h).symm
  · rw [Bool.eq_false_iff.mpr fun q => h (memb_iff.mp q)]; exact (decide_eq_false h).symm
theorem c_inmT {d : Nat} [DecidableEq α] [Nr e] [Fl e d] [Ke e] {x : α} {l : List α} (hd : d ≤ 60 := by decide) : cop .isin (e x) (eT e l) h = some (memb x l) := by rw [c_inT hd, memb_dec]
theorem c_inmL {d : Nat} [DecidableEq α] [Nr e] [Fl e d] [Ke e] {x : α} {l : List α} (hd : d ≤ 60 := by decide) : cop .isin (e x) (eL e l) h = some (memb x l) := by rw [c_inL hd, memb_dec]
theorem c_inmR {d : Nat} [DecidableEq α] [Nr e] [Fl e d] [Ke e] {x : α} {n : Nat} {l : List α} (hn : h[n]? = some (.lst (l.map e))) (hd : d ≤ 60 := by decide) : cop .isin (e x) (.ref n) h = some (memb x l) := by rw [c_inR hn hd, memb_dec]
end
/-! plain facts about dicts that grow -/
section
variable {α β : Type} [DecidableEq α]
theorem dhas_map {γ : Type} (g : α → γ) (K : List α) (k : α) : dhas (K.map fun x => (x, g x)) k = decide (k ∈ K) := by
  unfold dhas
  rw [List.any_map]
  by_cases h : k ∈ K
  · rw [decide_eq_true h]
    exact List.any_eq_true.mpr ⟨k, h, by simp⟩
  · rw [decide_eq_false h]
    refine List.any_eq_false.mpr fun x hx => ?_
    simp
    exact fun e => h (e ▸ hx)
theorem dget_map [Inhabited β] (g : α → β) {K : List α} {k : α} (h : k ∈ K) : dget (K.map fun x => (x, g x)) k = g k := by
  unfold dget
  obtain ⟨p, hp⟩ := find_has (l := K.map fun x => (x, g x)) (k := k) (by rw [dhas_map]; exact decide_eq_true h)
  rw [hp]
  have h1 := List.find?_some hp
  have h2 := List.mem_of_find?_eq_some hp
  obtain ⟨x, _, rfl⟩ := List.mem_map.mp h2
  have : x = k := of_decide_eq_true h1
  subst this
  rfl
theorem dset_new {l : List (α × β)} {k : α} (v : β) (h : dhas l k = false) : dset l k v = l ++ [(k, v)] := by unfold dset; rw [if_neg (by rw [h]; decide)]
theorem dset_map {g : α → β} {K : List α} {k : α} (h : k ∉ K) : dset (K.map fun x => (x, g x)) k (g k) = (K ++ [k]).map fun x => (x, g x) := by
  rw [dset_new _ (by rw [dhas_map]; exact decide_eq_false h), List.map_append]; rfl
end
end Qm

namespace Qm
/-- is_whole(value, low, high): 0 value 1 low 2 high -/
def fd0 : FnD := ⟨3, 3, false,
  (.cons (.ret (.and (.cons (.isi .int (.var 0)) (.cons (.not (.isi .bool (.var 0))) (.cons (.chn .le .le (.var 1) (.var 0) (.var 2)) .nil))))) .nil)⟩
/-- is_whole -/
@[irreducible] def v_is_whole (value : NV) (low : Int) (high : Int) : Bool :=
  ((isY .int value) && ((!(isY .bool value)) && (decide (low ≤ (nI value)) && decide ((nI value) ≤ high))))
@[irreducible] def d_is_whole (value : NV) (low : Int) (high : Int) : Prop :=
  ((isY .int value) = true → ((!(isY .bool value)) = true → (eA value = eI (nI value)) ∧ (True)) ∧ (True)) ∧ (True)
theorem o_is_whole {P : Prog} [HasF P 0 fd0] (n : Nat) (h : MHp) (value : NV) (low : Int) (high : Int) (D : d_is_whole value low high) : callN P (n + 1) 0 [eA value, eI low, eI high] h = .ok (eB (v_is_whole value low high)) h := by
  refine call_p (fd := fd0) (e := eB) (V := v_is_whole value low high) [some (eA value), some (eI low), some (eI high)] rfl rfl (nors_c (e := eA) (nors_c (e := eI) (nors_c (e := eI) rfl))) rfl ?_
  unfold d_is_whole at D
  unfold v_is_whole
  exact xs_ret (ev_and (evA_cons (ev_isi (ev_var rfl) isY_ok) (fun hc => (fun D_ => (evA_cons (ev_not (evB_of (ev_isi (ev_var rfl) isY_ok))) (fun hc => (fun D_2 => (evA_one (ev_chn (ev_var rfl) (ev_cast (ev_var rfl) D_2.1) c_le (fun _ => ⟨(ev_var rfl), c_le⟩)))) (D_.1 hc)))) (D.1 hc)))) (rt_p)
/-- is_paper(value): 0 value 1 mark -/
def fd279 : FnD := ⟨1, 2, false,
  (.cons (.ite (.or (.cons (.not (.isi .tuple (.var 0))) (.cons (.not (.chn .le .le (.cst (.int 1)) (.bif .len (.cons (.var 0) .nil)) (.glb 2))) .nil))) (.cons (.ret (.cst (.bl false))) .nil) .nil) (.cons (.ite (.not (.bif .all (.cons (.lc [1] (.call 0 (.cons (.var 1) (.cons (.cst (.int 0)) (.cons (.bin .sub (.bif .len (.cons (.var 0) .nil)) (.cst (.int 1))) .nil)))) (.nm 1) (.seq (.var 0)) .nil) .nil))) (.cons (.ret (.cst (.bl false))) .nil) .nil) (.cons (.ret (.bif .all (.cons (.lc [1] (.cmp .eq (.ix (.var 0) (.ix (.var 0) (.var 1))) (.var 1)) (.nm 1) (.rng (.cons (.bif .len (.cons (.var 0) .nil)) .nil)) .nil) .nil))) .nil)))⟩
/-- is_paper -/
@[irreducible] def v_is_paper (value : NV) : Bool :=
  if ((!(isY .tuple value)) || (!(decide ((1 : Int) ≤ ((nT value).length : Int)) && decide (((nT value).length : Int) ≤ (6 : Int))))) = true then (false) else (if (!(((nT value).map fun mark => (v_is_whole mark (0 : Int) (((nT value).length : Int) - (1 : Int)))).all id)) = true then (false) else ((((rng 0 ((nT value).length : Int)).map fun mark2 => peq (eA (gt (nT value) (nI (gt (nT value) mark2)))) (eI mark2)).all id)))
@[irreducible] def d_is_paper (value : NV) : Prop :=
  ((!(isY .tuple value)) = false → (eA value = (eT eA) (nT value)) ∧ (True)) ∧ ((((!(isY .tuple value)) || (!(decide ((1 : Int) ≤ ((nT value).length : Int)) && decide (((nT value).length : Int) ≤ (6 : Int))))) = true → True) ∧ (((!(isY .tuple value)) || (!(decide ((1 : Int) ≤ ((nT value).length : Int)) && decide (((nT value).length : Int) ≤ (6 : Int))))) = false → (eA value = (eT eA) (nT value)) ∧ ((∀ mark ∈ (nT value), (eA value = (eT eA) (nT value)) ∧ ((d_is_whole mark (0 : Int) (((nT value).length : Int) - (1 : Int))) ∧ (True))) ∧ (((!(((nT value).map fun mark => (v_is_whole mark (0 : Int) (((nT value).length : Int) - (1 : Int)))).all id)) = true → True) ∧ ((!(((nT value).map fun mark => (v_is_whole mark (0 : Int) (((nT value).length : Int) - (1 : Int)))).all id)) = false → (eA value = (eT eA) (nT value)) ∧ ((RngOk 0 ((nT value).length : Int)) ∧ ((∀ mark2 ∈ (rng 0 ((nT value).length : Int)), (eA value = (eT eA) (nT value)) ∧ ((eA value = (eT eA) (nT value)) ∧ ((InR (nT value).length mark2) ∧ ((eA (gt (nT value) mark2) = eI (nI (gt (nT value) mark2))) ∧ ((InR (nT value).length (nI (gt (nT value) mark2))) ∧ ((flatD (eA (gt (nT value) (nI (gt (nT value) mark2)))) = true ∧ flatD (eI mark2) = true) ∧ (True))))))) ∧ (True))))))))
theorem o_is_paper {P : Prog} [HasF P 0 fd0] [HasF P 279 fd279] [HasC P 2 (.int 6)] (n : Nat) (h : MHp) (value : NV) (D : d_is_paper value) : callN P (n + 2) 279 [eA value] h = .ok (eB (v_is_paper value)) h := by
  refine call_p (fd := fd279) (e := eB) (V := v_is_paper value) [some (eA value), none] rfl rfl (nors_c (e := eA) rfl) rfl ?_
  unfold d_is_paper at D
  unfold v_is_paper
  refine xs_ite (evB_or (evBO_cons (evB_not (evB_of (ev_isi (ev_var rfl) isY_ok))) (fun hc => (fun D_ => (evBO_one (evB_not (evB_of (ev_chn ev_cst (ev_bif (evs_cons (ev_cast (ev_var rfl) D_.1) evs_nil) (b_lenT (e := eA) (l := (nT value)))) c_le (fun _ => ⟨ev_glb, c_le⟩)))))) (D.1 hc)))) (fun hc2 => ?_) (fun hc2 => ?_)
  · exact xs_ret ev_cst (rt_p)
  · have D_4 := D.2.2 hc2
    refine xs_ite (evB_not (evB_of (ev_bif (evs_cons (ev_lc (e := eA) (g := eB) (xs := (nT value)) (f := fun mark => (v_is_whole mark (0 : Int) (((nT value).length : Int) - (1 : Int)))) (evI_seqT (e := eA) (xs := (nT value)) (ev_cast (ev_var rfl) D_4.1)) rfl (fun mark hx => (fun D_5 => ⟨[some (eA value), some (eA mark)], rfl, (ev_call (evs_cons (ev_var rfl) (evs_cons ev_cst (evs_cons (ev_bin (ev_bif (evs_cons (ev_cast (ev_var rfl) D_5.1) evs_nil) (b_lenT (e := eA) (l := (nT value)))) ev_cst o_sub) evs_nil))) (o_is_whole (n + 0) _ mark (0 : Int) (((nT value).length : Int) - (1 : Int)) D_5.2.1))⟩) (D_4.2.1 mark hx))) evs_nil) (b_all (l := ((nT value).map fun mark => (v_is_whole mark (0 : Int) (((nT value).length : Int) - (1 : Int))))))))) (fun hc => ?_) (fun hc => ?_)
    · exact xs_ret ev_cst (rt_p)
    · have D_7 := D_4.2.2.2 hc
      exact xs_ret (ev_bif (evs_cons (ev_lc (e := eI) (g := eB) (xs := (rng 0 ((nT value).length : Int))) (f := fun mark2 => peq (eA (gt (nT value) (nI (gt (nT value) mark2)))) (eI mark2)) (evI_rng (evs_cons (ev_bif (evs_cons (ev_cast (ev_var rfl) D_7.1) evs_nil) (b_lenT (e := eA) (l := (nT value)))) evs_nil) (range1 D_7.2.1)) rfl (fun mark2 hx => (fun D_8 => ⟨[some (eA value), some (eI mark2)], rfl, (ev_cmp (ev_ix (ev_cast (ev_var rfl) D_8.1) (ev_cast (ev_ix (ev_cast (ev_var rfl) D_8.2.1) (ev_var rfl) (i_T (e := eA) (l := (nT value)) D_8.2.2.1)) D_8.2.2.2.1) (i_T (e := eA) (l := (nT value)) D_8.2.2.2.2.1)) (ev_var rfl) (c_eqA (Nr.nor (e := eA) _) (Nr.nor (e := eI) _) D_8.2.2.2.2.2.1.1 D_8.2.2.2.2.2.1.2))⟩) (D_7.2.2.1 mark2 hx))) evs_nil) (b_all (l := ((rng 0 ((nT value).length : Int)).map fun mark2 => peq (eA (gt (nT value) (nI (gt (nT value) mark2)))) (eI mark2))))) (rt_p)
/-- are_marks(paper, value): 0 paper 1 value 2 mark -/
def fd280 : FnD := ⟨2, 3, false,
  (.cons (.ret (.and (.cons (.isi .tuple (.var 1)) (.cons (.bif .all (.cons (.lc [2] (.call 0 (.cons (.var 2) (.cons (.cst (.int 0)) (.cons (.bin .sub (.bif .len (.cons (.var 0) .nil)) (.cst (.int 1))) .nil)))) (.nm 2) (.seq (.var 1)) .nil) .nil)) .nil)))) .nil)⟩
/-- are_marks -/
@[irreducible] def v_are_marks (paper : List Int) (value : NV) : Bool :=
  ((isY .tuple value) && (((nT value).map fun mark => (v_is_whole mark (0 : Int) ((paper.length : Int) - (1 : Int)))).all id))
@[irreducible] def d_are_marks (paper : List Int) (value : NV) : Prop :=
  ((isY .tuple value) = true → (eA value = (eT eA) (nT value)) ∧ ((∀ mark ∈ (nT value), (d_is_whole mark (0 : Int) ((paper.length : Int) - (1 : Int))) ∧ (True)) ∧ (True))) ∧ (True)
theorem o_are_marks {P : Prog} [HasF P 0 fd0] [HasF P 280 fd280] (n : Nat) (h : MHp) (paper : List Int) (value : NV) (D : d_are_marks paper value) : callN P (n + 2) 280 [(eT eI) paper, eA value] h = .ok (eB (v_are_marks paper value)) h := by
  refine call_p (fd := fd280) (e := eB) (V := v_are_marks paper value) [some ((eT eI) paper), some (eA value), none] rfl rfl (nors_c (e := (eT eI)) (nors_c (e := eA) rfl)) rfl ?_
  unfold d_are_marks at D
  unfold v_are_marks
  exact xs_ret (ev_and (evA_cons (ev_isi (ev_var rfl) isY_ok) (fun hc => (fun D_ => (evA_one (ev_bif (evs_cons (ev_lc (e := eA) (g := eB) (xs := (nT value)) (f := fun mark => (v_is_whole mark (0 : Int) ((paper.length : Int) - (1 : Int)))) (evI_seqT (e := eA) (xs := (nT value)) (ev_cast (ev_var rfl) D_.1)) rfl (fun mark hx => (fun D_2 => ⟨[some ((eT eI) paper), some (eA value), some (eA mark)], rfl, (ev_call (evs_cons (ev_var rfl) (evs_cons ev_cst (evs_cons (ev_bin (ev_bif (evs_cons (ev_var rfl) evs_nil) (b_lenT (e := eI) (l := paper))) ev_cst o_sub) evs_nil))) (o_is_whole (n + 0) _ mark (0 : Int) ((paper.length : Int) - (1 : Int)) D_2.1))⟩) (D_.2.1 mark hx))) evs_nil) (b_all (l := ((nT value).map fun mark => (v_is_whole mark (0 : Int) ((paper.length : Int) - (1 : Int))))))))) (D.1 hc)))) (rt_p)
/-- is_sequence(paper, value): 0 paper 1 value -/
def fd281 : FnD := ⟨2, 2, false,
  (.cons (.ret (.and (.cons (.call 280 (.cons (.var 0) (.cons (.var 1) .nil))) (.cons (.cmp .le (.bif .len (.cons (.var 1) .nil)) (.glb 3)) .nil)))) .nil)⟩
/-- is_sequence -/
@[irreducible] def v_is_sequence (paper : List Int) (value : NV) : Bool :=
  ((v_are_marks paper value) && decide (((nT value).length : Int) ≤ (16 : Int)))
@[irreducible] def d_is_sequence (paper : List Int) (value : NV) : Prop :=
  (d_are_marks paper value) ∧ (((v_are_marks paper value) = true → (eA value = (eT eA) (nT value)) ∧ (True)) ∧ (True))
theorem o_is_sequence {P : Prog} [HasF P 0 fd0] [HasF P 280 fd280] [HasF P 281 fd281] [HasC P 3 (.int 16)] (n : Nat) (h : MHp) (paper : List Int) (value : NV) (D : d_is_sequence paper value) : callN P (n + 3) 281 [(eT eI) paper, eA value] h = .ok (eB (v_is_sequence paper value)) h := by
  refine call_p (fd := fd281) (e := eB) (V := v_is_sequence paper value) [some ((eT eI) paper), some (eA value)] rfl rfl (nors_c (e := (eT eI)) (nors_c (e := eA) rfl)) rfl ?_
  unfold d_is_sequence at D
  unfold v_is_sequence
  exact xs_ret (ev_and (evA_cons (ev_call (evs_cons (ev_var rfl) (evs_cons (ev_var rfl) evs_nil)) (o_are_marks (n + 0) _ paper value D.1)) (fun hc => (fun D_ => (evA_one (ev_cmp (ev_bif (evs_cons (ev_cast (ev_var rfl) D_.1) evs_nil) (b_lenT (e := eA) (l := (nT value)))) ev_glb c_le))) (D.2.1 hc)))) (rt_p)
/-- check_paper(paper): 0 paper -/
def fd285 : FnD := ⟨1, 1, false,
  (.cons (.ite (.not (.call 279 (.cons (.var 0) .nil))) (.cons (.rai 1 (.cons (.cst (.str "paper")) .nil)) .nil) .nil) .nil)⟩
/-- check_paper -/
@[irreducible] def v_check_paper (paper : List Int) : Unit :=
  if (!(v_is_paper (toA (eT eI) paper))) = true then ((default : Unit)) else (())
@[irreducible] def d_check_paper (paper : List Int) : Prop :=
  (d_is_paper (toA (eT eI) paper)) ∧ (((!(v_is_paper (toA (eT eI) paper))) = true → False) ∧ ((!(v_is_paper (toA (eT eI) paper))) = false → True))
theorem o_check_paper {P : Prog} [HasF P 0 fd0] [HasF P 279 fd279] [HasF P 285 fd285] [HasC P 2 (.int 6)] (n : Nat) (h : MHp) (paper : List Int) (D : d_check_paper paper) : callN P (n + 3) 285 [(eT eI) paper] h = .ok (eN (v_check_paper paper)) h := by
  refine call_p (fd := fd285) (e := eN) (V := v_check_paper paper) [some ((eT eI) paper)] rfl rfl (nors_c (e := (eT eI)) rfl) rfl ?_
  unfold d_check_paper at D
  unfold v_check_paper
  refine xs_ite (evB_not (evB_of (ev_call (evs_cons (ev_var rfl) evs_nil) (o_is_paper (n + 0) _ (toA (eT eI) paper) D.1)))) (fun hc => ?_) (fun hc => ?_)
  · have D_ := D.2.1 hc
    exact D_.elim
  · exact xs_nil rt_pN
/-- check_sequence(paper, sequence): 0 paper 1 sequence -/
def fd286 : FnD := ⟨2, 2, false,
  (.cons (.exp (.call 285 (.cons (.var 0) .nil))) (.cons (.ite (.not (.call 281 (.cons (.var 0) (.cons (.var 1) .nil)))) (.cons (.rai 1 (.cons (.cst (.str "sequence")) .nil)) .nil) .nil) .nil))⟩
/-- check_sequence -/
@[irreducible] def v_check_sequence (paper : List Int) (sequence : List Int) : Unit :=
  if (!(v_is_sequence paper (toA (eT eI) sequence))) = true then ((default : Unit)) else (())
@[irreducible] def d_check_sequence (paper : List Int) (sequence : List Int) : Prop :=
  (d_check_paper paper) ∧ ((d_is_sequence paper (toA (eT eI) sequence)) ∧ (((!(v_is_sequence paper (toA (eT eI) sequence))) = true → False) ∧ ((!(v_is_sequence paper (toA (eT eI) sequence))) = false → True)))
theorem o_check_sequence {P : Prog} [HasF P 0 fd0] [HasF P 279 fd279] [HasF P 280 fd280] [HasF P 281 fd281] [HasF P 285 fd285] [HasF P 286 fd286] [HasC P 2 (.int 6)] [HasC P 3 (.int 16)] (n : Nat) (h : MHp) (paper : List Int) (sequence : List Int) (D : d_check_sequence paper sequence) : callN P (n + 4) 286 [(eT eI) paper, (eT eI) sequence] h = .ok (eN (v_check_sequence paper sequence)) h := by
  refine call_p (fd := fd286) (e := eN) (V := v_check_sequence paper sequence) [some ((eT eI) paper), some ((eT eI) sequence)] rfl rfl (nors_c (e := (eT eI)) (nors_c (e := (eT eI)) rfl)) rfl ?_
  unfold d_check_sequence at D
  unfold v_check_sequence
  refine xs_exp (ev_call (evs_cons (ev_var rfl) evs_nil) (o_check_paper (n + 0) _ paper D.1)) ?_
  refine xs_ite (evB_not (evB_of (ev_call (evs_cons (ev_var rfl) (evs_cons (ev_var rfl) evs_nil)) (o_is_sequence (n + 0) _ paper (toA (eT eI) sequence) D.2.1)))) (fun hc => ?_) (fun hc => ?_)
  · have D_ := D.2.2.1 hc
    exact D_.elim
  · exact xs_nil rt_pN
/-- reflected_of(paper, sequence): 0 paper 1 sequence 2 mark -/
def fd315 : FnD := ⟨2, 3, false,
  (.cons (.ret (.bif .tuple (.cons (.lc [2] (.ix (.var 0) (.var 2)) (.nm 2) (.seq (.rev (.var 1))) .nil) .nil))) .nil)⟩
/-- reflected_of -/
@[irreducible] def v_reflected_of (paper : List Int) (sequence : List Int) : List Int :=
  (sequence.reverse.map fun mark => (gt paper mark))
@[irreducible] def d_reflected_of (paper : List Int) (sequence : List Int) : Prop :=
  (∀ mark ∈ sequence.reverse, (InR paper.length mark) ∧ (True)) ∧ (True)
theorem o_reflected_of {P : Prog} [HasF P 315 fd315] (n : Nat) (h : MHp) (paper : List Int) (sequence : List Int) (D : d_reflected_of paper sequence) : callN P (n + 1) 315 [(eT eI) paper, (eT eI) sequence] h = .ok ((eT eI) (v_reflected_of paper sequence)) h := by
  refine call_p (fd := fd315) (e := (eT eI)) (V := v_reflected_of paper sequence) [some ((eT eI) paper), some ((eT eI) sequence), none] rfl rfl (nors_c (e := (eT eI)) (nors_c (e := (eT eI)) rfl)) rfl ?_
  unfold d_reflected_of at D
  unfold v_reflected_of
  exact xs_ret (ev_bif (evs_cons (ev_lc (e := eI) (g := eI) (xs := sequence.reverse) (f := fun mark => (gt paper mark)) (evI_seqT (e := eI) (xs := sequence.reverse) (ev_rev (ev_var rfl) (r_T (e := eI) (l := sequence)))) rfl (fun mark hx => (fun D_ => ⟨[some ((eT eI) paper), some ((eT eI) sequence), some (eI mark)], rfl, (ev_ix (ev_var rfl) (ev_var rfl) (i_T (e := eI) (l := paper) D_.1))⟩) (D.1 mark hx))) evs_nil) (b_tupL (e := eI) (l := (sequence.reverse.map fun mark => (gt paper mark))))) (rt_p)
/-- reflected(paper, sequence): 0 paper 1 sequence -/
def fd316 : FnD := ⟨2, 2, false,
  (.cons (.exp (.call 286 (.cons (.var 0) (.cons (.var 1) .nil)))) (.cons (.ret (.call 315 (.cons (.var 0) (.cons (.var 1) .nil)))) .nil))⟩
/-- reflected -/
@[irreducible] def v_reflected (paper : List Int) (sequence : List Int) : List Int :=
  (v_reflected_of paper sequence)
@[irreducible] def d_reflected (paper : List Int) (sequence : List Int) : Prop :=
  (d_check_sequence paper sequence) ∧ ((d_reflected_of paper sequence) ∧ (True))
theorem o_reflected {P : Prog} [HasF P 0 fd0] [HasF P 279 fd279] [HasF P 280 fd280] [HasF P 281 fd281] [HasF P 285 fd285] [HasF P 286 fd286] [HasF P 315 fd315] [HasF P 316 fd316] [HasC P 2 (.int 6)] [HasC P 3 (.int 16)] (n : Nat) (h : MHp) (paper : List Int) (sequence : List Int) (D : d_reflected paper sequence) : callN P (n + 5) 316 [(eT eI) paper, (eT eI) sequence] h = .ok ((eT eI) (v_reflected paper sequence)) h := by
  refine call_p (fd := fd316) (e := (eT eI)) (V := v_reflected paper sequence) [some ((eT eI) paper), some ((eT eI) sequence)] rfl rfl (nors_c (e := (eT eI)) (nors_c (e := (eT eI)) rfl)) rfl ?_
  unfold d_reflected at D
  unfold v_reflected
  refine xs_exp (ev_call (evs_cons (ev_var rfl) (evs_cons (ev_var rfl) evs_nil)) (o_check_sequence (n + 0) _ paper sequence D.1)) ?_
  exact xs_ret (ev_call (evs_cons (ev_var rfl) (evs_cons (ev_var rfl) evs_nil)) (o_reflected_of (n + 3) _ paper sequence D.2.1)) (rt_p)
/-- own_marks(paper): 0 paper 1 mark -/
def fd349 : FnD := ⟨1, 2, false,
  (.cons (.exp (.call 285 (.cons (.var 0) .nil))) (.cons (.ret (.bif .tuple (.cons (.lc [1] (.var 1) (.nm 1) (.rng (.cons (.bif .len (.cons (.var 0) .nil)) .nil)) (.cons (.cmp .eq (.ix (.var 0) (.var 1)) (.var 1)) .nil)) .nil))) .nil))⟩
/-- own_marks -/
@[irreducible] def v_own_marks (paper : List Int) : List Int :=
  (((rng 0 (paper.length : Int)).filter fun mark => decide ((gt paper mark) = mark)).map fun mark => mark)
@[irreducible] def d_own_marks (paper : List Int) : Prop :=
  (d_check_paper paper) ∧ ((RngOk 0 (paper.length : Int)) ∧ ((∀ mark ∈ (rng 0 (paper.length : Int)), (InR paper.length mark) ∧ (True)) ∧ (True)))
theorem o_own_marks {P : Prog} [HasF P 0 fd0] [HasF P 279 fd279] [HasF P 285 fd285] [HasF P 349 fd349] [HasC P 2 (.int 6)] (n : Nat) (h : MHp) (paper : List Int) (D : d_own_marks paper) : callN P (n + 4) 349 [(eT eI) paper] h = .ok ((eT eI) (v_own_marks paper)) h := by
  refine call_p (fd := fd349) (e := (eT eI)) (V := v_own_marks paper) [some ((eT eI) paper), none] rfl rfl (nors_c (e := (eT eI)) rfl) rfl ?_
  unfold d_own_marks at D
  unfold v_own_marks
  refine xs_exp (ev_call (evs_cons (ev_var rfl) evs_nil) (o_check_paper (n + 0) _ paper D.1)) ?_
  exact xs_ret (ev_bif (evs_cons (ev_lcf (e := eI) (g := eI) (xs := (rng 0 (paper.length : Int))) (p := fun mark => decide ((gt paper mark) = mark)) (f := fun mark => mark) (evI_rng (evs_cons (ev_bif (evs_cons (ev_var rfl) evs_nil) (b_lenT (e := eI) (l := paper))) evs_nil) (range1 D.2.1)) rfl (fun mark hx => (fun D_ => ⟨[some ((eT eI) paper), some (eI mark)], rfl, (evB_of (ev_cmp (ev_ix (ev_var rfl) (ev_var rfl) (i_T (e := eI) (l := paper) D_.1)) (ev_var rfl) (c_eq (e := eI) (a := (gt paper mark)) (b := mark)))), (fun _ => (ev_var rfl))⟩) (D.2.2.1 mark hx))) evs_nil) (b_tupL (e := eI) (l := (((rng 0 (paper.length : Int)).filter fun mark => decide ((gt paper mark) = mark)).map fun mark => mark)))) (rt_p)
/-- mark_pairs(paper): 0 paper 1 mark -/
def fd350 : FnD := ⟨1, 2, false,
  (.cons (.exp (.call 285 (.cons (.var 0) .nil))) (.cons (.ret (.bif .tuple (.cons (.lc [1] (.tup (.cons (.var 1) (.cons (.ix (.var 0) (.var 1)) .nil))) (.nm 1) (.rng (.cons (.bif .len (.cons (.var 0) .nil)) .nil)) (.cons (.cmp .lt (.var 1) (.ix (.var 0) (.var 1))) .nil)) .nil))) .nil))⟩
/-- mark_pairs -/
@[irreducible] def v_mark_pairs (paper : List Int) : List (Int × Int) :=
  (((rng 0 (paper.length : Int)).filter fun mark => decide (mark < (gt paper mark))).map fun mark => (mark, (gt paper mark)))
@[irreducible] def d_mark_pairs (paper : List Int) : Prop :=
  (d_check_paper paper) ∧ ((RngOk 0 (paper.length : Int)) ∧ ((∀ mark ∈ (rng 0 (paper.length : Int)), (InR paper.length mark) ∧ (((decide (mark < (gt paper mark))) = true → (InR paper.length mark) ∧ (True)) ∧ (True))) ∧ (True)))
theorem o_mark_pairs {P : Prog} [HasF P 0 fd0] [HasF P 279 fd279] [HasF P 285 fd285] [HasF P 350 fd350] [HasC P 2 (.int 6)] (n : Nat) (h : MHp) (paper : List Int) (D : d_mark_pairs paper) : callN P (n + 4) 350 [(eT eI) paper] h = .ok ((eT (eP2 eI eI)) (v_mark_pairs paper)) h := by
  refine call_p (fd := fd350) (e := (eT (eP2 eI eI))) (V := v_mark_pairs paper) [some ((eT eI) paper), none] rfl rfl (nors_c (e := (eT eI)) rfl) rfl ?_
  unfold d_mark_pairs at D
  unfold v_mark_pairs
  refine xs_exp (ev_call (evs_cons (ev_var rfl) evs_nil) (o_check_paper (n + 0) _ paper D.1)) ?_
  exact xs_ret (ev_bif (evs_cons (ev_lcf (e := eI) (g := (eP2 eI eI)) (xs := (rng 0 (paper.length : Int))) (p := fun mark => decide (mark < (gt paper mark))) (f := fun mark => (mark, (gt paper mark))) (evI_rng (evs_cons (ev_bif (evs_cons (ev_var rfl) evs_nil) (b_lenT (e := eI) (l := paper))) evs_nil) (range1 D.2.1)) rfl (fun mark hx => (fun D_ => ⟨[some ((eT eI) paper), some (eI mark)], rfl, (evB_of (ev_cmp (ev_var rfl) (ev_ix (ev_var rfl) (ev_var rfl) (i_T (e := eI) (l := paper) D_.1)) c_lt)), (fun hc => (fun D_2 => (ev_tup (evs_cons (ev_var rfl) (evs_cons (ev_ix (ev_var rfl) (ev_var rfl) (i_T (e := eI) (l := paper) D_2.1)) evs_nil)))) (D_.2.1 hc))⟩) (D.2.2.1 mark hx))) evs_nil) (b_tupL (e := (eP2 eI eI)) (l := (((rng 0 (paper.length : Int)).filter fun mark => decide (mark < (gt paper mark))).map fun mark => (mark, (gt paper mark)))))) (rt_p)
/-- _law_paper(_law_stream_here, _law_most): 0 _law_stream_here 1 _law_most 2 _law_many 3 _law_left 4 _law_paper_here 5 _law_turn 6 _law_one 7 _law_other -/
def fd233 : FnD := ⟨2, 8, false,
  (.cons (.asg (.nm 2) (.bin .add (.cst (.int 1)) (.call 230 (.cons (.var 0) (.cons (.var 1) .nil))))) (.cons (.asg (.nm 3) (.lrg true (.cons (.var 2) .nil))) (.cons (.asg (.nm 4) (.lrg true (.cons (.var 2) .nil))) (.cons (.for (.nm 5) (.rng (.cons (.bin .fdv (.var 2) (.cst (.int 2))) .nil)) (.cons (.ite (.cmp .eq (.call 230 (.cons (.var 0) (.cons (.cst (.int 2)) .nil))) (.cst (.int 1))) (.cons (.asg (.nm 6) (.mth .popAt (.var 3) (.cons (.call 230 (.cons (.var 0) (.cons (.bif .len (.cons (.var 3) .nil)) .nil))) .nil))) (.cons (.asg (.nm 7) (.mth .popAt (.var 3) (.cons (.call 230 (.cons (.var 0) (.cons (.bif .len (.cons (.var 3) .nil)) .nil))) .nil))) (.cons (.stx (.var 4) (.var 6) (.var 7)) (.cons (.stx (.var 4) (.var 7) (.var 6)) .nil)))) .nil) .nil)) (.cons (.ret (.bif .tuple (.cons (.var 4) .nil))) .nil)))))⟩
@[irreducible] def v_l_paper_L_ (st_ : (List Int) × (List Int) × Sm) (turn : Int) : (List Int) × (List Int) × Sm :=
  let r2 : Int × Sm := nx st_.2.2 (2 : Int); let q : (List Int) × (List Int) × Sm := if (decide (r2.1 = (1 : Int))) = true then (let r7 : Int × Sm := nx r2.2 (st_.1.length : Int); let one3 : Int := (gt st_.1 r7.1); let left6 : List Int := (delAt st_.1 r7.1); let r8 : Int × Sm := nx r7.2 (left6.length : Int); let other3 : Int := (gt left6 r8.1); let left7 : List Int := (delAt left6 r8.1); let paper_here6 : List Int := (setAt st_.2.1 one3 other3); let paper_here7 : List Int := (setAt paper_here6 other3 one3); (left7, paper_here7, r8.2)) else ((st_.1, st_.2.1, r2.2)); (q.1, q.2.1, q.2.2)
@[irreducible] def d_l_paper_L_ (st_ : (List Int) × (List Int) × Sm) (turn : Int) : Prop :=
  let r2 : Int × Sm := nx st_.2.2 (2 : Int); (((decide (r2.1 = (1 : Int))) = true → (DrOk (st_.1.length : Int)) ∧ (let r7 : Int × Sm := nx r2.2 (st_.1.length : Int); (InR st_.1.length r7.1) ∧ (let one3 : Int := (gt st_.1 r7.1); let left6 : List Int := (delAt st_.1 r7.1); (DrOk (left6.length : Int)) ∧ (let r8 : Int × Sm := nx r7.2 (left6.length : Int); (InR left6.length r8.1) ∧ (let other3 : Int := (gt left6 r8.1); let left7 : List Int := (delAt left6 r8.1); (InR st_.2.1.length one3) ∧ (let paper_here6 : List Int := (setAt st_.2.1 one3 other3); (InR paper_here6.length other3) ∧ (let paper_here7 : List Int := (setAt paper_here6 other3 one3); True))))))) ∧ ((decide (r2.1 = (1 : Int))) = false → True)) ∧ (let q : (List Int) × (List Int) × Sm := if (decide (r2.1 = (1 : Int))) = true then (let r7 : Int × Sm := nx r2.2 (st_.1.length : Int); let one3 : Int := (gt st_.1 r7.1); let left6 : List Int := (delAt st_.1 r7.1); let r8 : Int × Sm := nx r7.2 (left6.length : Int); let other3 : Int := (gt left6 r8.1); let left7 : List Int := (delAt left6 r8.1); let paper_here6 : List Int := (setAt st_.2.1 one3 other3); let paper_here7 : List Int := (setAt paper_here6 other3 one3); (left7, paper_here7, r8.2)) else ((st_.1, st_.2.1, r2.2)); True)
/-- _law_paper -/
@[irreducible] def v_l_paper (s : Sm) (most : Int) : (List Int) × Sm :=
  let r : Int × Sm := nx s most; let many : Int := ((1 : Int) + r.1); let left : List Int := (rng 0 many); let paper_here : List Int := (rng 0 many); let q2 : (List Int) × (List Int) × Sm := List.foldl v_l_paper_L_ ((left, paper_here, r.2) : (List Int) × (List Int) × Sm) (rng 0 (many / (2 : Int))); (q2.2.1, q2.2.2)
@[irreducible] def d_l_paper (s : Sm) (most : Int) : Prop :=
  (DrOk most) ∧ (let r : Int × Sm := nx s most; let many : Int := ((1 : Int) + r.1); (RngOk 0 many) ∧ (let left : List Int := (rng 0 many); (RngOk 0 many) ∧ (let paper_here : List Int := (rng 0 many); (RngOk 0 (many / (2 : Int))) ∧ ((FoldD v_l_paper_L_ d_l_paper_L_ ((left, paper_here, r.2) : (List Int) × (List Int) × Sm) (rng 0 (many / (2 : Int)))) ∧ (let q2 : (List Int) × (List Int) × Sm := List.foldl v_l_paper_L_ ((left, paper_here, r.2) : (List Int) × (List Int) × Sm) (rng 0 (many / (2 : Int))); True)))))
theorem o_l_paper {P : Prog} [HasF P 230 fdNext] [HasF P 233 fd233] (n : Nat) (rest : MHp) (s : Sm) (most : Int) (D : d_l_paper s most) : callN P (n + 2) 233 [.ref 0, eI most] (eM s :: rest) = .ok ((eT eI) (v_l_paper s most).1) (eM (v_l_paper s most).2 :: rest) := by
  refine call_s (fd := fd233) (e := (eT eI)) (V := v_l_paper s most) [some (.ref 0), some (eI most), none, none, none, none, none, none] rfl rfl rfl rfl ?_
  rw [show (eM s :: rest) = eM s :: (rest ++ []) from by rw [List.append_nil]]
  unfold d_l_paper at D
  unfold v_l_paper
  let r : Int × Sm := nx s most
  let many : Int := ((1 : Int) + r.1)
  refine xs_asg [some (.ref 0), some (eI most), some (eI many), none, none, none, none, none] (ev_bin ev_cst (ev_call (evs_cons (ev_var rfl) (evs_cons (ev_var rfl) evs_nil)) (o_next D.1)) o_add) rfl ?_
  let left : List Int := (rng 0 many)
  refine xs_asg_new [some (.ref 0), some (eI most), some (eI many), some (.ref (rest.length + 1)), none, none, none, none] (.ref (rest.length + 1)) (eM r.2 :: (rest ++ [.lst (left.map eI)])) (ev_lrgm (evs_cons (ev_var rfl) evs_nil) (range1 D.2.1)) (cref 0 rfl) (cnew rfl) rfl ?_
  let paper_here : List Int := (rng 0 many)
  refine xs_asg_new [some (.ref 0), some (eI most), some (eI many), some (.ref (rest.length + 1)), some (.ref (rest.length + 2)), none, none, none] (.ref (rest.length + 2)) (eM r.2 :: (rest ++ [.lst (left.map eI), .lst (paper_here.map eI)])) (ev_lrgm (evs_cons (ev_var rfl) evs_nil) (range1 D.2.2.1)) (cref 1 rfl) (cnew rfl) rfl ?_
  refine xs_for (e := eI) (xs := (rng 0 (many / (2 : Int)))) (fun (w2 : (List Int) × (List Int) × Sm) (J : Jk) => [some (.ref 0), some (eI most), some (eI many), some (.ref (rest.length + 1)), some (.ref (rest.length + 2)), J 5, J 6, J 7]) (fun (w2 : (List Int) × (List Int) × Sm) => (eM w2.2.2 :: (rest ++ [.lst (List.map eI w2.1), .lst (List.map eI w2.2.1)]))) v_l_paper_L_ d_l_paper_L_ ((left, paper_here, r.2) : (List Int) × (List Int) × Sm) (fun n => ([some (.ref 0), some (eI most), some (eI many), some (.ref (rest.length + 1)), some (.ref (rest.length + 2)), none, none, none] : Env).getD n none) (evI_rng (evs_cons (ev_bin (ev_var rfl) ev_cst (o_fdv (by decide))) evs_nil) (range1 D.2.2.2.1)) rfl rfl (fun _ => rfl) D.2.2.2.2.1 ?_ ?_
  · intro st_ J_ turn D
    refine ⟨[some (.ref 0), some (eI most), some (eI many), some (.ref (rest.length + 1)), some (.ref (rest.length + 2)), some (eI turn), J_ 6, J_ 7], rfl, ?_⟩
    unfold d_l_paper_L_ at D
    unfold v_l_paper_L_
    let r2 : Int × Sm := nx st_.2.2 (2 : Int)
    refine xs_join (S1 := (let r7 : Int × Sm := nx r2.2 (st_.1.length : Int); let one3 : Int := (gt st_.1 r7.1); let left6 : List Int := (delAt st_.1 r7.1); let r8 : Int × Sm := nx r7.2 (left6.length : Int); let other3 : Int := (gt left6 r8.1); let left7 : List Int := (delAt left6 r8.1); let paper_here6 : List Int := (setAt st_.2.1 one3 other3); let paper_here7 : List Int := (setAt paper_here6 other3 one3); (left7, paper_here7, r8.2))) (S2 := ((st_.1, st_.2.1, r2.2))) (fun (w : (List Int) × (List Int) × Sm) (J : Jk) => [some (.ref 0), some (eI most), some (eI many), some (.ref (rest.length + 1)), some (.ref (rest.length + 2)), some (eI turn), J 6, J 7]) (fun (w : (List Int) × (List Int) × Sm) => (eM w.2.2 :: (rest ++ [.lst (List.map eI w.1), .lst (List.map eI w.2.1)]))) (evB_of (ev_cmp (ev_call (evs_cons (ev_var rfl) (evs_cons ev_cst evs_nil)) (o_next (⟨by decide, by decide⟩))) ev_cst (c_eq (e := eI) (a := r2.1) (b := (1 : Int))))) (fun hc => ?_) (fun hc => ?_) ?_
    · have D_6 := D.1.1 hc
      let r7 : Int × Sm := nx r2.2 (st_.1.length : Int)
      let one3 : Int := (gt st_.1 r7.1)
      let left6 : List Int := (delAt st_.1 r7.1)
      refine xs_popAt (e := eI) (l := st_.1) [some (.ref 0), some (eI most), some (eI many), some (.ref (rest.length + 1)), some (.ref (rest.length + 2)), some (eI turn), some (eI one3), J_ 7] (eM r7.2 :: (rest ++ [.lst (left6.map eI), .lst (List.map eI st_.2.1)])) rfl (ev_call (evs_cons (ev_var rfl) (evs_cons (ev_bif (evs_cons (ev_var rfl) evs_nil) (b_lenR (e := eI) (l := st_.1) (cget 0 rfl))) evs_nil)) (o_next D_6.1)) (citems 0 rfl) (cget 0 rfl) D_6.2.1 rfl (cset 0 rfl) ?_
      let r8 : Int × Sm := nx r7.2 (left6.length : Int)
      let other3 : Int := (gt left6 r8.1)
      let left7 : List Int := (delAt left6 r8.1)
      refine xs_popAt (e := eI) (l := left6) [some (.ref 0), some (eI most), some (eI many), some (.ref (rest.length + 1)), some (.ref (rest.length + 2)), some (eI turn), some (eI one3), some (eI other3)] (eM r8.2 :: (rest ++ [.lst (left7.map eI), .lst (List.map eI st_.2.1)])) rfl (ev_call (evs_cons (ev_var rfl) (evs_cons (ev_bif (evs_cons (ev_var rfl) evs_nil) (b_lenR (e := eI) (l := left6) (cget 0 rfl))) evs_nil)) (o_next D_6.2.2.1)) (citems 0 rfl) (cget 0 rfl) D_6.2.2.2.1 rfl (cset 0 rfl) ?_
      let paper_here6 : List Int := (setAt st_.2.1 one3 other3)
      refine xs_setAt (e := eI) (l := st_.2.1) (y := other3) (eM r8.2 :: (rest ++ [.lst (left7.map eI), .lst (paper_here6.map eI)])) (ev_var rfl) (ev_var rfl) (ev_var rfl) (cget 1 rfl) D_6.2.2.2.2.1 (cset 1 rfl) ?_
      let paper_here7 : List Int := (setAt paper_here6 other3 one3)
      refine xs_setAt (e := eI) (l := paper_here6) (y := one3) (eM r8.2 :: (rest ++ [.lst (left7.map eI), .lst (paper_here7.map eI)])) (ev_var rfl) (ev_var rfl) (ev_var rfl) (cget 1 rfl) D_6.2.2.2.2.2.1 (cset 1 rfl) ?_
      exact xs_nil (nxJ (fun n => ([some (.ref 0), some (eI most), some (eI many), some (.ref (rest.length + 1)), some (.ref (rest.length + 2)), some (eI turn), some (eI one3), some (eI other3)] : Env).getD n none) rfl rfl)
    · exact xs_nil (nxJ (fun n => ([some (.ref 0), some (eI most), some (eI many), some (.ref (rest.length + 1)), some (.ref (rest.length + 2)), some (eI turn), J_ 6, J_ 7] : Env).getD n none) rfl rfl)
    let q : (List Int) × (List Int) × Sm := if (decide (r2.1 = (1 : Int))) = true then (let r7 : Int × Sm := nx r2.2 (st_.1.length : Int); let one3 : Int := (gt st_.1 r7.1); let left6 : List Int := (delAt st_.1 r7.1); let r8 : Int × Sm := nx r7.2 (left6.length : Int); let other3 : Int := (gt left6 r8.1); let left7 : List Int := (delAt left6 r8.1); let paper_here6 : List Int := (setAt st_.2.1 one3 other3); let paper_here7 : List Int := (setAt paper_here6 other3 one3); (left7, paper_here7, r8.2)) else ((st_.1, st_.2.1, r2.2))
    intro J_2
    exact xs_nil (nxG (fun n => ([some (.ref 0), some (eI most), some (eI many), some (.ref (rest.length + 1)), some (.ref (rest.length + 2)), some (eI turn), J_2 6, J_2 7] : Env).getD n none) rfl rfl)
  let q2 : (List Int) × (List Int) × Sm := List.foldl v_l_paper_L_ ((left, paper_here, r.2) : (List Int) × (List Int) × Sm) (rng 0 (many / (2 : Int)))
  intro J_3
  exact xs_ret (ev_bif (evs_cons (ev_var rfl) evs_nil) (b_tupR (e := eI) (l := q2.2.1) (cget 1 rfl))) (rt_s [.lst (List.map eI q2.1), .lst (List.map eI q2.2.1)])
/-- _law_sequence(_law_stream_here, _law_paper_here, _law_most): 0 _law_stream_here 1 _law_paper_here 2 _law_most 3 _law_k -/
def fd283 : FnD := ⟨3, 4, false,
  (.cons (.ret (.bif .tuple (.cons (.lc [3] (.call 230 (.cons (.var 0) (.cons (.bif .len (.cons (.var 1) .nil)) .nil))) (.nm 3) (.rng (.cons (.call 230 (.cons (.var 0) (.cons (.bin .add (.var 2) (.cst (.int 1))) .nil))) .nil)) .nil) .nil))) .nil)⟩
/-- _law_sequence -/
@[irreducible] def v_l_sequence (s : Sm) (paper_here : List Int) (most : Int) : (List Int) × Sm :=
  let r : Int × Sm := nx s (most + (1 : Int)); let r3 : (List Int) × Sm := mapS (fun (s2 : Sm) (k : Int) => let r2 : Int × Sm := nx s2 (paper_here.length : Int); (r2.1, r2.2)) r.2 (rng 0 r.1); (r3.1, r3.2)
@[irreducible] def d_l_sequence (s : Sm) (paper_here : List Int) (most : Int) : Prop :=
  (DrOk (most + (1 : Int))) ∧ (let r : Int × Sm := nx s (most + (1 : Int)); (RngOk 0 r.1) ∧ ((∀ k ∈ (rng 0 r.1), ∀ s2 : Sm, (DrOk (paper_here.length : Int)) ∧ (let r2 : Int × Sm := nx s2 (paper_here.length : Int); True)) ∧ (let r3 : (List Int) × Sm := mapS (fun (s2 : Sm) (k : Int) => let r2 : Int × Sm := nx s2 (paper_here.length : Int); (r2.1, r2.2)) r.2 (rng 0 r.1); True)))
theorem o_l_sequence {P : Prog} [HasF P 230 fdNext] [HasF P 283 fd283] (n : Nat) (rest : MHp) (s : Sm) (paper_here : List Int) (most : Int) (D : d_l_sequence s paper_here most) : callN P (n + 2) 283 [.ref 0, (eT eI) paper_here, eI most] (eM s :: rest) = .ok ((eT eI) (v_l_sequence s paper_here most).1) (eM (v_l_sequence s paper_here most).2 :: rest) := by
  refine call_s (fd := fd283) (e := (eT eI)) (V := v_l_sequence s paper_here most) [some (.ref 0), some ((eT eI) paper_here), some (eI most), none] rfl rfl rfl rfl ?_
  rw [show (eM s :: rest) = eM s :: (rest ++ []) from by rw [List.append_nil]]
  unfold d_l_sequence at D
  unfold v_l_sequence
  let r : Int × Sm := nx s (most + (1 : Int))
  let r3 : (List Int) × Sm := mapS (fun (s2 : Sm) (k : Int) => let r2 : Int × Sm := nx s2 (paper_here.length : Int); (r2.1, r2.2)) r.2 (rng 0 r.1)
  exact xs_ret (ev_bif (evs_cons (ev_lcS (e := eI) (g := eI) (B := (fun s => (eM s :: (rest ++ [])))) (f := (fun (s2 : Sm) (k : Int) => let r2 : Int × Sm := nx s2 (paper_here.length : Int); (r2.1, r2.2))) (evI_rng (evs_cons (ev_call (evs_cons (ev_var rfl) (evs_cons (ev_bin (ev_var rfl) ev_cst o_add) evs_nil)) (o_next D.1)) evs_nil) (range1 D.2.1)) (fun k hx => ⟨[some (.ref 0), some ((eT eI) paper_here), some (eI most), some (eI k)], rfl, fun s2 => (fun D_ => let r2 : Int × Sm := nx s2 (paper_here.length : Int); (ev_call (evs_cons (ev_var rfl) (evs_cons (ev_bif (evs_cons (ev_var rfl) evs_nil) (b_lenT (e := eI) (l := paper_here))) evs_nil)) (o_next D_.1))) (D.2.2.1 k hx s2)⟩)) evs_nil) (b_tupL (e := eI) (l := r3.1))) (rt_s [])
/-- _law_reflected(_law_paper_here, _law_sequence_here): 0 _law_paper_here 1 _law_sequence_here 2 _law_mark -/
def fd322 : FnD := ⟨2, 3, false,
  (.cons (.ret (.rev (.bif .tuple (.cons (.lc [2] (.ix (.var 0) (.var 2)) (.nm 2) (.seq (.var 1)) .nil) .nil)))) .nil)⟩
/-- _law_reflected -/
@[irreducible] def v_l_reflected (paper_here : List Int) (sequence_here : List Int) : List Int :=
  (sequence_here.map fun mark => (gt paper_here mark)).reverse
@[irreducible] def d_l_reflected (paper_here : List Int) (sequence_here : List Int) : Prop :=
  (∀ mark ∈ sequence_here, (InR paper_here.length mark) ∧ (True)) ∧ (True)
theorem o_l_reflected {P : Prog} [HasF P 322 fd322] (n : Nat) (h : MHp) (paper_here : List Int) (sequence_here : List Int) (D : d_l_reflected paper_here sequence_here) : callN P (n + 1) 322 [(eT eI) paper_here, (eT eI) sequence_here] h = .ok ((eT eI) (v_l_reflected paper_here sequence_here)) h := by
  refine call_p (fd := fd322) (e := (eT eI)) (V := v_l_reflected paper_here sequence_here) [some ((eT eI) paper_here), some ((eT eI) sequence_here), none] rfl rfl (nors_c (e := (eT eI)) (nors_c (e := (eT eI)) rfl)) rfl ?_
  unfold d_l_reflected at D
  unfold v_l_reflected
  exact xs_ret (ev_rev (ev_bif (evs_cons (ev_lc (e := eI) (g := eI) (xs := sequence_here) (f := fun mark => (gt paper_here mark)) (evI_seqT (e := eI) (xs := sequence_here) (ev_var rfl)) rfl (fun mark hx => (fun D_ => ⟨[some ((eT eI) paper_here), some ((eT eI) sequence_here), some (eI mark)], rfl, (ev_ix (ev_var rfl) (ev_var rfl) (i_T (e := eI) (l := paper_here) D_.1))⟩) (D.1 mark hx))) evs_nil) (b_tupL (e := eI) (l := (sequence_here.map fun mark => (gt paper_here mark))))) (r_T (e := eI) (l := (sequence_here.map fun mark => (gt paper_here mark))))) (rt_p)
end Qm

namespace Qm
/-- conflict_of(paper, sequence): 0 paper 1 sequence 2 many 3 leaf -/
def fd238 : FnD := ⟨2, 4, false,
  (.cons (.asg (.nm 2) (.bif .len (.cons (.var 1) .nil))) (.cons (.ite (.cmp .eq (.var 2) (.cst (.int 0))) (.cons (.ret (.tup .nil)) .nil) .nil) (.cons (.ite (.cmp .eq (.bin .mod (.var 2) (.cst (.int 2))) (.cst (.int 1))) (.cons (.ret (.tup (.cons (.bin .fdv (.var 2) (.cst (.int 2))) .nil))) .nil) .nil) (.cons (.for (.nm 3) (.rng (.cons (.bin .fdv (.var 2) (.cst (.int 2))) .nil)) (.cons (.ite (.cmp .ne (.ix (.var 0) (.ix (.var 1) (.var 3))) (.ix (.var 1) (.bin .sub (.bin .sub (.var 2) (.cst (.int 1))) (.var 3)))) (.cons (.ret (.tup (.cons (.var 3) (.cons (.bin .sub (.bin .sub (.var 2) (.cst (.int 1))) (.var 3)) .nil)))) .nil) .nil) .nil)) (.cons (.ret (.cst .non)) .nil)))))⟩
@[irreducible] def v_conflict_of_L_ (paper : List Int) (sequence : List Int) (many : Int) (st_ : Unit) (leaf : Int) : (Option (List Int)) ⊕ Unit :=
  if (!decide ((gt paper (gt sequence leaf)) = (gt sequence ((many - (1 : Int)) - leaf)))) = true then (.inl (some [leaf, ((many - (1 : Int)) - leaf)])) else (.inr ())
@[irreducible] def d_conflict_of_L_ (paper : List Int) (sequence : List Int) (many : Int) (st_ : Unit) (leaf : Int) : Prop :=
  (InR sequence.length leaf) ∧ ((InR paper.length (gt sequence leaf)) ∧ ((InR sequence.length ((many - (1 : Int)) - leaf)) ∧ (True)))
/-- conflict_of -/
@[irreducible] def v_conflict_of (paper : List Int) (sequence : List Int) : Option (List Int) :=
  let many : Int := (sequence.length : Int); if (decide (many = (0 : Int))) = true then ((some ([] : List Int))) else (if (decide ((many % (2 : Int)) = (1 : Int))) = true then ((some [(many / (2 : Int))])) else (sumK (foldX (v_conflict_of_L_ paper sequence many) (() : Unit) (rng 0 (many / (2 : Int)))) (fun (st_2 : Unit) => (none : Option (List Int)))))
@[irreducible] def d_conflict_of (paper : List Int) (sequence : List Int) : Prop :=
  let many : Int := (sequence.length : Int); ((decide (many = (0 : Int))) = true → True) ∧ ((decide (many = (0 : Int))) = false → ((decide ((many % (2 : Int)) = (1 : Int))) = true → True) ∧ ((decide ((many % (2 : Int)) = (1 : Int))) = false → (RngOk 0 (many / (2 : Int))) ∧ ((FoldXD (v_conflict_of_L_ paper sequence many) (d_conflict_of_L_ paper sequence many) (() : Unit) (rng 0 (many / (2 : Int)))) ∧ (True))))
theorem o_conflict_of {P : Prog} [HasF P 238 fd238] (n : Nat) (h : MHp) (paper : List Int) (sequence : List Int) (D : d_conflict_of paper sequence) : callN P (n + 1) 238 [(eT eI) paper, (eT eI) sequence] h = .ok ((eO (eT eI)) (v_conflict_of paper sequence)) h := by
  refine call_p (fd := fd238) (e := (eO (eT eI))) (V := v_conflict_of paper sequence) [some ((eT eI) paper), some ((eT eI) sequence), none, none] rfl rfl (nors_c (e := (eT eI)) (nors_c (e := (eT eI)) rfl)) rfl ?_
  unfold d_conflict_of at D
  unfold v_conflict_of
  let many : Int := (sequence.length : Int)
  refine xs_asg [some ((eT eI) paper), some ((eT eI) sequence), some (eI many), none] (ev_bif (evs_cons (ev_var rfl) evs_nil) (b_lenT (e := eI) (l := sequence))) rfl ?_
  refine xs_ite (evB_of (ev_cmp (ev_var rfl) ev_cst (c_eq (e := eI) (a := many) (b := (0 : Int))))) (fun hc3 => ?_) (fun hc3 => ?_)
  · exact xs_ret (ev_tup evs_nil) (rt_p)
  · have D_2 := D.2 hc3
    refine xs_ite (evB_of (ev_cmp (ev_bin (ev_var rfl) ev_cst (o_mod (by decide))) ev_cst (c_eq (e := eI) (a := (many % (2 : Int))) (b := (1 : Int))))) (fun hc2 => ?_) (fun hc2 => ?_)
    · exact xs_ret (ev_tup (evs_cons (ev_bin (ev_var rfl) ev_cst (o_fdv (by decide))) evs_nil)) (rt_p)
    · have D_4 := D_2.2 hc2
      refine xs_forX (QV := (RtG (Gp (eO (eT eI))))) (e := eI) (xs := (rng 0 (many / (2 : Int)))) (fun (w : Unit) (J : Jk) => [some ((eT eI) paper), some ((eT eI) sequence), some (eI many), J 3]) (fun (w : Unit) => []) (v_conflict_of_L_ paper sequence many) (d_conflict_of_L_ paper sequence many) (() : Unit) (fun n => ([some ((eT eI) paper), some ((eT eI) sequence), some (eI many), none] : Env).getD n none) (evI_rng (evs_cons (ev_bin (ev_var rfl) ev_cst (o_fdv (by decide))) evs_nil) (range1 D_4.1)) rfl rfl (fun _ => rfl) D_4.2.1 ?_ ?_
      · intro st_ J_ leaf D
        refine ⟨[some ((eT eI) paper), some ((eT eI) sequence), some (eI many), some (eI leaf)], rfl, ?_⟩
        unfold d_conflict_of_L_ at D
        unfold v_conflict_of_L_
        refine xs_ite (evB_of (ev_cmp (ev_ix (ev_var rfl) (ev_ix (ev_var rfl) (ev_var rfl) (i_T (e := eI) (l := sequence) D.1)) (i_T (e := eI) (l := paper) D.2.1)) (ev_ix (ev_var rfl) (ev_bin (ev_bin (ev_var rfl) ev_cst o_sub) (ev_var rfl) o_sub) (i_T (e := eI) (l := sequence) D.2.2.1)) (c_ne (e := eI) (a := (gt paper (gt sequence leaf))) (b := (gt sequence ((many - (1 : Int)) - leaf)))))) (fun hc => ?_) (fun hc => ?_)
        · exact xs_ret (ev_tup (evs_cons (ev_var rfl) (evs_cons (ev_bin (ev_bin (ev_var rfl) ev_cst o_sub) (ev_var rfl) o_sub) evs_nil))) (nxX_ret (rt_p))
        · exact xs_nil (nxX_nx (nxG (fun n => ([some ((eT eI) paper), some ((eT eI) sequence), some (eI many), some (eI leaf)] : Env).getD n none) rfl rfl))
      · intro st_2 J_2 hx
        exact xs_ret ev_cst (rt_p)
/-- is_gathering_of(paper, sequence): 0 paper 1 sequence -/
def fd239 : FnD := ⟨2, 2, false,
  (.cons (.ret (.cmp .isN (.call 238 (.cons (.var 0) (.cons (.var 1) .nil))) (.cst .non))) .nil)⟩
/-- is_gathering_of -/
@[irreducible] def v_is_gathering_of (paper : List Int) (sequence : List Int) : Bool :=
  (v_conflict_of paper sequence).isNone
@[irreducible] def d_is_gathering_of (paper : List Int) (sequence : List Int) : Prop :=
  (d_conflict_of paper sequence) ∧ (True)
theorem o_is_gathering_of {P : Prog} [HasF P 238 fd238] [HasF P 239 fd239] (n : Nat) (h : MHp) (paper : List Int) (sequence : List Int) (D : d_is_gathering_of paper sequence) : callN P (n + 2) 239 [(eT eI) paper, (eT eI) sequence] h = .ok (eB (v_is_gathering_of paper sequence)) h := by
  refine call_p (fd := fd239) (e := eB) (V := v_is_gathering_of paper sequence) [some ((eT eI) paper), some ((eT eI) sequence)] rfl rfl (nors_c (e := (eT eI)) (nors_c (e := (eT eI)) rfl)) rfl ?_
  unfold d_is_gathering_of at D
  unfold v_is_gathering_of
  exact xs_ret (ev_cmp (ev_call (evs_cons (ev_var rfl) (evs_cons (ev_var rfl) evs_nil)) (o_conflict_of (n + 0) _ paper sequence D.1)) ev_cst (c_isNO (e := (eT eI)) (o := (v_conflict_of paper sequence)))) (rt_p)
/-- shortest_at(paper, sequence, start): 0 paper 1 sequence 2 start 3 end -/
def fd240 : FnD := ⟨3, 4, false,
  (.cons (.for (.nm 3) (.rng (.cons (.bin .add (.var 2) (.cst (.int 2))) (.cons (.bin .add (.bif .len (.cons (.var 1) .nil)) (.cst (.int 1))) (.cons (.cst (.int 2)) .nil)))) (.cons (.ite (.call 239 (.cons (.var 0) (.cons (.sl (.var 1) (.some (.var 2)) (.some (.var 3))) .nil))) (.cons (.ret (.bin .sub (.var 3) (.var 2))) .nil) .nil) .nil)) (.cons (.ret (.cst (.int 0))) .nil))⟩
@[irreducible] def v_shortest_at_L_ (paper : List Int) (sequence : List Int) (start : Int) (st_ : Unit) (end_ : Int) : Int ⊕ Unit :=
  if (v_is_gathering_of paper (cut sequence (some start) (some end_))) = true then (.inl (end_ - start)) else (.inr ())
@[irreducible] def d_shortest_at_L_ (paper : List Int) (sequence : List Int) (start : Int) (st_ : Unit) (end_ : Int) : Prop :=
  (d_is_gathering_of paper (cut sequence (some start) (some end_))) ∧ (True)
/-- shortest_at -/
@[irreducible] def v_shortest_at (paper : List Int) (sequence : List Int) (start : Int) : Int :=
  sumK (foldX (v_shortest_at_L_ paper sequence start) (() : Unit) (rngC' (start + (2 : Int)) ((sequence.length : Int) + (1 : Int)) (2 : Int))) (fun (st_2 : Unit) => (0 : Int))
@[irreducible] def d_shortest_at (paper : List Int) (sequence : List Int) (start : Int) : Prop :=
  (RngOk (start + (2 : Int)) ((sequence.length : Int) + (1 : Int))) ∧ ((FoldXD (v_shortest_at_L_ paper sequence start) (d_shortest_at_L_ paper sequence start) (() : Unit) (rngC' (start + (2 : Int)) ((sequence.length : Int) + (1 : Int)) (2 : Int))) ∧ (True))
theorem o_shortest_at {P : Prog} [HasF P 238 fd238] [HasF P 239 fd239] [HasF P 240 fd240] (n : Nat) (h : MHp) (paper : List Int) (sequence : List Int) (start : Int) (D : d_shortest_at paper sequence start) : callN P (n + 3) 240 [(eT eI) paper, (eT eI) sequence, eI start] h = .ok (eI (v_shortest_at paper sequence start)) h := by
  refine call_p (fd := fd240) (e := eI) (V := v_shortest_at paper sequence start) [some ((eT eI) paper), some ((eT eI) sequence), some (eI start), none] rfl rfl (nors_c (e := (eT eI)) (nors_c (e := (eT eI)) (nors_c (e := eI) rfl))) rfl ?_
  unfold d_shortest_at at D
  unfold v_shortest_at
  refine xs_forX (QV := (RtG (Gp eI))) (e := eI) (xs := (rngC' (start + (2 : Int)) ((sequence.length : Int) + (1 : Int)) (2 : Int))) (fun (w : Unit) (J : Jk) => [some ((eT eI) paper), some ((eT eI) sequence), some (eI start), J 3]) (fun (w : Unit) => []) (v_shortest_at_L_ paper sequence start) (d_shortest_at_L_ paper sequence start) (() : Unit) (fun n => ([some ((eT eI) paper), some ((eT eI) sequence), some (eI start), none] : Env).getD n none) (evI_rng (evs_cons (ev_bin (ev_var rfl) ev_cst o_add) (evs_cons (ev_bin (ev_bif (evs_cons (ev_var rfl) evs_nil) (b_lenT (e := eI) (l := sequence))) ev_cst o_add) (evs_cons ev_cst evs_nil))) (range3 (by decide) (by decide) D.1)) rfl rfl (fun _ => rfl) D.2.1 ?_ ?_
  · intro st_ J_ end_ D
    refine ⟨[some ((eT eI) paper), some ((eT eI) sequence), some (eI start), some (eI end_)], rfl, ?_⟩
    unfold d_shortest_at_L_ at D
    unfold v_shortest_at_L_
    refine xs_ite (evB_of (ev_call (evs_cons (ev_var rfl) (evs_cons (ev_sl (ev_var rfl) (evO_some (ev_var rfl)) (evO_some (ev_var rfl)) (s_T (e := eI) (l := sequence))) evs_nil)) (o_is_gathering_of (n + 0) _ paper (cut sequence (some start) (some end_)) D.1))) (fun hc => ?_) (fun hc => ?_)
    · exact xs_ret (ev_bin (ev_var rfl) (ev_var rfl) o_sub) (nxX_ret (rt_p))
    · exact xs_nil (nxX_nx (nxG (fun n => ([some ((eT eI) paper), some ((eT eI) sequence), some (eI start), some (eI end_)] : Env).getD n none) rfl rfl))
  · intro st_2 J_2 hx
    exact xs_ret ev_cst (rt_p)
/-- split_of(paper, sequence): 0 paper 1 sequence 2 lengths 3 start 4 length -/
def fd241 : FnD := ⟨2, 5, false,
  (.cons (.asg (.nm 2) (.lst true .nil)) (.cons (.asg (.nm 3) (.cst (.int 0))) (.cons (.asg (.nm 4) (.call 240 (.cons (.var 0) (.cons (.var 1) (.cons (.cst (.int 0)) .nil))))) (.cons (.whl 1000 (.cmp .gt (.var 4) (.cst (.int 0))) (.cons (.exp (.mth .append (.var 2) (.cons (.var 4) .nil))) (.cons (.asg (.nm 3) (.bin .add (.var 3) (.var 4))) (.cons (.asg (.nm 4) (.call 240 (.cons (.var 0) (.cons (.var 1) (.cons (.var 3) .nil))))) .nil)))) (.cons (.ret (.tup (.cons (.bif .tuple (.cons (.var 2) .nil)) (.cons (.bin .sub (.bif .len (.cons (.var 1) .nil)) (.var 3)) .nil)))) .nil)))))⟩
@[irreducible] def v_split_of_W_ (paper : List Int) (sequence : List Int) (st_ : (List Int) × Int × Int) : (List Int) × Int × Int :=
  let lengths2 : List Int := st_.1 ++ [st_.2.2]; let start2 : Int := (st_.2.1 + st_.2.2); let length2 : Int := (v_shortest_at paper sequence start2); (lengths2, start2, length2)
@[irreducible] def d_split_of_W_ (paper : List Int) (sequence : List Int) (st_ : (List Int) × Int × Int) : Prop :=
  (st_.1.length < 16777216) ∧ (let lengths2 : List Int := st_.1 ++ [st_.2.2]; let start2 : Int := (st_.2.1 + st_.2.2); (d_shortest_at paper sequence start2) ∧ (let length2 : Int := (v_shortest_at paper sequence start2); True))
@[irreducible] def v_split_of_W_c (paper : List Int) (sequence : List Int) (st_ : (List Int) × Int × Int) : Bool :=
  decide ((0 : Int) < st_.2.2)
@[irreducible] def d_split_of_W_c (paper : List Int) (sequence : List Int) (st_ : (List Int) × Int × Int) : Prop :=
  True
/-- split_of -/
@[irreducible] def v_split_of (paper : List Int) (sequence : List Int) : (List Int) × Int :=
  let lengths : List Int := ([] : List Int); let start : Int := (0 : Int); let length : Int := (v_shortest_at paper sequence (0 : Int)); let q : (List Int) × Int × Int := whF (v_split_of_W_c paper sequence) (v_split_of_W_ paper sequence) 1000 ((lengths, start, length) : (List Int) × Int × Int); (q.1, ((sequence.length : Int) - q.2.1))
@[irreducible] def d_split_of (paper : List Int) (sequence : List Int) : Prop :=
  let lengths : List Int := ([] : List Int); let start : Int := (0 : Int); (d_shortest_at paper sequence (0 : Int)) ∧ (let length : Int := (v_shortest_at paper sequence (0 : Int)); (WhD (v_split_of_W_c paper sequence) (v_split_of_W_ paper sequence) (d_split_of_W_c paper sequence) (d_split_of_W_ paper sequence) 1000 ((lengths, start, length) : (List Int) × Int × Int)) ∧ (let q : (List Int) × Int × Int := whF (v_split_of_W_c paper sequence) (v_split_of_W_ paper sequence) 1000 ((lengths, start, length) : (List Int) × Int × Int); True))
theorem o_split_of {P : Prog} [HasF P 238 fd238] [HasF P 239 fd239] [HasF P 240 fd240] [HasF P 241 fd241] (n : Nat) (h : MHp) (paper : List Int) (sequence : List Int) (D : d_split_of paper sequence) : callN P (n + 4) 241 [(eT eI) paper, (eT eI) sequence] h = .ok ((eP2 (eT eI) eI) (v_split_of paper sequence)) h := by
  refine call_p (fd := fd241) (e := (eP2 (eT eI) eI)) (V := v_split_of paper sequence) [some ((eT eI) paper), some ((eT eI) sequence), none, none, none] rfl rfl (nors_c (e := (eT eI)) (nors_c (e := (eT eI)) rfl)) rfl ?_
  unfold d_split_of at D
  unfold v_split_of
  let lengths : List Int := ([] : List Int)
  refine xs_asg [some ((eT eI) paper), some ((eT eI) sequence), some (.ref 0), none, none] (ev_lstm evs_nil) rfl ?_
  let start : Int := (0 : Int)
  refine xs_asg [some ((eT eI) paper), some ((eT eI) sequence), some (.ref 0), some (eI start), none] ev_cst rfl ?_
  let length : Int := (v_shortest_at paper sequence (0 : Int))
  refine xs_asg [some ((eT eI) paper), some ((eT eI) sequence), some (.ref 0), some (eI start), some (eI length)] (ev_call (evs_cons (ev_var rfl) (evs_cons (ev_var rfl) (evs_cons ev_cst evs_nil))) (o_shortest_at (n + 0) _ paper sequence (0 : Int) D.1)) rfl ?_
  refine xs_whl (fun (w : (List Int) × Int × Int) (J : Jk) => [some ((eT eI) paper), some ((eT eI) sequence), some (.ref 0), some (eI w.2.1), some (eI w.2.2)]) (fun (w : (List Int) × Int × Int) => [.lst (List.map eI w.1)]) (v_split_of_W_c paper sequence) (v_split_of_W_ paper sequence) (d_split_of_W_c paper sequence) (d_split_of_W_ paper sequence) ((lengths, start, length) : (List Int) × Int × Int) (fun n => ([some ((eT eI) paper), some ((eT eI) sequence), some (.ref 0), some (eI start), some (eI length)] : Env).getD n none) rfl rfl D.2.1 ?_ ?_ ?_
  · intro st_ J_ D
    unfold d_split_of_W_c at D
    unfold v_split_of_W_c
    exact (evB_of (ev_cmp (ev_var rfl) ev_cst c_gt))
  · intro st_ J_ hc D
    unfold d_split_of_W_ at D
    unfold v_split_of_W_
    let lengths2 : List Int := st_.1 ++ [st_.2.2]
    refine xs_appT (e := eI) (l := st_.1) (y := st_.2.2) [.lst (lengths2.map eI)] rfl (ev_var rfl) rfl rfl D.1 rfl ?_
    let start2 : Int := (st_.2.1 + st_.2.2)
    refine xs_asg [some ((eT eI) paper), some ((eT eI) sequence), some (.ref 0), some (eI start2), some (eI st_.2.2)] (ev_bin (ev_var rfl) (ev_var rfl) o_add) rfl ?_
    let length2 : Int := (v_shortest_at paper sequence start2)
    refine xs_asg [some ((eT eI) paper), some ((eT eI) sequence), some (.ref 0), some (eI start2), some (eI length2)] (ev_call (evs_cons (ev_var rfl) (evs_cons (ev_var rfl) (evs_cons (ev_var rfl) evs_nil))) (o_shortest_at (n + 0) _ paper sequence start2 D.2.1)) rfl ?_
    exact xs_nil (nxG (fun n => ([some ((eT eI) paper), some ((eT eI) sequence), some (.ref 0), some (eI start2), some (eI length2)] : Env).getD n none) rfl rfl)
  let q : (List Int) × Int × Int := whF (v_split_of_W_c paper sequence) (v_split_of_W_ paper sequence) 1000 ((lengths, start, length) : (List Int) × Int × Int)
  intro J_2
  exact xs_ret (ev_tup (evs_cons (ev_bif (evs_cons (ev_var rfl) evs_nil) (b_tupR (e := eI) (l := q.1) rfl)) (evs_cons (ev_bin (ev_bif (evs_cons (ev_var rfl) evs_nil) (b_lenT (e := eI) (l := sequence))) (ev_var rfl) o_sub) evs_nil))) (rt_p)
/-- remainder_of(paper, sequence): 0 paper 1 sequence -/
def fd325 : FnD := ⟨2, 2, false,
  (.cons (.ret (.sl (.var 1) (.some (.bin .sub (.bif .len (.cons (.var 1) .nil)) (.ix (.call 241 (.cons (.var 0) (.cons (.var 1) .nil))) (.cst (.int 1))))) .no)) .nil)⟩
/-- remainder_of -/
@[irreducible] def v_remainder_of (paper : List Int) (sequence : List Int) : List Int :=
  (cut sequence (some ((sequence.length : Int) - (v_split_of paper sequence).2)) none)
@[irreducible] def d_remainder_of (paper : List Int) (sequence : List Int) : Prop :=
  (d_split_of paper sequence) ∧ (True)
theorem o_remainder_of {P : Prog} [HasF P 238 fd238] [HasF P 239 fd239] [HasF P 240 fd240] [HasF P 241 fd241] [HasF P 325 fd325] (n : Nat) (h : MHp) (paper : List Int) (sequence : List Int) (D : d_remainder_of paper sequence) : callN P (n + 5) 325 [(eT eI) paper, (eT eI) sequence] h = .ok ((eT eI) (v_remainder_of paper sequence)) h := by
  refine call_p (fd := fd325) (e := (eT eI)) (V := v_remainder_of paper sequence) [some ((eT eI) paper), some ((eT eI) sequence)] rfl rfl (nors_c (e := (eT eI)) (nors_c (e := (eT eI)) rfl)) rfl ?_
  unfold d_remainder_of at D
  unfold v_remainder_of
  exact xs_ret (ev_sl (ev_var rfl) (evO_some (ev_bin (ev_bif (evs_cons (ev_var rfl) evs_nil) (b_lenT (e := eI) (l := sequence))) (ev_ix (ev_call (evs_cons (ev_var rfl) (evs_cons (ev_var rfl) evs_nil)) (o_split_of (n + 0) _ paper sequence D.1)) ev_cst rfl) o_sub)) evO_no (s_T (e := eI) (l := sequence))) (rt_p)
/-- append_of(paper, sequence): 0 paper 1 sequence 2 rest 3 start -/
def fd328 : FnD := ⟨2, 4, false,
  (.cons (.asg (.nm 2) (.call 325 (.cons (.var 0) (.cons (.var 1) .nil)))) (.cons (.for (.nm 3) (.rng (.cons (.bif .len (.cons (.var 2) .nil)) .nil)) (.cons (.ite (.call 239 (.cons (.var 0) (.cons (.sl (.var 2) (.some (.var 3)) .no) .nil))) (.cons (.ret (.call 315 (.cons (.var 0) (.cons (.sl (.var 2) .no (.some (.var 3))) .nil)))) .nil) .nil) .nil)) (.cons (.ret (.call 315 (.cons (.var 0) (.cons (.var 2) .nil)))) .nil)))⟩
@[irreducible] def v_append_of_L_ (paper : List Int) (rest : List Int) (st_ : Unit) (start : Int) : (List Int) ⊕ Unit :=
  if (v_is_gathering_of paper (cut rest (some start) none)) = true then (.inl (v_reflected_of paper (cut rest none (some start)))) else (.inr ())
@[irreducible] def d_append_of_L_ (paper : List Int) (rest : List Int) (st_ : Unit) (start : Int) : Prop :=
  (d_is_gathering_of paper (cut rest (some start) none)) ∧ (((v_is_gathering_of paper (cut rest (some start) none)) = true → (d_reflected_of paper (cut rest none (some start))) ∧ (True)) ∧ ((v_is_gathering_of paper (cut rest (some start) none)) = false → True))
/-- append_of -/
@[irreducible] def v_append_of (paper : List Int) (sequence : List Int) : List Int :=
  let rest : List Int := (v_remainder_of paper sequence); sumK (foldX (v_append_of_L_ paper rest) (() : Unit) (rng 0 (rest.length : Int))) (fun (st_2 : Unit) => (v_reflected_of paper rest))
@[irreducible] def d_append_of (paper : List Int) (sequence : List Int) : Prop :=
  (d_remainder_of paper sequence) ∧ (let rest : List Int := (v_remainder_of paper sequence); (RngOk 0 (rest.length : Int)) ∧ ((FoldXD (v_append_of_L_ paper rest) (d_append_of_L_ paper rest) (() : Unit) (rng 0 (rest.length : Int))) ∧ (∀ st_2 : Unit, foldX (v_append_of_L_ paper rest) (() : Unit) (rng 0 (rest.length : Int)) = .inr st_2 → (d_reflected_of paper rest) ∧ (True))))
theorem o_append_of {P : Prog} [HasF P 238 fd238] [HasF P 239 fd239] [HasF P 240 fd240] [HasF P 241 fd241] [HasF P 315 fd315] [HasF P 325 fd325] [HasF P 328 fd328] (n : Nat) (h : MHp) (paper : List Int) (sequence : List Int) (D : d_append_of paper sequence) : callN P (n + 6) 328 [(eT eI) paper, (eT eI) sequence] h = .ok ((eT eI) (v_append_of paper sequence)) h := by
  refine call_p (fd := fd328) (e := (eT eI)) (V := v_append_of paper sequence) [some ((eT eI) paper), some ((eT eI) sequence), none, none] rfl rfl (nors_c (e := (eT eI)) (nors_c (e := (eT eI)) rfl)) rfl ?_
  unfold d_append_of at D
  unfold v_append_of
  let rest : List Int := (v_remainder_of paper sequence)
  refine xs_asg [some ((eT eI) paper), some ((eT eI) sequence), some ((eT eI) rest), none] (ev_call (evs_cons (ev_var rfl) (evs_cons (ev_var rfl) evs_nil)) (o_remainder_of (n + 0) _ paper sequence D.1)) rfl ?_
  refine xs_forX (QV := (RtG (Gp (eT eI)))) (e := eI) (xs := (rng 0 (rest.length : Int))) (fun (w : Unit) (J : Jk) => [some ((eT eI) paper), some ((eT eI) sequence), some ((eT eI) rest), J 3]) (fun (w : Unit) => []) (v_append_of_L_ paper rest) (d_append_of_L_ paper rest) (() : Unit) (fun n => ([some ((eT eI) paper), some ((eT eI) sequence), some ((eT eI) rest), none] : Env).getD n none) (evI_rng (evs_cons (ev_bif (evs_cons (ev_var rfl) evs_nil) (b_lenT (e := eI) (l := rest))) evs_nil) (range1 D.2.1)) rfl rfl (fun _ => rfl) D.2.2.1 ?_ ?_
  · intro st_ J_ start D
    refine ⟨[some ((eT eI) paper), some ((eT eI) sequence), some ((eT eI) rest), some (eI start)], rfl, ?_⟩
    unfold d_append_of_L_ at D
    unfold v_append_of_L_
    refine xs_ite (evB_of (ev_call (evs_cons (ev_var rfl) (evs_cons (ev_sl (ev_var rfl) (evO_some (ev_var rfl)) evO_no (s_T (e := eI) (l := rest))) evs_nil)) (o_is_gathering_of (n + 3) _ paper (cut rest (some start) none) D.1))) (fun hc => ?_) (fun hc => ?_)
    · have D_2 := D.2.1 hc
      exact xs_ret (ev_call (evs_cons (ev_var rfl) (evs_cons (ev_sl (ev_var rfl) evO_no (evO_some (ev_var rfl)) (s_T (e := eI) (l := rest))) evs_nil)) (o_reflected_of (n + 4) _ paper (cut rest none (some start)) D_2.1)) (nxX_ret (rt_p))
    · exact xs_nil (nxX_nx (nxG (fun n => ([some ((eT eI) paper), some ((eT eI) sequence), some ((eT eI) rest), some (eI start)] : Env).getD n none) rfl rfl))
  · intro st_2 J_2 hx
    have D_5 := D.2.2.2 st_2 hx
    exact xs_ret (ev_call (evs_cons (ev_var rfl) (evs_cons (ev_var rfl) evs_nil)) (o_reflected_of (n + 4) _ paper rest D_5.1)) (rt_p)
/-- prepend_of(paper, sequence): 0 paper 1 sequence -/
def fd329 : FnD := ⟨2, 2, false,
  (.cons (.ret (.call 315 (.cons (.var 0) (.cons (.call 328 (.cons (.var 0) (.cons (.call 315 (.cons (.var 0) (.cons (.var 1) .nil))) .nil))) .nil)))) .nil)⟩
/-- prepend_of -/
@[irreducible] def v_prepend_of (paper : List Int) (sequence : List Int) : List Int :=
  (v_reflected_of paper (v_append_of paper (v_reflected_of paper sequence)))
@[irreducible] def d_prepend_of (paper : List Int) (sequence : List Int) : Prop :=
  (d_reflected_of paper sequence) ∧ ((d_append_of paper (v_reflected_of paper sequence)) ∧ ((d_reflected_of paper (v_append_of paper (v_reflected_of paper sequence))) ∧ (True)))
theorem o_prepend_of {P : Prog} [HasF P 238 fd238] [HasF P 239 fd239] [HasF P 240 fd240] [HasF P 241 fd241] [HasF P 315 fd315] [HasF P 325 fd325] [HasF P 328 fd328] [HasF P 329 fd329] (n : Nat) (h : MHp) (paper : List Int) (sequence : List Int) (D : d_prepend_of paper sequence) : callN P (n + 7) 329 [(eT eI) paper, (eT eI) sequence] h = .ok ((eT eI) (v_prepend_of paper sequence)) h := by
  refine call_p (fd := fd329) (e := (eT eI)) (V := v_prepend_of paper sequence) [some ((eT eI) paper), some ((eT eI) sequence)] rfl rfl (nors_c (e := (eT eI)) (nors_c (e := (eT eI)) rfl)) rfl ?_
  unfold d_prepend_of at D
  unfold v_prepend_of
  exact xs_ret (ev_call (evs_cons (ev_var rfl) (evs_cons (ev_call (evs_cons (ev_var rfl) (evs_cons (ev_call (evs_cons (ev_var rfl) (evs_cons (ev_var rfl) evs_nil)) (o_reflected_of (n + 5) _ paper sequence D.1)) evs_nil)) (o_append_of (n + 0) _ paper (v_reflected_of paper sequence) D.2.1)) evs_nil)) (o_reflected_of (n + 5) _ paper (v_append_of paper (v_reflected_of paper sequence)) D.2.2.1)) (rt_p)
/-- completion(paper, sequence): 0 paper 1 sequence 2 rows 3 opening 4 ahead 5 behind -/
def fd336 : FnD := ⟨2, 6, false,
  (.cons (.exp (.call 286 (.cons (.var 0) (.cons (.var 1) .nil)))) (.cons (.asg (.nm 2) (.lst true .nil)) (.cons (.for (.nm 3) (.rng (.cons (.bin .add (.bif .len (.cons (.var 1) .nil)) (.cst (.int 1))) .nil)) (.cons (.asg (.nm 4) (.call 329 (.cons (.var 0) (.cons (.sl (.var 1) .no (.some (.var 3))) .nil)))) (.cons (.asg (.nm 5) (.call 328 (.cons (.var 0) (.cons (.sl (.var 1) (.some (.var 3)) .no) .nil)))) (.cons (.exp (.mth .append (.var 2) (.cons (.tup (.cons (.bin .add (.bif .len (.cons (.var 4) .nil)) (.bif .len (.cons (.var 5) .nil))) (.cons (.var 3) (.cons (.var 4) (.cons (.var 5) .nil))))) .nil))) .nil)))) (.cons (.ret (.sl (.bif .min1 (.cons (.var 2) .nil)) (.some (.cst (.int 1))) .no)) .nil))))⟩
@[irreducible] def v_completion_L_ (paper : List Int) (sequence : List Int) (st_ : (List (Int × Int × (List Int) × (List Int)))) (opening : Int) : (List (Int × Int × (List Int) × (List Int))) :=
  let ahead : List Int := (v_prepend_of paper (cut sequence none (some opening))); let behind : List Int := (v_append_of paper (cut sequence (some opening) none)); let rows2 : List (Int × Int × (List Int) × (List Int)) := st_ ++ [(((ahead.length : Int) + (behind.length : Int)), opening, ahead, behind)]; rows2
@[irreducible] def d_completion_L_ (paper : List Int) (sequence : List Int) (st_ : (List (Int × Int × (List Int) × (List Int)))) (opening : Int) : Prop :=
  (d_prepend_of paper (cut sequence none (some opening))) ∧ (let ahead : List Int := (v_prepend_of paper (cut sequence none (some opening))); (d_append_of paper (cut sequence (some opening) none)) ∧ (let behind : List Int := (v_append_of paper (cut sequence (some opening) none)); (st_.length < 16777216) ∧ (let rows2 : List (Int × Int × (List Int) × (List Int)) := st_ ++ [(((ahead.length : Int) + (behind.length : Int)), opening, ahead, behind)]; True)))
/-- completion -/
@[irreducible] def v_completion (paper : List Int) (sequence : List Int) : Int × (List Int) × (List Int) :=
  let rows : List (Int × Int × (List Int) × (List Int)) := ([] : List (Int × Int × (List Int) × (List Int))); let q : (List (Int × Int × (List Int) × (List Int))) := List.foldl (v_completion_L_ paper sequence) (rows : (List (Int × Int × (List Int) × (List Int)))) (rng 0 ((sequence.length : Int) + (1 : Int))); (minE (eP4 eI eI (eT eI) (eT eI)) q).2
@[irreducible] def d_completion (paper : List Int) (sequence : List Int) : Prop :=
  (d_check_sequence paper sequence) ∧ (let rows : List (Int × Int × (List Int) × (List Int)) := ([] : List (Int × Int × (List Int) × (List Int))); (RngOk 0 ((sequence.length : Int) + (1 : Int))) ∧ ((FoldD (v_completion_L_ paper sequence) (d_completion_L_ paper sequence) (rows : (List (Int × Int × (List Int) × (List Int)))) (rng 0 ((sequence.length : Int) + (1 : Int)))) ∧ (let q : (List (Int × Int × (List Int) × (List Int))) := List.foldl (v_completion_L_ paper sequence) (rows : (List (Int × Int × (List Int) × (List Int)))) (rng 0 ((sequence.length : Int) + (1 : Int))); (q ≠ []) ∧ (True))))
theorem o_completion {P : Prog} [HasF P 0 fd0] [HasF P 238 fd238] [HasF P 239 fd239] [HasF P 240 fd240] [HasF P 241 fd241] [HasF P 279 fd279] [HasF P 280 fd280] [HasF P 281 fd281] [HasF P 285 fd285] [HasF P 286 fd286] [HasF P 315 fd315] [HasF P 325 fd325] [HasF P 328 fd328] [HasF P 329 fd329] [HasF P 336 fd336] [HasC P 2 (.int 6)] [HasC P 3 (.int 16)] (n : Nat) (h : MHp) (paper : List Int) (sequence : List Int) (D : d_completion paper sequence) : callN P (n + 8) 336 [(eT eI) paper, (eT eI) sequence] h = .ok ((eP3 eI (eT eI) (eT eI)) (v_completion paper sequence)) h := by
  refine call_p (fd := fd336) (e := (eP3 eI (eT eI) (eT eI))) (V := v_completion paper sequence) [some ((eT eI) paper), some ((eT eI) sequence), none, none, none, none] rfl rfl (nors_c (e := (eT eI)) (nors_c (e := (eT eI)) rfl)) rfl ?_
  unfold d_completion at D
  unfold v_completion
  refine xs_exp (ev_call (evs_cons (ev_var rfl) (evs_cons (ev_var rfl) evs_nil)) (o_check_sequence (n + 3) _ paper sequence D.1)) ?_
  let rows : List (Int × Int × (List Int) × (List Int)) := ([] : List (Int × Int × (List Int) × (List Int)))
  refine xs_asg [some ((eT eI) paper), some ((eT eI) sequence), some (.ref 0), none, none, none] (ev_lstm evs_nil) rfl ?_
  refine xs_for (e := eI) (xs := (rng 0 ((sequence.length : Int) + (1 : Int)))) (fun (w : (List (Int × Int × (List Int) × (List Int)))) (J : Jk) => [some ((eT eI) paper), some ((eT eI) sequence), some (.ref 0), J 3, J 4, J 5]) (fun (w : (List (Int × Int × (List Int) × (List Int)))) => [.lst (List.map (eP4 eI eI (eT eI) (eT eI)) w)]) (v_completion_L_ paper sequence) (d_completion_L_ paper sequence) (rows : (List (Int × Int × (List Int) × (List Int)))) (fun n => ([some ((eT eI) paper), some ((eT eI) sequence), some (.ref 0), none, none, none] : Env).getD n none) (evI_rng (evs_cons (ev_bin (ev_bif (evs_cons (ev_var rfl) evs_nil) (b_lenT (e := eI) (l := sequence))) ev_cst o_add) evs_nil) (range1 D.2.1)) rfl rfl (fun _ => rfl) D.2.2.1 ?_ ?_
  · intro st_ J_ opening D
    refine ⟨[some ((eT eI) paper), some ((eT eI) sequence), some (.ref 0), some (eI opening), J_ 4, J_ 5], rfl, ?_⟩
    unfold d_completion_L_ at D
    unfold v_completion_L_
    let ahead : List Int := (v_prepend_of paper (cut sequence none (some opening)))
    refine xs_asg [some ((eT eI) paper), some ((eT eI) sequence), some (.ref 0), some (eI opening), some ((eT eI) ahead), J_ 5] (ev_call (evs_cons (ev_var rfl) (evs_cons (ev_sl (ev_var rfl) evO_no (evO_some (ev_var rfl)) (s_T (e := eI) (l := sequence))) evs_nil)) (o_prepend_of (n + 0) _ paper (cut sequence none (some opening)) D.1)) rfl ?_
    let behind : List Int := (v_append_of paper (cut sequence (some opening) none))
    refine xs_asg [some ((eT eI) paper), some ((eT eI) sequence), some (.ref 0), some (eI opening), some ((eT eI) ahead), some ((eT eI) behind)] (ev_call (evs_cons (ev_var rfl) (evs_cons (ev_sl (ev_var rfl) (evO_some (ev_var rfl)) evO_no (s_T (e := eI) (l := sequence))) evs_nil)) (o_append_of (n + 1) _ paper (cut sequence (some opening) none) D.2.1)) rfl ?_
    let rows2 : List (Int × Int × (List Int) × (List Int)) := st_ ++ [(((ahead.length : Int) + (behind.length : Int)), opening, ahead, behind)]
    refine xs_appT (e := (eP4 eI eI (eT eI) (eT eI))) (l := st_) (y := (((ahead.length : Int) + (behind.length : Int)), opening, ahead, behind)) [.lst (rows2.map (eP4 eI eI (eT eI) (eT eI)))] rfl (ev_tup (evs_cons (ev_bin (ev_bif (evs_cons (ev_var rfl) evs_nil) (b_lenT (e := eI) (l := ahead))) (ev_bif (evs_cons (ev_var rfl) evs_nil) (b_lenT (e := eI) (l := behind))) o_add) (evs_cons (ev_var rfl) (evs_cons (ev_var rfl) (evs_cons (ev_var rfl) evs_nil))))) rfl rfl D.2.2.1 rfl ?_
    exact xs_nil (nxG (fun n => ([some ((eT eI) paper), some ((eT eI) sequence), some (.ref 0), some (eI opening), some ((eT eI) ahead), some ((eT eI) behind)] : Env).getD n none) rfl rfl)
  let q : (List (Int × Int × (List Int) × (List Int))) := List.foldl (v_completion_L_ paper sequence) (rows : (List (Int × Int × (List Int) × (List Int)))) (rng 0 ((sequence.length : Int) + (1 : Int)))
  intro J_2
  exact xs_ret (ev_sl (ev_bif (evs_cons (ev_var rfl) evs_nil) (b_minE_R (e := (eP4 eI eI (eT eI) (eT eI))) (l := q) rfl D.2.2.2.1)) (evO_some ev_cst) evO_no sP4_1) (rt_p)
/-- _law_paper(_law_stream_here): 0 _law_stream_here -/
def fd245 : FnD := ⟨1, 1, false,
  (.cons (.ret (.ix (.lst false (.cons (.tup (.cons (.cst (.int 0)) .nil)) (.cons (.tup (.cons (.cst (.int 1)) (.cons (.cst (.int 0)) .nil))) (.cons (.tup (.cons (.cst (.int 0)) (.cons (.cst (.int 1)) .nil))) (.cons (.tup (.cons (.cst (.int 1)) (.cons (.cst (.int 0)) (.cons (.cst (.int 2)) .nil)))) (.cons (.tup (.cons (.cst (.int 0)) (.cons (.cst (.int 2)) (.cons (.cst (.int 1)) .nil)))) (.cons (.tup (.cons (.cst (.int 1)) (.cons (.cst (.int 0)) (.cons (.cst (.int 3)) (.cons (.cst (.int 2)) .nil))))) (.cons (.tup (.cons (.cst (.int 0)) (.cons (.cst (.int 1)) (.cons (.cst (.int 2)) .nil)))) (.cons (.tup (.cons (.cst (.int 4)) (.cons (.cst (.int 3)) (.cons (.cst (.int 2)) (.cons (.cst (.int 1)) (.cons (.cst (.int 0)) .nil)))))) (.cons (.tup (.cons (.cst (.int 1)) (.cons (.cst (.int 0)) (.cons (.cst (.int 2)) (.cons (.cst (.int 5)) (.cons (.cst (.int 4)) (.cons (.cst (.int 3)) .nil))))))) .nil)))))))))) (.call 230 (.cons (.var 0) (.cons (.cst (.int 9)) .nil))))) .nil)⟩
/-- _law_paper -/
@[irreducible] def v_l_paper_245 (s : Sm) : (List Int) × Sm :=
  let r : Int × Sm := nx s (9 : Int); ((gt [[(0 : Int)], [(1 : Int), (0 : Int)], [(0 : Int), (1 : Int)], [(1 : Int), (0 : Int), (2 : Int)], [(0 : Int), (2 : Int), (1 : Int)], [(1 : Int), (0 : Int), (3 : Int), (2 : Int)], [(0 : Int), (1 : Int), (2 : Int)], [(4 : Int), (3 : Int), (2 : Int), (1 : Int), (0 : Int)], [(1 : Int), (0 : Int), (2 : Int), (5 : Int), (4 : Int), (3 : Int)]] r.1), r.2)
@[irreducible] def d_l_paper_245 (s : Sm) : Prop :=
  let r : Int × Sm := nx s (9 : Int); (InR [[(0 : Int)], [(1 : Int), (0 : Int)], [(0 : Int), (1 : Int)], [(1 : Int), (0 : Int), (2 : Int)], [(0 : Int), (2 : Int), (1 : Int)], [(1 : Int), (0 : Int), (3 : Int), (2 : Int)], [(0 : Int), (1 : Int), (2 : Int)], [(4 : Int), (3 : Int), (2 : Int), (1 : Int), (0 : Int)], [(1 : Int), (0 : Int), (2 : Int), (5 : Int), (4 : Int), (3 : Int)]].length r.1) ∧ (True)
theorem o_l_paper_245 {P : Prog} [HasF P 230 fdNext] [HasF P 245 fd245] (n : Nat) (rest : MHp) (s : Sm) (D : d_l_paper_245 s) : callN P (n + 2) 245 [.ref 0] (eM s :: rest) = .ok ((eT eI) (v_l_paper_245 s).1) (eM (v_l_paper_245 s).2 :: rest) := by
  refine call_s (fd := fd245) (e := (eT eI)) (V := v_l_paper_245 s) [some (.ref 0)] rfl rfl rfl rfl ?_
  rw [show (eM s :: rest) = eM s :: (rest ++ []) from by rw [List.append_nil]]
  unfold d_l_paper_245 at D
  unfold v_l_paper_245
  let r : Int × Sm := nx s (9 : Int)
  exact xs_ret (ev_ix (ev_lst (evs_cons (ev_tup (evs_cons ev_cst evs_nil)) (evs_cons (ev_tup (evs_cons ev_cst (evs_cons ev_cst evs_nil))) (evs_cons (ev_tup (evs_cons ev_cst (evs_cons ev_cst evs_nil))) (evs_cons (ev_tup (evs_cons ev_cst (evs_cons ev_cst (evs_cons ev_cst evs_nil)))) (evs_cons (ev_tup (evs_cons ev_cst (evs_cons ev_cst (evs_cons ev_cst evs_nil)))) (evs_cons (ev_tup (evs_cons ev_cst (evs_cons ev_cst (evs_cons ev_cst (evs_cons ev_cst evs_nil))))) (evs_cons (ev_tup (evs_cons ev_cst (evs_cons ev_cst (evs_cons ev_cst evs_nil)))) (evs_cons (ev_tup (evs_cons ev_cst (evs_cons ev_cst (evs_cons ev_cst (evs_cons ev_cst (evs_cons ev_cst evs_nil)))))) (evs_cons (ev_tup (evs_cons ev_cst (evs_cons ev_cst (evs_cons ev_cst (evs_cons ev_cst (evs_cons ev_cst (evs_cons ev_cst evs_nil))))))) evs_nil)))))))))) (ev_call (evs_cons (ev_var rfl) (evs_cons ev_cst evs_nil)) (o_next (⟨by decide, by decide⟩))) (i_L (e := (eT eI)) (l := [[(0 : Int)], [(1 : Int), (0 : Int)], [(0 : Int), (1 : Int)], [(1 : Int), (0 : Int), (2 : Int)], [(0 : Int), (2 : Int), (1 : Int)], [(1 : Int), (0 : Int), (3 : Int), (2 : Int)], [(0 : Int), (1 : Int), (2 : Int)], [(4 : Int), (3 : Int), (2 : Int), (1 : Int), (0 : Int)], [(1 : Int), (0 : Int), (2 : Int), (5 : Int), (4 : Int), (3 : Int)]]) D.1)) (rt_s [])
/-- _law_reflected(_law_paper_here, _law_sequence_here): 0 _law_paper_here 1 _law_sequence_here 2 _law_mark -/
def fd289 : FnD := ⟨2, 3, false,
  (.cons (.ret (.bif .tuple (.cons (.lc [2] (.ix (.var 0) (.var 2)) (.nm 2) (.seq (.rev (.var 1))) .nil) .nil))) .nil)⟩
/-- _law_reflected -/
@[irreducible] def v_l_reflected_289 (paper_here : List Int) (sequence_here : List Int) : List Int :=
  (sequence_here.reverse.map fun mark => (gt paper_here mark))
@[irreducible] def d_l_reflected_289 (paper_here : List Int) (sequence_here : List Int) : Prop :=
  (∀ mark ∈ sequence_here.reverse, (InR paper_here.length mark) ∧ (True)) ∧ (True)
theorem o_l_reflected_289 {P : Prog} [HasF P 289 fd289] (n : Nat) (h : MHp) (paper_here : List Int) (sequence_here : List Int) (D : d_l_reflected_289 paper_here sequence_here) : callN P (n + 1) 289 [(eT eI) paper_here, (eT eI) sequence_here] h = .ok ((eT eI) (v_l_reflected_289 paper_here sequence_here)) h := by
  refine call_p (fd := fd289) (e := (eT eI)) (V := v_l_reflected_289 paper_here sequence_here) [some ((eT eI) paper_here), some ((eT eI) sequence_here), none] rfl rfl (nors_c (e := (eT eI)) (nors_c (e := (eT eI)) rfl)) rfl ?_
  unfold d_l_reflected_289 at D
  unfold v_l_reflected_289
  exact xs_ret (ev_bif (evs_cons (ev_lc (e := eI) (g := eI) (xs := sequence_here.reverse) (f := fun mark => (gt paper_here mark)) (evI_seqT (e := eI) (xs := sequence_here.reverse) (ev_rev (ev_var rfl) (r_T (e := eI) (l := sequence_here)))) rfl (fun mark hx => (fun D_ => ⟨[some ((eT eI) paper_here), some ((eT eI) sequence_here), some (eI mark)], rfl, (ev_ix (ev_var rfl) (ev_var rfl) (i_T (e := eI) (l := paper_here) D_.1))⟩) (D.1 mark hx))) evs_nil) (b_tupL (e := eI) (l := (sequence_here.reverse.map fun mark => (gt paper_here mark))))) (rt_p)
/-- _law_marks(_law_stream_here, _law_paper_here, _law_many): 0 _law_stream_here 1 _law_paper_here 2 _law_many 3 _law_k -/
def fd290 : FnD := ⟨3, 4, false,
  (.cons (.ret (.bif .tuple (.cons (.lc [3] (.call 230 (.cons (.var 0) (.cons (.bif .len (.cons (.var 1) .nil)) .nil))) (.nm 3) (.rng (.cons (.var 2) .nil)) .nil) .nil))) .nil)⟩
/-- _law_marks -/
@[irreducible] def v_l_marks (s : Sm) (paper_here : List Int) (many : Int) : (List Int) × Sm :=
  let r2 : (List Int) × Sm := mapS (fun (s2 : Sm) (k : Int) => let r : Int × Sm := nx s2 (paper_here.length : Int); (r.1, r.2)) s (rng 0 many); (r2.1, r2.2)
@[irreducible] def d_l_marks (s : Sm) (paper_here : List Int) (many : Int) : Prop :=
  (RngOk 0 many) ∧ ((∀ k ∈ (rng 0 many), ∀ s2 : Sm, (DrOk (paper_here.length : Int)) ∧ (let r : Int × Sm := nx s2 (paper_here.length : Int); True)) ∧ (let r2 : (List Int) × Sm := mapS (fun (s2 : Sm) (k : Int) => let r : Int × Sm := nx s2 (paper_here.length : Int); (r.1, r.2)) s (rng 0 many); True))
theorem o_l_marks {P : Prog} [HasF P 230 fdNext] [HasF P 290 fd290] (n : Nat) (rest : MHp) (s : Sm) (paper_here : List Int) (many : Int) (D : d_l_marks s paper_here many) : callN P (n + 2) 290 [.ref 0, (eT eI) paper_here, eI many] (eM s :: rest) = .ok ((eT eI) (v_l_marks s paper_here many).1) (eM (v_l_marks s paper_here many).2 :: rest) := by
  refine call_s (fd := fd290) (e := (eT eI)) (V := v_l_marks s paper_here many) [some (.ref 0), some ((eT eI) paper_here), some (eI many), none] rfl rfl rfl rfl ?_
  rw [show (eM s :: rest) = eM s :: (rest ++ []) from by rw [List.append_nil]]
  unfold d_l_marks at D
  unfold v_l_marks
  let r2 : (List Int) × Sm := mapS (fun (s2 : Sm) (k : Int) => let r : Int × Sm := nx s2 (paper_here.length : Int); (r.1, r.2)) s (rng 0 many)
  exact xs_ret (ev_bif (evs_cons (ev_lcS (e := eI) (g := eI) (B := (fun s => (eM s :: (rest ++ [])))) (f := (fun (s2 : Sm) (k : Int) => let r : Int × Sm := nx s2 (paper_here.length : Int); (r.1, r.2))) (evI_rng (evs_cons (ev_var rfl) evs_nil) (range1 D.1)) (fun k hx => ⟨[some (.ref 0), some ((eT eI) paper_here), some (eI many), some (eI k)], rfl, fun s2 => (fun D_ => let r : Int × Sm := nx s2 (paper_here.length : Int); (ev_call (evs_cons (ev_var rfl) (evs_cons (ev_bif (evs_cons (ev_var rfl) evs_nil) (b_lenT (e := eI) (l := paper_here))) evs_nil)) (o_next D_.1))) (D.2.1 k hx s2)⟩)) evs_nil) (b_tupL (e := eI) (l := r2.1))) (rt_s [])
/-- _law_book(_law_stream_here, _law_paper_here, _law_most): 0 _law_stream_here 1 _law_paper_here 2 _law_most 3 _law_sequence_here 4 _law_turn 5 _law_half 6 _law_part -/
def fd291 : FnD := ⟨3, 7, false,
  (.cons (.asg (.nm 3) (.tup .nil)) (.cons (.for (.nm 4) (.rng (.cons (.bin .add (.cst (.int 1)) (.call 230 (.cons (.var 0) (.cons (.cst (.int 4)) .nil)))) .nil)) (.cons (.asg (.nm 5) (.call 290 (.cons (.var 0) (.cons (.var 1) (.cons (.bin .add (.cst (.int 1)) (.call 230 (.cons (.var 0) (.cons (.cst (.int 3)) .nil)))) .nil))))) (.cons (.asg (.nm 6) (.bin .add (.var 5) (.call 289 (.cons (.var 1) (.cons (.var 5) .nil))))) (.cons (.ite (.and (.cons (.var 3) (.cons (.cmp .eq (.call 230 (.cons (.var 0) (.cons (.cst (.int 3)) .nil))) (.cst (.int 0))) .nil))) (.cons (.asg (.nm 6) (.sl (.var 3) (.some (.neg (.cst (.int 2)))) .no)) .nil) .nil) (.cons (.ite (.and (.cons (.var 3) (.cons (.cmp .eq (.call 230 (.cons (.var 0) (.cons (.cst (.int 4)) .nil))) (.cst (.int 0))) .nil))) (.cons (.asg (.nm 6) (.var 3)) .nil) .nil) (.cons (.ite (.cmp .le (.bin .add (.bif .len (.cons (.var 3) .nil)) (.bif .len (.cons (.var 6) .nil))) (.var 2)) (.cons (.asg (.nm 3) (.bin .add (.var 3) (.var 6))) .nil) .nil) .nil)))))) (.cons (.ret (.var 3)) .nil)))⟩
@[irreducible] def v_l_book_L_ (paper_here : List Int) (most : Int) (st_ : (List Int) × Sm) (turn : Int) : (List Int) × Sm :=
  let r2 : Int × Sm := nx st_.2 (3 : Int); let r3 : (List Int) × Sm := v_l_marks r2.2 paper_here ((1 : Int) + r2.1); let half : List Int := r3.1; let part : List Int := (half ++ (v_l_reflected_289 paper_here half)); let r5 : Bool × Sm := if (!st_.1.isEmpty) = true then (let r4 : Int × Sm := nx r3.2 (3 : Int); (decide (r4.1 = (0 : Int)), r4.2)) else (false, r3.2); let q : (List Int) := if r5.1 = true then (let part4 : List Int := (cut st_.1 (some (-(2 : Int))) none); part4) else (part); let r7 : Bool × Sm := if (!st_.1.isEmpty) = true then (let r6 : Int × Sm := nx r5.2 (4 : Int); (decide (r6.1 = (0 : Int)), r6.2)) else (false, r5.2); let q2 : (List Int) := if r7.1 = true then (let part7 : List Int := st_.1; part7) else (q); let q3 : (List Int) := if (decide (((st_.1.length : Int) + (q2.length : Int)) ≤ most)) = true then (let sequence_here4 : List Int := (st_.1 ++ q2); sequence_here4) else (st_.1); (q3, r7.2)
@[irreducible] def d_l_book_L_ (paper_here : List Int) (most : Int) (st_ : (List Int) × Sm) (turn : Int) : Prop :=
  let r2 : Int × Sm := nx st_.2 (3 : Int); (d_l_marks r2.2 paper_here ((1 : Int) + r2.1)) ∧ (let r3 : (List Int) × Sm := v_l_marks r2.2 paper_here ((1 : Int) + r2.1); let half : List Int := r3.1; (d_l_reflected_289 paper_here half) ∧ ((BigOk half.length (v_l_reflected_289 paper_here half).length) ∧ (let part : List Int := (half ++ (v_l_reflected_289 paper_here half)); let r5 : Bool × Sm := if (!st_.1.isEmpty) = true then (let r4 : Int × Sm := nx r3.2 (3 : Int); (decide (r4.1 = (0 : Int)), r4.2)) else (false, r3.2); let q : (List Int) := if r5.1 = true then (let part4 : List Int := (cut st_.1 (some (-(2 : Int))) none); part4) else (part); let r7 : Bool × Sm := if (!st_.1.isEmpty) = true then (let r6 : Int × Sm := nx r5.2 (4 : Int); (decide (r6.1 = (0 : Int)), r6.2)) else (false, r5.2); let q2 : (List Int) := if r7.1 = true then (let part7 : List Int := st_.1; part7) else (q); (((decide (((st_.1.length : Int) + (q2.length : Int)) ≤ most)) = true → (BigOk st_.1.length q2.length) ∧ (let sequence_here4 : List Int := (st_.1 ++ q2); True)) ∧ ((decide (((st_.1.length : Int) + (q2.length : Int)) ≤ most)) = false → True)) ∧ (let q3 : (List Int) := if (decide (((st_.1.length : Int) + (q2.length : Int)) ≤ most)) = true then (let sequence_here4 : List Int := (st_.1 ++ q2); sequence_here4) else (st_.1); True))))
/-- _law_book -/
@[irreducible] def v_l_book (s : Sm) (paper_here : List Int) (most : Int) : (List Int) × Sm :=
  let sequence_here : List Int := []; let r : Int × Sm := nx s (4 : Int); let q4 : (List Int) × Sm := List.foldl (v_l_book_L_ paper_here most) ((sequence_here, r.2) : (List Int) × Sm) (rng 0 ((1 : Int) + r.1)); (q4.1, q4.2)
@[irreducible] def d_l_book (s : Sm) (paper_here : List Int) (most : Int) : Prop :=
  let sequence_here : List Int := []; let r : Int × Sm := nx s (4 : Int); (RngOk 0 ((1 : Int) + r.1)) ∧ ((FoldD (v_l_book_L_ paper_here most) (d_l_book_L_ paper_here most) ((sequence_here, r.2) : (List Int) × Sm) (rng 0 ((1 : Int) + r.1))) ∧ (let q4 : (List Int) × Sm := List.foldl (v_l_book_L_ paper_here most) ((sequence_here, r.2) : (List Int) × Sm) (rng 0 ((1 : Int) + r.1)); True))
theorem o_l_book {P : Prog} [HasF P 230 fdNext] [HasF P 289 fd289] [HasF P 290 fd290] [HasF P 291 fd291] (n : Nat) (rest : MHp) (s : Sm) (paper_here : List Int) (most : Int) (D : d_l_book s paper_here most) : callN P (n + 3) 291 [.ref 0, (eT eI) paper_here, eI most] (eM s :: rest) = .ok ((eT eI) (v_l_book s paper_here most).1) (eM (v_l_book s paper_here most).2 :: rest) := by
  refine call_s (fd := fd291) (e := (eT eI)) (V := v_l_book s paper_here most) [some (.ref 0), some ((eT eI) paper_here), some (eI most), none, none, none, none] rfl rfl rfl rfl ?_
  rw [show (eM s :: rest) = eM s :: (rest ++ []) from by rw [List.append_nil]]
  unfold d_l_book at D
  unfold v_l_book
  let sequence_here : List Int := []
  refine xs_asg [some (.ref 0), some ((eT eI) paper_here), some (eI most), some ((eT eI) sequence_here), none, none, none] (ev_tup evs_nil) rfl ?_
  let r : Int × Sm := nx s (4 : Int)
  refine xs_for (e := eI) (xs := (rng 0 ((1 : Int) + r.1))) (fun (w4 : (List Int) × Sm) (J : Jk) => [some (.ref 0), some ((eT eI) paper_here), some (eI most), some ((eT eI) w4.1), J 4, J 5, J 6]) (fun (w4 : (List Int) × Sm) => (eM w4.2 :: (rest ++ []))) (v_l_book_L_ paper_here most) (d_l_book_L_ paper_here most) ((sequence_here, r.2) : (List Int) × Sm) (fun n => ([some (.ref 0), some ((eT eI) paper_here), some (eI most), some ((eT eI) sequence_here), none, none, none] : Env).getD n none) (evI_rng (evs_cons (ev_bin ev_cst (ev_call (evs_cons (ev_var rfl) (evs_cons ev_cst evs_nil)) (o_next (⟨by decide, by decide⟩))) o_add) evs_nil) (range1 D.1)) rfl rfl (fun _ => rfl) D.2.1 ?_ ?_
  · intro st_ J_ turn D
    refine ⟨[some (.ref 0), some ((eT eI) paper_here), some (eI most), some ((eT eI) st_.1), some (eI turn), J_ 5, J_ 6], rfl, ?_⟩
    unfold d_l_book_L_ at D
    unfold v_l_book_L_
    let r2 : Int × Sm := nx st_.2 (3 : Int)
    let r3 : (List Int) × Sm := v_l_marks r2.2 paper_here ((1 : Int) + r2.1)
    let half : List Int := r3.1
    refine xs_asg [some (.ref 0), some ((eT eI) paper_here), some (eI most), some ((eT eI) st_.1), some (eI turn), some ((eT eI) half), J_ 6] (ev_call (evs_cons (ev_var rfl) (evs_cons (ev_var rfl) (evs_cons (ev_bin ev_cst (ev_call (evs_cons (ev_var rfl) (evs_cons ev_cst evs_nil)) (o_next (⟨by decide, by decide⟩))) o_add) evs_nil))) (o_l_marks (n + 0) _ _ paper_here ((1 : Int) + r2.1) D.1)) rfl ?_
    let part : List Int := (half ++ (v_l_reflected_289 paper_here half))
    refine xs_asg [some (.ref 0), some ((eT eI) paper_here), some (eI most), some ((eT eI) st_.1), some (eI turn), some ((eT eI) half), some ((eT eI) part)] (ev_bin (ev_var rfl) (ev_call (evs_cons (ev_var rfl) (evs_cons (ev_var rfl) evs_nil)) (o_l_reflected_289 (n + 1) _ paper_here half D.2.1)) (o_addT (e := eI) (a := half) (b := (v_l_reflected_289 paper_here half)) D.2.2.1)) rfl ?_
    let r5 : Bool × Sm := if (!st_.1.isEmpty) = true then (let r4 : Int × Sm := nx r3.2 (3 : Int); (decide (r4.1 = (0 : Int)), r4.2)) else (false, r3.2)
    refine xs_join (S1 := (let part4 : List Int := (cut st_.1 (some (-(2 : Int))) none); part4)) (S2 := (part)) (fun (w : (List Int)) (J : Jk) => [some (.ref 0), some ((eT eI) paper_here), some (eI most), some ((eT eI) st_.1), some (eI turn), some ((eT eI) half), some ((eT eI) w)]) (fun (w : (List Int)) => (eM r5.2 :: (rest ++ []))) (evB_and (evBA_consE (B := (fun s => (eM s :: (rest ++ [])))) (y := (let r4 : Int × Sm := nx r3.2 (3 : Int); (decide (r4.1 = (0 : Int)), r4.2))) (evB_v (ev_var rfl) t_T) (fun _ => let r4 : Int × Sm := nx r3.2 (3 : Int); (evBA_one (evB_of (ev_cmp (ev_call (evs_cons (ev_var rfl) (evs_cons ev_cst evs_nil)) (o_next (⟨by decide, by decide⟩))) ev_cst (c_eq (e := eI) (a := r4.1) (b := (0 : Int))))))))) (fun hc => ?_) (fun hc => ?_) ?_
    · let part4 : List Int := (cut st_.1 (some (-(2 : Int))) none)
      refine xs_asg [some (.ref 0), some ((eT eI) paper_here), some (eI most), some ((eT eI) st_.1), some (eI turn), some ((eT eI) half), some ((eT eI) part4)] (ev_sl (ev_var rfl) (evO_some (ev_neg ev_cst)) evO_no (s_T (e := eI) (l := st_.1))) rfl ?_
      exact xs_nil (nxJ (fun n => ([some (.ref 0), some ((eT eI) paper_here), some (eI most), some ((eT eI) st_.1), some (eI turn), some ((eT eI) half), some ((eT eI) part4)] : Env).getD n none) rfl rfl)
    · exact xs_nil (nxJ (fun n => ([some (.ref 0), some ((eT eI) paper_here), some (eI most), some ((eT eI) st_.1), some (eI turn), some ((eT eI) half), some ((eT eI) part)] : Env).getD n none) rfl rfl)
    let q : (List Int) := if r5.1 = true then (let part4 : List Int := (cut st_.1 (some (-(2 : Int))) none); part4) else (part)
    intro J_2
    let r7 : Bool × Sm := if (!st_.1.isEmpty) = true then (let r6 : Int × Sm := nx r5.2 (4 : Int); (decide (r6.1 = (0 : Int)), r6.2)) else (false, r5.2)
    refine xs_join (S1 := (let part7 : List Int := st_.1; part7)) (S2 := (q)) (fun (w2 : (List Int)) (J : Jk) => [some (.ref 0), some ((eT eI) paper_here), some (eI most), some ((eT eI) st_.1), some (eI turn), some ((eT eI) half), some ((eT eI) w2)]) (fun (w2 : (List Int)) => (eM r7.2 :: (rest ++ []))) (evB_and (evBA_consE (B := (fun s => (eM s :: (rest ++ [])))) (y := (let r6 : Int × Sm := nx r5.2 (4 : Int); (decide (r6.1 = (0 : Int)), r6.2))) (evB_v (ev_var rfl) t_T) (fun _ => let r6 : Int × Sm := nx r5.2 (4 : Int); (evBA_one (evB_of (ev_cmp (ev_call (evs_cons (ev_var rfl) (evs_cons ev_cst evs_nil)) (o_next (⟨by decide, by decide⟩))) ev_cst (c_eq (e := eI) (a := r6.1) (b := (0 : Int))))))))) (fun hc2 => ?_) (fun hc2 => ?_) ?_
    · let part7 : List Int := st_.1
      refine xs_asg [some (.ref 0), some ((eT eI) paper_here), some (eI most), some ((eT eI) st_.1), some (eI turn), some ((eT eI) half), some ((eT eI) part7)] (ev_var rfl) rfl ?_
      exact xs_nil (nxJ (fun n => ([some (.ref 0), some ((eT eI) paper_here), some (eI most), some ((eT eI) st_.1), some (eI turn), some ((eT eI) half), some ((eT eI) part7)] : Env).getD n none) rfl rfl)
    · exact xs_nil (nxJ (fun n => ([some (.ref 0), some ((eT eI) paper_here), some (eI most), some ((eT eI) st_.1), some (eI turn), some ((eT eI) half), some ((eT eI) q)] : Env).getD n none) rfl rfl)
    let q2 : (List Int) := if r7.1 = true then (let part7 : List Int := st_.1; part7) else (q)
    intro J_3
    refine xs_join (S1 := (let sequence_here4 : List Int := (st_.1 ++ q2); sequence_here4)) (S2 := (st_.1)) (fun (w3 : (List Int)) (J : Jk) => [some (.ref 0), some ((eT eI) paper_here), some (eI most), some ((eT eI) w3), some (eI turn), some ((eT eI) half), some ((eT eI) q2)]) (fun (w3 : (List Int)) => (eM r7.2 :: (rest ++ []))) (evB_of (ev_cmp (ev_bin (ev_bif (evs_cons (ev_var rfl) evs_nil) (b_lenT (e := eI) (l := st_.1))) (ev_bif (evs_cons (ev_var rfl) evs_nil) (b_lenT (e := eI) (l := q2))) o_add) (ev_var rfl) c_le)) (fun hc3 => ?_) (fun hc3 => ?_) ?_
    · have D_20 := D.2.2.2.1.1 hc3
      let sequence_here4 : List Int := (st_.1 ++ q2)
      refine xs_asg [some (.ref 0), some ((eT eI) paper_here), some (eI most), some ((eT eI) sequence_here4), some (eI turn), some ((eT eI) half), some ((eT eI) q2)] (ev_bin (ev_var rfl) (ev_var rfl) (o_addT (e := eI) (a := st_.1) (b := q2) D_20.1)) rfl ?_
      exact xs_nil (nxJ (fun n => ([some (.ref 0), some ((eT eI) paper_here), some (eI most), some ((eT eI) sequence_here4), some (eI turn), some ((eT eI) half), some ((eT eI) q2)] : Env).getD n none) rfl rfl)
    · exact xs_nil (nxJ (fun n => ([some (.ref 0), some ((eT eI) paper_here), some (eI most), some ((eT eI) st_.1), some (eI turn), some ((eT eI) half), some ((eT eI) q2)] : Env).getD n none) rfl rfl)
    let q3 : (List Int) := if (decide (((st_.1.length : Int) + (q2.length : Int)) ≤ most)) = true then (let sequence_here4 : List Int := (st_.1 ++ q2); sequence_here4) else (st_.1)
    intro J_4
    exact xs_nil (nxG (fun n => ([some (.ref 0), some ((eT eI) paper_here), some (eI most), some ((eT eI) q3), some (eI turn), some ((eT eI) half), some ((eT eI) q2)] : Env).getD n none) rfl rfl)
  let q4 : (List Int) × Sm := List.foldl (v_l_book_L_ paper_here most) ((sequence_here, r.2) : (List Int) × Sm) (rng 0 ((1 : Int) + r.1))
  intro J_5
  exact xs_ret (ev_var rfl) (rt_s [])
/-- _law_sequence(_law_stream_here, _law_paper_here, _law_most): 0 _law_stream_here 1 _law_paper_here 2 _law_most 3 _law_sequence_here 4 _law_pick -/
def fd292 : FnD := ⟨3, 5, false,
  (.cons (.asg (.nm 3) (.call 291 (.cons (.var 0) (.cons (.var 1) (.cons (.var 2) .nil))))) (.cons (.asg (.nm 4) (.call 230 (.cons (.var 0) (.cons (.cst (.int 5)) .nil)))) (.cons (.ite (.cmp .eq (.var 4) (.cst (.int 0))) (.cons (.asg (.nm 3) (.call 290 (.cons (.var 0) (.cons (.var 1) (.cons (.call 230 (.cons (.var 0) (.cons (.bin .add (.var 2) (.cst (.int 1))) .nil))) .nil))))) .nil) .nil) (.cons (.ite (.cmp .eq (.var 4) (.cst (.int 1))) (.cons (.asg (.nm 3) (.sl (.bin .add (.var 3) (.call 290 (.cons (.var 0) (.cons (.var 1) (.cons (.call 230 (.cons (.var 0) (.cons (.cst (.int 4)) .nil))) .nil))))) .no (.some (.var 2)))) .nil) .nil) (.cons (.ite (.cmp .eq (.var 4) (.cst (.int 2))) (.cons (.asg (.nm 3) (.sl (.var 3) (.some (.call 230 (.cons (.var 0) (.cons (.cst (.int 3)) .nil)))) .no)) .nil) .nil) (.cons (.ret (.var 3)) .nil))))))⟩
/-- _law_sequence -/
@[irreducible] def v_l_sequence_292 (s : Sm) (paper_here : List Int) (most : Int) : (List Int) × Sm :=
  let r : (List Int) × Sm := v_l_book s paper_here most; let sequence_here : List Int := r.1; let r2 : Int × Sm := nx r.2 (5 : Int); let pick : Int := r2.1; let q : (List Int) × Sm := if (decide (pick = (0 : Int))) = true then (let r7 : Int × Sm := nx r2.2 (most + (1 : Int)); let r8 : (List Int) × Sm := v_l_marks r7.2 paper_here r7.1; let sequence_here4 : List Int := r8.1; (sequence_here4, r8.2)) else ((sequence_here, r2.2)); let q2 : (List Int) × Sm := if (decide (pick = (1 : Int))) = true then (let r13 : Int × Sm := nx q.2 (4 : Int); let r14 : (List Int) × Sm := v_l_marks r13.2 paper_here r13.1; let sequence_here7 : List Int := (cut (q.1 ++ r14.1) none (some most)); (sequence_here7, r14.2)) else ((q.1, q.2)); let q3 : (List Int) × Sm := if (decide (pick = (2 : Int))) = true then (let r17 : Int × Sm := nx q2.2 (3 : Int); let sequence_here10 : List Int := (cut q2.1 (some r17.1) none); (sequence_here10, r17.2)) else ((q2.1, q2.2)); (q3.1, q3.2)
@[irreducible] def d_l_sequence_292 (s : Sm) (paper_here : List Int) (most : Int) : Prop :=
  (d_l_book s paper_here most) ∧ (let r : (List Int) × Sm := v_l_book s paper_here most; let sequence_here : List Int := r.1; let r2 : Int × Sm := nx r.2 (5 : Int); let pick : Int := r2.1; (((decide (pick = (0 : Int))) = true → (DrOk (most + (1 : Int))) ∧ (let r7 : Int × Sm := nx r2.2 (most + (1 : Int)); (d_l_marks r7.2 paper_here r7.1) ∧ (let r8 : (List Int) × Sm := v_l_marks r7.2 paper_here r7.1; let sequence_here4 : List Int := r8.1; True))) ∧ ((decide (pick = (0 : Int))) = false → True)) ∧ (let q : (List Int) × Sm := if (decide (pick = (0 : Int))) = true then (let r7 : Int × Sm := nx r2.2 (most + (1 : Int)); let r8 : (List Int) × Sm := v_l_marks r7.2 paper_here r7.1; let sequence_here4 : List Int := r8.1; (sequence_here4, r8.2)) else ((sequence_here, r2.2)); (((decide (pick = (1 : Int))) = true → let r13 : Int × Sm := nx q.2 (4 : Int); (d_l_marks r13.2 paper_here r13.1) ∧ (let r14 : (List Int) × Sm := v_l_marks r13.2 paper_here r13.1; (BigOk q.1.length r14.1.length) ∧ (let sequence_here7 : List Int := (cut (q.1 ++ r14.1) none (some most)); True))) ∧ ((decide (pick = (1 : Int))) = false → True)) ∧ (let q2 : (List Int) × Sm := if (decide (pick = (1 : Int))) = true then (let r13 : Int × Sm := nx q.2 (4 : Int); let r14 : (List Int) × Sm := v_l_marks r13.2 paper_here r13.1; let sequence_here7 : List Int := (cut (q.1 ++ r14.1) none (some most)); (sequence_here7, r14.2)) else ((q.1, q.2)); let q3 : (List Int) × Sm := if (decide (pick = (2 : Int))) = true then (let r17 : Int × Sm := nx q2.2 (3 : Int); let sequence_here10 : List Int := (cut q2.1 (some r17.1) none); (sequence_here10, r17.2)) else ((q2.1, q2.2)); True)))
theorem o_l_sequence_292 {P : Prog} [HasF P 230 fdNext] [HasF P 289 fd289] [HasF P 290 fd290] [HasF P 291 fd291] [HasF P 292 fd292] (n : Nat) (rest : MHp) (s : Sm) (paper_here : List Int) (most : Int) (D : d_l_sequence_292 s paper_here most) : callN P (n + 4) 292 [.ref 0, (eT eI) paper_here, eI most] (eM s :: rest) = .ok ((eT eI) (v_l_sequence_292 s paper_here most).1) (eM (v_l_sequence_292 s paper_here most).2 :: rest) := by
  refine call_s (fd := fd292) (e := (eT eI)) (V := v_l_sequence_292 s paper_here most) [some (.ref 0), some ((eT eI) paper_here), some (eI most), none, none] rfl rfl rfl rfl ?_
  rw [show (eM s :: rest) = eM s :: (rest ++ []) from by rw [List.append_nil]]
  unfold d_l_sequence_292 at D
  unfold v_l_sequence_292
  let r : (List Int) × Sm := v_l_book s paper_here most
  let sequence_here : List Int := r.1
  refine xs_asg [some (.ref 0), some ((eT eI) paper_here), some (eI most), some ((eT eI) sequence_here), none] (ev_call (evs_cons (ev_var rfl) (evs_cons (ev_var rfl) (evs_cons (ev_var rfl) evs_nil))) (o_l_book (n + 0) _ _ paper_here most D.1)) rfl ?_
  let r2 : Int × Sm := nx r.2 (5 : Int)
  let pick : Int := r2.1
  refine xs_asg [some (.ref 0), some ((eT eI) paper_here), some (eI most), some ((eT eI) sequence_here), some (eI pick)] (ev_call (evs_cons (ev_var rfl) (evs_cons ev_cst evs_nil)) (o_next (⟨by decide, by decide⟩))) rfl ?_
  refine xs_join (S1 := (let r7 : Int × Sm := nx r2.2 (most + (1 : Int)); let r8 : (List Int) × Sm := v_l_marks r7.2 paper_here r7.1; let sequence_here4 : List Int := r8.1; (sequence_here4, r8.2))) (S2 := ((sequence_here, r2.2))) (fun (w : (List Int) × Sm) (J : Jk) => [some (.ref 0), some ((eT eI) paper_here), some (eI most), some ((eT eI) w.1), some (eI pick)]) (fun (w : (List Int) × Sm) => (eM w.2 :: (rest ++ []))) (evB_of (ev_cmp (ev_var rfl) ev_cst (c_eq (e := eI) (a := pick) (b := (0 : Int))))) (fun hc => ?_) (fun hc => ?_) ?_
  · have D_5 := D.2.1.1 hc
    let r7 : Int × Sm := nx r2.2 (most + (1 : Int))
    let r8 : (List Int) × Sm := v_l_marks r7.2 paper_here r7.1
    let sequence_here4 : List Int := r8.1
    refine xs_asg [some (.ref 0), some ((eT eI) paper_here), some (eI most), some ((eT eI) sequence_here4), some (eI pick)] (ev_call (evs_cons (ev_var rfl) (evs_cons (ev_var rfl) (evs_cons (ev_call (evs_cons (ev_var rfl) (evs_cons (ev_bin (ev_var rfl) ev_cst o_add) evs_nil)) (o_next D_5.1)) evs_nil))) (o_l_marks (n + 1) _ _ paper_here r7.1 D_5.2.1)) rfl ?_
    exact xs_nil (nxJ (fun n => ([some (.ref 0), some ((eT eI) paper_here), some (eI most), some ((eT eI) sequence_here4), some (eI pick)] : Env).getD n none) rfl rfl)
  · exact xs_nil (nxJ (fun n => ([some (.ref 0), some ((eT eI) paper_here), some (eI most), some ((eT eI) sequence_here), some (eI pick)] : Env).getD n none) rfl rfl)
  let q : (List Int) × Sm := if (decide (pick = (0 : Int))) = true then (let r7 : Int × Sm := nx r2.2 (most + (1 : Int)); let r8 : (List Int) × Sm := v_l_marks r7.2 paper_here r7.1; let sequence_here4 : List Int := r8.1; (sequence_here4, r8.2)) else ((sequence_here, r2.2))
  intro J_
  refine xs_join (S1 := (let r13 : Int × Sm := nx q.2 (4 : Int); let r14 : (List Int) × Sm := v_l_marks r13.2 paper_here r13.1; let sequence_here7 : List Int := (cut (q.1 ++ r14.1) none (some most)); (sequence_here7, r14.2))) (S2 := ((q.1, q.2))) (fun (w2 : (List Int) × Sm) (J : Jk) => [some (.ref 0), some ((eT eI) paper_here), some (eI most), some ((eT eI) w2.1), some (eI pick)]) (fun (w2 : (List Int) × Sm) => (eM w2.2 :: (rest ++ []))) (evB_of (ev_cmp (ev_var rfl) ev_cst (c_eq (e := eI) (a := pick) (b := (1 : Int))))) (fun hc2 => ?_) (fun hc2 => ?_) ?_
  · have D_11 := D.2.2.1.1 hc2
    let r13 : Int × Sm := nx q.2 (4 : Int)
    let r14 : (List Int) × Sm := v_l_marks r13.2 paper_here r13.1
    let sequence_here7 : List Int := (cut (q.1 ++ r14.1) none (some most))
    refine xs_asg [some (.ref 0), some ((eT eI) paper_here), some (eI most), some ((eT eI) sequence_here7), some (eI pick)] (ev_sl (ev_bin (ev_var rfl) (ev_call (evs_cons (ev_var rfl) (evs_cons (ev_var rfl) (evs_cons (ev_call (evs_cons (ev_var rfl) (evs_cons ev_cst evs_nil)) (o_next (⟨by decide, by decide⟩))) evs_nil))) (o_l_marks (n + 1) _ _ paper_here r13.1 D_11.1)) (o_addT (e := eI) (a := q.1) (b := r14.1) D_11.2.1)) evO_no (evO_some (ev_var rfl)) (s_T (e := eI) (l := (q.1 ++ r14.1)))) rfl ?_
    exact xs_nil (nxJ (fun n => ([some (.ref 0), some ((eT eI) paper_here), some (eI most), some ((eT eI) sequence_here7), some (eI pick)] : Env).getD n none) rfl rfl)
  · exact xs_nil (nxJ (fun n => ([some (.ref 0), some ((eT eI) paper_here), some (eI most), some ((eT eI) q.1), some (eI pick)] : Env).getD n none) rfl rfl)
  let q2 : (List Int) × Sm := if (decide (pick = (1 : Int))) = true then (let r13 : Int × Sm := nx q.2 (4 : Int); let r14 : (List Int) × Sm := v_l_marks r13.2 paper_here r13.1; let sequence_here7 : List Int := (cut (q.1 ++ r14.1) none (some most)); (sequence_here7, r14.2)) else ((q.1, q.2))
  intro J_2
  refine xs_join (S1 := (let r17 : Int × Sm := nx q2.2 (3 : Int); let sequence_here10 : List Int := (cut q2.1 (some r17.1) none); (sequence_here10, r17.2))) (S2 := ((q2.1, q2.2))) (fun (w3 : (List Int) × Sm) (J : Jk) => [some (.ref 0), some ((eT eI) paper_here), some (eI most), some ((eT eI) w3.1), some (eI pick)]) (fun (w3 : (List Int) × Sm) => (eM w3.2 :: (rest ++ []))) (evB_of (ev_cmp (ev_var rfl) ev_cst (c_eq (e := eI) (a := pick) (b := (2 : Int))))) (fun hc3 => ?_) (fun hc3 => ?_) ?_
  · let r17 : Int × Sm := nx q2.2 (3 : Int)
    let sequence_here10 : List Int := (cut q2.1 (some r17.1) none)
    refine xs_asg [some (.ref 0), some ((eT eI) paper_here), some (eI most), some ((eT eI) sequence_here10), some (eI pick)] (ev_sl (ev_var rfl) (evO_some (ev_call (evs_cons (ev_var rfl) (evs_cons ev_cst evs_nil)) (o_next (⟨by decide, by decide⟩)))) evO_no (s_T (e := eI) (l := q2.1))) rfl ?_
    exact xs_nil (nxJ (fun n => ([some (.ref 0), some ((eT eI) paper_here), some (eI most), some ((eT eI) sequence_here10), some (eI pick)] : Env).getD n none) rfl rfl)
  · exact xs_nil (nxJ (fun n => ([some (.ref 0), some ((eT eI) paper_here), some (eI most), some ((eT eI) q2.1), some (eI pick)] : Env).getD n none) rfl rfl)
  let q3 : (List Int) × Sm := if (decide (pick = (2 : Int))) = true then (let r17 : Int × Sm := nx q2.2 (3 : Int); let sequence_here10 : List Int := (cut q2.1 (some r17.1) none); (sequence_here10, r17.2)) else ((q2.1, q2.2))
  intro J_3
  exact xs_ret (ev_var rfl) (rt_s [])
/-- _law_is_gathering(_law_paper_here, _law_sequence_here): 0 _law_paper_here 1 _law_sequence_here -/
def fd293 : FnD := ⟨2, 2, false,
  (.cons (.ret (.and (.cons (.cmp .gt (.bif .len (.cons (.var 1) .nil)) (.cst (.int 0))) (.cons (.cmp .eq (.bin .mod (.bif .len (.cons (.var 1) .nil)) (.cst (.int 2))) (.cst (.int 0))) (.cons (.cmp .eq (.call 289 (.cons (.var 0) (.cons (.var 1) .nil))) (.var 1)) .nil))))) .nil)⟩
/-- _law_is_gathering -/
@[irreducible] def v_l_is_gathering (paper_here : List Int) (sequence_here : List Int) : Bool :=
  (decide ((0 : Int) < (sequence_here.length : Int)) && (decide (((sequence_here.length : Int) % (2 : Int)) = (0 : Int)) && decide ((v_l_reflected_289 paper_here sequence_here) = sequence_here)))
@[irreducible] def d_l_is_gathering (paper_here : List Int) (sequence_here : List Int) : Prop :=
  ((decide ((0 : Int) < (sequence_here.length : Int))) = true → ((decide (((sequence_here.length : Int) % (2 : Int)) = (0 : Int))) = true → (d_l_reflected_289 paper_here sequence_here) ∧ (True)) ∧ (True)) ∧ (True)
theorem o_l_is_gathering {P : Prog} [HasF P 289 fd289] [HasF P 293 fd293] (n : Nat) (h : MHp) (paper_here : List Int) (sequence_here : List Int) (D : d_l_is_gathering paper_here sequence_here) : callN P (n + 2) 293 [(eT eI) paper_here, (eT eI) sequence_here] h = .ok (eB (v_l_is_gathering paper_here sequence_here)) h := by
  refine call_p (fd := fd293) (e := eB) (V := v_l_is_gathering paper_here sequence_here) [some ((eT eI) paper_here), some ((eT eI) sequence_here)] rfl rfl (nors_c (e := (eT eI)) (nors_c (e := (eT eI)) rfl)) rfl ?_
  unfold d_l_is_gathering at D
  unfold v_l_is_gathering
  exact xs_ret (ev_and (evA_cons (ev_cmp (ev_bif (evs_cons (ev_var rfl) evs_nil) (b_lenT (e := eI) (l := sequence_here))) ev_cst c_gt) (fun hc => (fun D_ => (evA_cons (ev_cmp (ev_bin (ev_bif (evs_cons (ev_var rfl) evs_nil) (b_lenT (e := eI) (l := sequence_here))) ev_cst (o_mod (by decide))) ev_cst (c_eq (e := eI) (a := ((sequence_here.length : Int) % (2 : Int))) (b := (0 : Int)))) (fun hc => (fun D_2 => (evA_one (ev_cmp (ev_call (evs_cons (ev_var rfl) (evs_cons (ev_var rfl) evs_nil)) (o_l_reflected_289 (n + 0) _ paper_here sequence_here D_2.1)) (ev_var rfl) (c_eq (e := (eT eI)) (a := (v_l_reflected_289 paper_here sequence_here)) (b := sequence_here))))) (D_.1 hc)))) (D.1 hc)))) (rt_p)
/-- _law_split(_law_paper_here, _law_sequence_here): 0 _law_paper_here 1 _law_sequence_here 2 _law_factors 3 _law_rest 4 _law_turn 5 _law_sizes 6 _law_many -/
def fd294 : FnD := ⟨2, 7, false,
  (.cons (.asg (.nm 2) (.tup .nil)) (.cons (.asg (.nm 3) (.var 1)) (.cons (.for (.nm 4) (.rng (.cons (.bin .fdv (.bif .len (.cons (.var 1) .nil)) (.cst (.int 2))) .nil)) (.cons (.asg (.nm 5) (.lc [6] (.var 6) (.nm 6) (.rng (.cons (.cst (.int 2)) (.cons (.bin .add (.bif .len (.cons (.var 3) .nil)) (.cst (.int 1))) (.cons (.cst (.int 2)) .nil)))) (.cons (.call 293 (.cons (.var 0) (.cons (.sl (.var 3) .no (.some (.var 6))) .nil))) .nil))) (.cons (.ite (.var 5) (.cons (.asg (.nm 2) (.bin .add (.var 2) (.tup (.cons (.sl (.var 3) .no (.some (.ix (.var 5) (.cst (.int 0))))) .nil)))) (.cons (.asg (.nm 3) (.sl (.var 3) (.some (.ix (.var 5) (.cst (.int 0)))) .no)) .nil)) .nil) .nil))) (.cons (.ret (.tup (.cons (.var 2) (.cons (.var 3) .nil)))) .nil))))⟩
@[irreducible] def v_l_split_L_ (paper_here : List Int) (st_ : (List (List Int)) × (List Int)) (turn : Int) : (List (List Int)) × (List Int) :=
  let sizes : List Int := (((rngC' (2 : Int) ((st_.2.length : Int) + (1 : Int)) (2 : Int)).filter fun many => (v_l_is_gathering paper_here (cut st_.2 none (some many)))).map fun many => many); let q : (List (List Int)) × (List Int) := if (!sizes.isEmpty) = true then (let factors4 : List (List Int) := (st_.1 ++ [(cut st_.2 none (some (gt sizes (0 : Int))))]); let rest4 : List Int := (cut st_.2 (some (gt sizes (0 : Int))) none); (factors4, rest4)) else ((st_.1, st_.2)); (q.1, q.2)
@[irreducible] def d_l_split_L_ (paper_here : List Int) (st_ : (List (List Int)) × (List Int)) (turn : Int) : Prop :=
  (RngOk (2 : Int) ((st_.2.length : Int) + (1 : Int))) ∧ ((∀ many ∈ (rngC' (2 : Int) ((st_.2.length : Int) + (1 : Int)) (2 : Int)), (d_l_is_gathering paper_here (cut st_.2 none (some many))) ∧ (True)) ∧ (let sizes : List Int := (((rngC' (2 : Int) ((st_.2.length : Int) + (1 : Int)) (2 : Int)).filter fun many => (v_l_is_gathering paper_here (cut st_.2 none (some many)))).map fun many => many); (((!sizes.isEmpty) = true → (InR sizes.length (0 : Int)) ∧ ((BigOk st_.1.length [(cut st_.2 none (some (gt sizes (0 : Int))))].length) ∧ (let factors4 : List (List Int) := (st_.1 ++ [(cut st_.2 none (some (gt sizes (0 : Int))))]); (InR sizes.length (0 : Int)) ∧ (let rest4 : List Int := (cut st_.2 (some (gt sizes (0 : Int))) none); True)))) ∧ ((!sizes.isEmpty) = false → True)) ∧ (let q : (List (List Int)) × (List Int) := if (!sizes.isEmpty) = true then (let factors4 : List (List Int) := (st_.1 ++ [(cut st_.2 none (some (gt sizes (0 : Int))))]); let rest4 : List Int := (cut st_.2 (some (gt sizes (0 : Int))) none); (factors4, rest4)) else ((st_.1, st_.2)); True)))
/-- _law_split -/
@[irreducible] def v_l_split (paper_here : List Int) (sequence_here : List Int) : (List (List Int)) × (List Int) :=
  let factors : List (List Int) := []; let rest : List Int := sequence_here; let q2 : (List (List Int)) × (List Int) := List.foldl (v_l_split_L_ paper_here) ((factors, rest) : (List (List Int)) × (List Int)) (rng 0 ((sequence_here.length : Int) / (2 : Int))); (q2.1, q2.2)
@[irreducible] def d_l_split (paper_here : List Int) (sequence_here : List Int) : Prop :=
  let factors : List (List Int) := []; let rest : List Int := sequence_here; (RngOk 0 ((sequence_here.length : Int) / (2 : Int))) ∧ ((FoldD (v_l_split_L_ paper_here) (d_l_split_L_ paper_here) ((factors, rest) : (List (List Int)) × (List Int)) (rng 0 ((sequence_here.length : Int) / (2 : Int)))) ∧ (let q2 : (List (List Int)) × (List Int) := List.foldl (v_l_split_L_ paper_here) ((factors, rest) : (List (List Int)) × (List Int)) (rng 0 ((sequence_here.length : Int) / (2 : Int))); True))
theorem o_l_split {P : Prog} [HasF P 289 fd289] [HasF P 293 fd293] [HasF P 294 fd294] (n : Nat) (h : MHp) (paper_here : List Int) (sequence_here : List Int) (D : d_l_split paper_here sequence_here) : callN P (n + 3) 294 [(eT eI) paper_here, (eT eI) sequence_here] h = .ok ((eP2 (eT (eT eI)) (eT eI)) (v_l_split paper_here sequence_here)) h := by
  refine call_p (fd := fd294) (e := (eP2 (eT (eT eI)) (eT eI))) (V := v_l_split paper_here sequence_here) [some ((eT eI) paper_here), some ((eT eI) sequence_here), none, none, none, none, none] rfl rfl (nors_c (e := (eT eI)) (nors_c (e := (eT eI)) rfl)) rfl ?_
  unfold d_l_split at D
  unfold v_l_split
  let factors : List (List Int) := []
  refine xs_asg [some ((eT eI) paper_here), some ((eT eI) sequence_here), some ((eT (eT eI)) factors), none, none, none, none] (ev_tup evs_nil) rfl ?_
  let rest : List Int := sequence_here
  refine xs_asg [some ((eT eI) paper_here), some ((eT eI) sequence_here), some ((eT (eT eI)) factors), some ((eT eI) rest), none, none, none] (ev_var rfl) rfl ?_
  refine xs_for (e := eI) (xs := (rng 0 ((sequence_here.length : Int) / (2 : Int)))) (fun (w2 : (List (List Int)) × (List Int)) (J : Jk) => [some ((eT eI) paper_here), some ((eT eI) sequence_here), some ((eT (eT eI)) w2.1), some ((eT eI) w2.2), J 4, J 5, none]) (fun (w2 : (List (List Int)) × (List Int)) => []) (v_l_split_L_ paper_here) (d_l_split_L_ paper_here) ((factors, rest) : (List (List Int)) × (List Int)) (fun n => ([some ((eT eI) paper_here), some ((eT eI) sequence_here), some ((eT (eT eI)) factors), some ((eT eI) rest), none, none, none] : Env).getD n none) (evI_rng (evs_cons (ev_bin (ev_bif (evs_cons (ev_var rfl) evs_nil) (b_lenT (e := eI) (l := sequence_here))) ev_cst (o_fdv (by decide))) evs_nil) (range1 D.1)) rfl rfl (fun _ => rfl) D.2.1 ?_ ?_
  · intro st_ J_ turn D
    refine ⟨[some ((eT eI) paper_here), some ((eT eI) sequence_here), some ((eT (eT eI)) st_.1), some ((eT eI) st_.2), some (eI turn), J_ 5, none], rfl, ?_⟩
    unfold d_l_split_L_ at D
    unfold v_l_split_L_
    let sizes : List Int := (((rngC' (2 : Int) ((st_.2.length : Int) + (1 : Int)) (2 : Int)).filter fun many => (v_l_is_gathering paper_here (cut st_.2 none (some many)))).map fun many => many)
    refine xs_asg [some ((eT eI) paper_here), some ((eT eI) sequence_here), some ((eT (eT eI)) st_.1), some ((eT eI) st_.2), some (eI turn), some ((eL eI) sizes), none] (ev_lcf (e := eI) (g := eI) (xs := (rngC' (2 : Int) ((st_.2.length : Int) + (1 : Int)) (2 : Int))) (p := fun many => (v_l_is_gathering paper_here (cut st_.2 none (some many)))) (f := fun many => many) (evI_rng (evs_cons ev_cst (evs_cons (ev_bin (ev_bif (evs_cons (ev_var rfl) evs_nil) (b_lenT (e := eI) (l := st_.2))) ev_cst o_add) (evs_cons ev_cst evs_nil))) (range3 (by decide) (by decide) D.1)) rfl (fun many hx => (fun D_2 => ⟨[some ((eT eI) paper_here), some ((eT eI) sequence_here), some ((eT (eT eI)) st_.1), some ((eT eI) st_.2), some (eI turn), J_ 5, some (eI many)], rfl, (evB_of (ev_call (evs_cons (ev_var rfl) (evs_cons (ev_sl (ev_var rfl) evO_no (evO_some (ev_var rfl)) (s_T (e := eI) (l := st_.2))) evs_nil)) (o_l_is_gathering (n + 0) _ paper_here (cut st_.2 none (some many)) D_2.1))), (fun _ => (ev_var rfl))⟩) (D.2.1 many hx))) rfl ?_
    refine xs_join (S1 := (let factors4 : List (List Int) := (st_.1 ++ [(cut st_.2 none (some (gt sizes (0 : Int))))]); let rest4 : List Int := (cut st_.2 (some (gt sizes (0 : Int))) none); (factors4, rest4))) (S2 := ((st_.1, st_.2))) (fun (w : (List (List Int)) × (List Int)) (J : Jk) => [some ((eT eI) paper_here), some ((eT eI) sequence_here), some ((eT (eT eI)) w.1), some ((eT eI) w.2), some (eI turn), some ((eL eI) sizes), none]) (fun (w : (List (List Int)) × (List Int)) => []) (evB_v (ev_var rfl) t_L) (fun hc => ?_) (fun hc => ?_) ?_
    · have D_8 := D.2.2.1.1 hc
      let factors4 : List (List Int) := (st_.1 ++ [(cut st_.2 none (some (gt sizes (0 : Int))))])
      refine xs_asg [some ((eT eI) paper_here), some ((eT eI) sequence_here), some ((eT (eT eI)) factors4), some ((eT eI) st_.2), some (eI turn), some ((eL eI) sizes), none] (ev_bin (ev_var rfl) (ev_tup (evs_cons (ev_sl (ev_var rfl) evO_no (evO_some (ev_ix (ev_var rfl) ev_cst (i_L (e := eI) (l := sizes) D_8.1))) (s_T (e := eI) (l := st_.2))) evs_nil)) (o_addT (e := (eT eI)) (a := st_.1) (b := [(cut st_.2 none (some (gt sizes (0 : Int))))]) D_8.2.1)) rfl ?_
      let rest4 : List Int := (cut st_.2 (some (gt sizes (0 : Int))) none)
      refine xs_asg [some ((eT eI) paper_here), some ((eT eI) sequence_here), some ((eT (eT eI)) factors4), some ((eT eI) rest4), some (eI turn), some ((eL eI) sizes), none] (ev_sl (ev_var rfl) (evO_some (ev_ix (ev_var rfl) ev_cst (i_L (e := eI) (l := sizes) D_8.2.2.1))) evO_no (s_T (e := eI) (l := st_.2))) rfl ?_
      exact xs_nil (nxJ (fun n => ([some ((eT eI) paper_here), some ((eT eI) sequence_here), some ((eT (eT eI)) factors4), some ((eT eI) rest4), some (eI turn), some ((eL eI) sizes), none] : Env).getD n none) rfl rfl)
    · exact xs_nil (nxJ (fun n => ([some ((eT eI) paper_here), some ((eT eI) sequence_here), some ((eT (eT eI)) st_.1), some ((eT eI) st_.2), some (eI turn), some ((eL eI) sizes), none] : Env).getD n none) rfl rfl)
    let q : (List (List Int)) × (List Int) := if (!sizes.isEmpty) = true then (let factors4 : List (List Int) := (st_.1 ++ [(cut st_.2 none (some (gt sizes (0 : Int))))]); let rest4 : List Int := (cut st_.2 (some (gt sizes (0 : Int))) none); (factors4, rest4)) else ((st_.1, st_.2))
    intro J_2
    exact xs_nil (nxG (fun n => ([some ((eT eI) paper_here), some ((eT eI) sequence_here), some ((eT (eT eI)) q.1), some ((eT eI) q.2), some (eI turn), some ((eL eI) sizes), none] : Env).getD n none) rfl rfl)
  let q2 : (List (List Int)) × (List Int) := List.foldl (v_l_split_L_ paper_here) ((factors, rest) : (List (List Int)) × (List Int)) (rng 0 ((sequence_here.length : Int) / (2 : Int)))
  intro J_3
  exact xs_ret (ev_tup (evs_cons (ev_var rfl) (evs_cons (ev_var rfl) evs_nil))) (rt_p)
end Qm

namespace Qm
/-- starts_of(paper, sequence): 0 paper 1 sequence 2 found 3 length -/
def fd242 : FnD := ⟨2, 4, false,
  (.cons (.asg (.nm 2) (.lst true (.cons (.cst (.int 0)) .nil))) (.cons (.for (.nm 3) (.seq (.ix (.call 241 (.cons (.var 0) (.cons (.var 1) .nil))) (.cst (.int 0)))) (.cons (.exp (.mth .append (.var 2) (.cons (.bin .add (.ix (.var 2) (.neg (.cst (.int 1)))) (.var 3)) .nil))) .nil)) (.cons (.ret (.var 2)) .nil)))⟩
@[irreducible] def v_starts_of_L_ (st_ : (List Int)) (length : Int) : (List Int) :=
  let found2 : List Int := st_ ++ [((gt st_ (-(1 : Int))) + length)]; found2
@[irreducible] def d_starts_of_L_ (st_ : (List Int)) (length : Int) : Prop :=
  (InR st_.length (-(1 : Int))) ∧ ((st_.length < 16777216) ∧ (let found2 : List Int := st_ ++ [((gt st_ (-(1 : Int))) + length)]; True))
/-- starts_of -/
@[irreducible] def v_starts_of (paper : List Int) (sequence : List Int) : List Int :=
  let found : List Int := [(0 : Int)]; let q : (List Int) := List.foldl v_starts_of_L_ (found : (List Int)) (v_split_of paper sequence).1; q
@[irreducible] def d_starts_of (paper : List Int) (sequence : List Int) : Prop :=
  let found : List Int := [(0 : Int)]; (d_split_of paper sequence) ∧ ((FoldD v_starts_of_L_ d_starts_of_L_ (found : (List Int)) (v_split_of paper sequence).1) ∧ (let q : (List Int) := List.foldl v_starts_of_L_ (found : (List Int)) (v_split_of paper sequence).1; True))
theorem o_starts_of {P : Prog} [HasF P 238 fd238] [HasF P 239 fd239] [HasF P 240 fd240] [HasF P 241 fd241] [HasF P 242 fd242] (n : Nat) (h : MHp) (paper : List Int) (sequence : List Int) (D : d_starts_of paper sequence) : callN P (n + 5) 242 [(eT eI) paper, (eT eI) sequence] h = .ok ((eL eI) (v_starts_of paper sequence)) h := by
  refine call_p (fd := fd242) (e := (eL eI)) (V := v_starts_of paper sequence) [some ((eT eI) paper), some ((eT eI) sequence), none, none] rfl rfl (nors_c (e := (eT eI)) (nors_c (e := (eT eI)) rfl)) rfl ?_
  unfold d_starts_of at D
  unfold v_starts_of
  let found : List Int := [(0 : Int)]
  refine xs_asg [some ((eT eI) paper), some ((eT eI) sequence), some (.ref 0), none] (ev_lstm (evs_cons ev_cst evs_nil)) rfl ?_
  refine xs_for (e := eI) (xs := (v_split_of paper sequence).1) (fun (w : (List Int)) (J : Jk) => [some ((eT eI) paper), some ((eT eI) sequence), some (.ref 0), J 3]) (fun (w : (List Int)) => [.lst (List.map eI w)]) v_starts_of_L_ d_starts_of_L_ (found : (List Int)) (fun n => ([some ((eT eI) paper), some ((eT eI) sequence), some (.ref 0), none] : Env).getD n none) (evI_seqT (e := eI) (xs := (v_split_of paper sequence).1) (ev_ix (ev_call (evs_cons (ev_var rfl) (evs_cons (ev_var rfl) evs_nil)) (o_split_of (n + 0) _ paper sequence D.1)) ev_cst rfl)) rfl rfl (fun _ => rfl) D.2.1 ?_ ?_
  · intro st_ J_ length D
    refine ⟨[some ((eT eI) paper), some ((eT eI) sequence), some (.ref 0), some (eI length)], rfl, ?_⟩
    unfold d_starts_of_L_ at D
    unfold v_starts_of_L_
    let found2 : List Int := st_ ++ [((gt st_ (-(1 : Int))) + length)]
    refine xs_appT (e := eI) (l := st_) (y := ((gt st_ (-(1 : Int))) + length)) [.lst (found2.map eI)] rfl (ev_bin (ev_ix (ev_var rfl) (ev_neg ev_cst) (i_R (e := eI) (l := st_) rfl D.1)) (ev_var rfl) o_add) rfl rfl D.2.1 rfl ?_
    exact xs_nil (nxG (fun n => ([some ((eT eI) paper), some ((eT eI) sequence), some (.ref 0), some (eI length)] : Env).getD n none) rfl rfl)
  let q : (List Int) := List.foldl v_starts_of_L_ (found : (List Int)) (v_split_of paper sequence).1
  intro J_2
  exact xs_ret (ev_var rfl) (rt_pR (e := eI) rfl)
/-- split(paper, sequence): 0 paper 1 sequence 2 starts 3 factors 4 start 5 end -/
def fd287 : FnD := ⟨2, 6, false,
  (.cons (.exp (.call 286 (.cons (.var 0) (.cons (.var 1) .nil)))) (.cons (.asg (.nm 2) (.call 242 (.cons (.var 0) (.cons (.var 1) .nil)))) (.cons (.asg (.nm 3) (.bif .tuple (.cons (.lc [4, 5] (.sl (.var 1) (.some (.var 4)) (.some (.var 5))) (.tp (.cons (.nm 4) (.cons (.nm 5) .nil))) (.zip (.var 2) (.sl (.var 2) (.some (.cst (.int 1))) .no)) .nil) .nil))) (.cons (.ret (.tup (.cons (.var 3) (.cons (.sl (.var 1) (.some (.ix (.var 2) (.neg (.cst (.int 1))))) .no) .nil)))) .nil))))⟩
/-- split -/
@[irreducible] def v_split (paper : List Int) (sequence : List Int) : (List (List Int)) × (List Int) :=
  let starts : List Int := (v_starts_of paper sequence); let factors : List (List Int) := ((List.zip starts (cut starts (some (1 : Int)) none)).map fun p => (cut sequence (some p.1) (some p.2))); (factors, (cut sequence (some (gt starts (-(1 : Int)))) none))
@[irreducible] def d_split (paper : List Int) (sequence : List Int) : Prop :=
  (d_check_sequence paper sequence) ∧ ((d_starts_of paper sequence) ∧ (let starts : List Int := (v_starts_of paper sequence); let factors : List (List Int) := ((List.zip starts (cut starts (some (1 : Int)) none)).map fun p => (cut sequence (some p.1) (some p.2))); (InR starts.length (-(1 : Int))) ∧ (True)))
theorem o_split {P : Prog} [HasF P 0 fd0] [HasF P 238 fd238] [HasF P 239 fd239] [HasF P 240 fd240] [HasF P 241 fd241] [HasF P 242 fd242] [HasF P 279 fd279] [HasF P 280 fd280] [HasF P 281 fd281] [HasF P 285 fd285] [HasF P 286 fd286] [HasF P 287 fd287] [HasC P 2 (.int 6)] [HasC P 3 (.int 16)] (n : Nat) (h : MHp) (paper : List Int) (sequence : List Int) (D : d_split paper sequence) : callN P (n + 6) 287 [(eT eI) paper, (eT eI) sequence] h = .ok ((eP2 (eT (eT eI)) (eT eI)) (v_split paper sequence)) h := by
  refine call_p (fd := fd287) (e := (eP2 (eT (eT eI)) (eT eI))) (V := v_split paper sequence) [some ((eT eI) paper), some ((eT eI) sequence), none, none, none, none] rfl rfl (nors_c (e := (eT eI)) (nors_c (e := (eT eI)) rfl)) rfl ?_
  unfold d_split at D
  unfold v_split
  refine xs_exp (ev_call (evs_cons (ev_var rfl) (evs_cons (ev_var rfl) evs_nil)) (o_check_sequence (n + 1) _ paper sequence D.1)) ?_
  let starts : List Int := (v_starts_of paper sequence)
  refine xs_asg [some ((eT eI) paper), some ((eT eI) sequence), some ((eL eI) starts), none, none, none] (ev_call (evs_cons (ev_var rfl) (evs_cons (ev_var rfl) evs_nil)) (o_starts_of (n + 0) _ paper sequence D.2.1)) rfl ?_
  let factors : List (List Int) := ((List.zip starts (cut starts (some (1 : Int)) none)).map fun p => (cut sequence (some p.1) (some p.2)))
  refine xs_asg [some ((eT eI) paper), some ((eT eI) sequence), some ((eL eI) starts), some ((eT (eT eI)) factors), none, none] (ev_bif (evs_cons (ev_lc (e := (eP2 eI eI)) (g := (eT eI)) (xs := (List.zip starts (cut starts (some (1 : Int)) none))) (f := fun p => (cut sequence (some p.1) (some p.2))) (evI_zipL (e := eI) (f := eI) (xs := starts) (ys := (cut starts (some (1 : Int)) none)) (ev_var rfl) (ev_sl (ev_var rfl) (evO_some ev_cst) evO_no (s_L (e := eI) (l := starts)))) rfl (fun p _ => ⟨[some ((eT eI) paper), some ((eT eI) sequence), some ((eL eI) starts), none, some (eI p.1), some (eI p.2)], rfl, (ev_sl (ev_var rfl) (evO_some (ev_var rfl)) (evO_some (ev_var rfl)) (s_T (e := eI) (l := sequence)))⟩)) evs_nil) (b_tupL (e := (eT eI)) (l := ((List.zip starts (cut starts (some (1 : Int)) none)).map fun p => (cut sequence (some p.1) (some p.2)))))) rfl ?_
  exact xs_ret (ev_tup (evs_cons (ev_var rfl) (evs_cons (ev_sl (ev_var rfl) (evO_some (ev_ix (ev_var rfl) (ev_neg ev_cst) (i_L (e := eI) (l := starts) D.2.2.1))) evO_no (s_T (e := eI) (l := sequence))) evs_nil))) (rt_p)
/-- ends(paper, sequence): 0 paper 1 sequence -/
def fd288 : FnD := ⟨2, 2, false,
  (.cons (.exp (.call 286 (.cons (.var 0) (.cons (.var 1) .nil)))) (.cons (.ret (.bif .tuple (.cons (.sl (.call 242 (.cons (.var 0) (.cons (.var 1) .nil))) (.some (.cst (.int 1))) .no) .nil))) .nil))⟩
/-- ends -/
@[irreducible] def v_ends (paper : List Int) (sequence : List Int) : List Int :=
  (cut (v_starts_of paper sequence) (some (1 : Int)) none)
@[irreducible] def d_ends (paper : List Int) (sequence : List Int) : Prop :=
  (d_check_sequence paper sequence) ∧ ((d_starts_of paper sequence) ∧ (True))
theorem o_ends {P : Prog} [HasF P 0 fd0] [HasF P 238 fd238] [HasF P 239 fd239] [HasF P 240 fd240] [HasF P 241 fd241] [HasF P 242 fd242] [HasF P 279 fd279] [HasF P 280 fd280] [HasF P 281 fd281] [HasF P 285 fd285] [HasF P 286 fd286] [HasF P 288 fd288] [HasC P 2 (.int 6)] [HasC P 3 (.int 16)] (n : Nat) (h : MHp) (paper : List Int) (sequence : List Int) (D : d_ends paper sequence) : callN P (n + 6) 288 [(eT eI) paper, (eT eI) sequence] h = .ok ((eT eI) (v_ends paper sequence)) h := by
  refine call_p (fd := fd288) (e := (eT eI)) (V := v_ends paper sequence) [some ((eT eI) paper), some ((eT eI) sequence)] rfl rfl (nors_c (e := (eT eI)) (nors_c (e := (eT eI)) rfl)) rfl ?_
  unfold d_ends at D
  unfold v_ends
  refine xs_exp (ev_call (evs_cons (ev_var rfl) (evs_cons (ev_var rfl) evs_nil)) (o_check_sequence (n + 1) _ paper sequence D.1)) ?_
  exact xs_ret (ev_bif (evs_cons (ev_sl (ev_call (evs_cons (ev_var rfl) (evs_cons (ev_var rfl) evs_nil)) (o_starts_of (n + 0) _ paper sequence D.2.1)) (evO_some ev_cst) evO_no (s_L (e := eI) (l := (v_starts_of paper sequence)))) evs_nil) (b_tupL (e := eI) (l := (cut (v_starts_of paper sequence) (some (1 : Int)) none)))) (rt_p)
end Qm

namespace Qm
/-- tails_of(paper, sequence): 0 paper 1 sequence 2 starts 3 tails 4 start 5 found 6 end 7 tail -/
def fd366 : FnD := ⟨2, 8, false,
  (.cons (.asg (.nm 2) (.call 242 (.cons (.var 0) (.cons (.var 1) .nil)))) (.cons (.asg (.nm 3) (.dc1 true (.bif .len (.cons (.var 1) .nil)) (.lst false (.cons (.tup .nil) .nil)))) (.cons (.for (.nm 4) (.rvd (.var 2)) (.cons (.ite (.cmp .lt (.var 4) (.bif .len (.cons (.var 1) .nil))) (.cons (.asg (.nm 5) (.lst true .nil)) (.cons (.for (.nm 6) (.seq (.var 2)) (.cons (.ite (.and (.cons (.cmp .gt (.var 6) (.var 4)) (.cons (.cmp .isin (.var 6) (.var 3)) (.cons (.call 239 (.cons (.var 0) (.cons (.sl (.var 1) (.some (.var 4)) (.some (.var 6))) .nil))) .nil)))) (.cons (.exp (.mth .extend (.var 5) (.cons (.lc [7] (.bin .add (.tup (.cons (.bin .fdv (.bin .sub (.var 6) (.var 4)) (.cst (.int 2))) .nil)) (.var 7)) (.nm 7) (.seq (.ix (.var 3) (.var 6))) .nil) .nil))) .nil) .nil) .nil)) (.cons (.stx (.var 3) (.var 4) (.var 5)) .nil))) .nil) .nil)) (.cons (.ret (.var 3)) .nil))))⟩
/-- all_collations(paper, sequence): 0 paper 1 sequence -/
def fd367 : FnD := ⟨2, 2, false,
  (.cons (.ret (.ix (.call 366 (.cons (.var 0) (.cons (.var 1) .nil))) (.cst (.int 0)))) .nil)⟩
/-- _law_all_collations(_law_paper_here, _law_sequence_here): 0 _law_paper_here 1 _law_sequence_here 2 _law_tails 3 _law_start 4 _law_found 5 _law_sheets 6 _law_end 7 _law_tail -/
def fd379 : FnD := ⟨2, 8, false,
  (.cons (.asg (.nm 2) (.dc1 true (.bif .len (.cons (.var 1) .nil)) (.lst false (.cons (.tup .nil) .nil)))) (.cons (.for (.nm 3) (.rng (.cons (.bin .sub (.bif .len (.cons (.var 1) .nil)) (.cst (.int 1))) (.cons (.neg (.cst (.int 1))) (.cons (.neg (.cst (.int 1))) .nil)))) (.cons (.asg (.nm 4) (.lst false .nil)) (.cons (.for (.nm 5) (.rng (.cons (.cst (.int 1)) (.cons (.bin .add (.bin .fdv (.bin .sub (.bif .len (.cons (.var 1) .nil)) (.var 3)) (.cst (.int 2))) (.cst (.int 1))) .nil))) (.cons (.asg (.nm 6) (.bin .add (.var 3) (.bin .mul (.cst (.int 2)) (.var 5)))) (.cons (.ite (.call 293 (.cons (.var 0) (.cons (.sl (.var 1) (.some (.var 3)) (.some (.var 6))) .nil))) (.cons (.asg (.nm 4) (.bin .add (.var 4) (.lc [7] (.bin .add (.tup (.cons (.var 5) .nil)) (.var 7)) (.nm 7) (.seq (.ix (.var 2) (.var 6))) .nil))) .nil) .nil) .nil))) (.cons (.stx (.var 2) (.var 3) (.var 4)) .nil)))) (.cons (.ret (.ix (.var 2) (.cst (.int 0)))) .nil)))⟩
end Qm

/-! K0: lists, papers, sequences: plain facts. -/
namespace Qm
section
variable {α β : Type}
theorem mem_rng {a b x : Int} : x ∈ rng a b ↔ a ≤ x ∧ x < b := by
  unfold rng
  rw [List.mem_map]
  constructor
  · rintro ⟨k, hk, rfl⟩
    have := List.mem_range.mp hk
    omega
  · rintro ⟨h1, h2⟩
    exact ⟨(x - a).toNat, List.mem_range.mpr (by omega), by omega⟩
@[simp] theorem len_rng {a b : Int} : (rng a b).length = (b - a).toNat := by simp [rng]
theorem rngOk {a b : Int} (h1 : -1000000 ≤ a) (h2 : a ≤ 1000000) (h3 : -1000000 ≤ b) (h4 : b ≤ 1000000) : RngOk a b := ⟨by omega, by omega, by omega, by omega, by omega⟩
theorem rng_nil {a b : Int} (h : b ≤ a) : rng a b = [] := by
  have : (b - a).toNat = 0 := by omega
  unfold rng
  rw [this]; rfl
theorem rng_cons {a b : Int} (h : a < b) : rng a b = a :: rng (a + 1) b := by
  unfold rng
  have : (b - a).toNat = (b - (a + 1)).toNat + 1 := by omega
  rw [this, List.range_succ_eq_map, List.map_cons, List.map_map]
  congr 1
  · simp
  · refine List.map_congr_left fun k _ => ?_
    show a + ((k + 1 : Nat) : Int) = a + 1 + (k : Int)
    omega
theorem rng_snoc {a b : Int} (h : a ≤ b) : rng a (b + 1) = rng a b ++ [b] := by
  unfold rng
  have : (b + 1 - a).toNat = (b - a).toNat + 1 := by omega
  rw [this, List.range_succ, List.map_append]
  congr 1
  show [a + (((b - a).toNat : Nat) : Int)] = [b]
  congr 1
  omega
theorem nodup_rng (a b : Int) : (rng a b).Nodup := by
  unfold rng
  refine List.Pairwise.map _ ?_ List.nodup_range
  intro x y h
  omega
theorem gt_nn [Inhabited α] {l : List α} {i : Int} (h0 : 0 ≤ i) (h1 : i < l.length) : gt l i = l[i.toNat]'(by omega) := by
  unfold gt
  rw [if_pos h0, List.getElem?_eq_getElem (by omega)]; rfl
theorem gt_nat [Inhabited α] {l : List α} {i : Nat} (h1 : i < l.length) : gt l (i : Int) = l[i] := by
  rw [gt_nn (by omega) (by omega)]
  simp
theorem gt_getD [Inhabited α] (l : List α) {i : Int} (h0 : 0 ≤ i) : gt l i = (l[i.toNat]?).getD default := by
  unfold gt; rw [if_pos h0]
theorem gt_mem [Inhabited α] {l : List α} {i : Int} (h : InR l.length i) : gt l i ∈ l := by
  obtain ⟨h1, h2⟩ := h
  unfold gt
  split
  · rw [List.getElem?_eq_getElem (by omega)]; exact List.getElem_mem _
  · rw [List.getElem?_eq_getElem (by omega)]; exact List.getElem_mem _
theorem inR {n : Nat} {i : Int} (h0 : 0 ≤ i) (h1 : i < n) : InR n i := ⟨by omega, h1⟩
theorem mem_gt [Inhabited α] {l : List α} {x : α} (h : x ∈ l) : ∃ i : Int, 0 ≤ i ∧ i < l.length ∧ gt l i = x := by
  obtain ⟨i, hi, rfl⟩ := List.getElem_of_mem h
  exact ⟨i, by omega, by omega, gt_nat hi⟩
theorem pick_mem [Inhabited α] {l : List α} {s : Sm} (h : DrOk l.length) : (pick s l).1 ∈ l := gt_mem (pick_in h)
theorem drOk {m : Int} (h0 : 0 < m) (h1 : m ≤ 1000000) : DrOk m := ⟨h0, by omega⟩
theorem bigOk {n m : Nat} (h0 : n ≤ 1000000) (h1 : m ≤ 1000000) : BigOk n m := by unfold BigOk; omega
theorem place_nn {n : Nat} {i : Int} (h0 : 0 ≤ i) : place n i = i.toNat := by unfold place; rw [if_pos h0]
theorem sIx_no {n d : Nat} : sIx n d none = d := rfl
theorem sIx_nn {n d : Nat} {k : Int} (h0 : 0 ≤ k) : sIx n d (some k) = min k.toNat n := by
  show (if k < 0 then _ else _) = _
  rw [if_neg (by omega)]
theorem cut_take (l : List α) {k : Int} (h0 : 0 ≤ k) : cut l none (some k) = l.take k.toNat := by
  unfold cut
  rw [sIx_no, sIx_nn h0]
  simp
theorem cut_drop (l : List α) {k : Int} (h0 : 0 ≤ k) : cut l (some k) none = l.drop k.toNat := by
  unfold cut
  rw [sIx_no, sIx_nn h0]
  by_cases h : k.toNat ≤ l.length
  · rw [Nat.min_eq_left h, List.take_of_length_le (by simp)]
  · rw [Nat.min_eq_right (by omega), List.drop_eq_nil_of_le (Nat.le_refl _), List.drop_eq_nil_of_le (by omega)]
    simp
theorem cut_mid (l : List α) {i k : Int} (h0 : 0 ≤ i) (h1 : 0 ≤ k) : cut l (some i) (some k) = (l.drop i.toNat).take (k.toNat - i.toNat) := by
  unfold cut
  rw [sIx_nn h0, sIx_nn h1]
  by_cases h : i.toNat ≤ l.length
  · rw [Nat.min_eq_left h]
    by_cases h2 : k.toNat ≤ l.length
    · rw [Nat.min_eq_left h2]
    · rw [Nat.min_eq_right (by omega), List.take_of_length_le (by simp), List.take_of_length_le (by simp; omega)]
  · rw [Nat.min_eq_right (show l.length ≤ i.toNat by omega), List.drop_eq_nil_of_le (Nat.le_refl _), List.drop_eq_nil_of_le (show l.length ≤ i.toNat by omega)]
    simp
theorem cut_all (l : List α) : cut l none none = l := by
  unfold cut; simp [sIx_no]
theorem mem_cut {l : List α} {a b : Option Int} {x : α} (h : x ∈ cut l a b) : x ∈ l := List.mem_of_mem_drop (List.mem_of_mem_take h)
theorem len_cut {l : List α} {a b : Option Int} : (cut l a b).length ≤ l.length := by unfold cut; rw [List.length_take, List.length_drop]; omega
theorem all_id_map (f : α → Bool) (l : List α) : (l.map f).all id = l.all f := by rw [List.all_map]; rfl
theorem any_id_map (f : α → Bool) (l : List α) : (l.map f).any id = l.any f := by rw [List.any_map]; rfl
end
/-! ### trees of typed values -/
theorem nv_ext {x y : NV} (h : eA x = eA y) : x = y := NV.ext' h
@[simp] theorem nI_toA (i : Int) : nI (toA eI i) = i := rfl
@[simp] theorem isInt_I (i : Int) : isInt (toA eI i) = true := rfl
@[simp] theorem isInt_B (b : Bool) : isInt (toA eB b) = false := rfl
@[simp] theorem isInt_N : isInt (toA eN ()) = false := rfl
@[simp] theorem isInt_S (s : SV) : isInt (toA eS s) = false := rfl
@[simp] theorem isInt_T {α : Type} {e : α → PV} [Nr e] (l : List α) : isInt (toA (eT e) l) = false := rfl
@[simp] theorem isInt_L {α : Type} {e : α → PV} [Nr e] (l : List α) : isInt (toA (eL e) l) = false := rfl
@[simp] theorem isTup_T {α : Type} {e : α → PV} [Nr e] (l : List α) : isTup (toA (eT e) l) = true := rfl
theorem liftN_of {α : Type} {e : α → PV} [Nr e] : ∀ (l : List α) (h : nors (l.map e) = true), liftN (l.map e) h = l.map (toA e)
  | [], _ => rfl
  | x :: r, h => by
    show (⟨e x, _⟩ : NV) :: liftN (r.map e) _ = _
    rw [liftN_of r]; rfl
@[simp] theorem nT_toA {α : Type} {e : α → PV} [Nr e] (l : List α) : nT (toA (eT e) l) = l.map (toA e) := liftN_of l _
theorem toA_eA (x : NV) : toA eA x = x := rfl
@[simp] theorem nT_toAA (l : List NV) : nT (toA (eT eA) l) = l := by
  rw [nT_toA]
  exact (List.map_congr_left (g := id) fun _ _ => rfl).trans (List.map_id _)
@[simp] theorem nTI_toA (l : List Int) : nTI (toA (eT eI) l) = l := by
  unfold nTI
  rw [nT_toA, List.map_map]
  exact (List.map_congr_left (g := id) fun _ _ => rfl).trans (List.map_id _)
theorem isY_tup (x : NV) : isY .tuple x = isTup x := by obtain ⟨v, n⟩ := x; cases v <;> first | rfl | (rw [nor] at n; cases n)
theorem isY_int (x : NV) : (isY .int x && !isY .bool x) = isInt x := by obtain ⟨v, n⟩ := x; cases v <;> first | rfl | (rw [nor] at n; cases n)
theorem toA_of_isInt {x : NV} (h : isInt x = true) : x = toA eI (nI x) := nv_ext (nI_eq h)
/-! ### lists of a bounded length -/
theorem bzs_map {α : Type} {e : α → PV} : ∀ {l : List α}, (∀ x ∈ l, bz (e x) = true) → bzs (l.map e) = true
  | [], _ => rfl
  | x :: r, h => by rw [List.map_cons, bzs, h x List.mem_cons_self, bzs_map fun y m => h y (List.mem_cons_of_mem _ m)]; rfl
theorem bz_T {α : Type} {e : α → PV} {l : List α} (hl : l.length ≤ 1000000) (h : ∀ x ∈ l, bz (e x) = true) : bz (eT e l) = true := by
  rw [eT, bz, bzs_map h, List.length_map, decide_eq_true (by omega)]; rfl
theorem bz_L {α : Type} {e : α → PV} {l : List α} (hl : l.length ≤ 1000000) (h : ∀ x ∈ l, bz (e x) = true) : bz (eL e l) = true := by
  rw [eL, bz, bzs_map h, List.length_map, decide_eq_true (by omega)]; rfl
theorem bz_TI {l : List Int} (hl : l.length ≤ 1000000) : bz (eT eI l) = true := bz_T hl fun _ _ => rfl
theorem bz_LI {l : List Int} (hl : l.length ≤ 1000000) : bz (eL eI l) = true := bz_L hl fun _ _ => rfl
theorem bz_t2 {a b : PV} (h1 : bz a = true) (h2 : bz b = true) : bz (.tup [a, b]) = true := by simp [bz, bzs, h1, h2]
theorem bz_l2 {a b : PV} (h1 : bz a = true) (h2 : bz b = true) : bz (.lst [a, b]) = true := by simp [bz, bzs, h1, h2]
theorem bz_l3 {a b c : PV} (h1 : bz a = true) (h2 : bz b = true) (h3 : bz c = true) : bz (.lst [a, b, c]) = true := by simp [bz, bzs, h1, h2, h3]
/-! ### is_whole, is_paper, is_sequence -/
theorem isW_eq (x : NV) (a b : Int) : v_is_whole x a b = (isInt x && (decide (a ≤ nI x) && decide (nI x ≤ b))) := by
  unfold v_is_whole
  rw [← isY_int]
  cases isY .int x <;> cases isY .bool x <;> rfl
@[simp] theorem isW_I (i a b : Int) : v_is_whole (toA eI i) a b = (decide (a ≤ i) && decide (i ≤ b)) := by rw [isW_eq]; rfl
theorem isW_no {x : NV} (h : isInt x = false) (a b : Int) : v_is_whole x a b = false := by rw [isW_eq, h]; rfl
theorem dW (x : NV) (a b : Int) : d_is_whole x a b := by
  unfold d_is_whole
  refine ⟨fun h1 => ⟨fun h2 => ⟨nI_eq ?_, trivial⟩, trivial⟩, trivial⟩
  rw [← isY_int, h1]
  simpa using h2
theorem isW_true {x : NV} {a b : Int} (h : v_is_whole x a b = true) : isInt x = true ∧ a ≤ nI x ∧ nI x ≤ b := by
  rw [isW_eq, Bool.and_eq_true, Bool.and_eq_true] at h
  exact ⟨h.1, of_decide_eq_true h.2.1, of_decide_eq_true h.2.2⟩
theorem dMarks (p : List Int) (x : NV) : d_are_marks p x := by
  unfold d_are_marks
  refine ⟨fun h => ⟨nT_eq (by rw [← isY_tup]; exact h), fun _ _ => ⟨dW _ _ _, trivial⟩, trivial⟩, trivial⟩
theorem marks_tup {p : List Int} {x : NV} (h : v_are_marks p x = true) : isTup x = true := by
  unfold v_are_marks at h
  rw [Bool.and_eq_true] at h
  rw [← isY_tup]; exact h.1
theorem dSeq (p : List Int) (x : NV) : d_is_sequence p x := by
  unfold d_is_sequence
  exact ⟨dMarks p x, fun h => ⟨nT_eq (marks_tup h), trivial⟩, trivial⟩
theorem dPaper (x : NV) : d_is_paper x := by
  unfold d_is_paper
  have t : (!isY .tuple x) = false → eA x = (eT eA) (nT x) := fun h => nT_eq (by rw [← isY_tup]; simpa using h)
  refine ⟨fun h => ⟨t h, trivial⟩, fun _ => trivial, fun h => ?_⟩
  rw [Bool.or_eq_false_iff] at h
  obtain ⟨h1, h2⟩ := h
  have hl : (1 : Int) ≤ (nT x).length ∧ ((nT x).length : Int) ≤ 6 := by simpa using h2
  refine ⟨t h1, fun m _ => ⟨t h1, dW _ _ _, trivial⟩, fun _ => trivial, fun h3 => ?_⟩
  have h3 : ∀ m ∈ nT x, v_is_whole m 0 ((nT x).length - 1) = true := by
    rw [all_id_map] at h3
    have : (nT x).all (fun m => v_is_whole m 0 ((nT x).length - 1)) = true := by simpa using h3
    exact List.all_eq_true.mp this
  refine ⟨t h1, rngOk (by omega) (by omega) (by omega) (by omega), fun m hm => ?_, trivial⟩
  obtain ⟨m0, m1⟩ := mem_rng.mp hm
  have r1 : InR (nT x).length m := inR m0 m1
  obtain ⟨q1, q2, q3⟩ := isW_true (h3 _ (gt_mem r1))
  have r2 : InR (nT x).length (nI (gt (nT x) m)) := inR q2 (by omega)
  obtain ⟨w1, w2, w3⟩ := isW_true (h3 _ (gt_mem r2))
  refine ⟨t h1, t h1, r1, nI_eq q1, r2, ⟨?_, rfl⟩, trivial⟩
  rw [nI_eq w1]; rfl
/-- a paper -/
structure GoodP (p : List Int) : Prop where
  l1 : 1 ≤ p.length
  l6 : p.length ≤ 6
  rg : ∀ x ∈ p, 0 ≤ x ∧ x < p.length
  iv : ∀ i : Int, 0 ≤ i → i < p.length → gt p (gt p i) = i
/-- a sequence's marks -/
def GoodS (p s : List Int) : Prop := ∀ x ∈ s, 0 ≤ x ∧ x < p.length
theorem gt_map {α β : Type} [Inhabited α] [Inhabited β] (f : α → β) {l : List α} {i : Int} (h : InR l.length i) : gt (l.map f) i = f (gt l i) := by
  obtain ⟨h1, h2⟩ := h
  unfold gt
  rw [List.length_map]
  split
  · rw [List.getElem?_map, List.getElem?_eq_getElem (by omega)]; rfl
  · rw [List.getElem?_map, List.getElem?_eq_getElem (by omega)]; rfl
theorem paper_true {p : List Int} (g : GoodP p) : v_is_paper (toA (eT eI) p) = true := by
  unfold v_is_paper
  have h1 : isY .tuple (toA (eT eI) p) = true := rfl
  have a1 : (1 : Int) ≤ p.length := by have := g.l1; omega
  have a2 : (p.length : Int) ≤ 6 := by have := g.l6; omega
  simp only [h1, nT_toA, List.length_map]
  have h2 : ((p.map (toA eI)).map fun m => v_is_whole m 0 ((p.length : Int) - 1)).all id = true := by
    rw [all_id_map, List.all_eq_true]
    intro m hm
    obtain ⟨i, hi, rfl⟩ := List.mem_map.mp hm
    obtain ⟨r1, r2⟩ := g.rg i hi
    have : i ≤ (p.length : Int) - 1 := by omega
    simp [r1, this]
  rw [h2]
  simp only [a1, a2, decide_true, Bool.and_self, Bool.not_true, Bool.or_self, Bool.false_eq_true, if_false]
  rw [all_id_map, List.all_eq_true]
  intro m hm
  obtain ⟨m0, m1⟩ := mem_rng.mp hm
  have r1 : InR p.length m := inR m0 m1
  obtain ⟨q2, q3⟩ := g.rg _ (gt_mem r1)
  have r2 : InR p.length (gt p m) := inR q2 q3
  rw [gt_map (toA eI) r1, nI_toA, gt_map (toA eI) r2]
  show (gt p (gt p m) == m) = true
  rw [g.iv m m0 m1]
  simp
theorem seq_true {p s : List Int} (g : GoodS p s) (h : s.length ≤ 16) : v_is_sequence p (toA (eT eI) s) = true := by
  unfold v_is_sequence v_are_marks
  have h1 : isY .tuple (toA (eT eI) s) = true := rfl
  simp only [h1, nT_toA, List.length_map, Bool.true_and]
  have h2 : ((s.map (toA eI)).map fun m => v_is_whole m 0 ((p.length : Int) - 1)).all id = true := by
    rw [all_id_map, List.all_eq_true]
    intro m hm
    obtain ⟨i, hi, rfl⟩ := List.mem_map.mp hm
    obtain ⟨r1, r2⟩ := g i hi
    have : i ≤ (p.length : Int) - 1 := by omega
    simp [r1, this]
  rw [h2]
  have : (s.length : Int) ≤ 16 := by omega
  simp [this]
theorem dCheckP {p : List Int} (g : GoodP p) : d_check_paper p := by
  unfold d_check_paper
  refine ⟨dPaper _, ?_, fun _ => trivial⟩
  rw [paper_true g]
  exact fun h => nomatch h
theorem dCheckS {p s : List Int} (g : GoodP p) (gs : GoodS p s) (h : s.length ≤ 16) : d_check_sequence p s := by
  unfold d_check_sequence
  refine ⟨dCheckP g, dSeq _ _, ?_, fun _ => trivial⟩
  rw [seq_true gs h]
  exact fun h => nomatch h
end Qm

/-! K1: what is drawn: papers, sequences. -/
namespace Qm
theorem fold_inv {S α : Type} {step : S → α → S} {D : S → α → Prop} (I : List α → S → Prop) : ∀ {xs : List α} {s : S}, I xs s → (∀ x r s, I (x :: r) s → D s x ∧ I r (step s x)) → FoldD step D s xs ∧ I [] (xs.foldl step s)
  | [], _, i, _ => ⟨trivial, i⟩
  | x :: r, s, i, hs => by
    obtain ⟨h1, h2⟩ := hs x r s i
    obtain ⟨h3, h4⟩ := fold_inv I h2 hs
    exact ⟨⟨h1, h3⟩, h4⟩
theorem gt_setAt {α : Type} [Inhabited α] {l : List α} {i j : Int} {v : α} (hj : 0 ≤ j) (hi : 0 ≤ i) (hi2 : i < l.length) : gt (setAt l j v) i = if i = j then v else gt l i := by
  unfold setAt
  rw [place_nn hj, gt_nn hi (by rw [List.length_set]; exact hi2), List.getElem_set]
  by_cases h : i = j
  · subst h; simp
  · rw [if_neg h, if_neg (by omega), gt_nn hi hi2]
@[simp] theorem len_setAt {α : Type} {l : List α} {j : Int} {v : α} : (setAt l j v).length = l.length := by unfold setAt; rw [List.length_set]
theorem delAt_nn {α : Type} {l : List α} {j : Int} (h : 0 ≤ j) : delAt l j = l.eraseIdx j.toNat := by unfold delAt; rw [place_nn h]
theorem len_delAt {α : Type} {l : List α} {j : Int} (h : InR l.length j) : (delAt l j).length = l.length - 1 := by
  unfold delAt; rw [List.length_eraseIdx_of_lt (place_lt h)]
theorem mem_delAt {α : Type} {l : List α} {j : Int} {x : α} (h : x ∈ delAt l j) : x ∈ l := List.mem_of_mem_eraseIdx h
theorem nodup_delAt {α : Type} {l : List α} {j : Int} (h : l.Nodup) : (delAt l j).Nodup := h.sublist (List.eraseIdx_sublist ..)
theorem not_delAt {α : Type} [Inhabited α] {l : List α} {j : Int} (h : l.Nodup) (h0 : 0 ≤ j) (h1 : j < l.length) : gt l j ∉ delAt l j := by
  rw [delAt_nn h0, gt_nn h0 h1]
  intro m
  obtain ⟨i, hi, e⟩ := List.getElem_of_mem m
  have hlt : j.toNat < l.length := by omega
  rw [List.length_eraseIdx_of_lt hlt] at hi
  rw [List.getElem_eraseIdx] at e
  split at e
  · have := (List.getElem_inj h).mp e; omega
  · have := (List.getElem_inj h).mp e; omega
/-- a paper in the making -/
structure PInv (N : Int) (k : Nat) (left p : List Int) : Prop where
  len : (p.length : Int) = N
  ok : ∀ i, 0 ≤ i → i < N → 0 ≤ gt p i ∧ gt p i < N ∧ gt p (gt p i) = i
  nd : left.Nodup
  fx : ∀ x ∈ left, 0 ≤ x ∧ x < N ∧ gt p x = x
  sz : 2 * k ≤ left.length
  lz : (left.length : Int) ≤ N
theorem PInv.start {N : Int} (h : 0 ≤ N) (k : Nat) (hk : 2 * (k : Int) ≤ N) : PInv N k (rng 0 N) (rng 0 N) := by
  have g : ∀ i, 0 ≤ i → i < N → gt (rng 0 N) i = i := fun i h0 h1 => by
    rw [gt_nn h0 (by rw [len_rng]; omega)]
    unfold rng
    rw [List.getElem_map, List.getElem_range]
    omega
  refine ⟨by rw [len_rng]; omega, fun i h0 h1 => ?_, nodup_rng _ _, fun x hx => ?_, by rw [len_rng]; omega, by rw [len_rng]; omega⟩
  · rw [g i h0 h1]; exact ⟨h0, h1, g i h0 h1⟩
  · obtain ⟨a, b⟩ := mem_rng.mp hx
    exact ⟨a, b, g x a b⟩
theorem PInv.less {N : Int} {k : Nat} {left p : List Int} (I : PInv N (k + 1) left p) : PInv N k left p := ⟨I.len, I.ok, I.nd, I.fx, by have := I.sz; omega, I.lz⟩
theorem PInv.pair {N : Int} {k : Nat} {left p : List Int} (I : PInv N (k + 1) left p) {d1 d2 : Int} (a0 : 0 ≤ d1) (a1 : d1 < left.length) (b0 : 0 ≤ d2) (b1 : d2 < (delAt left d1).length) :
    PInv N k (delAt (delAt left d1) d2) (setAt (setAt p (gt left d1) (gt (delAt left d1) d2)) (gt (delAt left d1) d2) (gt left d1)) ∧ InR p.length (gt left d1) ∧ InR p.length (gt (delAt left d1) d2) := by
  have r1 : InR left.length d1 := inR a0 a1
  have r2 : InR (delAt left d1).length d2 := inR b0 b1
  obtain ⟨x0, x1, xf⟩ := I.fx _ (gt_mem r1)
  have om := mem_delAt (gt_mem r2)
  obtain ⟨y0, y1, yf⟩ := I.fx _ om
  have ne : gt left d1 ≠ gt (delAt left d1) d2 := fun e => not_delAt I.nd a0 a1 (e ▸ gt_mem r2)
  have nd1 := nodup_delAt (j := d1) I.nd
  have no2 := not_delAt nd1 b0 b1
  have no1 : gt left d1 ∉ delAt (delAt left d1) d2 := fun m => not_delAt I.nd a0 a1 (mem_delAt m)
  have hl := I.len
  generalize gt left d1 = x at *
  generalize gt (delAt left d1) d2 = y at *
  have g : ∀ i, 0 ≤ i → i < N → gt (setAt (setAt p x y) y x) i = if i = y then x else if i = x then y else gt p i := fun i h0 h1 => by
    rw [gt_setAt y0 h0 (by rw [len_setAt]; omega), gt_setAt x0 h0 (by omega)]
  refine ⟨⟨by rw [len_setAt, len_setAt]; exact hl, fun i h0 h1 => ?_, nodup_delAt nd1, fun z hz => ?_, ?_, ?_⟩, inR x0 (by omega), inR y0 (by omega)⟩
  · rw [g i h0 h1]
    by_cases c1 : i = y
    · rw [if_pos c1]
      refine ⟨x0, x1, ?_⟩
      rw [g x x0 x1, if_neg ne, if_pos rfl, c1]
    · rw [if_neg c1]
      by_cases c2 : i = x
      · rw [if_pos c2]
        refine ⟨y0, y1, ?_⟩
        rw [g y y0 y1, if_pos rfl, c2]
      · rw [if_neg c2]
        obtain ⟨o1, o2, o3⟩ := I.ok i h0 h1
        refine ⟨o1, o2, ?_⟩
        rw [g _ o1 o2, if_neg, if_neg, o3]
        · intro e; rw [e, xf] at o3; exact c2 o3.symm
        · intro e; rw [e, yf] at o3; exact c1 o3.symm
  · obtain ⟨z0, z1, zf⟩ := I.fx z (mem_delAt (mem_delAt hz))
    refine ⟨z0, z1, ?_⟩
    rw [g z z0 z1, if_neg, if_neg, zf]
    · intro e; exact no1 (e ▸ hz)
    · intro e; exact no2 (e ▸ hz)
  · rw [len_delAt r2, len_delAt r1]
    have := I.sz
    omega
  · rw [len_delAt r2, len_delAt r1]
    have := I.lz
    omega
theorem PInv.good {N : Int} {k : Nat} {left p : List Int} (I : PInv N k left p) (h1 : 1 ≤ N) (h6 : N ≤ 6) : GoodP p := by
  have hl := I.len
  refine ⟨by omega, by omega, fun x hx => ?_, fun i h0 h1 => (I.ok i h0 (by omega)).2.2⟩
  obtain ⟨i, i0, i1, rfl⟩ := mem_gt hx
  obtain ⟨a, b, _⟩ := I.ok i i0 (by omega)
  exact ⟨a, by omega⟩
theorem l_paper_ok (s : Sm) {most : Int} (h1 : 1 ≤ most) (h6 : most ≤ 6) : d_l_paper s most ∧ GoodP (v_l_paper s most).1 ∧ (v_l_paper s most).1.length ≤ most := by
  have m0 := nx_ge s (m := most) (by omega)
  have m1 := nx_lt s (m := most) (by omega)
  have key := fold_inv (step := v_l_paper_L_) (D := d_l_paper_L_) (fun xs st => PInv (1 + (nx s most).1) xs.length st.1 st.2.1) (xs := rng 0 ((1 + (nx s most).1) / 2)) (s := (rng 0 (1 + (nx s most).1), rng 0 (1 + (nx s most).1), (nx s most).2))
    (PInv.start (by omega) _ (by rw [len_rng]; omega)) (fun x r st I => by
      obtain ⟨left, p, t⟩ := st
      have e2 := I.sz
      simp only [List.length_cons] at I e2
      have b0 := nx_ge (nx t 2).2 (m := left.length) (by omega)
      have b1 := nx_lt (nx t 2).2 (m := left.length) (by omega)
      have hl : (delAt left (nx (nx t 2).2 left.length).1).length = left.length - 1 := len_delAt (inR b0 b1)
      have c0 := nx_ge (nx (nx t 2).2 left.length).2 (m := (delAt left (nx (nx t 2).2 left.length).1).length) (by omega)
      have c1 := nx_lt (nx (nx t 2).2 left.length).2 (m := (delAt left (nx (nx t 2).2 left.length).1).length) (by omega)
      obtain ⟨J, q1, q2⟩ := I.pair b0 b1 c0 c1
      have hp : p.length ≤ 1000 := by have := I.len; omega
      have hlt : (left.length : Int) ≤ 6 := by have := I.lz; omega
      constructor
      · unfold d_l_paper_L_
        dsimp only
        exact ⟨⟨fun _ => ⟨drOk (by omega) (by omega), inR b0 b1, drOk (by omega) (by omega), inR c0 c1, q1, by rw [len_setAt]; exact q2, trivial⟩, fun _ => trivial⟩, trivial⟩
      · unfold v_l_paper_L_
        dsimp only
        by_cases h : (nx t 2).1 = 1
        · simp only [h, decide_true, if_true]
          exact J
        · simp only [h, decide_false, Bool.false_eq_true, if_false]
          exact I.less)
  obtain ⟨k1, k2⟩ := key
  refine ⟨?_, by unfold v_l_paper; exact k2.good (by omega) (by omega), ?_⟩
  · unfold d_l_paper
    exact ⟨drOk (by omega) (by omega), rngOk (by omega) (by omega) (by omega) (by omega), rngOk (by omega) (by omega) (by omega) (by omega), rngOk (by omega) (by omega) (by omega) (by omega), k1, trivial⟩
  · have := k2.len
    show ((v_l_paper s most).1.length : Int) ≤ most
    unfold v_l_paper
    dsimp only
    omega
theorem mapS_len {S α β : Type} {f : S → α → β × S} : ∀ (l : List α) (s : S), (mapS f s l).1.length = l.length
  | [], _ => rfl
  | x :: r, s => by rw [mapS, List.length_cons, List.length_cons, mapS_len r]
theorem mapS_all {S α β : Type} {f : S → α → β × S} {Q : β → Prop} : ∀ {l : List α} {s : S}, (∀ s, ∀ x ∈ l, Q (f s x).1) → ∀ y ∈ (mapS f s l).1, Q y
  | [], _, _, y, m => by simp [mapS] at m
  | x :: r, s, h, y, m => by
    rw [mapS] at m
    rcases List.mem_cons.mp m with rfl | m
    · exact h s x List.mem_cons_self
    · exact mapS_all (fun s z hz => h s z (List.mem_cons_of_mem _ hz)) y m
theorem l_sequence_ok (s : Sm) {p : List Int} {most : Int} (hp : 1 ≤ p.length) (hp2 : p.length ≤ 1000) (h1 : 0 ≤ most) (h6 : most ≤ 1000) : d_l_sequence s p most ∧ GoodS p (v_l_sequence s p most).1 ∧ ((v_l_sequence s p most).1.length : Int) ≤ most := by
  have m0 := nx_ge s (m := most + 1) (by omega)
  have m1 := nx_lt s (m := most + 1) (by omega)
  refine ⟨?_, ?_, ?_⟩
  · unfold d_l_sequence
    exact ⟨drOk (by omega) (by omega), rngOk (by omega) (by omega) (by omega) (by omega), fun k _ t => ⟨drOk (by omega) (by omega), trivial⟩, trivial⟩
  · unfold v_l_sequence
    dsimp only
    exact mapS_all fun t k _ => ⟨nx_ge t (by omega), nx_lt t (by omega)⟩
  · unfold v_l_sequence
    dsimp only
    rw [mapS_len, len_rng]
    omega
end Qm

/-! F0: gatherings, their factors: plain mathematics. -/
namespace Fac
/-- read from the end, each mark by its counterpart -/
def rf (θ : Int → Int) (s : List Int) : List Int := (s.map θ).reverse
section
variable {θ : Int → Int}
theorem rf_app (a b : List Int) : rf θ (a ++ b) = rf θ b ++ rf θ a := by simp [rf]
theorem len_rf (s : List Int) : (rf θ s).length = s.length := by simp [rf]
theorem rf_nil : rf θ [] = [] := rfl
theorem rf_rf (h : ∀ x, θ (θ x) = x) (s : List Int) : rf θ (rf θ s) = s := by
  unfold rf
  rw [List.map_reverse, List.reverse_reverse, List.map_map]
  exact (List.map_congr_left (g := id) fun x _ => h x).trans (List.map_id _)
/-- a gathering -/
def G (θ : Int → Int) (s : List Int) : Prop := s ≠ [] ∧ s.length % 2 = 0 ∧ rf θ s = s
instance (s : List Int) : Decidable (G θ s) := by unfold G; infer_instance
theorem G.pos {s : List Int} (g : G θ s) : 0 < s.length := List.length_pos_iff.mpr g.1
theorem G.ge2 {s : List Int} (g : G θ s) : 2 ≤ s.length := by have := g.pos; have := g.2.1; omega
/-- the lengths of the beginnings that are asked -/
def evens (n : Nat) : List Nat := (List.range (n / 2)).map fun i => 2 * i + 2
theorem mem_evens {n k : Nat} : k ∈ evens n ↔ 0 < k ∧ k ≤ n ∧ k % 2 = 0 := by
  unfold evens
  rw [List.mem_map]
  constructor
  · rintro ⟨i, hi, rfl⟩
    have := List.mem_range.mp hi
    omega
  · rintro ⟨h1, h2, h3⟩
    exact ⟨k / 2 - 1, List.mem_range.mpr (by omega), by omega⟩
theorem evens_sorted (n : Nat) : (evens n).Pairwise (· < ·) := by
  unfold evens
  refine List.Pairwise.map _ ?_ List.pairwise_lt_range
  intro a b h
  omega
/-- how long the shortest gathering is with which it begins, or 0 -/
def sh (θ : Int → Int) (s : List Int) : Nat := ((evens s.length).find? fun k => decide (G θ (s.take k))).getD 0
theorem find_first {p : Nat → Bool} : ∀ {l : List Nat} {k : Nat}, l.Pairwise (· < ·) → l.find? p = some k → ∀ j ∈ l, j < k → p j = false
  | x :: r, k, hp, h, j, hj, hlt => by
    rw [List.find?_cons] at h
    rw [List.pairwise_cons] at hp
    split at h
    · cases h
      rcases List.mem_cons.mp hj with rfl | hj
      · omega
      · have := hp.1 j hj; omega
    · rename_i hx
      rcases List.mem_cons.mp hj with rfl | hj
      · simpa using hx
      · exact find_first hp.2 h j hj hlt
theorem sh_pos {s : List Int} (h : 0 < sh θ s) : G θ (s.take (sh θ s)) ∧ sh θ s ≤ s.length ∧ ∀ k, k < sh θ s → ¬ G θ (s.take k) := by
  unfold sh at h ⊢
  cases e : (evens s.length).find? fun k => decide (G θ (s.take k)) with
  | none => rw [e] at h; simp at h
  | some k =>
    rw [Option.getD_some]
    have h1 := List.find?_some e
    have h2 := List.mem_of_find?_eq_some e
    obtain ⟨k0, k1, k2⟩ := mem_evens.mp h2
    refine ⟨of_decide_eq_true h1, k1, fun j hj g => ?_⟩
    have gj := g.pos
    have ge := g.2.1
    rw [List.length_take, Nat.min_eq_left (by omega)] at gj ge
    have := find_first (evens_sorted _) e j (mem_evens.mpr ⟨by omega, by omega, ge⟩) hj
    simp at this
    exact this g
theorem sh_zero {s : List Int} (h : sh θ s = 0) (k : Nat) : ¬ G θ (s.take k) := by
  intro g
  unfold sh at h
  have gj := g.pos
  have ge := g.2.1
  rw [List.length_take] at gj ge
  have e : s.take k = s.take (min k s.length) := by
    by_cases c : k ≤ s.length
    · rw [Nat.min_eq_left c]
    · rw [Nat.min_eq_right (by omega), List.take_of_length_le (by omega), List.take_of_length_le (Nat.le_refl _)]
  rw [e] at g
  cases ef : (evens s.length).find? fun k => decide (G θ (s.take k)) with
  | none =>
    have := List.find?_eq_none.mp ef (min k s.length) (mem_evens.mpr ⟨gj, by omega, ge⟩)
    simp at this
    exact this g
  | some j =>
    rw [ef] at h
    have := (mem_evens.mp (List.mem_of_find?_eq_some ef)).1
    simp at h; omega
/-- a gathering that begins with no shorter one -/
def Pr (θ : Int → Int) (p : List Int) : Prop := G θ p ∧ ∀ k, k < p.length → ¬ G θ (p.take k)
theorem sh_of {p t : List Int} (h : Pr θ p) : sh θ (p ++ t) = p.length := by
  have e : (p ++ t).take p.length = p := List.take_left' rfl
  by_cases c : 0 < sh θ (p ++ t)
  · obtain ⟨g, l, m⟩ := sh_pos c
    by_cases d : sh θ (p ++ t) < p.length
    · rw [List.take_append_of_le_length (by omega)] at g
      exact (h.2 _ d g).elim
    · by_cases d2 : p.length < sh θ (p ++ t)
      · exact (m _ d2 (by rw [e]; exact h.1)).elim
      · omega
  · exact (sh_zero (by omega : sh θ (p ++ t) = 0) p.length (by rw [e]; exact h.1)).elim
theorem sh_prime {s : List Int} (h : 0 < sh θ s) : Pr θ (s.take (sh θ s)) := by
  obtain ⟨g, l, m⟩ := sh_pos h
  refine ⟨g, fun k hk => ?_⟩
  rw [List.length_take, Nat.min_eq_left l] at hk
  rw [List.take_take, Nat.min_eq_left (by omega)]
  exact m k hk
/-- the factors, the remainder -/
def fac (θ : Int → Int) (s : List Int) : List (List Int) × List Int :=
  if h : 0 < sh θ s then (s.take (sh θ s) :: (fac θ (s.drop (sh θ s))).1, (fac θ (s.drop (sh θ s))).2) else ([], s)
termination_by s.length
decreasing_by all_goals (have := (sh_pos h).2.1; rw [List.length_drop]; omega)
theorem fac_zero {s : List Int} (h : sh θ s = 0) : fac θ s = ([], s) := by rw [fac, dif_neg (by omega)]
theorem fac_pos {s : List Int} (h : 0 < sh θ s) : fac θ s = (s.take (sh θ s) :: (fac θ (s.drop (sh θ s))).1, (fac θ (s.drop (sh θ s))).2) := by rw [fac, dif_pos h]
theorem fac_prime {p t : List Int} (h : Pr θ p) : fac θ (p ++ t) = (p :: (fac θ t).1, (fac θ t).2) := by
  have e := sh_of (t := t) h
  rw [fac_pos (by rw [e]; exact h.1.pos), e, List.take_left' rfl, List.drop_left' rfl]
theorem fac_ind {C : List Int → Prop} (h0 : ∀ s, sh θ s = 0 → C s) (h1 : ∀ s, 0 < sh θ s → C (s.drop (sh θ s)) → C s) (s : List Int) : C s := by
  induction hn : s.length using Nat.strongRecOn generalizing s with
  | ind n ih =>
    by_cases c : 0 < sh θ s
    · refine h1 s c (ih _ ?_ _ rfl)
      have := (sh_pos c).2.1
      rw [List.length_drop]; omega
    · exact h0 s (by omega)
theorem fac_join (s : List Int) : (fac θ s).1.flatten ++ (fac θ s).2 = s := by
  refine fac_ind (θ := θ) (C := fun s => (fac θ s).1.flatten ++ (fac θ s).2 = s) (fun s h => ?_) (fun s h ih => ?_) s
  · rw [fac_zero h]; rfl
  · rw [fac_pos h, List.flatten_cons, List.append_assoc, ih, List.take_append_drop]
theorem fac_primes (s : List Int) : (∀ p ∈ (fac θ s).1, Pr θ p) ∧ sh θ (fac θ s).2 = 0 := by
  refine fac_ind (θ := θ) (C := fun s => (∀ p ∈ (fac θ s).1, Pr θ p) ∧ sh θ (fac θ s).2 = 0) (fun s h => ?_) (fun s h ih => ?_) s
  · rw [fac_zero h]; exact ⟨fun p hp => by simp at hp, h⟩
  · rw [fac_pos h]
    refine ⟨fun p hp => ?_, ih.2⟩
    rcases List.mem_cons.mp hp with rfl | hp
    · exact sh_prime h
    · exact ih.1 p hp
/-- what begins with primes has them as its first factors -/
theorem fac_app : ∀ (ps : List (List Int)) (t : List Int), (∀ p ∈ ps, Pr θ p) → fac θ (ps.flatten ++ t) = (ps ++ (fac θ t).1, (fac θ t).2)
  | [], t, _ => rfl
  | p :: r, t, h => by
    rw [List.flatten_cons, List.append_assoc, fac_prime (h p List.mem_cons_self), fac_app r t fun q hq => h q (List.mem_cons_of_mem _ hq)]
    rfl
theorem fac_more (s t : List Int) : fac θ (s ++ t) = ((fac θ s).1 ++ (fac θ ((fac θ s).2 ++ t)).1, (fac θ ((fac θ s).2 ++ t)).2) := by
  conv => lhs; rw [← fac_join (θ := θ) s, List.append_assoc]
  exact fac_app _ _ (fac_primes s).1
/-- collatable: gatherings one behind another -/
inductive Co (θ : Int → Int) : List Int → Prop
  | nil : Co θ []
  | app {g r : List Int} : G θ g → Co θ r → Co θ (g ++ r)
theorem Co.trans {a b : List Int} (x : Co θ a) (y : Co θ b) : Co θ (a ++ b) := by
  induction x with
  | nil => exact y
  | app g _ ih => rw [List.append_assoc]; exact .app g ih
theorem Co.one {g : List Int} (h : G θ g) : Co θ g := by have := Co.app h .nil; rwa [List.append_nil] at this
theorem drop_eq {g a p : List Int} (e : g = a ++ p) {n : Nat} (hn : a.length = n) : g.drop n = p := by
  rw [e, List.drop_left' hn]
/-- a gathering that begins with a shorter prime one ends with it, too, without overlap -/
theorem prime_split (hθ : ∀ x, θ (θ x) = x) {g p : List Int} (hg : G θ g) (hp : Pr θ p) (hk : p = g.take p.length) (hl : p.length < g.length) : ∃ m, g = p ++ (m ++ p) ∧ (m = [] ∨ G θ m) := by
  have e1 : g = p ++ g.drop p.length := by conv => lhs; rw [← List.take_append_drop p.length g, ← hk]
  -- the end
  have e2 : g = rf θ (g.drop p.length) ++ p := by
    have := hg.2.2
    conv => lhs; rw [← this]
    conv => lhs; rw [e1, rf_app, hp.1.2.2]
  have gl := hg.2.1
  have pl := hp.1.2.1
  by_cases c : 2 * p.length ≤ g.length
  · refine ⟨(g.drop p.length).take (g.length - 2 * p.length), ?_, ?_⟩
    · have h3 : g.drop p.length = (g.drop p.length).take (g.length - 2 * p.length) ++ (g.drop p.length).drop (g.length - 2 * p.length) := (List.take_append_drop _ _).symm
      have h4 : (g.drop p.length).drop (g.length - 2 * p.length) = p := by
        rw [List.drop_drop]; exact drop_eq e2 (by rw [len_rf, List.length_drop]; omega)
      rw [h4] at h3
      rw [← h3]
      exact e1
    · by_cases z : g.length = 2 * p.length
      · left; rw [z]; simp
      · right
        refine ⟨fun h => ?_, ?_, ?_⟩
        · have := congrArg List.length h
          rw [List.length_take, List.length_drop] at this
          simp at this; omega
        · rw [List.length_take, List.length_drop]; omega
        · -- the middle
          have h3 : g.drop p.length = (g.drop p.length).take (g.length - 2 * p.length) ++ (g.drop p.length).drop (g.length - 2 * p.length) := (List.take_append_drop _ _).symm
          have h4 : (g.drop p.length).drop (g.length - 2 * p.length) = p := by
            rw [List.drop_drop]; exact drop_eq e2 (by rw [len_rf, List.length_drop]; omega)
          rw [h4] at h3
          generalize hm : (g.drop p.length).take (g.length - 2 * p.length) = m at h3 ⊢
          have e5 : g = p ++ (m ++ p) := by rw [← h3]; exact e1
          have e6 := hg.2.2
          rw [e5, rf_app, rf_app, hp.1.2.2, List.append_assoc] at e6
          exact List.append_cancel_right (List.append_cancel_left e6)
  · -- an overlap would be a shorter gathering
    exfalso
    have hw : p.drop (g.length - p.length) = p.take (2 * p.length - g.length) := by
      have a1 : g.drop (g.length - p.length) = p := drop_eq e2 (by rw [len_rf, List.length_drop])
      have a2 : g.drop (g.length - p.length) = p.drop (g.length - p.length) ++ g.drop p.length := by
        have := congrArg (List.drop (g.length - p.length)) e1
        have hle : g.length - p.length ≤ p.length := by omega
        rwa [List.drop_append_of_le_length hle] at this
      rw [a1] at a2
      have := congrArg (List.take (2 * p.length - g.length)) a2
      rw [List.take_left' (by rw [List.length_drop]; omega)] at this
      exact this.symm
    refine hp.2 (2 * p.length - g.length) (by omega) ⟨fun h => ?_, ?_, ?_⟩
    · have := congrArg List.length h
      rw [List.length_take, List.length_nil] at this
      omega
    · rw [List.length_take, Nat.min_eq_left (by omega)]; omega
    · -- the beginning read from its end is the end
      have b : rf θ (p.take (2 * p.length - g.length)) = p.drop (g.length - p.length) := by
        have h5 : p = p.take (2 * p.length - g.length) ++ p.drop (2 * p.length - g.length) := (List.take_append_drop _ _).symm
        have h6 := hp.1.2.2
        have h7 : p = rf θ (p.drop (2 * p.length - g.length)) ++ rf θ (p.take (2 * p.length - g.length)) := by
          conv => lhs; rw [← h6]
          conv => lhs; rw [h5, rf_app]
        have h8 := congrArg (List.drop (g.length - p.length)) h7
        rw [List.drop_left' (by rw [len_rf, List.length_drop]; omega)] at h8
        exact h8.symm
      rw [b, hw]
/-- collatable exactly if there is no remainder -/
theorem co_drop (hθ : ∀ x, θ (θ x) = x) {s : List Int} (h : Co θ s) (hs : s ≠ []) : 0 < sh θ s ∧ Co θ (s.drop (sh θ s)) := by
  cases h with
  | nil => exact (hs rfl).elim
  | @app g r hg hr =>
    have c : 0 < sh θ (g ++ r) := by
      by_cases c : 0 < sh θ (g ++ r)
      · exact c
      · exact (sh_zero (by omega : sh θ (g ++ r) = 0) g.length (by rw [List.take_left' rfl]; exact hg)).elim
    refine ⟨c, ?_⟩
    obtain ⟨g1, l1, m1⟩ := sh_pos c
    have hp := sh_prime c
    have hle : sh θ (g ++ r) ≤ g.length := by
      by_cases d : sh θ (g ++ r) ≤ g.length
      · exact d
      · exact (m1 g.length (by omega) (by rw [List.take_left' rfl]; exact hg)).elim
    have ep : (g ++ r).take (sh θ (g ++ r)) = g.take (sh θ (g ++ r)) := List.take_append_of_le_length hle
    rw [ep] at hp
    have hpl : (g.take (sh θ (g ++ r))).length = sh θ (g ++ r) := by rw [List.length_take]; omega
    rw [List.drop_append_of_le_length hle]
    by_cases d : sh θ (g ++ r) = g.length
    · rw [d, List.drop_length]; exact hr
    · obtain ⟨m, e, hm⟩ := prime_split hθ hg hp (by rw [hpl]) (by rw [hpl]; omega)
      have e2 : g.drop (sh θ (g ++ r)) = m ++ g.take (sh θ (g ++ r)) := by
        have := congrArg (List.drop (sh θ (g ++ r))) e
        rw [List.drop_left' hpl] at this
        exact this
      rw [e2, List.append_assoc]
      have c2 : Co θ (g.take (sh θ (g ++ r)) ++ r) := .app hp.1 hr
      rcases hm with rfl | hm
      · exact c2
      · exact .app hm c2
theorem co_iff (hθ : ∀ x, θ (θ x) = x) (s : List Int) : Co θ s ↔ (fac θ s).2 = [] := by
  refine fac_ind (θ := θ) (C := fun s => Co θ s ↔ (fac θ s).2 = []) (fun s h => ?_) (fun s h ih => ?_) s
  · rw [fac_zero h]
    constructor
    · intro c
      by_cases z : s = []
      · exact z
      · have := (co_drop hθ c z).1; omega
    · intro e
      have e : s = [] := e
      rw [e]; exact .nil
  · rw [fac_pos h]
    show _ ↔ (fac θ (s.drop (sh θ s))).2 = []
    rw [← ih]
    have hs : s ≠ [] := fun z => by
      have := (sh_pos h).2.1
      rw [z] at this h
      simp at this; omega
    constructor
    · intro c; exact (co_drop hθ c hs).2
    · intro c
      have := Co.app (sh_pos h).1 c
      rwa [List.take_append_drop] at this
theorem co_primes {ps : List (List Int)} (h : ∀ p ∈ ps, Pr θ p) : Co θ ps.flatten := by
  induction ps with
  | nil => exact .nil
  | cons p r ih => rw [List.flatten_cons]; exact .app (h p List.mem_cons_self).1 (ih fun q hq => h q (List.mem_cons_of_mem _ hq))
/-- with more behind it: by the remainder -/
theorem co_more (hθ : ∀ x, θ (θ x) = x) (s t : List Int) : Co θ (s ++ t) ↔ Co θ ((fac θ s).2 ++ t) := by
  rw [co_iff hθ, co_iff hθ, fac_more]
theorem co_rf (hθ : ∀ x, θ (θ x) = x) {s : List Int} (h : Co θ s) : Co θ (rf θ s) := by
  induction h with
  | nil => exact .nil
  | app g _ ih => rw [rf_app, g.2.2]; exact ih.trans (.one g)
/-- the factors of the reflected one -/
theorem fac_rf (hθ : ∀ x, θ (θ x) = x) {s : List Int} (h : (fac θ s).2 = []) : fac θ (rf θ s) = ((fac θ s).1.reverse, []) := by
  have hp := (fac_primes (θ := θ) s).1
  have e := fac_join (θ := θ) s
  rw [h, List.append_nil] at e
  have e2 : rf θ s = (fac θ s).1.reverse.flatten ++ [] := by
    conv => lhs; rw [← e]
    generalize (fac θ s).1 = ps at hp
    rw [List.append_nil]
    induction ps with
    | nil => rfl
    | cons p r ih =>
      rw [List.flatten_cons, rf_app, ih fun q hq => hp q (List.mem_cons_of_mem _ hq), (hp p List.mem_cons_self).1.2.2, List.reverse_cons, List.flatten_append]
      simp
  rw [e2, fac_app _ _ fun p m => hp p (List.mem_reverse.mp m)]
  have : fac θ [] = ([], []) := fac_zero (by unfold sh evens; rfl)
  rw [this, List.append_nil]
theorem fac_rf_ne (hθ : ∀ x, θ (θ x) = x) {s : List Int} (h : (fac θ s).2 ≠ []) : (fac θ (rf θ s)).2 ≠ [] := by
  intro e
  have c := co_rf hθ ((co_iff hθ _).mpr e)
  rw [rf_rf hθ] at c
  exact h ((co_iff hθ _).mp c)
end
end Fac

/-! F1: what completes: appending, prepending. -/
namespace Fac
section
variable {θ : Int → Int}
/-- what is appended to a remainder -/
def apr (θ : Int → Int) (u : List Int) : List Int := match (List.range u.length).find? (fun k => decide (G θ (u.drop k))) with
  | some k => rf θ (u.take k)
  | none => rf θ u
def apn (θ : Int → Int) (s : List Int) : List Int := apr θ (fac θ s).2
def prn (θ : Int → Int) (s : List Int) : List Int := rf θ (apn θ (rf θ s))
theorem apr_co (hθ : ∀ x, θ (θ x) = x) (u : List Int) : Co θ (u ++ apr θ u) := by
  unfold apr
  split
  · rename_i k e
    have e1 := List.find?_some e
    have g : G θ (u.drop k) := of_decide_eq_true e1
    refine .one ⟨fun h => ?_, ?_, ?_⟩
    · have hz := (List.append_eq_nil_iff.mp h).1
      have := g.pos
      rw [hz] at this
      simp at this
    · have := g.2.1
      rw [List.length_drop] at this
      have h2 := g.pos
      rw [List.length_drop] at h2
      rw [List.length_append, len_rf, List.length_take, Nat.min_eq_left (by omega)]
      omega
    · have h3 : u = u.take k ++ u.drop k := (List.take_append_drop _ _).symm
      generalize u.take k = a at *
      generalize u.drop k = b at *
      subst h3
      rw [rf_app, rf_rf hθ, rf_app, g.2.2, List.append_assoc]
  · by_cases z : u = []
    · subst z; exact .nil
    · refine .one ⟨fun h => ?_, ?_, ?_⟩
      · simp at h; exact z h.1
      · rw [List.length_append, len_rf]; omega
      · rw [rf_app, rf_rf hθ]
theorem apr_len (u : List Int) : (apr θ u).length ≤ u.length := by
  unfold apr
  split
  · rw [len_rf, List.length_take]; omega
  · rw [len_rf]; omega
theorem find_range {p : Nat → Bool} {n k : Nat} (h : (List.range n).find? p = some k) : k < n ∧ p k = true ∧ ∀ j, j < k → p j = false := by
  have h1 := List.mem_range.mp (List.mem_of_find?_eq_some h)
  exact ⟨h1, List.find?_some h, fun j hj => find_first (List.pairwise_lt_range) h j (List.mem_range.mpr (by omega)) hj⟩
theorem apr_min (hθ : ∀ x, θ (θ x) = x) {u t : List Int} (hu : sh θ u = 0) (h : Co θ (u ++ t)) : (apr θ u).length ≤ t.length ∧ (t.length = (apr θ u).length → t = apr θ u) := by
  by_cases z : u = []
  · subst z
    have e : apr θ [] = [] := rfl
    rw [e]
    exact ⟨Nat.zero_le _, fun e => List.eq_nil_of_length_eq_zero e⟩
  · have hs : u ++ t ≠ [] := fun e => z (List.append_eq_nil_iff.mp e).1
    obtain ⟨c, _⟩ := co_drop hθ h hs
    obtain ⟨g, l, _⟩ := sh_pos c
    generalize sh θ (u ++ t) = m at c g l
    have hm : u.length < m := by
      by_cases d : u.length < m
      · exact d
      · rw [List.take_append_of_le_length (by omega)] at g
        exact (sh_zero hu m g).elim
    have ep : (u ++ t).take m = u ++ t.take (m - u.length) := by
      rw [List.take_append, List.take_of_length_le (by omega)]
    rw [List.length_append] at l
    have lv : (t.take (m - u.length)).length = m - u.length := by rw [List.length_take]; omega
    rw [ep] at g
    have tv : t.take (m - u.length) ++ t.drop (m - u.length) = t := List.take_append_drop _ _
    generalize hv : t.take (m - u.length) = v at g lv tv
    have e1 := g.2.2
    rw [rf_app] at e1
    have gl := g.2.1
    rw [List.length_append] at gl
    have htl : v.length ≤ t.length := by rw [← tv, List.length_append]; omega
    have hvt : v.length = t.length → v = t := fun e => by
      have : (t.drop (m - u.length)).length = 0 := by rw [List.length_drop]; omega
      rw [List.eq_nil_of_length_eq_zero this, List.append_nil] at tv
      exact tv
    by_cases d : u.length ≤ v.length
    · have hl := apr_len (θ := θ) u
      refine ⟨by omega, fun et => ?_⟩
      have ev := hvt (by omega)
      unfold apr at et ⊢
      split at et
      · rename_i k ek
        obtain ⟨k1, _, _⟩ := find_range ek
        rw [len_rf, List.length_take] at et
        omega
      · rename_i ek
        rw [len_rf] at et
        have := (List.append_inj e1 (by rw [len_rf]; omega)).2
        rw [← ev, ← this]
    · -- a gathering at the end of u
      have hu2 : u.take v.length = rf θ v := by
        have := congrArg (List.take v.length) e1
        rw [List.take_left' (len_rf v), List.take_append_of_le_length (by omega)] at this
        exact this.symm
      have hx : rf θ u = u.drop v.length ++ v := by
        have := congrArg (List.drop v.length) e1
        rw [List.drop_left' (len_rf v), List.drop_append_of_le_length (by omega)] at this
        exact this
      have hx2 : rf θ u = rf θ (u.drop v.length) ++ v := by
        conv => lhs; rw [← List.take_append_drop v.length u, rf_app, hu2, rf_rf hθ]
      have gx : G θ (u.drop v.length) := by
        refine ⟨fun e => ?_, ?_, ?_⟩
        · have := congrArg List.length e
          rw [List.length_drop, List.length_nil] at this; omega
        · rw [List.length_drop]; omega
        · rw [hx2] at hx
          exact List.append_cancel_right hx
      unfold apr
      cases ek : (List.range u.length).find? (fun k => decide (G θ (u.drop k))) with
      | none =>
        have := List.find?_eq_none.mp ek v.length (List.mem_range.mpr (by omega))
        simp at this
        exact (this gx).elim
      | some k =>
        dsimp only
        obtain ⟨k1, k2, k3⟩ := find_range ek
        have hk : k ≤ v.length := by
          by_cases q : k ≤ v.length
          · exact q
          · have := k3 v.length (by omega)
            simp at this
            exact (this gx).elim
        rw [len_rf, List.length_take, Nat.min_eq_left (by omega)]
        refine ⟨by omega, fun et => ?_⟩
        have ev := hvt (by omega)
        have : k = v.length := by omega
        rw [this, hu2, rf_rf hθ, ev]
theorem apn_co (hθ : ∀ x, θ (θ x) = x) (s : List Int) : Co θ (s ++ apn θ s) := (co_more hθ s _).mpr (apr_co hθ _)
theorem apn_min (hθ : ∀ x, θ (θ x) = x) {s t : List Int} (h : Co θ (s ++ t)) : (apn θ s).length ≤ t.length ∧ (t.length = (apn θ s).length → t = apn θ s) :=
  apr_min hθ (fac_primes s).2 ((co_more hθ s t).mp h)
theorem prn_co (hθ : ∀ x, θ (θ x) = x) (s : List Int) : Co θ (prn θ s ++ s) := by
  have := co_rf hθ (apn_co hθ (rf θ s))
  rwa [rf_app, rf_rf hθ] at this
theorem prn_min (hθ : ∀ x, θ (θ x) = x) {s t : List Int} (h : Co θ (t ++ s)) : (prn θ s).length ≤ t.length ∧ (t.length = (prn θ s).length → t = prn θ s) := by
  have := co_rf hθ h
  rw [rf_app] at this
  obtain ⟨h1, h2⟩ := apn_min hθ this
  unfold prn
  rw [len_rf] at h1 h2 ⊢
  refine ⟨h1, fun e => ?_⟩
  rw [← h2 e, rf_rf hθ]
end
end Fac

namespace Qm
/-- appended(paper, sequence): 0 paper 1 sequence -/
def fd330 : FnD := ⟨2, 2, false,
  (.cons (.exp (.call 286 (.cons (.var 0) (.cons (.var 1) .nil)))) (.cons (.ret (.call 328 (.cons (.var 0) (.cons (.var 1) .nil)))) .nil))⟩
/-- appended -/
@[irreducible] def v_appended (paper : List Int) (sequence : List Int) : List Int :=
  (v_append_of paper sequence)
@[irreducible] def d_appended (paper : List Int) (sequence : List Int) : Prop :=
  (d_check_sequence paper sequence) ∧ ((d_append_of paper sequence) ∧ (True))
theorem o_appended {P : Prog} [HasF P 0 fd0] [HasF P 238 fd238] [HasF P 239 fd239] [HasF P 240 fd240] [HasF P 241 fd241] [HasF P 279 fd279] [HasF P 280 fd280] [HasF P 281 fd281] [HasF P 285 fd285] [HasF P 286 fd286] [HasF P 315 fd315] [HasF P 325 fd325] [HasF P 328 fd328] [HasF P 330 fd330] [HasC P 2 (.int 6)] [HasC P 3 (.int 16)] (n : Nat) (h : MHp) (paper : List Int) (sequence : List Int) (D : d_appended paper sequence) : callN P (n + 7) 330 [(eT eI) paper, (eT eI) sequence] h = .ok ((eT eI) (v_appended paper sequence)) h := by
  refine call_p (fd := fd330) (e := (eT eI)) (V := v_appended paper sequence) [some ((eT eI) paper), some ((eT eI) sequence)] rfl rfl (nors_c (e := (eT eI)) (nors_c (e := (eT eI)) rfl)) rfl ?_
  unfold d_appended at D
  unfold v_appended
  refine xs_exp (ev_call (evs_cons (ev_var rfl) (evs_cons (ev_var rfl) evs_nil)) (o_check_sequence (n + 2) _ paper sequence D.1)) ?_
  exact xs_ret (ev_call (evs_cons (ev_var rfl) (evs_cons (ev_var rfl) evs_nil)) (o_append_of (n + 0) _ paper sequence D.2.1)) (rt_p)
/-- prepended(paper, sequence): 0 paper 1 sequence -/
def fd331 : FnD := ⟨2, 2, false,
  (.cons (.exp (.call 286 (.cons (.var 0) (.cons (.var 1) .nil)))) (.cons (.ret (.call 329 (.cons (.var 0) (.cons (.var 1) .nil)))) .nil))⟩
/-- prepended -/
@[irreducible] def v_prepended (paper : List Int) (sequence : List Int) : List Int :=
  (v_prepend_of paper sequence)
@[irreducible] def d_prepended (paper : List Int) (sequence : List Int) : Prop :=
  (d_check_sequence paper sequence) ∧ ((d_prepend_of paper sequence) ∧ (True))
theorem o_prepended {P : Prog} [HasF P 0 fd0] [HasF P 238 fd238] [HasF P 239 fd239] [HasF P 240 fd240] [HasF P 241 fd241] [HasF P 279 fd279] [HasF P 280 fd280] [HasF P 281 fd281] [HasF P 285 fd285] [HasF P 286 fd286] [HasF P 315 fd315] [HasF P 325 fd325] [HasF P 328 fd328] [HasF P 329 fd329] [HasF P 331 fd331] [HasC P 2 (.int 6)] [HasC P 3 (.int 16)] (n : Nat) (h : MHp) (paper : List Int) (sequence : List Int) (D : d_prepended paper sequence) : callN P (n + 8) 331 [(eT eI) paper, (eT eI) sequence] h = .ok ((eT eI) (v_prepended paper sequence)) h := by
  refine call_p (fd := fd331) (e := (eT eI)) (V := v_prepended paper sequence) [some ((eT eI) paper), some ((eT eI) sequence)] rfl rfl (nors_c (e := (eT eI)) (nors_c (e := (eT eI)) rfl)) rfl ?_
  unfold d_prepended at D
  unfold v_prepended
  refine xs_exp (ev_call (evs_cons (ev_var rfl) (evs_cons (ev_var rfl) evs_nil)) (o_check_sequence (n + 3) _ paper sequence D.1)) ?_
  exact xs_ret (ev_call (evs_cons (ev_var rfl) (evs_cons (ev_var rfl) evs_nil)) (o_prepend_of (n + 0) _ paper sequence D.2.1)) (rt_p)
end Qm

namespace Qm
/-- closing_mark(paper, sequence): 0 paper 1 sequence 2 rest -/
def fd326 : FnD := ⟨2, 3, false,
  (.cons (.exp (.call 286 (.cons (.var 0) (.cons (.var 1) .nil)))) (.cons (.asg (.nm 2) (.call 325 (.cons (.var 0) (.cons (.var 1) .nil)))) (.cons (.ite (.or (.cons (.cmp .eq (.var 2) (.tup .nil)) (.cons (.not (.call 239 (.cons (.var 0) (.cons (.bin .add (.var 2) (.tup (.cons (.ix (.var 0) (.ix (.var 2) (.cst (.int 0)))) .nil))) .nil)))) .nil))) (.cons (.ret (.cst .non)) .nil) .nil) (.cons (.ret (.ix (.var 0) (.ix (.var 2) (.cst (.int 0))))) .nil))))⟩
/-- closing_mark -/
@[irreducible] def v_closing_mark (paper : List Int) (sequence : List Int) : Option Int :=
  let rest : List Int := (v_remainder_of paper sequence); if (decide (rest = ([] : List Int)) || (!(v_is_gathering_of paper (rest ++ [(gt paper (gt rest (0 : Int)))])))) = true then ((none : Option Int)) else ((some (gt paper (gt rest (0 : Int)))))
@[irreducible] def d_closing_mark (paper : List Int) (sequence : List Int) : Prop :=
  (d_check_sequence paper sequence) ∧ ((d_remainder_of paper sequence) ∧ (let rest : List Int := (v_remainder_of paper sequence); ((decide (rest = ([] : List Int))) = false → (InR rest.length (0 : Int)) ∧ ((InR paper.length (gt rest (0 : Int))) ∧ ((BigOk rest.length [(gt paper (gt rest (0 : Int)))].length) ∧ ((d_is_gathering_of paper (rest ++ [(gt paper (gt rest (0 : Int)))])) ∧ (True))))) ∧ (((decide (rest = ([] : List Int)) || (!(v_is_gathering_of paper (rest ++ [(gt paper (gt rest (0 : Int)))])))) = true → True) ∧ ((decide (rest = ([] : List Int)) || (!(v_is_gathering_of paper (rest ++ [(gt paper (gt rest (0 : Int)))])))) = false → (InR rest.length (0 : Int)) ∧ ((InR paper.length (gt rest (0 : Int))) ∧ (True))))))
theorem o_closing_mark {P : Prog} [HasF P 0 fd0] [HasF P 238 fd238] [HasF P 239 fd239] [HasF P 240 fd240] [HasF P 241 fd241] [HasF P 279 fd279] [HasF P 280 fd280] [HasF P 281 fd281] [HasF P 285 fd285] [HasF P 286 fd286] [HasF P 325 fd325] [HasF P 326 fd326] [HasC P 2 (.int 6)] [HasC P 3 (.int 16)] (n : Nat) (h : MHp) (paper : List Int) (sequence : List Int) (D : d_closing_mark paper sequence) : callN P (n + 6) 326 [(eT eI) paper, (eT eI) sequence] h = .ok ((eO eI) (v_closing_mark paper sequence)) h := by
  refine call_p (fd := fd326) (e := (eO eI)) (V := v_closing_mark paper sequence) [some ((eT eI) paper), some ((eT eI) sequence), none] rfl rfl (nors_c (e := (eT eI)) (nors_c (e := (eT eI)) rfl)) rfl ?_
  unfold d_closing_mark at D
  unfold v_closing_mark
  refine xs_exp (ev_call (evs_cons (ev_var rfl) (evs_cons (ev_var rfl) evs_nil)) (o_check_sequence (n + 1) _ paper sequence D.1)) ?_
  let rest : List Int := (v_remainder_of paper sequence)
  refine xs_asg [some ((eT eI) paper), some ((eT eI) sequence), some ((eT eI) rest)] (ev_call (evs_cons (ev_var rfl) (evs_cons (ev_var rfl) evs_nil)) (o_remainder_of (n + 0) _ paper sequence D.2.1)) rfl ?_
  refine xs_ite (evB_or (evBO_cons (evB_of (ev_cmp (ev_var rfl) (ev_tup evs_nil) (c_eq (e := (eT eI)) (a := rest) (b := ([] : List Int))))) (fun hc => (fun D_ => (evBO_one (evB_not (evB_of (ev_call (evs_cons (ev_var rfl) (evs_cons (ev_bin (ev_var rfl) (ev_tup (evs_cons (ev_ix (ev_var rfl) (ev_ix (ev_var rfl) ev_cst (i_T (e := eI) (l := rest) D_.1)) (i_T (e := eI) (l := paper) D_.2.1)) evs_nil)) (o_addT (e := eI) (a := rest) (b := [(gt paper (gt rest (0 : Int)))]) D_.2.2.1)) evs_nil)) (o_is_gathering_of (n + 3) _ paper (rest ++ [(gt paper (gt rest (0 : Int)))]) D_.2.2.2.1)))))) (D.2.2.1 hc)))) (fun hc => ?_) (fun hc => ?_)
  · exact xs_ret ev_cst (rt_p)
  · have D_3 := D.2.2.2.2 hc
    exact xs_ret (ev_ix (ev_var rfl) (ev_ix (ev_var rfl) ev_cst (i_T (e := eI) (l := rest) D_3.1)) (i_T (e := eI) (l := paper) D_3.2.1)) (rt_p)
end Qm

/-! F2: the program's defs of gatherings and factors, and the laws' own, by F0's words. -/
namespace Qm
open Fac
/-- the counterpart; marks that are none stay -/
def th (p : List Int) (x : Int) : Int := if 0 ≤ x ∧ x < p.length then gt p x else x
theorem th_in {p : List Int} {x : Int} (h0 : 0 ≤ x) (h1 : x < p.length) : th p x = gt p x := if_pos ⟨h0, h1⟩
theorem th_th {p : List Int} (g : GoodP p) (x : Int) : th p (th p x) = x := by
  unfold th
  by_cases h : 0 ≤ x ∧ x < p.length
  · obtain ⟨a, b⟩ := g.rg _ (gt_mem (inR h.1 h.2))
    rw [if_pos h, if_pos ⟨a, b⟩, g.iv x h.1 h.2]
  · rw [if_neg h, if_neg h]
theorem th_rg {p : List Int} (g : GoodP p) {x : Int} (h0 : 0 ≤ x) (h1 : x < p.length) : 0 ≤ th p x ∧ th p x < p.length := by
  rw [th_in h0 h1]; exact g.rg _ (gt_mem (inR h0 h1))
theorem GoodS.nil {p : List Int} : GoodS p [] := fun x h => by simp at h
theorem GoodS.app {p a b : List Int} (h1 : GoodS p a) (h2 : GoodS p b) : GoodS p (a ++ b) := fun x h => (List.mem_append.mp h).elim (h1 x) (h2 x)
theorem GoodS.take {p a : List Int} (h : GoodS p a) (k : Nat) : GoodS p (a.take k) := fun x m => h x (List.mem_of_mem_take m)
theorem GoodS.drop {p a : List Int} (h : GoodS p a) (k : Nat) : GoodS p (a.drop k) := fun x m => h x (List.mem_of_mem_drop m)
theorem GoodS.cut {p a : List Int} (h : GoodS p a) (i j : Option Int) : GoodS p (cut a i j) := fun x m => h x (mem_cut m)
theorem GoodS.rf {p a : List Int} (g : GoodP p) (h : GoodS p a) : GoodS p (rf (th p) a) := fun x m => by
  unfold Fac.rf at m
  obtain ⟨y, hy, rfl⟩ := List.mem_map.mp (List.mem_reverse.mp m)
  exact th_rg g (h y hy).1 (h y hy).2
theorem GoodS.one {p : List Int} {x : Int} (h0 : 0 ≤ x) (h1 : x < p.length) : GoodS p [x] := fun y m => by
  rw [List.mem_singleton] at m; subst m; exact ⟨h0, h1⟩
theorem map_th {p s : List Int} (h : GoodS p s) : (s.map fun m => gt p m) = s.map (th p) := List.map_congr_left fun x m => (th_in (h x m).1 (h x m).2).symm
theorem v_rf {p s : List Int} (h : GoodS p s) : v_reflected_of p s = rf (th p) s := by
  unfold v_reflected_of Fac.rf
  rw [List.map_reverse, map_th h]
theorem d_rf {p s : List Int} (h : GoodS p s) : d_reflected_of p s := by
  unfold d_reflected_of
  exact ⟨fun m hm => ⟨inR (h m (List.mem_reverse.mp hm)).1 (h m (List.mem_reverse.mp hm)).2, trivial⟩, trivial⟩
theorem v_rf2 {p s : List Int} (h : GoodS p s) : v_l_reflected_289 p s = rf (th p) s := by
  unfold v_l_reflected_289 Fac.rf
  rw [List.map_reverse, map_th h]
theorem d_rf2 {p s : List Int} (h : GoodS p s) : d_l_reflected_289 p s := by
  unfold d_l_reflected_289
  exact ⟨fun m hm => ⟨inR (h m (List.mem_reverse.mp hm)).1 (h m (List.mem_reverse.mp hm)).2, trivial⟩, trivial⟩
/-! ### a search loop -/
theorem foldX_find {T α : Type} {step : Unit → α → T ⊕ Unit} {c : α → Bool} {v : α → T} : ∀ {xs : List α}, (∀ x ∈ xs, step () x = if c x = true then .inl (v x) else .inr ()) → foldX step () xs = (match xs.find? c with | some x => .inl (v x) | none => .inr ())
  | [], _ => rfl
  | x :: r, h => by
    rw [foldX, h x List.mem_cons_self, List.find?_cons]
    cases e : c x with
    | true => rw [if_pos rfl]
    | false =>
      rw [if_neg (by decide)]
      exact foldX_find fun y m => h y (List.mem_cons_of_mem _ m)
theorem FoldXD.unit {T α : Type} {step : Unit → α → T ⊕ Unit} {D : Unit → α → Prop} : ∀ {xs : List α}, (∀ x ∈ xs, D () x) → FoldXD step D () xs
  | [], _ => trivial
  | x :: r, h => by
    refine ⟨h x List.mem_cons_self, ?_⟩
    cases step () x with
    | inl _ => trivial
    | inr u => exact FoldXD.unit fun y m => h y (List.mem_cons_of_mem _ m)
theorem find_map {α β : Type} (f : α → β) (c : β → Bool) : ∀ l : List α, (l.map f).find? c = (l.find? fun a => c (f a)).map f
  | [] => rfl
  | x :: r => by
    rw [List.map_cons, List.find?_cons, List.find?_cons]
    cases c (f x) <;> simp [find_map f c r]
/-! ### gatherings -/
theorem G_iff {p s : List Int} (g : GoodP p) (h : GoodS p s) : G (th p) s ↔ s ≠ [] ∧ s.length % 2 = 0 ∧ ∀ i : Nat, i < s.length / 2 → gt p (gt s i) = gt s ((s.length : Int) - 1 - i) := by
  have hr : ∀ i : Nat, (hi : i < s.length) → (rf (th p) s)[i]'(by rw [len_rf]; exact hi) = th p (s[s.length - 1 - i]'(by omega)) := fun i hi => by
    unfold Fac.rf
    rw [List.getElem_reverse]
    simp
  have hg : ∀ i : Nat, (hi : i < s.length) → gt p (gt s i) = th p s[i] := fun i hi => by
    rw [gt_nat hi, th_in (h _ (List.getElem_mem hi)).1 (h _ (List.getElem_mem hi)).2]
  have hb : ∀ i : Nat, (hi : i < s.length) → gt s ((s.length : Int) - 1 - i) = s[s.length - 1 - i]'(by omega) := fun i hi => by
    have : ((s.length : Int) - 1 - i) = ((s.length - 1 - i : Nat) : Int) := by omega
    rw [this, gt_nat (by omega)]
  unfold G
  refine and_congr_right fun _ => and_congr_right fun he => ?_
  constructor
  · intro e i hi
    rw [hg i (by omega), hb i (by omega)]
    have h1 := hr (s.length - 1 - i) (by omega)
    have h2 : (rf (th p) s)[s.length - 1 - i]'(by rw [len_rf]; omega) = s[s.length - 1 - i]'(by omega) := by
      have : (rf (th p) s)[s.length - 1 - i]? = s[s.length - 1 - i]? := by rw [e]
      rw [List.getElem?_eq_getElem (by rw [len_rf]; omega), List.getElem?_eq_getElem (by omega)] at this
      exact Option.some.inj this
    rw [h2] at h1
    rw [h1]
    congr 2
    omega
  · intro e
    refine List.ext_getElem (len_rf s) fun i h1 h2 => ?_
    rw [hr i h2]
    by_cases c : i < s.length / 2
    · have := e i c
      rw [hg i h2, hb i h2] at this
      rw [← this, th_th g]
    · have := e (s.length - 1 - i) (by omega)
      rw [hg _ (by omega), hb _ (by omega)] at this
      rw [this]
      congr 1
      omega
theorem v_gath {p s : List Int} (g : GoodP p) (h : GoodS p s) : v_is_gathering_of p s = decide (G (th p) s) := by
  unfold v_is_gathering_of v_conflict_of
  dsimp only
  by_cases z : s = []
  · subst z
    have : ¬ G (th p) [] := fun q => q.1 rfl
    simp [this]
  · have hl : 0 < s.length := List.length_pos_iff.mpr z
    have h0 : ¬ (s.length : Int) = 0 := by omega
    by_cases he : s.length % 2 = 0
    · have h1 : ¬ ((s.length : Int) % 2 = 1) := by omega
      simp only [h0, h1, decide_false, Bool.false_eq_true, if_false]
      rw [foldX_find (c := fun i => !decide (gt p (gt s i) = gt s ((s.length : Int) - 1 - i))) (v := fun i => some [i, (s.length : Int) - 1 - i]) (fun x _ => by unfold v_conflict_of_L_; rfl)]
      cases e : (rng 0 ((s.length : Int) / 2)).find? fun i => !decide (gt p (gt s i) = gt s ((s.length : Int) - 1 - i)) with
      | none =>
        have : G (th p) s := (G_iff g h).mpr ⟨z, he, fun i hi => by
          have := List.find?_eq_none.mp e (i : Int) (mem_rng.mpr ⟨by omega, by omega⟩)
          simpa using this⟩
        simp [this]
      | some i =>
        have : ¬ G (th p) s := fun q => by
          have h3 := List.find?_some e
          obtain ⟨i0, i1⟩ := mem_rng.mp (List.mem_of_find?_eq_some e)
          have := ((G_iff g h).mp q).2.2 i.toNat (by omega)
          rw [show ((i.toNat : Nat) : Int) = i from by omega] at this
          simp [this] at h3
        simp [this]
    · have h1 : (s.length : Int) % 2 = 1 := by omega
      have : ¬ G (th p) s := fun q => he q.2.1
      simp [z, h1, this]
theorem d_conf {p s : List Int} (g : GoodP p) (h : GoodS p s) (hl : s.length ≤ 1000) : d_conflict_of p s := by
  unfold d_conflict_of
  refine ⟨fun _ => trivial, fun _ => ⟨fun _ => trivial, fun _ => ⟨rngOk (by omega) (by omega) (by omega) (by omega), FoldXD.unit fun i hi => ?_, trivial⟩⟩⟩
  unfold d_conflict_of_L_
  obtain ⟨i0, i1⟩ := mem_rng.mp hi
  have r1 : InR s.length i := inR i0 (by omega)
  obtain ⟨a, b⟩ := h _ (gt_mem r1)
  exact ⟨r1, inR a b, inR (by omega) (by omega), trivial⟩
theorem d_gath {p s : List Int} (g : GoodP p) (h : GoodS p s) (hl : s.length ≤ 1000) : d_is_gathering_of p s := by
  unfold d_is_gathering_of; exact ⟨d_conf g h hl, trivial⟩
theorem v_gath2 {p s : List Int} (g : GoodP p) (h : GoodS p s) : v_l_is_gathering p s = decide (G (th p) s) := by
  unfold v_l_is_gathering
  rw [v_rf2 h]
  unfold G
  by_cases z : s = []
  · subst z; simp
  · have hl : 0 < s.length := List.length_pos_iff.mpr z
    by_cases he : s.length % 2 = 0
    · have h1 : (s.length : Int) % 2 = 0 := by omega
      simp [z, he, h1, hl]
    · have h1 : ¬ (s.length : Int) % 2 = 0 := by omega
      simp [z, he, h1]
theorem d_gath2 {p s : List Int} (h : GoodS p s) : d_l_is_gathering p s := by
  unfold d_l_is_gathering
  exact ⟨fun _ => ⟨fun _ => ⟨d_rf2 h, trivial⟩, trivial⟩, trivial⟩
/-! ### the shortest one -/
theorem rng_evens {s n : Nat} (h : s ≤ n) : rngC' ((s : Int) + 2) ((n : Int) + 1) 2 = (evens (n - s)).map fun (k : Nat) => (s : Int) + (k : Int) := by
  unfold rngC' evens
  rw [List.map_map]
  have : (((n : Int) + 1 - ((s : Int) + 2) + 2 - 1) / 2).toNat = (n - s) / 2 := by omega
  rw [this]
  refine List.map_congr_left fun k _ => ?_
  show (s : Int) + 2 + (k : Int) * 2 = (s : Int) + ((2 * k + 2 : Nat) : Int)
  omega
theorem v_sh {p s : List Int} (g : GoodP p) (h : GoodS p s) {k : Nat} (hk : k ≤ s.length) : v_shortest_at p s k = sh (th p) (s.drop k) := by
  unfold v_shortest_at
  rw [rng_evens hk]
  have hc : ∀ j ∈ evens (s.length - k), v_is_gathering_of p (cut s (some (k : Int)) (some ((k : Int) + (j : Int)))) = decide (G (th p) ((s.drop k).take j)) := fun j hj => by
    rw [v_gath g (h.cut _ _), cut_mid _ (by omega) (by omega)]
    have e1 : ((k : Int)).toNat = k := by omega
    have e2 : ((k : Int) + (j : Int)).toNat - k = j := by omega
    rw [e1, e2]
  rw [foldX_find (c := fun x => v_is_gathering_of p (cut s (some (k : Int)) (some x))) (v := fun x => x - k) (fun x _ => by unfold v_shortest_at_L_; rfl), find_map]
  unfold sh
  rw [List.length_drop]
  have e : (evens (s.length - k)).find? (fun (a : Nat) => v_is_gathering_of p (cut s (some (k : Int)) (some ((k : Int) + (a : Int))))) = (evens (s.length - k)).find? (fun a => decide (G (th p) ((s.drop k).take a))) := find_congr hc
  rw [e]
  cases (evens (s.length - k)).find? (fun a => decide (G (th p) ((s.drop k).take a))) with
  | none => rfl
  | some j =>
    show ((k : Int) + (j : Int)) - k = (j : Int)
    omega
where find_congr {α : Type} {c d : α → Bool} : ∀ {l : List α}, (∀ x ∈ l, c x = d x) → l.find? c = l.find? d
  | [], _ => rfl
  | x :: r, h => by
    rw [List.find?_cons, List.find?_cons, h x List.mem_cons_self, find_congr fun y m => h y (List.mem_cons_of_mem _ m)]
theorem d_sh {p s : List Int} (g : GoodP p) (h : GoodS p s) (hl : s.length ≤ 1000) {k : Nat} (hk : k ≤ s.length) : d_shortest_at p s k := by
  unfold d_shortest_at
  refine ⟨rngOk (by omega) (by omega) (by omega) (by omega), FoldXD.unit fun x _ => ?_, trivial⟩
  unfold d_shortest_at_L_
  have := len_cut (l := s) (a := some (k : Int)) (b := some x)
  exact ⟨d_gath g (h.cut _ _) (by omega), trivial⟩
/-! ### the split -/
def lens (fs : List (List Int)) : List Int := fs.map fun f => (f.length : Int)
theorem wh_split {p s : List Int} (g : GoodP p) (h : GoodS p s) (hl : s.length ≤ 1000) : ∀ (n k : Nat) (ls : List Int), k ≤ s.length → s.length - k < n → ls.length + s.length ≤ 5000 + k →
    whF (v_split_of_W_c p s) (v_split_of_W_ p s) n (ls, (k : Int), (sh (th p) (s.drop k) : Int)) = (ls ++ lens (fac (th p) (s.drop k)).1, (s.length : Int) - ((fac (th p) (s.drop k)).2.length : Int), 0) ∧
      WhD (v_split_of_W_c p s) (v_split_of_W_ p s) (d_split_of_W_c p s) (d_split_of_W_ p s) n (ls, (k : Int), (sh (th p) (s.drop k) : Int))
  | 0, _, _, _, hn, _ => by omega
  | n + 1, k, ls, hk, hn, hz => by
    by_cases c : 0 < sh (th p) (s.drop k)
    · obtain ⟨_, l1, _⟩ := sh_pos c
      rw [List.length_drop] at l1
      have e2 : s.drop (k + sh (th p) (s.drop k)) = (s.drop k).drop (sh (th p) (s.drop k)) := by rw [List.drop_drop]
      have ih := wh_split g h hl n (k + sh (th p) (s.drop k)) (ls ++ [(sh (th p) (s.drop k) : Int)]) (by omega) (by omega) (by rw [List.length_append, List.length_singleton]; omega)
      have st : v_split_of_W_ p s (ls, (k : Int), (sh (th p) (s.drop k) : Int)) = (ls ++ [(sh (th p) (s.drop k) : Int)], ((k + sh (th p) (s.drop k) : Nat) : Int), (sh (th p) (s.drop (k + sh (th p) (s.drop k))) : Int)) := by
        unfold v_split_of_W_
        dsimp only
        rw [show (k : Int) + (sh (th p) (s.drop k) : Int) = ((k + sh (th p) (s.drop k) : Nat) : Int) from by omega, v_sh g h (by omega)]
      have cc : v_split_of_W_c p s (ls, (k : Int), (sh (th p) (s.drop k) : Int)) = true := by
        unfold v_split_of_W_c
        simpa using c
      rw [whF, if_pos cc, st, ih.1]
      refine ⟨?_, ?_, fun _ => ⟨?_, by rw [st]; exact ih.2⟩⟩
      · rw [e2, fac_pos c]
        simp [lens, Nat.min_eq_left l1]
      · unfold d_split_of_W_c; trivial
      · unfold d_split_of_W_
        dsimp only
        refine ⟨by omega, ?_, trivial⟩
        rw [show (k : Int) + (sh (th p) (s.drop k) : Int) = ((k + sh (th p) (s.drop k) : Nat) : Int) from by omega]
        exact d_sh g h hl (by omega)
    · have z : sh (th p) (s.drop k) = 0 := by omega
      have cc : v_split_of_W_c p s (ls, (k : Int), (sh (th p) (s.drop k) : Int)) = false := by
        unfold v_split_of_W_c
        rw [z]; rfl
      rw [whF, if_neg (by rw [cc]; decide), fac_zero z, z]
      refine ⟨?_, ?_, fun q => ?_⟩
      · simp [lens]; omega
      · unfold d_split_of_W_c; trivial
      · rw [z] at cc; rw [cc] at q; cases q
theorem fac_len (θ : Int → Int) (s : List Int) : (fac θ s).2.length ≤ s.length ∧ 2 * (fac θ s).1.length + (fac θ s).2.length ≤ s.length := by
  have e := congrArg List.length (fac_join (θ := θ) s)
  rw [List.length_append] at e
  have hp := (fac_primes (θ := θ) s).1
  have : 2 * (fac θ s).1.length ≤ (fac θ s).1.flatten.length := by
    generalize (fac θ s).1 = ps at hp
    induction ps with
    | nil => simp
    | cons p r ih =>
      have h1 := ih fun q hq => hp q (List.mem_cons_of_mem _ hq)
      have h2 := (hp p List.mem_cons_self).1.ge2
      rw [List.flatten_cons, List.length_append, List.length_cons]
      omega
  omega
theorem v_splitOf {p s : List Int} (g : GoodP p) (h : GoodS p s) (hl : s.length ≤ 900) : v_split_of p s = (lens (fac (th p) s).1, ((fac (th p) s).2.length : Int)) := by
  unfold v_split_of
  have e := (wh_split g h (by omega) 1000 0 [] (by omega) (by omega) (by simp; omega)).1
  have e0 := v_sh g h (k := 0) (Nat.zero_le _)
  simp only [List.drop_zero, Int.natCast_zero] at e e0
  have e0 : v_shortest_at p s 0 = (sh (th p) s : Int) := e0
  dsimp only
  rw [e0]
  have e : whF (v_split_of_W_c p s) (v_split_of_W_ p s) 1000 ([], 0, (sh (th p) s : Int)) = _ := e
  rw [e]
  dsimp only
  rw [List.nil_append]
  congr 1
  omega
theorem d_splitOf {p s : List Int} (g : GoodP p) (h : GoodS p s) (hl : s.length ≤ 900) : d_split_of p s := by
  unfold d_split_of
  have e := (wh_split g h (by omega) 1000 0 [] (by omega) (by omega) (by simp; omega)).2
  have e0 := v_sh g h (k := 0) (Nat.zero_le _)
  simp only [List.drop_zero, Int.natCast_zero] at e e0
  have e0 : v_shortest_at p s 0 = (sh (th p) s : Int) := e0
  dsimp only
  rw [e0]
  exact ⟨d_sh g h (by omega) (k := 0) (Nat.zero_le _), e, trivial⟩
theorem v_rem {p s : List Int} (g : GoodP p) (h : GoodS p s) (hl : s.length ≤ 900) : v_remainder_of p s = (fac (th p) s).2 := by
  unfold v_remainder_of
  have := fac_len (th p) s
  rw [v_splitOf g h hl, cut_drop _ (by omega)]
  refine drop_eq (fac_join (θ := th p) s).symm ?_
  have e := congrArg List.length (fac_join (θ := th p) s)
  rw [List.length_append] at e
  omega
theorem d_rem {p s : List Int} (g : GoodP p) (h : GoodS p s) (hl : s.length ≤ 900) : d_remainder_of p s := by
  unfold d_remainder_of; exact ⟨d_splitOf g h hl, trivial⟩
theorem GoodS.rem {p s : List Int} (h : GoodS p s) : GoodS p (fac (th p) s).2 := fun x m => h x (by
  rw [← fac_join (θ := th p) s]; exact List.mem_append_right _ m)
theorem GoodS.fac {p s : List Int} (h : GoodS p s) : ∀ f ∈ (fac (th p) s).1, GoodS p f := fun f hf x m => h x (by
  rw [← fac_join (θ := th p) s]; exact List.mem_append_left _ (List.mem_flatten.mpr ⟨f, hf, m⟩))
theorem rng0 (n : Nat) : rng 0 (n : Int) = (List.range n).map fun (k : Nat) => (k : Int) := by
  unfold rng
  rw [show ((n : Int) - 0).toNat = n from by omega]
  exact List.map_congr_left fun k _ => by omega
theorem v_app {p s : List Int} (g : GoodP p) (h : GoodS p s) (hl : s.length ≤ 900) : v_append_of p s = apn (th p) s := by
  unfold v_append_of apn apr
  rw [v_rem g h hl]
  have hr := h.rem
  generalize (Fac.fac (th p) s).2 = u at hr
  dsimp only
  rw [foldX_find (c := fun k => v_is_gathering_of p (cut u (some k) none)) (v := fun k => v_reflected_of p (cut u none (some k))) (fun x _ => by unfold v_append_of_L_; rfl), rng0, find_map]
  have e : (List.range u.length).find? (fun (a : Nat) => v_is_gathering_of p (cut u (some (a : Int)) none)) = (List.range u.length).find? (fun k => decide (G (th p) (u.drop k))) := v_sh.find_congr fun a _ => by
    rw [v_gath g (hr.cut _ _), cut_drop _ (by omega)]; rfl
  rw [e]
  cases (List.range u.length).find? (fun k => decide (G (th p) (u.drop k))) with
  | none =>
    show v_reflected_of p u = _
    rw [v_rf hr]
  | some k =>
    show v_reflected_of p (cut u none (some (k : Int))) = _
    rw [v_rf (hr.cut _ _), cut_take _ (by omega)]; rfl
theorem d_app {p s : List Int} (g : GoodP p) (h : GoodS p s) (hl : s.length ≤ 900) : d_append_of p s := by
  unfold d_append_of
  refine ⟨d_rem g h hl, ?_⟩
  rw [v_rem g h hl]
  have hr := h.rem
  have hz := (fac_len (th p) s).1
  generalize (Fac.fac (th p) s).2 = u at hr hz
  dsimp only
  refine ⟨rngOk (by omega) (by omega) (by omega) (by omega), FoldXD.unit fun x _ => ?_, fun _ _ => ⟨d_rf hr, trivial⟩⟩
  unfold d_append_of_L_
  have := len_cut (l := u) (a := some x) (b := none)
  exact ⟨d_gath g (hr.cut _ _) (by omega), fun _ => ⟨d_rf (hr.cut _ _), trivial⟩, fun _ => trivial⟩
end Qm

/-! F3: prepending, starts, the split told, closing marks; the laws' own split; what these laws draw. -/
namespace Qm
open Fac
theorem GoodS.apn {p s : List Int} (g : GoodP p) (h : GoodS p s) : GoodS p (apn (th p) s) := by
  unfold Fac.apn apr
  split
  · exact (h.rem.take _).rf g
  · exact h.rem.rf g
theorem apn_len (θ : Int → Int) (s : List Int) : (apn θ s).length ≤ s.length := Nat.le_trans (apr_len _) (fac_len θ s).1
theorem prn_len (θ : Int → Int) (s : List Int) : (prn θ s).length ≤ s.length := by
  unfold prn
  rw [len_rf]
  have := apn_len θ (rf θ s)
  rwa [len_rf] at this
theorem GoodS.prn {p s : List Int} (g : GoodP p) (h : GoodS p s) : GoodS p (prn (th p) s) := ((h.rf g).apn g).rf g
theorem v_pre {p s : List Int} (g : GoodP p) (h : GoodS p s) (hl : s.length ≤ 900) : v_prepend_of p s = prn (th p) s := by
  unfold v_prepend_of Fac.prn
  rw [v_rf h, v_app g (h.rf g) (by rw [len_rf]; exact hl), v_rf ((h.rf g).apn g)]
theorem d_pre {p s : List Int} (g : GoodP p) (h : GoodS p s) (hl : s.length ≤ 900) : d_prepend_of p s := by
  unfold d_prepend_of
  rw [v_rf h, v_app g (h.rf g) (by rw [len_rf]; exact hl)]
  exact ⟨d_rf h, d_app g (h.rf g) (by rw [len_rf]; exact hl), d_rf ((h.rf g).apn g), trivial⟩
theorem v_apd {p s : List Int} (g : GoodP p) (h : GoodS p s) (hl : s.length ≤ 16) : v_appended p s = apn (th p) s := by
  unfold v_appended; exact v_app g h (by omega)
theorem d_apd {p s : List Int} (g : GoodP p) (h : GoodS p s) (hl : s.length ≤ 16) : d_appended p s := by
  unfold d_appended; exact ⟨dCheckS g h hl, d_app g h (by omega), trivial⟩
theorem v_prd {p s : List Int} (g : GoodP p) (h : GoodS p s) (hl : s.length ≤ 16) : v_prepended p s = prn (th p) s := by
  unfold v_prepended; exact v_pre g h (by omega)
theorem d_prd {p s : List Int} (g : GoodP p) (h : GoodS p s) (hl : s.length ≤ 16) : d_prepended p s := by
  unfold d_prepended; exact ⟨dCheckS g h hl, d_pre g h (by omega), trivial⟩
/-! ### starts -/
/-- where the factors begin and end -/
def offs : Nat → List (List Int) → List Nat
  | a, [] => [a]
  | a, f :: r => a :: offs (a + f.length) r
theorem offs_ne (a : Nat) (fs : List (List Int)) : offs a fs ≠ [] := by cases fs <;> simp [offs]
def offsI (a : Nat) (fs : List (List Int)) : List Int := (offs a fs).map fun (k : Nat) => (k : Int)
theorem gt_last {α : Type} [Inhabited α] (l : List α) (x : α) : gt (l ++ [x]) (-1) = x := by
  unfold gt
  rw [if_neg (by decide)]
  have : ((-1 : Int) + ((l ++ [x]).length : Int)).toNat = l.length := by rw [List.length_append, List.length_singleton]; omega
  rw [this, List.getElem?_append_right (Nat.le_refl _)]
  simp
theorem fold_starts : ∀ (fs : List (List Int)) (pre : List Int) (a : Nat), (lens fs).foldl v_starts_of_L_ (pre ++ [(a : Int)]) = pre ++ offsI a fs
  | [], pre, a => rfl
  | f :: r, pre, a => by
    show (lens r).foldl v_starts_of_L_ (v_starts_of_L_ (pre ++ [(a : Int)]) (f.length : Int)) = _
    have e : v_starts_of_L_ (pre ++ [(a : Int)]) (f.length : Int) = (pre ++ [(a : Int)]) ++ [((a + f.length : Nat) : Int)] := by
      unfold v_starts_of_L_
      dsimp only
      rw [gt_last]
      congr 1
    rw [e, fold_starts r]
    simp [offsI, offs]
theorem v_st {p s : List Int} (g : GoodP p) (h : GoodS p s) (hl : s.length ≤ 900) : v_starts_of p s = offsI 0 (fac (th p) s).1 := by
  unfold v_starts_of
  rw [v_splitOf g h hl]
  exact fold_starts _ [] 0
theorem d_st {p s : List Int} (g : GoodP p) (h : GoodS p s) (hl : s.length ≤ 900) : d_starts_of p s := by
  unfold d_starts_of
  rw [v_splitOf g h hl]
  refine ⟨d_splitOf g h hl, ?_, trivial⟩
  have hz := (fac_len (th p) s).2
  generalize (fac (th p) s).1 = fs at hz
  refine FoldD.of_inv (fun xs st => 0 < st.length ∧ st.length + xs.length ≤ 2000) ⟨by simp, by simp [lens]; omega⟩ fun x r st I => ?_
  obtain ⟨i1, i2⟩ := I
  rw [List.length_cons] at i2
  constructor
  · unfold d_starts_of_L_
    exact ⟨⟨by omega, by omega⟩, by omega, trivial⟩
  · unfold v_starts_of_L_
    dsimp only
    rw [List.length_append, List.length_singleton]
    exact ⟨by omega, by omega⟩
theorem offs_head (a : Nat) (fs : List (List Int)) : ∃ r, offs a fs = a :: r := by cases fs <;> exact ⟨_, rfl⟩
theorem zip_offs : ∀ (fs : List (List Int)) (u pre : List Int) (a : Nat), a = pre.length → ((List.zip (offs a fs) (offs a fs).tail).map fun q => ((pre ++ (fs.flatten ++ u)).drop q.1).take (q.2 - q.1)) = fs
  | [], u, pre, a, h => rfl
  | f :: r, u, pre, a, h => by
    obtain ⟨t, e⟩ := offs_head (a + f.length) r
    have e0 : offs a (f :: r) = a :: (a + f.length) :: t := by rw [offs, e]
    rw [e0]
    have ih := zip_offs r u (pre ++ f) (a + f.length) (by rw [List.length_append]; omega)
    rw [e] at ih
    show ((a, a + f.length) :: List.zip ((a + f.length) :: t) t).map _ = _
    rw [List.map_cons]
    congr 1
    · show ((pre ++ ((f :: r).flatten ++ u)).drop a).take (a + f.length - a) = f
      rw [List.flatten_cons, List.append_assoc, List.drop_left' h.symm, List.take_left' (by omega)]
    · rw [show pre ++ ((f :: r).flatten ++ u) = (pre ++ f) ++ (r.flatten ++ u) from by simp]
      exact ih
theorem offs_last : ∀ (fs : List (List Int)) (a : Nat), ∃ l, offs a fs = l ++ [a + fs.flatten.length]
  | [], a => ⟨[], by simp [offs]⟩
  | f :: r, a => by
    obtain ⟨l, e⟩ := offs_last r (a + f.length)
    exact ⟨a :: l, by rw [offs, e, List.flatten_cons, List.length_append, Nat.add_assoc]; rfl⟩
theorem cut_one {α : Type} (l : List α) : cut l (some 1) none = l.tail := by rw [cut_drop _ (by decide)]; exact List.drop_one
theorem v_splt {p s : List Int} (g : GoodP p) (h : GoodS p s) (hl : s.length ≤ 16) : v_split p s = fac (th p) s := by
  unfold v_split
  rw [v_st g h (by omega)]
  have ej := fac_join (θ := th p) s
  generalize hf : fac (th p) s = w at ej ⊢
  obtain ⟨fs, u⟩ := w
  dsimp only at ej ⊢
  rw [cut_one]
  have hz : List.zip (offsI 0 fs) (offsI 0 fs).tail = (List.zip (offs 0 fs) (offs 0 fs).tail).map fun q => ((q.1 : Int), (q.2 : Int)) := by
    unfold offsI
    rw [← List.map_tail, List.zip_map]
    rfl
  rw [hz, List.map_map]
  obtain ⟨l, e⟩ := offs_last fs 0
  have hlast : gt (offsI 0 fs) (-1) = (fs.flatten.length : Int) := by
    unfold offsI
    rw [e, List.map_append]
    show gt (_ ++ [((0 + fs.flatten.length : Nat) : Int)]) (-1) = _
    rw [gt_last]; omega
  rw [hlast, cut_drop _ (by omega)]
  congr 1
  · have := zip_offs fs u [] 0 rfl
    rw [List.nil_append, ej] at this
    conv => rhs; rw [← this]
    refine List.map_congr_left fun q _ => ?_
    show cut s (some (q.1 : Int)) (some (q.2 : Int)) = _
    rw [cut_mid _ (by omega) (by omega)]; rfl
  · refine drop_eq ej.symm ?_
    omega
theorem d_splt {p s : List Int} (g : GoodP p) (h : GoodS p s) (hl : s.length ≤ 16) : d_split p s := by
  unfold d_split
  rw [v_st g h (by omega)]
  obtain ⟨r, e⟩ := offs_head 0 (fac (th p) s).1
  refine ⟨dCheckS g h hl, d_st g h (by omega), ?_, trivial⟩
  unfold offsI
  rw [e]
  exact ⟨by simp; omega, by simp; omega⟩
/-! ### the laws' own split -/
theorem filter_head {α : Type} (c : α → Bool) : ∀ l : List α, (l.filter c).head? = l.find? c
  | [] => rfl
  | x :: r => by
    rw [List.filter_cons, List.find?_cons]
    cases c x <;> simp [filter_head c r]
theorem l_sizes {p u : List Int} (g : GoodP p) (h : GoodS p u) : ((rngC' 2 ((u.length : Int) + 1) 2).filter fun many => v_l_is_gathering p (cut u none (some many))).head? = if 0 < sh (th p) u then some (sh (th p) u : Int) else none := by
  have e := rng_evens (s := 0) (n := u.length) (Nat.zero_le _)
  rw [show (((0 : Nat) : Int) + 2) = 2 from rfl] at e
  rw [e, filter_head, find_map]
  have e2 : (evens (u.length - 0)).find? (fun (a : Nat) => v_l_is_gathering p (cut u none (some (((0 : Nat) : Int) + (a : Int))))) = (evens u.length).find? (fun k => decide (G (th p) (u.take k))) := v_sh.find_congr fun a _ => by
    rw [v_gath2 g (h.cut _ _), cut_take _ (by omega)]
    congr 3
    omega
  rw [e2]
  unfold sh
  cases ef : (evens u.length).find? (fun k => decide (G (th p) (u.take k))) with
  | none => simp
  | some k =>
    have := (mem_evens.mp (List.mem_of_find?_eq_some ef)).1
    simp [this]
theorem l_turn {p u : List Int} (g : GoodP p) (h : GoodS p u) (fs : List (List Int)) (t : Int) : v_l_split_L_ p (fs, u) t = if 0 < sh (th p) u then (fs ++ [u.take (sh (th p) u)], u.drop (sh (th p) u)) else (fs, u) := by
  have e := l_sizes g h
  unfold v_l_split_L_
  dsimp only
  rw [List.map_id']
  generalize ((rngC' 2 ((u.length : Int) + 1) 2).filter fun many => v_l_is_gathering p (cut u none (some many))) = l at e
  cases l with
  | nil =>
    by_cases c : 0 < sh (th p) u
    · rw [if_pos c] at e; cases e
    · rw [if_neg c]; rfl
  | cons x r =>
    by_cases c : 0 < sh (th p) u
    · rw [if_pos c] at e
      rw [if_pos c]
      have e : x = (sh (th p) u : Int) := Option.some.inj e
      have eg : gt (x :: r) 0 = (sh (th p) u : Int) := by rw [gt_nn (by decide) (by simp)]; exact e
      simp only [List.isEmpty_cons, Bool.not_false, if_true, eg]
      rw [cut_take _ (by omega), cut_drop _ (by omega)]; rfl
    · rw [if_neg c] at e; cases e
theorem l_fold {p : List Int} (g : GoodP p) : ∀ (xs : List Int) (fs : List (List Int)) (u : List Int), GoodS p u → (fac (th p) u).1.length ≤ xs.length → xs.foldl (v_l_split_L_ p) (fs, u) = (fs ++ (fac (th p) u).1, (fac (th p) u).2)
  | [], fs, u, h, hn => by
    have : (fac (th p) u).1 = [] := List.eq_nil_of_length_eq_zero (by simpa using hn)
    have e := fac_join (θ := th p) u
    rw [this] at e ⊢
    rw [List.append_nil]
    show (fs, u) = (fs, _)
    rw [show (fac (th p) u).2 = u from e]
  | x :: r, fs, u, h, hn => by
    rw [List.foldl_cons, l_turn g h]
    by_cases c : 0 < sh (th p) u
    · rw [if_pos c]
      have e := fac_pos c
      rw [e] at hn ⊢
      rw [l_fold g r _ _ (h.drop _) (by simpa using hn)]
      simp
    · rw [if_neg c]
      have e := fac_zero (by omega : sh (th p) u = 0)
      exact l_fold g r fs u h (by rw [e]; simp)
theorem v_lsp {p s : List Int} (g : GoodP p) (h : GoodS p s) : v_l_split p s = fac (th p) s := by
  unfold v_l_split
  dsimp only
  have := fac_len (th p) s
  rw [l_fold g _ _ _ h (by rw [len_rng]; omega)]
  rfl
theorem d_lsp {p s : List Int} (g : GoodP p) (h : GoodS p s) (hl : s.length ≤ 900) : d_l_split p s := by
  unfold d_l_split
  dsimp only
  refine ⟨rngOk (by omega) (by omega) (by omega) (by omega), FoldD.of_inv (fun xs st => GoodS p st.2 ∧ st.2.length ≤ 900 ∧ st.1.length + xs.length ≤ 2000) ⟨h, hl, by simp; omega⟩ fun x r st I => ?_, trivial⟩
  obtain ⟨fs, u⟩ := st
  obtain ⟨i1, i2, i3⟩ := I
  rw [List.length_cons] at i3
  dsimp only at i1 i2 i3
  constructor
  · unfold d_l_split_L_
    dsimp only
    refine ⟨rngOk (by omega) (by omega) (by omega) (by omega), fun m _ => ⟨d_gath2 (i1.cut _ _), trivial⟩, ⟨fun hz => ?_, fun _ => trivial⟩, trivial⟩
    have : 0 < (((rngC' 2 ((u.length : Int) + 1) 2).filter fun many => v_l_is_gathering p (cut u none (some many))).map fun many => many).length := by
      rw [List.length_pos_iff]
      intro z
      rw [z] at hz; cases hz
    exact ⟨inR (by decide) (by omega), bigOk (by omega) (by simp), inR (by decide) (by omega), trivial⟩
  · rw [l_turn g i1]
    split
    · exact ⟨i1.drop _, by rw [List.length_drop]; omega, by rw [List.length_append, List.length_singleton]; omega⟩
    · exact ⟨i1, i2, by dsimp only; omega⟩
end Qm

/-! F5: all collations: plain mathematics. -/
namespace Fac
section
variable {θ : Int → Int}
def colsN (θ : Int → Int) : Nat → List Int → List (List Int)
  | 0, _ => [[]]
  | n + 1, s => if s = [] then [[]] else ((List.range (s.length / 2)).map fun i => if G θ (s.take (2 * (i + 1))) then (colsN θ n (s.drop (2 * (i + 1)))).map (((i + 1 : Nat) : Int) :: ·) else []).flatten
/-- all collations, by the sheets of their gatherings -/
def cols (θ : Int → Int) (s : List Int) : List (List Int) := colsN θ s.length s
theorem colsN_eq : ∀ (n m : Nat) (s : List Int), s.length ≤ n → s.length ≤ m → colsN θ n s = colsN θ m s
  | 0, 0, s, _, _ => rfl
  | 0, m + 1, s, h, _ => by
    have : s = [] := List.eq_nil_of_length_eq_zero (by omega)
    subst this
    rw [colsN, colsN, if_pos rfl]
  | n + 1, 0, s, _, h => by
    have : s = [] := List.eq_nil_of_length_eq_zero (by omega)
    subst this
    rw [colsN, colsN, if_pos rfl]
  | n + 1, m + 1, s, h1, h2 => by
    rw [colsN, colsN]
    by_cases z : s = []
    · rw [if_pos z, if_pos z]
    · rw [if_neg z, if_neg z]
      congr 1
      refine List.map_congr_left fun i hi => ?_
      have := List.mem_range.mp hi
      rw [colsN_eq n m _ (by rw [List.length_drop]; omega) (by rw [List.length_drop]; omega)]
theorem cols_nil : cols θ [] = [[]] := rfl
def turn (θ : Int → Int) (s : List Int) (i : Nat) : List (List Int) := if G θ (s.take (2 * (i + 1))) then (cols θ (s.drop (2 * (i + 1)))).map (((i + 1 : Nat) : Int) :: ·) else []
theorem cols_ne {s : List Int} (h : s ≠ []) : cols θ s = ((List.range (s.length / 2)).map (turn θ s)).flatten := by
  have hl := List.length_pos_iff.mpr h
  unfold cols
  rw [show s.length = (s.length - 1) + 1 from by omega, colsN, if_neg h]
  rw [show s.length - 1 + 1 = s.length from by omega]
  congr 1
  refine List.map_congr_left fun i hi => ?_
  have := List.mem_range.mp hi
  unfold turn cols
  rw [colsN_eq (s.length - 1) _ _ (by rw [List.length_drop]; omega) (Nat.le_refl _)]
/-- a collation -/
def Col (θ : Int → Int) : List Int → List Int → Prop
  | [], s => s = []
  | k :: c, s => 0 < k ∧ G θ (s.take (2 * k.toNat)) ∧ 2 * k.toNat ≤ s.length ∧ Col θ c (s.drop (2 * k.toNat))
theorem mem_cols : ∀ (n : Nat) (s c : List Int), s.length ≤ n → (c ∈ cols θ s ↔ Col θ c s)
  | n, s, c, hn => by
    by_cases z : s = []
    · subst z
      rw [cols_nil, List.mem_singleton]
      cases c with
      | nil => exact ⟨fun _ => rfl, fun _ => rfl⟩
      | cons k c =>
        refine ⟨fun h => by simp at h, fun h => ?_⟩
        have := h.2.1.pos
        simp at this
    · have hl := List.length_pos_iff.mpr z
      rw [cols_ne z, List.mem_flatten]
      constructor
      · rintro ⟨l, hm, hc⟩
        obtain ⟨i, hi, rfl⟩ := List.mem_map.mp hm
        have hi := List.mem_range.mp hi
        unfold turn at hc
        split at hc
        · rename_i g
          obtain ⟨d, hd, rfl⟩ := List.mem_map.mp hc
          match n, hn with
          | 0, hn => exact absurd hl (by omega)
          | n + 1, hn =>
            have := (mem_cols n _ d (by rw [List.length_drop]; omega)).mp hd
            refine ⟨by omega, ?_, ?_, ?_⟩ <;> rw [Int.toNat_natCast]
            · exact g
            · omega
            · exact this
        · simp at hc
      · intro h
        cases c with
        | nil => exact (z h).elim
        | cons k c =>
          obtain ⟨h1, h2, h3, h4⟩ := h
          have gp := h2.ge2
          refine ⟨turn θ s (k.toNat - 1), List.mem_map.mpr ⟨_, List.mem_range.mpr (by omega), rfl⟩, ?_⟩
          unfold turn
          rw [show k.toNat - 1 + 1 = k.toNat from by omega, if_pos h2]
          match n, hn with
          | 0, hn => exact absurd hl (by omega)
          | n + 1, hn =>
            have := (mem_cols n _ c (by rw [List.length_drop]; omega)).mpr h4
            exact List.mem_map.mpr ⟨c, this, by rw [show ((k.toNat : Nat) : Int) = k from by omega]⟩
theorem mem_cols' {s c : List Int} : c ∈ cols θ s ↔ Col θ c s := mem_cols s.length s c (Nat.le_refl _)
theorem cols_len : ∀ (n : Nat) (s : List Int), s.length ≤ n → (cols θ s).length ≤ 2 ^ s.length
  | n, s, hn => by
    by_cases z : s = []
    · subst z; rw [cols_nil]; simp
    · have hl := List.length_pos_iff.mpr z
      rw [cols_ne z]
      have key : ∀ m, m ≤ s.length / 2 → ((List.range m).map (turn θ s)).flatten.length + 2 ^ (s.length - 2 * m) ≤ 2 ^ s.length := fun m => by
        induction m with
        | zero => intro _; simp
        | succ m ih =>
          intro hm
          have ih := ih (by omega)
          rw [List.range_succ, List.map_append, List.flatten_append, List.length_append]
          have ht : ((List.map (turn θ s) [m]).flatten).length ≤ 2 ^ (s.length - 2 * (m + 1)) := by
            simp only [List.map_cons, List.map_nil, List.flatten_cons, List.flatten_nil, List.append_nil]
            unfold turn
            split
            · rw [List.length_map]
              match n, hn with
              | 0, hn => exact absurd hl (by omega)
              | n + 1, hn =>
                have := cols_len n (s.drop (2 * (m + 1))) (by rw [List.length_drop]; omega)
                rw [List.length_drop] at this
                exact this
            · simp
          have e : 2 ^ (s.length - 2 * m) = 4 * 2 ^ (s.length - 2 * (m + 1)) := by
            rw [show s.length - 2 * m = (s.length - 2 * (m + 1)) + 2 from by omega, Nat.pow_add]; omega
          omega
      exact Nat.le_trans (Nat.le_add_right _ _) (key (s.length / 2) (Nat.le_refl _))
theorem cols_len' (s : List Int) : (cols θ s).length ≤ 2 ^ s.length := cols_len s.length s (Nat.le_refl _)
theorem cols_len16 {s : List Int} (h : s.length ≤ 16) : (cols θ s).length ≤ 65536 := Nat.le_trans (cols_len' s) (Nat.pow_le_pow_right (n := 2) (by decide) h)
theorem col_len {c : List Int} : ∀ {s : List Int}, Col θ c s → 2 * c.length ≤ s.length := by
  induction c with
  | nil => intro s h; simp
  | cons k c ih =>
    intro s h
    obtain ⟨h1, _, h3, r⟩ := h
    have := ih r
    rw [List.length_drop] at this
    rw [List.length_cons]; omega
theorem cols_mem_len {c s : List Int} (h : c ∈ cols θ s) : 2 * c.length ≤ s.length := col_len (mem_cols'.mp h)
theorem col_co {c : List Int} : ∀ {s : List Int}, Col θ c s → Co θ s := by
  induction c with
  | nil => intro s h; have h : s = [] := h; rw [h]; exact .nil
  | cons k c ih =>
    intro s h
    obtain ⟨_, g, _, r⟩ := h
    have := Co.app g (ih r)
    rwa [List.take_append_drop] at this
theorem co_col {s : List Int} (h : Co θ s) : ∃ c, Col θ c s := by
  induction h with
  | nil => exact ⟨[], rfl⟩
  | app g h ih =>
    rename_i a b
    obtain ⟨c, hc⟩ := ih
    have g1 := g.2.1
    have g2 := g.pos
    have e : 2 * ((a.length / 2 : Nat) : Int).toNat = a.length := by omega
    refine ⟨((a.length / 2 : Nat) : Int) :: c, by omega, ?_, ?_, ?_⟩ <;> rw [e]
    · rw [List.take_left]; exact g
    · simp
    · rw [List.drop_left]; exact hc
theorem cols_co {s : List Int} : cols θ s ≠ [] ↔ Co θ s := by
  constructor
  · intro h
    cases e : cols θ s with
    | nil => exact (h e).elim
    | cons c r => exact col_co (mem_cols'.mp (by rw [e]; exact List.mem_cons_self))
  · intro h e
    obtain ⟨c, hc⟩ := co_col h
    have := mem_cols'.mpr hc
    rw [e] at this
    simp at this
theorem nodup_turns {s : List Int} (hr : ∀ i, (cols θ (s.drop (2 * (i + 1)))).Nodup) : ∀ l : List Nat, l.Nodup → ((l.map (turn θ s)).flatten).Nodup
  | [], _ => by simp
  | i :: l, h => by
    rw [List.nodup_cons] at h
    rw [List.map_cons, List.flatten_cons, List.nodup_append]
    refine ⟨?_, nodup_turns hr l h.2, ?_⟩
    · unfold turn
      split
      · exact List.Pairwise.map _ (fun a b hab e => hab (List.cons.inj e).2) (hr i)
      · simp
    · intro a ha b hb e
      subst e
      obtain ⟨t, ht, hat⟩ := List.mem_flatten.mp hb
      obtain ⟨j, hj, rfl⟩ := List.mem_map.mp ht
      unfold turn at ha hat
      split at ha
      · split at hat
        · obtain ⟨x, _, rfl⟩ := List.mem_map.mp ha
          obtain ⟨y, _, e⟩ := List.mem_map.mp hat
          have := (List.cons.inj e).1
          have : j = i := by omega
          subst this
          exact h.1 hj
        · simp at hat
      · simp at ha
theorem cols_nodup : ∀ (n : Nat) (s : List Int), s.length ≤ n → (cols θ s).Nodup
  | n, s, hn => by
    by_cases z : s = []
    · subst z; rw [cols_nil]; simp
    · have hl := List.length_pos_iff.mpr z
      rw [cols_ne z]
      refine nodup_turns (fun i => ?_) _ List.nodup_range
      match n, hn with
      | 0, hn => exact absurd hl (by omega)
      | n + 1, hn => exact cols_nodup n _ (by rw [List.length_drop]; omega)
theorem cols_nodup' (s : List Int) : (cols θ s).Nodup := cols_nodup s.length s (Nat.le_refl _)
/-- two ascending lists of the same numbers -/
theorem asc_ext : ∀ {a b : List Nat}, a.Pairwise (· < ·) → b.Pairwise (· < ·) → (∀ x, x ∈ a ↔ x ∈ b) → a = b
  | [], [], _, _, _ => rfl
  | [], y :: b, _, _, h => by have := (h y).mpr List.mem_cons_self; simp at this
  | x :: a, [], _, _, h => by have := (h x).mp List.mem_cons_self; simp at this
  | x :: a, y :: b, ha, hb, h => by
    rw [List.pairwise_cons] at ha hb
    have hxy : x = y := by
      have h1 := (h x).mp List.mem_cons_self
      have h2 := (h y).mpr List.mem_cons_self
      rcases List.mem_cons.mp h1 with e | e
      · exact e
      · rcases List.mem_cons.mp h2 with e2 | e2
        · exact e2.symm
        · have := hb.1 x e; have := ha.1 y e2; omega
    subst hxy
    rw [asc_ext ha.2 hb.2 fun z => ?_]
    constructor
    · intro hz
      have := ha.1 z hz
      rcases List.mem_cons.mp ((h z).mp (List.mem_cons_of_mem _ hz)) with e | e
      · omega
      · exact e
    · intro hz
      have := hb.1 z hz
      rcases List.mem_cons.mp ((h z).mpr (List.mem_cons_of_mem _ hz)) with e | e
      · omega
      · exact e
theorem flat_filter {β : Type} {f : Nat → List β} {p : Nat → Bool} (hf : ∀ x, p x = false → f x = []) : ∀ l : List Nat, (l.map f).flatten = ((l.filter p).map f).flatten
  | [] => rfl
  | x :: l => by
    rw [List.map_cons, List.flatten_cons, List.filter_cons]
    cases e : p x with
    | true => rw [if_pos rfl, List.map_cons, List.flatten_cons, flat_filter hf l]
    | false => rw [if_neg (by decide), hf x e, List.nil_append, flat_filter hf l]
/-- what an end contributes -/
def seg (θ : Int → Int) (s : List Int) (a e : Nat) : List (List Int) := if a < e ∧ e ≤ s.length ∧ G θ ((s.drop a).take (e - a)) then (cols θ (s.drop e)).map ((((e - a) / 2 : Nat) : Int) :: ·) else []
theorem seg_turn {s : List Int} {a : Nat} (i : Nat) (hi : i < (s.length - a) / 2) : seg θ s a (a + 2 * (i + 1)) = turn θ (s.drop a) i := by
  unfold seg turn
  rw [show a + 2 * (i + 1) - a = 2 * (i + 1) from by omega, List.drop_drop, show 2 * (i + 1) / 2 = i + 1 from by omega]
  by_cases g : G θ ((s.drop a).take (2 * (i + 1)))
  · rw [if_pos ⟨by omega, by omega, g⟩, if_pos g]
  · rw [if_neg (fun h => g h.2.2), if_neg g]
theorem cols_seg {s : List Int} {a : Nat} (ha : a < s.length) {l : List Nat} (hl : l.Pairwise (· < ·)) (hm : ∀ e, a < e → e ≤ s.length → G θ ((s.drop a).take (e - a)) → e ∈ l) : (l.map (seg θ s a)).flatten = cols θ (s.drop a) := by
  have hne : s.drop a ≠ [] := fun e => by have := congrArg List.length e; rw [List.length_drop, List.length_nil] at this; omega
  have p0 : ∀ x, (decide (a < x ∧ x ≤ s.length ∧ G θ ((s.drop a).take (x - a)))) = false → seg θ s a x = [] := fun x hx => by
    unfold seg
    rw [if_neg (of_decide_eq_false hx)]
  rw [cols_ne hne, List.length_drop]
  have e1 : ((List.range ((s.length - a) / 2)).map (turn θ (s.drop a))).flatten = (((List.range ((s.length - a) / 2)).map fun i => a + 2 * (i + 1)).map (seg θ s a)).flatten := by
    rw [List.map_map]
    congr 1
    exact List.map_congr_left fun i hi => (seg_turn i (List.mem_range.mp hi)).symm
  rw [e1, flat_filter p0 l, flat_filter p0 (List.map _ _)]
  congr 2
  refine asc_ext (hl.filter _) (List.Pairwise.filter _ (List.Pairwise.map _ (fun x y h => by omega) List.pairwise_lt_range)) fun x => ?_
  rw [List.mem_filter, List.mem_filter]
  constructor
  · rintro ⟨h1, h2⟩
    refine ⟨?_, h2⟩
    obtain ⟨h3, h4, h5⟩ := of_decide_eq_true h2
    have := h5.2.1
    have h6 := h5.ge2
    rw [List.length_take, List.length_drop] at this h6
    exact List.mem_map.mpr ⟨(x - a) / 2 - 1, List.mem_range.mpr (by omega), by omega⟩
  · rintro ⟨h1, h2⟩
    obtain ⟨h3, h4, h5⟩ := of_decide_eq_true h2
    exact ⟨hm x h3 h4 h5, h2⟩
end
end Fac

/-! HCol: all collations, by hand. -/
namespace Qm
open Fac
def d_l_all_collations (p s : List Int) : Prop := GoodP p ∧ GoodS p s ∧ s.length ≤ 16
@[irreducible] def v_l_all_collations (p s : List Int) : List (List Int) := cols (th p) s
/-- the tails told behind some openings -/
def tl (p s : List Int) (K : List Int) : List (Int × List (List Int)) := K.map fun k => (k, cols (th p) (s.drop k.toNat))
theorem cut2 {s : List Int} {a b : Int} (h0 : 0 ≤ a) (h1 : 0 ≤ b) : cut s (some a) (some b) = (s.drop a.toNat).take (b.toNat - a.toNat) := cut_mid s h0 h1
theorem down_cons (m : Nat) : (List.range (m + 1)).map (fun (k : Nat) => ((m + 1 : Nat) : Int) - 1 - (k : Int)) = (m : Int) :: (List.range m).map (fun (k : Nat) => (m : Int) - 1 - (k : Int)) := by
  rw [List.range_succ_eq_map, List.map_cons, List.map_map]
  congr 1
  · omega
  · refine List.map_congr_left fun k _ => ?_
    simp only [Function.comp]
    omega
def lstep (p s : List Int) (x : Int) (st : List (List Int)) (k : Int) : List (List Int) :=
  st ++ (if G (th p) ((s.drop x.toNat).take (2 * k.toNat)) then (cols (th p) (s.drop (x.toNat + 2 * k.toNat))).map (k :: ·) else [])
theorem lstep_fold (p s : List Int) (x : Int) (n : Nat) : ∀ (xs : List Int) (st : List (List Int)), xs.foldl (lstep p s x) st = st ++ (xs.map fun k => (if G (th p) ((s.drop x.toNat).take (2 * k.toNat)) then (cols (th p) (s.drop (x.toNat + 2 * k.toNat))).map (k :: ·) else [])).flatten
  | [], st => by simp
  | k :: r, st => by rw [List.foldl_cons, lstep_fold p s x n r]; unfold lstep; simp
theorem lstep_all {p s : List Int} {x : Int} (h0 : 0 ≤ x) (h1 : x < s.length) : (rng 1 (((s.length : Int) - x) / 2 + 1)).foldl (lstep p s x) [] = cols (th p) (s.drop x.toNat) := by
  have hne : s.drop x.toNat ≠ [] := fun e => by have := congrArg List.length e; rw [List.length_drop, List.length_nil] at this; omega
  rw [lstep_fold p s x 0, cols_ne hne, List.nil_append, List.length_drop]
  unfold rng
  rw [List.map_map]
  congr 1
  rw [show ((((s.length : Int) - x) / 2 + 1 - 1).toNat) = (s.length - x.toNat) / 2 from by omega]
  refine List.map_congr_left fun i _ => ?_
  unfold turn
  simp only [Function.comp]
  rw [show (1 + (i : Int)).toNat = i + 1 from by omega, List.drop_drop, show (1 + (i : Int)) = ((i + 1 : Nat) : Int) from by omega]
theorem o_l_all_collations {P : Prog} [HasF P 289 fd289] [HasF P 293 fd293] [HasF P 379 fd379] (n : Nat) (h : MHp) (p : List Int) (s : List Int) (D : d_l_all_collations p s) : callN P (n + 3) 379 [(eT eI) p, (eT eI) s] h = .ok ((eL (eT eI)) (v_l_all_collations p s)) h := by
  obtain ⟨g, gs, hs⟩ := D
  refine call_p (fd := fd379) (e := (eL (eT eI))) (V := v_l_all_collations p s) [some ((eT eI) p), some ((eT eI) s), none, none, none, none, none, none] rfl rfl (nors_c (e := (eT eI)) (nors_c (e := (eT eI)) rfl)) rfl ?_
  have z0 : cols (th p) (s.drop ((s.length : Int)).toNat) = [[]] := by
    rw [Int.toNat_natCast, List.drop_of_length_le (Nat.le_refl _)]; rfl
  have t0 : tl p s [(s.length : Int)] = [((s.length : Int), [[]])] := by unfold tl; rw [List.map_cons, z0]; rfl
  refine xs_asg [some ((eT eI) p), some ((eT eI) s), some (.ref 0), none, none, none, none, none] (ev_dc1m (e := eI) (f := eL (eT eI)) (a := (s.length : Int)) (b := [[]]) (t := false) (ev_bif (evs_cons (ev_var rfl) evs_nil) (b_lenT (e := eI) (l := s))) (ev_lst (evs_cons (ev_tup evs_nil) evs_nil))) rfl ?_
  rw [← t0]
  refine xs_for (e := eI) (xs := rngD ((s.length : Int) - 1) (-1)) (fun (K : List Int) (J : Jk) => [some ((eT eI) p), some ((eT eI) s), some (.ref 0), J 3, J 4, J 5, J 6, J 7]) (fun (K : List Int) => [cD false eI (eL (eT eI)) (tl p s K)])
    (fun K x => K ++ [x]) (fun K x => x ∉ K ∧ 0 ≤ x ∧ x < s.length ∧ K.length ≤ 20 ∧ ∀ e, x < e → e ≤ s.length → e ∈ K) [(s.length : Int)] (fun n => ([some ((eT eI) p), some ((eT eI) s), some (.ref 0), none, none, none, none, none] : Env).getD n none)
    (evI_rng (evs_cons (ev_bin (ev_bif (evs_cons (ev_var rfl) evs_nil) (b_lenT (e := eI) (l := s))) ev_cst o_sub) (evs_cons (ev_neg ev_cst) (evs_cons (ev_neg ev_cst) evs_nil))) (range3d (rngOk (by omega) (by omega) (by omega) (by omega)))) rfl rfl (fun _ => rfl) ?_ ?_ ?_
  · have e0 : rngD ((s.length : Int) - 1) (-1) = (List.range s.length).map fun (k : Nat) => (s.length : Int) - 1 - (k : Int) := by
      unfold rngD
      rw [show ((s.length : Int) - 1 - (-1)).toNat = s.length from by omega]
    rw [e0]
    refine FoldD.of_inv (fun xs K => ∃ m : Nat, m ≤ s.length ∧ xs = (List.range m).map (fun (k : Nat) => (m : Int) - 1 - (k : Int)) ∧ (∀ e : Int, e ∈ K ↔ (m : Int) ≤ e ∧ e ≤ s.length) ∧ K.length + m = s.length + 1) ⟨s.length, Nat.le_refl _, rfl, fun e => by rw [List.mem_singleton]; omega, by simp; omega⟩ fun x r K I => ?_
    obtain ⟨m, m1, m2, m3, m4⟩ := I
    cases m with
    | zero => simp at m2
    | succ m =>
      rw [down_cons] at m2
      obtain ⟨e1, e2⟩ := List.cons.inj m2
      subst e1
      refine ⟨⟨fun q => ?_, by omega, by omega, by omega, fun e q1 q2 => (m3 e).mpr (by omega)⟩, m, by omega, e2, fun e => ?_, by rw [List.length_append, List.length_singleton]; omega⟩
      · have := (m3 _).mp q; omega
      · rw [List.mem_append, List.mem_singleton, m3]; omega
  · intro K J x D
    obtain ⟨x1, x2, x3, x4, x5⟩ := D
    refine ⟨[some ((eT eI) p), some ((eT eI) s), some (.ref 0), some (eI x), J 4, J 5, J 6, J 7], rfl, ?_⟩
    refine xs_asg [some ((eT eI) p), some ((eT eI) s), some (.ref 0), some (eI x), some ((eL (eT eI)) []), J 5, J 6, J 7] (ev_lst evs_nil) rfl ?_
    refine xs_for (e := eI) (xs := rng 1 (((s.length : Int) - x) / 2 + 1)) (fun (st : List (List Int)) (J : Jk) => [some ((eT eI) p), some ((eT eI) s), some (.ref 0), some (eI x), some ((eL (eT eI)) st), J 5, J 6, J 7]) (fun (st : List (List Int)) => [cD false eI (eL (eT eI)) (tl p s K)])
      (lstep p s x) (fun st k => 1 ≤ k ∧ 2 * k ≤ (s.length : Int) - x ∧ st.length ≤ 600000) [] (fun n => ([some ((eT eI) p), some ((eT eI) s), some (.ref 0), some (eI x), some ((eL (eT eI)) []), J 5, J 6, J 7] : Env).getD n none)
      (evI_rng (evs_cons ev_cst (evs_cons (ev_bin (ev_bin (ev_bin (ev_bif (evs_cons (ev_var rfl) evs_nil) (b_lenT (e := eI) (l := s))) (ev_var rfl) o_sub) ev_cst (o_fdv (by decide))) ev_cst o_add) evs_nil)) (range2 (rngOk (by omega) (by omega) (by omega) (by omega)))) rfl rfl (fun _ => rfl) ?_ ?_ ?_
    · refine FoldD.of_inv (fun xs st => (∀ k ∈ xs, 1 ≤ k ∧ 2 * k ≤ (s.length : Int) - x) ∧ st.length + 65536 * xs.length ≤ 600000) ⟨fun k hk => by have := mem_rng.mp hk; omega, by rw [len_rng]; simp; omega⟩ fun k r st I => ?_
      obtain ⟨i1, i2⟩ := I
      rw [List.length_cons] at i2
      obtain ⟨k1, k2⟩ := i1 k List.mem_cons_self
      refine ⟨⟨k1, k2, by omega⟩, fun y hy => i1 y (List.mem_cons_of_mem _ hy), ?_⟩
      unfold lstep
      rw [List.length_append]
      have : (if G (th p) ((s.drop x.toNat).take (2 * k.toNat)) then (cols (th p) (s.drop (x.toNat + 2 * k.toNat))).map (k :: ·) else []).length ≤ 65536 := by
        split
        · rw [List.length_map]; exact cols_len16 (by rw [List.length_drop]; omega)
        · simp
      omega
    · intro st J k D
      obtain ⟨k1, k2, k3⟩ := D
      refine ⟨[some ((eT eI) p), some ((eT eI) s), some (.ref 0), some (eI x), some ((eL (eT eI)) st), some (eI k), J 6, J 7], rfl, ?_⟩
      refine xs_asg [some ((eT eI) p), some ((eT eI) s), some (.ref 0), some (eI x), some ((eL (eT eI)) st), some (eI k), some (eI (x + 2 * k)), J 7] (ev_bin (ev_var rfl) (ev_bin ev_cst (ev_var rfl) (o_mul (.inl ⟨by omega, by omega⟩))) o_add) rfl ?_
      have hc : cut s (some x) (some (x + 2 * k)) = (s.drop x.toNat).take (2 * k.toNat) := by
        rw [cut2 (by omega) (by omega)]
        congr 1
        omega
      have hv : v_l_is_gathering p (cut s (some x) (some (x + 2 * k))) = decide (G (th p) ((s.drop x.toNat).take (2 * k.toNat))) := by
        rw [v_gath2 g (gs.cut _ _), hc]
      refine xs_ite' (c := v_l_is_gathering p (cut s (some x) (some (x + 2 * k)))) (evB_of (ev_call (evs_cons (ev_var rfl) (evs_cons (ev_sl (ev_var rfl) (evO_some (ev_var rfl)) (evO_some (ev_var rfl)) (s_T (e := eI) (l := s))) evs_nil)) (o_l_is_gathering (n + 0) _ p (cut s (some x) (some (x + 2 * k))) (d_gath2 (gs.cut _ _))))) (fun q => ?_) (fun q => ?_)
      · rw [hv] at q
        have q := of_decide_eq_true q
        have hm : (x + 2 * k) ∈ K := x5 _ (by omega) (by omega)
        have hi : dhas (tl p s K) (x + 2 * k) = true := by unfold tl; rw [dhas_map]; exact decide_eq_true hm
        have hd : dget (tl p s K) (x + 2 * k) = cols (th p) (s.drop (x.toNat + 2 * k.toNat)) := by
          unfold tl
          rw [dget_map _ hm, show (x + 2 * k).toNat = x.toNat + 2 * k.toNat from by omega]
        have hb : (cols (th p) (s.drop (x.toNat + 2 * k.toNat))).length ≤ 65536 := cols_len16 (by rw [List.length_drop]; omega)
        have hx : index (.ref 0) (eI (x + 2 * k)) [cD false eI (eL (eT eI)) (tl p s K)] = some ((eL (eT eI)) (cols (th p) (s.drop (x.toNat + 2 * k.toNat)))) := by
          rw [i_DR (e := eI) (f := eL (eT eI)) (l := tl p s K) rfl hi, hd]
        refine xs_asg [some ((eT eI) p), some ((eT eI) s), some (.ref 0), some (eI x), some ((eL (eT eI)) (st ++ (cols (th p) (s.drop (x.toNat + 2 * k.toNat))).map (k :: ·))), some (eI k), some (eI (x + 2 * k)), J 7]
          (ev_bin (ev_var rfl) (ev_lc (e := eT eI) (g := eT eI) (xs := cols (th p) (s.drop (x.toNat + 2 * k.toNat))) (f := fun t => k :: t) (evI_seqL (ev_ix (ev_var rfl) (ev_var rfl) hx)) rfl (fun t ht => ⟨[some ((eT eI) p), some ((eT eI) s), some (.ref 0), some (eI x), some ((eL (eT eI)) st), some (eI k), some (eI (x + 2 * k)), some (eT eI t)], rfl, ev_bin (x := eT eI [k]) (y := eT eI t) (ev_tup (evs_cons (ev_var rfl) evs_nil)) (ev_var rfl) (o_addT (a := [k]) (b := t) (bigOk (by simp) (by have := cols_mem_len ht; rw [List.length_drop] at this; omega)))⟩)) (o_addL (bigOk (by omega) (by rw [List.length_map]; omega)))) rfl ?_
        refine xs_nil (nxG (fun n => ([some ((eT eI) p), some ((eT eI) s), some (.ref 0), some (eI x), none, some (eI k), some (eI (x + 2 * k)), J 7] : Env).getD n none) ?_ rfl)
        unfold lstep
        rw [if_pos q]
        rfl
      · rw [hv] at q
        have q := of_decide_eq_false q
        refine xs_nil (nxG (fun n => ([some ((eT eI) p), some ((eT eI) s), some (.ref 0), some (eI x), none, some (eI k), some (eI (x + 2 * k)), J 7] : Env).getD n none) ?_ rfl)
        unfold lstep
        rw [if_neg q, List.append_nil]
        rfl
    · intro J2
      rw [lstep_all x2 x3]
      refine xs_stx [cD false eI (eL (eT eI)) (tl p s (K ++ [x]))] (ev_var rfl) (ev_var rfl) (ev_var rfl) ?_ (xs_nil (nxG (fun n => ([some ((eT eI) p), some ((eT eI) s), some (.ref 0), some (eI x), some ((eL (eT eI)) (cols (th p) (s.drop x.toNat))), J2 5, J2 6, J2 7] : Env).getD n none) rfl rfl))
      rw [st_D (e := eI) (f := eL (eT eI)) (l := tl p s K) rfl (by unfold tl; rw [List.length_map]; omega)]
      unfold tl
      rw [dset_map x1]
      rfl
  · intro J
    have hK : ∀ (xs K : List Int), xs.foldl (fun K x => K ++ [x]) K = K ++ xs := fun xs => by
      induction xs with
      | nil => intro K; simp
      | cons x r ih => intro K; rw [List.foldl_cons, ih]; simp
    rw [hK]
    have hm : (0 : Int) ∈ [(s.length : Int)] ++ rngD ((s.length : Int) - 1) (-1) := by
      by_cases z : s.length = 0
      · rw [z]; simp
      · refine List.mem_append_right _ ?_
        unfold rngD
        exact List.mem_map.mpr ⟨s.length - 1, List.mem_range.mpr (by omega), by omega⟩
    generalize [(s.length : Int)] ++ rngD ((s.length : Int) - 1) (-1) = K at hm
    have hi : dhas (tl p s K) 0 = true := by unfold tl; rw [dhas_map]; exact decide_eq_true hm
    have hd : dget (tl p s K) 0 = v_l_all_collations p s := by
      unfold tl v_l_all_collations
      rw [dget_map _ hm]; rfl
    refine xs_ret (ev_ix (ev_var rfl) ev_cst ?_) rt_p
    rw [← hd]
    exact i_DR (e := eI) (f := eL (eT eI)) (l := tl p s K) rfl hi
end Qm

/-! F6: where factors end; gatherings that begin there end there. -/
namespace Qm
open Fac
theorem offs_app : ∀ (xs ys : List (List Int)) (a e : Nat), e ∈ offs (a + xs.flatten.length) ys → e ∈ offs a (xs ++ ys)
  | [], ys, a, e, h => by simpa using h
  | x :: xs, ys, a, e, h => by
    rw [List.cons_append, offs]
    refine List.mem_cons_of_mem _ (offs_app xs ys _ e ?_)
    rw [List.flatten_cons, List.length_append, ← Nat.add_assoc] at h
    exact h
theorem offs_mem : ∀ (fs : List (List Int)) (a e : Nat), e ∈ offs a fs → ∃ xs ys, fs = xs ++ ys ∧ e = a + xs.flatten.length
  | [], a, e, h => by
    have h : e ∈ [a] := h
    rw [List.mem_singleton] at h
    exact ⟨[], [], rfl, by simp [h]⟩
  | f :: r, a, e, h => by
    rw [offs] at h
    rcases List.mem_cons.mp h with h | h
    · exact ⟨[], f :: r, rfl, by simp [h]⟩
    · obtain ⟨xs, ys, e1, e2⟩ := offs_mem r _ e h
      exact ⟨f :: xs, ys, by rw [e1]; rfl, by rw [e2, List.flatten_cons, List.length_append]; omega⟩
theorem offs_le {fs : List (List Int)} {a e : Nat} (h : e ∈ offs a fs) : a ≤ e ∧ e ≤ a + fs.flatten.length := by
  obtain ⟨xs, ys, e1, e2⟩ := offs_mem fs a e h
  rw [e1, List.flatten_append, List.length_append]; omega
theorem offs_asc : ∀ (fs : List (List Int)) (a : Nat), (∀ f ∈ fs, 0 < f.length) → (offs a fs).Pairwise (· < ·)
  | [], a, _ => List.pairwise_singleton ..
  | f :: r, a, h => by
    rw [offs, List.pairwise_cons]
    refine ⟨fun e he => ?_, offs_asc r _ fun y hy => h y (List.mem_cons_of_mem _ hy)⟩
    have := offs_le he
    have := h f List.mem_cons_self
    omega
theorem offs_self (a : Nat) (fs : List (List Int)) : a ∈ offs a fs := by cases fs <;> exact List.mem_cons_self
/-- where the factors of a sequence end -/
def ends (θ : Int → Int) (s : List Int) : List Nat := offs 0 (fac θ s).1
section
variable {θ : Int → Int}
theorem ends_asc (s : List Int) : (ends θ s).Pairwise (· < ·) := offs_asc _ _ fun f hf => ((fac_primes s).1 f hf).1.pos
theorem ends_le {s : List Int} {e : Nat} (h : e ∈ ends θ s) : e ≤ s.length := by
  have := (offs_le h).2
  have e2 := congrArg List.length (fac_join (θ := θ) s)
  rw [List.length_append] at e2
  omega
theorem ends_zero (s : List Int) : 0 ∈ ends θ s := offs_self 0 _
theorem drop_fac {s : List Int} {xs ys : List (List Int)} (e : (fac θ s).1 = xs ++ ys) : s.drop xs.flatten.length = ys.flatten ++ (fac θ s).2 := by
  have h := fac_join (θ := θ) s
  rw [e, List.flatten_append, List.append_assoc] at h
  conv => lhs; rw [← h]
  rw [List.drop_left]
theorem fac_drop {s : List Int} {xs ys : List (List Int)} (e : (fac θ s).1 = xs ++ ys) : fac θ (s.drop xs.flatten.length) = (ys, (fac θ s).2) := by
  have hp := fac_primes (θ := θ) s
  rw [drop_fac e, fac_app ys _ (fun p hp2 => hp.1 p (by rw [e]; exact List.mem_append_right _ hp2)), fac_zero hp.2]
  simp
theorem ends_closed (hθ : ∀ x, θ (θ x) = x) {s : List Int} {a e : Nat} (ha : a ∈ ends θ s) (h1 : a < e) (h2 : e ≤ s.length) (g : G θ ((s.drop a).take (e - a))) : e ∈ ends θ s := by
  obtain ⟨xs, ys, e1, e2⟩ := offs_mem _ _ _ ha
  rw [Nat.zero_add] at e2
  subst e2
  have f1 := fac_drop e1
  have ht : (s.drop xs.flatten.length).take (e - xs.flatten.length) ++ (s.drop xs.flatten.length).drop (e - xs.flatten.length) = s.drop xs.flatten.length := List.take_append_drop _ _
  have hl : ((s.drop xs.flatten.length).take (e - xs.flatten.length)).length = e - xs.flatten.length := by rw [List.length_take, List.length_drop]; omega
  generalize (s.drop xs.flatten.length).take (e - xs.flatten.length) = q at g ht hl
  rw [← ht, fac_more, (co_iff hθ q).mp (.one g)] at f1
  have f2 := congrArg Prod.fst f1
  have f3 := fac_join (θ := θ) q
  rw [(co_iff hθ q).mp (.one g), List.append_nil] at f3
  have f2 : (fac θ q).1 ++ _ = ys := f2
  unfold ends
  rw [e1, ← f2]
  refine offs_app _ _ _ _ ?_
  rw [Nat.zero_add]
  refine offs_app _ _ _ _ ?_
  rw [f3, hl, show xs.flatten.length + (e - xs.flatten.length) = e from by omega]
  exact offs_self _ _
end
end Qm

/-! HTail: tails_of, all_collations, by hand. -/
namespace Qm
open Fac
def d_tails_of (p s : List Int) : Prop := GoodP p ∧ GoodS p s ∧ s.length ≤ 16
/-- the openings told, in the order of the dict -/
def tlK (p s : List Int) : List Int := (s.length : Int) :: (((ends (th p) s).map fun (k : Nat) => (k : Int)).reverse.filter fun x => decide (x < s.length))
@[irreducible] def v_tails_of (p s : List Int) : List (Int × List (List Int)) := tl p s (tlK p s)
def d_all_collations (p s : List Int) : Prop := GoodP p ∧ GoodS p s ∧ s.length ≤ 16
@[irreducible] def v_all_collations (p s : List Int) : List (List Int) := cols (th p) s
def refsF (a m : Nat) : List PV := (List.range m).map fun i => PV.ref (a + i)
theorem refsF_succ (a m : Nat) : refsF a (m + 1) = refsF a m ++ [.ref (a + m)] := by unfold refsF; rw [List.range_succ, List.map_append]; rfl
theorem refsF_cons (a m : Nat) : refsF a (m + 1) = .ref a :: refsF (a + 1) m := by
  unfold refsF
  rw [List.range_succ_eq_map, List.map_cons, List.map_map]
  congr 1
  exact List.map_congr_left fun i _ => by simp only [Function.comp]; rw [show a + (i + 1) = a + 1 + i from by omega]
theorem look_refs : ∀ (K : List Int) (a : Nat) (e : Int), e ∈ K → ∃ j, K[j]? = some e ∧ lookK (K.map eI) (refsF a K.length) (eI e) = some (.ref (a + j))
  | [], _, _, h => by simp at h
  | k :: K, a, e, h => by
    rw [List.length_cons, refsF_cons, List.map_cons, lookK, Ke.eq]
    by_cases q : k = e
    · subst q; exact ⟨0, rfl, by simp⟩
    · have hK : e ∈ K := (List.mem_cons.mp h).resolve_left fun z => q z.symm
      obtain ⟨j, e1, e2⟩ := look_refs K (a + 1) e hK
      refine ⟨j + 1, by simpa using e1, ?_⟩
      simp only [q, decide_false, Bool.false_eq_true, if_false]
      rw [e2, show a + 1 + j = a + (j + 1) from by omega]
def cell (p s : List Int) (k : Int) : MO := .lst ((cols (th p) (s.drop k.toNat)).map (eT eI))
def dcell (s : List Int) (K : List Int) : MO := .dic false (((s.length : Int) :: K).map eI) (eL (eT eI) [[]] :: refsF 1 K.length)
def hT (p s : List Int) (K : List Int) : MHp := dcell s K :: K.map (cell p s)
theorem len_hT (p s : List Int) (K : List Int) : (hT p s K).length = 1 + K.length := by unfold hT; rw [List.length_cons, List.length_map]; omega
theorem hT_at {p s K : List Int} {j : Nat} {e : Int} (h : K[j]? = some e) (l : MHp) : (hT p s K ++ l)[1 + j]? = some (cell p s e) := by
  have hj : j < K.length := (List.getElem?_eq_some_iff.mp h).1
  unfold hT
  rw [List.getElem?_append_left (by simp; omega), show 1 + j = j + 1 from by omega, List.getElem?_cons_succ, List.getElem?_map, h]
  rfl
theorem cols_end (p s : List Int) : cols (th p) (s.drop ((s.length : Int)).toNat) = [[]] := by
  rw [Int.toNat_natCast, List.drop_of_length_le (Nat.le_refl _)]; rfl
/-- what stands at an opening -/
theorem hT_ix {p s K : List Int} {e : Int} (he : e ∈ (s.length : Int) :: K) (l : MHp) : ∃ q, index (.ref 0) (eI e) (hT p s K ++ l) = some q ∧ itemsT q (hT p s K ++ l) = some ((cols (th p) (s.drop e.toNat)).map (eT eI)) ∧ srcOk (srcOf q ((cols (th p) (s.drop e.toNat)).map (eT eI))) (hT p s K ++ l) = true := by
  have h0 : (hT p s K ++ l)[0]? = some (dcell s K) := rfl
  have hi : index (.ref 0) (eI e) (hT p s K ++ l) = lookK (((s.length : Int) :: K).map eI) (eL (eT eI) [[]] :: refsF 1 K.length) (eI e) := by
    show indexR (.ref 0) (eI e) (hT p s K ++ l) = lookK (((s.length : Int) :: K).map eI) (eL (eT eI) [[]] :: refsF 1 K.length) (eI e)
    unfold indexR
    rw [itemsT_dic h0, asDic_ref h0]
    dsimp only
    rw [if_pos (by rfl)]
  rw [hi, List.map_cons, lookK, Ke.eq]
  by_cases q : (s.length : Int) = e
  · subst q
    rw [if_pos (by simp), cols_end]
    exact ⟨_, rfl, rfl, rfl⟩
  · rw [if_neg (by simpa using q)]
    have hK : e ∈ K := (List.mem_cons.mp he).resolve_left fun z => q z.symm
    obtain ⟨j, e1, e2⟩ := look_refs K 1 e hK
    refine ⟨_, e2, ?_, ?_⟩
    · have := hT_at (p := p) (s := s) e1 l
      simp only [itemsT, this, cell]
    · have := hT_at (p := p) (s := s) e1 l
      show (decide ((hT p s K ++ l)[1 + j]? = some _) && true) = true
      rw [this]
      show (decide (some (cell p s e) = some (cell p s e)) && true) = true
      rw [decide_eq_true rfl]; rfl
theorem hT_in {p s K : List Int} {e : Int} (l : MHp) : cop .isin (eI e) (.ref 0) (hT p s K ++ l) = some (decide (e ∈ (s.length : Int) :: K)) := by
  have h0 : (hT p s K ++ l)[0]? = some (dcell s K) := rfl
  show isinR (eI e) (.ref 0) (hT p s K ++ l) = some (decide (e ∈ (s.length : Int) :: K))
  unfold isinR
  rw [itemsT_dic h0, asDic_ref h0]
  dsimp only
  rw [if_pos (by rfl)]
  exact congrArg some (any_mem (e := eI) e ((s.length : Int) :: K))
theorem hT_st {p s K : List Int} {x : Int} (hx : x ∉ (s.length : Int) :: K) (hl : K.length ≤ 100) : storeIx (.ref 0) (eI x) (.ref (1 + K.length)) (hT p s K ++ [cell p s x]) = some (hT p s (K ++ [x])) := by
  show (if keyOk false (eI x) && decide ((((s.length : Int) :: K).map eI).length < big) then some ((hT p s K ++ [cell p s x]).set 0 (.dic false (setK (((s.length : Int) :: K).map eI) (eL (eT eI) [[]] :: refsF 1 K.length) (eI x) (.ref (1 + K.length))).1 (setK (((s.length : Int) :: K).map eI) (eL (eT eI) [[]] :: refsF 1 K.length) (eI x) (.ref (1 + K.length))).2)) else none) = _
  have e1 : setK (((s.length : Int) :: K).map eI) (eL (eT eI) [[]] :: refsF 1 K.length) (eI x) (.ref (1 + K.length)) = (((s.length : Int) :: K).map eI ++ [eI x], (eL (eT eI) [[]] :: refsF 1 K.length) ++ [.ref (1 + K.length)]) := by
    unfold setK
    rw [any_mem, if_neg (by simpa using hx)]
  have e2 : decide ((((s.length : Int) :: K).map eI).length < big) = true := decide_eq_true (by rw [List.length_map, List.length_cons]; show _ < 16777216; omega)
  rw [e2, if_pos (by rfl), e1]
  unfold hT dcell
  rw [List.length_append, List.length_singleton, refsF_succ]
  simp
theorem frz_refs (g : Nat → Option PV) : ∀ (K : List Int) (a : Nat) (f : Int → PV), (∀ j e, K[j]? = some e → g (a + j) = some (f e)) → frzTs g (refsF a K.length) = some (K.map f)
  | [], _, _, _ => rfl
  | k :: K, a, f, h => by
    rw [List.length_cons, refsF_cons, frzTs, frzT, show g a = some (f k) from h 0 k rfl, frz_refs g K (a + 1) f fun j e q => by
      have := h (j + 1) e (by simpa using q)
      rwa [show a + (j + 1) = a + 1 + j from by omega] at this]
    rfl
theorem hT_frz {p s K : List Int} : frz 0 (hT p s K) (.ref 0) = some (eD false eI (eL (eT eI)) (tl p s ((s.length : Int) :: K))) := by
  show frzG 0 (hT p s K) 4 0 = _
  unfold frzG
  rw [if_neg (by omega)]
  show (match frzTs (frzG 0 (hT p s K) 3) (((s.length : Int) :: K).map eI), frzTs (frzG 0 (hT p s K) 3) (eL (eT eI) [[]] :: refsF 1 K.length) with | some a, some b => some (PV.dic false a b) | _, _ => none) = _
  rw [frzTs_id (nors_map (e := eI) _), frzTs, frzT_id (Nr.nor (e := eL (eT eI)) [[]]), frz_refs _ K 1 (fun k => eL (eT eI) (cols (th p) (s.drop k.toNat))) fun j e q => ?_]
  · dsimp only
    unfold eD tl
    rw [List.map_map, List.map_map, List.map_cons, List.map_cons, List.map_cons]
    show some (PV.dic false (eI (s.length : Int) :: K.map eI) (eL (eT eI) [[]] :: K.map fun k => eL (eT eI) (cols (th p) (s.drop k.toNat)))) = some (PV.dic false (eI (s.length : Int) :: K.map eI) (eL (eT eI) (cols (th p) (s.drop ((s.length : Int)).toNat)) :: K.map fun k => eL (eT eI) (cols (th p) (s.drop k.toNat))))
    rw [cols_end]
  · have := hT_at (p := p) (s := s) q []
    rw [List.append_nil] at this
    unfold frzG
    rw [if_neg (by omega), this]
    unfold cell
    dsimp only
    rw [frzTs_id (nors_map (e := eT eI) _)]; rfl
def tstep (s K : List Int) (x : Int) : List Int := if decide (x < s.length) = true then K ++ [x] else K
theorem tstep_fold (s : List Int) : ∀ (xs K : List Int), xs.foldl (tstep s) K = K ++ xs.filter fun (x : Int) => decide (x < (s.length : Int))
  | [], K => by simp
  | x :: r, K => by
    rw [List.foldl_cons, tstep_fold s r]
    unfold tstep
    by_cases h : x < (s.length : Int)
    · simp [h]
    · simp [h]
theorem seg_fold (p s : List Int) (x : Int) : ∀ (xs : List Nat) (st : List (List Int)), (xs.map fun (k : Nat) => (k : Int)).foldl (fun st e => st ++ seg (th p) s x.toNat e.toNat) st = st ++ (xs.map (seg (th p) s x.toNat)).flatten
  | [], st => by simp
  | k :: r, st => by rw [List.map_cons, List.foldl_cons, seg_fold p s x r]; simp
theorem seg_len {p s : List Int} (hs : s.length ≤ 16) (a e : Nat) : (seg (th p) s a e).length ≤ 65536 := by
  unfold seg
  split
  · rw [List.length_map]; exact cols_len16 (by rw [List.length_drop]; omega)
  · simp
theorem len_offs : ∀ (fs : List (List Int)) (a : Nat), (offs a fs).length = fs.length + 1
  | [], _ => rfl
  | f :: r, a => by rw [offs, List.length_cons, len_offs r, List.length_cons]
theorem ends_count {θ : Int → Int} {s : List Int} : (ends θ s).length ≤ s.length + 1 := by
  unfold ends
  rw [len_offs]
  have := (fac_len θ s).2
  omega
theorem o_tails_of {P : Prog} [HasF P 238 fd238] [HasF P 239 fd239] [HasF P 240 fd240] [HasF P 241 fd241] [HasF P 242 fd242] [HasF P 366 fd366] (n : Nat) (h : MHp) (p : List Int) (s : List Int) (D : d_tails_of p s) : callN P (n + 6) 366 [(eT eI) p, (eT eI) s] h = .ok ((eD false eI (eL (eT eI))) (v_tails_of p s)) h := by
  obtain ⟨g, gs, hs⟩ := D
  refine call_p (fd := fd366) (e := (eD false eI (eL (eT eI)))) (V := v_tails_of p s) [some ((eT eI) p), some ((eT eI) s), none, none, none, none, none, none] rfl rfl (nors_c (e := (eT eI)) (nors_c (e := (eT eI)) rfl)) rfl ?_
  have hst := v_st g gs (by omega)
  have hA : v_starts_of p s = (ends (th p) s).map fun (k : Nat) => (k : Int) := hst
  refine xs_asg [some ((eT eI) p), some ((eT eI) s), some ((eL eI) (v_starts_of p s)), none, none, none, none, none] (ev_call (evs_cons (ev_var rfl) (evs_cons (ev_var rfl) evs_nil)) (o_starts_of n _ p s (d_st g gs (by omega)))) rfl ?_
  have hz := ends_count (θ := th p) (s := s)
  have hasc := ends_asc (θ := th p) s
  have hle : ∀ e ∈ ends (th p) s, e ≤ s.length := fun e he => ends_le he
  have hcl : ∀ a ∈ ends (th p) s, ∀ e, a < e → e ≤ s.length → G (th p) ((s.drop a).take (e - a)) → e ∈ ends (th p) s := fun a ha e => ends_closed (th_th g) ha
  have hV : v_tails_of p s = tl p s (tlK p s) := by unfold v_tails_of; rfl
  rw [hA, hV]
  unfold tlK
  generalize ends (th p) s = A at hz hasc hle hcl
  refine xs_asg [some ((eT eI) p), some ((eT eI) s), some ((eL eI) (A.map fun (k : Nat) => (k : Int))), some (.ref 0), none, none, none, none] (ev_dc1m (e := eI) (f := eL (eT eI)) (a := (s.length : Int)) (b := [[]]) (t := false) (ev_bif (evs_cons (ev_var rfl) evs_nil) (b_lenT (e := eI) (l := s))) (ev_lst (evs_cons (ev_tup evs_nil) evs_nil))) rfl ?_
  refine xs_for (e := eI) (xs := (A.map fun (k : Nat) => (k : Int)).reverse) (fun (K : List Int) (J : Jk) => [some ((eT eI) p), some ((eT eI) s), some ((eL eI) (A.map fun (k : Nat) => (k : Int))), some (.ref 0), J 4, J 5, J 6, J 7]) (fun (K : List Int) => hT p s K)
    (tstep s) (fun K x => (∃ a ∈ A, x = (a : Int)) ∧ K.length ≤ 20 ∧ x ∉ K ∧ ∀ e ∈ A, x < e → (e : Int) ∈ (s.length : Int) :: K) [] (fun n => ([some ((eT eI) p), some ((eT eI) s), some ((eL eI) (A.map fun (k : Nat) => (k : Int))), some (.ref 0), none, none, none, none] : Env).getD n none)
    (evI_rvdL (e := eI) (ev_var rfl)) rfl rfl (fun _ => rfl) ?_ ?_ ?_
  · rw [← List.map_reverse]
    have hdesc : A.reverse.Pairwise (fun a b => b < a) := List.pairwise_reverse.mpr hasc
    have hmem : ∀ e, e ∈ A ↔ e ∈ A.reverse := fun e => List.mem_reverse.symm
    have hlen : A.reverse.length ≤ 17 := by rw [List.length_reverse]; omega
    generalize A.reverse = R at hdesc hmem hlen
    refine FoldD.of_inv (fun xs K => ∃ dn td : List Nat, R = dn ++ td ∧ xs = td.map (fun (k : Nat) => (k : Int)) ∧ (∀ e : Int, e ∈ K ↔ e < s.length ∧ ∃ a ∈ dn, e = (a : Int)) ∧ K.length ≤ dn.length) ⟨[], R, rfl, rfl, fun e => by simp, by simp⟩ fun x r K I => ?_
    obtain ⟨dn, td, i1, i2, i3, i4⟩ := I
    cases td with
    | nil => simp at i2
    | cons t td =>
      obtain ⟨j1, j2⟩ := List.cons.inj i2
      subst j1
      rw [i1, List.pairwise_append] at hdesc
      obtain ⟨_, p2, p3⟩ := hdesc
      rw [List.pairwise_cons] at p2
      rw [i1, List.length_append, List.length_cons] at hlen
      refine ⟨⟨⟨t, (hmem t).mpr (by rw [i1]; simp), rfl⟩, by omega, fun q => ?_, fun e he hx => ?_⟩, dn ++ [t], td, by rw [i1]; simp, j2, fun e => ?_, ?_⟩
      · obtain ⟨_, a, ha, ea⟩ := (i3 _).mp q
        have := p3 a ha t List.mem_cons_self
        have ea : (t : Int) = (a : Int) := ea
        omega
      · have h1 := (hmem e).mp he
        rw [i1, List.mem_append] at h1
        rcases h1 with h1 | h1
        · by_cases z : e = s.length
          · rw [z]; exact List.mem_cons_self
          · have := hle e he
            exact List.mem_cons_of_mem _ ((i3 _).mpr ⟨by omega, e, h1, rfl⟩)
        · have hx : (t : Int) < (e : Int) := hx
          rcases List.mem_cons.mp h1 with h1 | h1
          · omega
          · have := p2.1 e h1; omega
      · unfold tstep
        by_cases z : (t : Int) < s.length
        · rw [if_pos (decide_eq_true z), List.mem_append, List.mem_singleton, i3]
          constructor
          · rintro (⟨q1, a, q2, q3⟩ | q)
            · exact ⟨q1, a, List.mem_append_left _ q2, q3⟩
            · exact ⟨by have q : e = (t : Int) := q; omega, t, by simp, q⟩
          · rintro ⟨q1, a, q2, q3⟩
            rcases List.mem_append.mp q2 with q2 | q2
            · exact .inl ⟨q1, a, q2, q3⟩
            · rw [List.mem_singleton] at q2; subst q2; exact .inr q3
        · rw [if_neg (by simpa using z), i3]
          constructor
          · rintro ⟨q1, a, q2, q3⟩
            exact ⟨q1, a, List.mem_append_left _ q2, q3⟩
          · rintro ⟨q1, a, q2, q3⟩
            rcases List.mem_append.mp q2 with q2 | q2
            · exact ⟨q1, a, q2, q3⟩
            · rw [List.mem_singleton] at q2; subst q2; omega
      · unfold tstep
        rw [List.length_append, List.length_singleton]
        split
        · rw [List.length_append, List.length_singleton]; omega
        · omega
  · intro K J x D
    obtain ⟨⟨a, ha, ex⟩, hK, hx, hin⟩ := D
    have hax := hle a ha
    refine ⟨[some ((eT eI) p), some ((eT eI) s), some ((eL eI) (A.map fun (k : Nat) => (k : Int))), some (.ref 0), some (eI x), J 5, J 6, J 7], rfl, ?_⟩
    refine xs_ite' (c := decide (x < s.length)) (evB_of (ev_cmp (ev_var rfl) (ev_bif (evs_cons (ev_var rfl) evs_nil) (b_lenT (e := eI) (l := s))) c_lt)) (fun q => ?_) (fun q => ?_)
    · have q' := of_decide_eq_true q
      refine xs_asg [some ((eT eI) p), some ((eT eI) s), some ((eL eI) (A.map fun (k : Nat) => (k : Int))), some (.ref 0), some (eI x), some (.ref (hT p s K).length), J 6, J 7] (ev_lstm evs_nil) rfl ?_
      refine xs_for (e := eI) (xs := A.map fun (k : Nat) => (k : Int)) (fun (st : List (List Int)) (J : Jk) => [some ((eT eI) p), some ((eT eI) s), some ((eL eI) (A.map fun (k : Nat) => (k : Int))), some (.ref 0), some (eI x), some (.ref (hT p s K).length), J 6, J 7]) (fun (st : List (List Int)) => hT p s K ++ [.lst (st.map (eT eI))])
        (fun st e => st ++ seg (th p) s x.toNat e.toNat) (fun st e => (∃ b ∈ A, e = (b : Int)) ∧ st.length ≤ 2000000) [] (fun n => ([some ((eT eI) p), some ((eT eI) s), some ((eL eI) (A.map fun (k : Nat) => (k : Int))), some (.ref 0), some (eI x), some (.ref (hT p s K).length), J 6, J 7] : Env).getD n none)
        (evI_seqL (e := eI) (ev_var rfl)) rfl rfl (fun _ => rfl) ?_ ?_ ?_
      · refine FoldD.of_inv (fun xs st => (∀ e ∈ xs, ∃ b ∈ A, e = (b : Int)) ∧ st.length + 65536 * xs.length ≤ 2000000) ⟨fun e he => ?_, by rw [List.length_map]; simp; omega⟩ fun e r st I => ?_
        · obtain ⟨b, hb, rfl⟩ := List.mem_map.mp he
          exact ⟨b, hb, rfl⟩
        · obtain ⟨i1, i2⟩ := I
          rw [List.length_cons] at i2
          have := seg_len (p := p) hs x.toNat e.toNat
          exact ⟨⟨i1 e List.mem_cons_self, by omega⟩, fun y hy => i1 y (List.mem_cons_of_mem _ hy), by rw [List.length_append]; omega⟩
      · intro st J e D
        obtain ⟨⟨b, hb, eb⟩, hl⟩ := D
        have hbe := hle b hb
        refine ⟨[some ((eT eI) p), some ((eT eI) s), some ((eL eI) (A.map fun (k : Nat) => (k : Int))), some (.ref 0), some (eI x), some (.ref (hT p s K).length), some (eI e), J 7], rfl, ?_⟩
        have hc : cut s (some x) (some e) = (s.drop x.toNat).take (e.toNat - x.toNat) := cut2 (by omega) (by omega)
        have hv : v_is_gathering_of p (cut s (some x) (some e)) = decide (G (th p) ((s.drop x.toNat).take (e.toNat - x.toNat))) := by
          rw [v_gath g (gs.cut _ _), hc]
        have lc : (cut s (some x) (some e)).length ≤ 1000 := Nat.le_trans len_cut (by omega)
        refine xs_ite' (c := (decide (x < e) && (decide (e ∈ (s.length : Int) :: K) && v_is_gathering_of p (cut s (some x) (some e))))) (evB_and (evBA_cons (evB_of (ev_cmp (ev_var rfl) (ev_var rfl) c_gt)) (fun _ => evBA_cons (evB_of (ev_cmp (ev_var rfl) (ev_var rfl) (hT_in _))) (fun _ => evBA_one (evB_of (ev_call (evs_cons (ev_var rfl) (evs_cons (ev_sl (ev_var rfl) (evO_some (ev_var rfl)) (evO_some (ev_var rfl)) (s_T (e := eI) (l := s))) evs_nil)) (o_is_gathering_of (n + 3) _ p (cut s (some x) (some e)) (d_gath g (gs.cut _ _) lc)))))))) (fun c => ?_) (fun c => ?_)
        · rw [Bool.and_eq_true, Bool.and_eq_true] at c
          obtain ⟨c1, c2, c3⟩ := c
          have c1 := of_decide_eq_true c1
          have c2 := of_decide_eq_true c2
          rw [hv] at c3
          have c3 := of_decide_eq_true c3
          obtain ⟨q, ix, it, so⟩ := hT_ix (p := p) c2 [.lst (st.map (eT eI))]
          have sg : seg (th p) s x.toNat e.toNat = (cols (th p) (s.drop e.toNat)).map (((e - x) / 2) :: ·) := by
            unfold seg
            rw [if_pos ⟨by omega, by omega, c3⟩, show (((e.toNat - x.toNat) / 2 : Nat) : Int) = (e - x) / 2 from by omega]
          have sl := seg_len (p := p) hs x.toNat e.toNat
          rw [sg] at sl
          refine xs_ext (n := (hT p s K).length) (xs := st.map (eT eI)) (ys := ((cols (th p) (s.drop e.toNat)).map (((e - x) / 2) :: ·)).map (eT eI)) (hT p s K ++ [.lst ((st ++ seg (th p) s x.toNat e.toNat).map (eT eI))]) rfl
            (ev_lc (e := eT eI) (g := eT eI) (xs := cols (th p) (s.drop e.toNat)) (src := srcOf q ((cols (th p) (s.drop e.toNat)).map (eT eI))) (f := fun t => ((e - x) / 2) :: t) (evI_seqQ (ev_ix (ev_var rfl) (ev_var rfl) ix) it) so (fun t ht => ⟨[some ((eT eI) p), some ((eT eI) s), some ((eL eI) (A.map fun (k : Nat) => (k : Int))), some (.ref 0), some (eI x), some (.ref (hT p s K).length), some (eI e), some (eT eI t)], rfl, ev_bin (x := eT eI [(e - x) / 2]) (y := eT eI t) (ev_tup (evs_cons (ev_bin (ev_bin (ev_var rfl) (ev_var rfl) o_sub) ev_cst (o_fdv (by decide))) evs_nil)) (ev_var rfl) (o_addT (a := [(e - x) / 2]) (b := t) (bigOk (by simp) (by have := cols_mem_len ht; rw [List.length_drop] at this; omega)))⟩)) ?_ rfl ?_ ?_ ?_ (xs_nil (nxG (fun n => ([some ((eT eI) p), some ((eT eI) s), some ((eL eI) (A.map fun (k : Nat) => (k : Int))), some (.ref 0), some (eI x), none, some (eI e), J 7] : Env).getD n none) rfl rfl))
          · simp only [itemsL, List.getElem?_concat_length]; rfl
          · exact List.getElem?_concat_length ..
          · rw [List.length_map] at sl ⊢
            show _ + _ ≤ 16777216
            rw [List.length_map, List.length_map]
            omega
          · rw [sg, List.map_append]
            simp
        · have sg : seg (th p) s x.toNat e.toNat = [] := by
            unfold seg
            refine if_neg fun z => ?_
            rw [hv, decide_eq_true (show x < e by omega), decide_eq_true (hin b hb (by omega) |> fun w => eb ▸ w), decide_eq_true z.2.2] at c
            cases c
          refine xs_nil (nxG (fun n => ([some ((eT eI) p), some ((eT eI) s), some ((eL eI) (A.map fun (k : Nat) => (k : Int))), some (.ref 0), some (eI x), none, some (eI e), J 7] : Env).getD n none) rfl ?_)
          rw [sg, List.append_nil]
      · intro J2
        have hf : (A.map fun (k : Nat) => (k : Int)).foldl (fun st e => st ++ seg (th p) s x.toNat e.toNat) [] = cols (th p) (s.drop x.toNat) := by
          rw [seg_fold, List.nil_append]
          refine cols_seg (by omega) hasc fun e e1 e2 e3 => ?_
          have : x.toNat = a := by omega
          rw [this] at e1 e3
          exact hcl a ha e e1 e2 e3
        rw [hf, len_hT]
        refine xs_stx (hT p s (K ++ [x])) (ev_var rfl) (ev_var rfl) (ev_var rfl) (hT_st ?_ (by omega)) (xs_nil (nxG (fun n => ([some ((eT eI) p), some ((eT eI) s), some ((eL eI) (A.map fun (k : Nat) => (k : Int))), some (.ref 0), some (eI x), some (.ref (1 + K.length)), J2 6, J2 7] : Env).getD n none) rfl ?_))
        · rw [List.mem_cons]
          rintro (z | z)
          · omega
          · exact hx z
        · unfold tstep; rw [if_pos q]
    · refine xs_nil (nxG (fun n => ([some ((eT eI) p), some ((eT eI) s), some ((eL eI) (A.map fun (k : Nat) => (k : Int))), some (.ref 0), some (eI x), J 5, J 6, J 7] : Env).getD n none) rfl ?_)
      unfold tstep; rw [if_neg (by rw [q]; decide)]
  · intro J
    rw [tstep_fold, List.nil_append]
    exact xs_ret (ev_var rfl) ⟨_, .inl ⟨.ref 0, rfl, hT_frz⟩⟩
theorem o_all_collations {P : Prog} [HasF P 238 fd238] [HasF P 239 fd239] [HasF P 240 fd240] [HasF P 241 fd241] [HasF P 242 fd242] [HasF P 366 fd366] [HasF P 367 fd367] (n : Nat) (h : MHp) (p : List Int) (s : List Int) (D : d_all_collations p s) : callN P (n + 7) 367 [(eT eI) p, (eT eI) s] h = .ok ((eL (eT eI)) (v_all_collations p s)) h := by
  obtain ⟨g, gs, hs⟩ := D
  refine call_p (fd := fd367) (e := (eL (eT eI))) (V := v_all_collations p s) [some ((eT eI) p), some ((eT eI) s)] rfl rfl (nors_c (e := (eT eI)) (nors_c (e := (eT eI)) rfl)) rfl ?_
  have hm : (0 : Int) ∈ tlK p s := by
    unfold tlK
    by_cases z : s.length = 0
    · rw [z]; exact List.mem_cons_self
    · refine List.mem_cons_of_mem _ (List.mem_filter.mpr ⟨List.mem_reverse.mpr (List.mem_map.mpr ⟨0, ends_zero s, rfl⟩), decide_eq_true (by omega)⟩)
  have hV : v_tails_of p s = tl p s (tlK p s) := by unfold v_tails_of; rfl
  have hi : dhas (v_tails_of p s) 0 = true := by rw [hV]; unfold tl; rw [dhas_map]; exact decide_eq_true hm
  have hd : dget (v_tails_of p s) 0 = v_all_collations p s := by
    rw [hV]
    unfold tl v_all_collations
    rw [dget_map _ hm]; rfl
  refine xs_ret (ev_ix (ev_call (evs_cons (ev_var rfl) (evs_cons (ev_var rfl) evs_nil)) (o_tails_of n _ p s ⟨g, gs, hs⟩)) ev_cst ?_) rt_p
  rw [← hd]
  exact i_D (e := eI) (f := eL (eT eI)) hi
end Qm

namespace Qm
/-- is_collation_form(value): 0 value 1 sheets -/
def fd373 : FnD := ⟨1, 2, false,
  (.cons (.ret (.and (.cons (.isi .tuple (.var 0)) (.cons (.bif .all (.cons (.lc [1] (.call 0 (.cons (.var 1) (.cons (.cst (.int 1)) (.cons (.glb 4) .nil)))) (.nm 1) (.seq (.var 0)) .nil) .nil)) .nil)))) .nil)⟩
/-- is_collation_form -/
@[irreducible] def v_is_collation_form (value : NV) : Bool :=
  ((isY .tuple value) && (((nT value).map fun sheets => (v_is_whole sheets (1 : Int) (8 : Int))).all id))
@[irreducible] def d_is_collation_form (value : NV) : Prop :=
  ((isY .tuple value) = true → (eA value = (eT eA) (nT value)) ∧ ((∀ sheets ∈ (nT value), (d_is_whole sheets (1 : Int) (8 : Int)) ∧ (True)) ∧ (True))) ∧ (True)
theorem o_is_collation_form {P : Prog} [HasF P 0 fd0] [HasF P 373 fd373] [HasC P 4 (.int 8)] (n : Nat) (h : MHp) (value : NV) (D : d_is_collation_form value) : callN P (n + 2) 373 [eA value] h = .ok (eB (v_is_collation_form value)) h := by
  refine call_p (fd := fd373) (e := eB) (V := v_is_collation_form value) [some (eA value), none] rfl rfl (nors_c (e := eA) rfl) rfl ?_
  unfold d_is_collation_form at D
  unfold v_is_collation_form
  exact xs_ret (ev_and (evA_cons (ev_isi (ev_var rfl) isY_ok) (fun hc => (fun D_ => (evA_one (ev_bif (evs_cons (ev_lc (e := eA) (g := eB) (xs := (nT value)) (f := fun sheets => (v_is_whole sheets (1 : Int) (8 : Int))) (evI_seqT (e := eA) (xs := (nT value)) (ev_cast (ev_var rfl) D_.1)) rfl (fun sheets hx => (fun D_2 => ⟨[some (eA value), some (eA sheets)], rfl, (ev_call (evs_cons (ev_var rfl) (evs_cons ev_cst (evs_cons ev_glb evs_nil))) (o_is_whole (n + 0) _ sheets (1 : Int) (8 : Int) D_2.1))⟩) (D_.2.1 sheets hx))) evs_nil) (b_all (l := ((nT value).map fun sheets => (v_is_whole sheets (1 : Int) (8 : Int)))))))) (D.1 hc)))) (rt_p)
/-- is_collation_of(paper, sequence, value): 0 paper 1 sequence 2 value 3 start 4 sheets -/
def fd374 : FnD := ⟨3, 5, false,
  (.cons (.ite (.or (.cons (.not (.call 373 (.cons (.var 2) .nil))) (.cons (.cmp .ne (.bin .mul (.cst (.int 2)) (.bif .sum (.cons (.var 2) .nil))) (.bif .len (.cons (.var 1) .nil))) .nil))) (.cons (.ret (.cst (.bl false))) .nil) .nil) (.cons (.asg (.nm 3) (.cst (.int 0))) (.cons (.for (.nm 4) (.seq (.var 2)) (.cons (.ite (.not (.call 239 (.cons (.var 0) (.cons (.sl (.var 1) (.some (.var 3)) (.some (.bin .add (.var 3) (.bin .mul (.cst (.int 2)) (.var 4))))) .nil)))) (.cons (.ret (.cst (.bl false))) .nil) .nil) (.cons (.asg (.nm 3) (.bin .add (.var 3) (.bin .mul (.cst (.int 2)) (.var 4)))) .nil))) (.cons (.ret (.cst (.bl true))) .nil))))⟩
@[irreducible] def v_is_collation_of_L_ (paper : List Int) (sequence : List Int) (st_ : Int) (sheets : NV) : Bool ⊕ Int :=
  if (!(v_is_gathering_of paper (cut sequence (some st_) (some (st_ + ((2 : Int) * (nI sheets))))))) = true then (.inl false) else (let start2 : Int := (st_ + ((2 : Int) * (nI sheets))); .inr start2)
@[irreducible] def d_is_collation_of_L_ (paper : List Int) (sequence : List Int) (st_ : Int) (sheets : NV) : Prop :=
  (eA sheets = eI (nI sheets)) ∧ ((d_is_gathering_of paper (cut sequence (some st_) (some (st_ + ((2 : Int) * (nI sheets)))))) ∧ (((!(v_is_gathering_of paper (cut sequence (some st_) (some (st_ + ((2 : Int) * (nI sheets))))))) = true → True) ∧ ((!(v_is_gathering_of paper (cut sequence (some st_) (some (st_ + ((2 : Int) * (nI sheets))))))) = false → (eA sheets = eI (nI sheets)) ∧ (let start2 : Int := (st_ + ((2 : Int) * (nI sheets))); True))))
/-- is_collation_of -/
@[irreducible] def v_is_collation_of (paper : List Int) (sequence : List Int) (value : NV) : Bool :=
  if ((!(v_is_collation_form value)) || !decide (((2 : Int) * (nTI value).sum) = (sequence.length : Int))) = true then (false) else (let start : Int := (0 : Int); sumK (foldX (v_is_collation_of_L_ paper sequence) (start : Int) (nT value)) (fun (st_2 : Int) => true))
@[irreducible] def d_is_collation_of (paper : List Int) (sequence : List Int) (value : NV) : Prop :=
  (d_is_collation_form value) ∧ (((!(v_is_collation_form value)) = false → (eA value = (eT eI) (nTI value)) ∧ (True)) ∧ ((((!(v_is_collation_form value)) || !decide (((2 : Int) * (nTI value).sum) = (sequence.length : Int))) = true → True) ∧ (((!(v_is_collation_form value)) || !decide (((2 : Int) * (nTI value).sum) = (sequence.length : Int))) = false → let start : Int := (0 : Int); (eA value = (eT eA) (nT value)) ∧ ((FoldXD (v_is_collation_of_L_ paper sequence) (d_is_collation_of_L_ paper sequence) (start : Int) (nT value)) ∧ (True)))))
theorem o_is_collation_of {P : Prog} [HasF P 0 fd0] [HasF P 238 fd238] [HasF P 239 fd239] [HasF P 373 fd373] [HasF P 374 fd374] [HasC P 4 (.int 8)] (n : Nat) (h : MHp) (paper : List Int) (sequence : List Int) (value : NV) (D : d_is_collation_of paper sequence value) : callN P (n + 3) 374 [(eT eI) paper, (eT eI) sequence, eA value] h = .ok (eB (v_is_collation_of paper sequence value)) h := by
  refine call_p (fd := fd374) (e := eB) (V := v_is_collation_of paper sequence value) [some ((eT eI) paper), some ((eT eI) sequence), some (eA value), none, none] rfl rfl (nors_c (e := (eT eI)) (nors_c (e := (eT eI)) (nors_c (e := eA) rfl))) rfl ?_
  unfold d_is_collation_of at D
  unfold v_is_collation_of
  refine xs_ite (evB_or (evBO_cons (evB_not (evB_of (ev_call (evs_cons (ev_var rfl) evs_nil) (o_is_collation_form (n + 0) _ value D.1)))) (fun hc => (fun D_ => (evBO_one (evB_of (ev_cmp (ev_bin ev_cst (ev_bif (evs_cons (ev_cast (ev_var rfl) D_.1) evs_nil) (b_sumT (l := (nTI value)))) (o_mul (by first | exact .inl (by decide) | exact .inr (by decide)))) (ev_bif (evs_cons (ev_var rfl) evs_nil) (b_lenT (e := eI) (l := sequence))) (c_ne (e := eI) (a := ((2 : Int) * (nTI value).sum)) (b := (sequence.length : Int))))))) (D.2.1 hc)))) (fun hc2 => ?_) (fun hc2 => ?_)
  · exact xs_ret ev_cst (rt_p)
  · have D_3 := D.2.2.2 hc2
    let start : Int := (0 : Int)
    refine xs_asg [some ((eT eI) paper), some ((eT eI) sequence), some (eA value), some (eI start), none] ev_cst rfl ?_
    refine xs_forX (QV := (RtG (Gp eB))) (e := eA) (xs := (nT value)) (fun (w : Int) (J : Jk) => [some ((eT eI) paper), some ((eT eI) sequence), some (eA value), some (eI w), J 4]) (fun (w : Int) => []) (v_is_collation_of_L_ paper sequence) (d_is_collation_of_L_ paper sequence) (start : Int) (fun n => ([some ((eT eI) paper), some ((eT eI) sequence), some (eA value), some (eI start), none] : Env).getD n none) (evI_seqT (e := eA) (xs := (nT value)) (ev_cast (ev_var rfl) D_3.1)) rfl rfl (fun _ => rfl) D_3.2.1 ?_ ?_
    · intro st_ J_ sheets D
      refine ⟨[some ((eT eI) paper), some ((eT eI) sequence), some (eA value), some (eI st_), some (eA sheets)], rfl, ?_⟩
      unfold d_is_collation_of_L_ at D
      unfold v_is_collation_of_L_
      refine xs_ite (evB_not (evB_of (ev_call (evs_cons (ev_var rfl) (evs_cons (ev_sl (ev_var rfl) (evO_some (ev_var rfl)) (evO_some (ev_bin (ev_var rfl) (ev_bin ev_cst (ev_cast (ev_var rfl) D.1) (o_mul (by first | exact .inl (by decide) | exact .inr (by decide)))) o_add)) (s_T (e := eI) (l := sequence))) evs_nil)) (o_is_gathering_of (n + 0) _ paper (cut sequence (some st_) (some (st_ + ((2 : Int) * (nI sheets))))) D.2.1)))) (fun hc => ?_) (fun hc => ?_)
      · exact xs_ret ev_cst (nxX_ret (rt_p))
      · have D_6 := D.2.2.2 hc
        let start2 : Int := (st_ + ((2 : Int) * (nI sheets)))
        refine xs_asg [some ((eT eI) paper), some ((eT eI) sequence), some (eA value), some (eI start2), some (eA sheets)] (ev_bin (ev_var rfl) (ev_bin ev_cst (ev_cast (ev_var rfl) D_6.1) (o_mul (by first | exact .inl (by decide) | exact .inr (by decide)))) o_add) rfl ?_
        exact xs_nil (nxX_nx (nxG (fun n => ([some ((eT eI) paper), some ((eT eI) sequence), some (eA value), some (eI start2), some (eA sheets)] : Env).getD n none) rfl rfl))
    · intro st_2 J_2 hx
      exact xs_ret ev_cst (rt_p)
/-- count_of(paper, sequence): 0 paper 1 sequence -/
def fd368 : FnD := ⟨2, 2, false,
  (.cons (.ret (.bif .len (.cons (.call 367 (.cons (.var 0) (.cons (.var 1) .nil))) .nil))) .nil)⟩
/-- count_of -/
@[irreducible] def v_count_of (paper : List Int) (sequence : List Int) : Int :=
  ((v_all_collations paper sequence).length : Int)
@[irreducible] def d_count_of (paper : List Int) (sequence : List Int) : Prop :=
  (d_all_collations paper sequence) ∧ (True)
theorem o_count_of {P : Prog} [HasF P 238 fd238] [HasF P 239 fd239] [HasF P 240 fd240] [HasF P 241 fd241] [HasF P 242 fd242] [HasF P 366 fd366] [HasF P 367 fd367] [HasF P 368 fd368] (n : Nat) (h : MHp) (paper : List Int) (sequence : List Int) (D : d_count_of paper sequence) : callN P (n + 8) 368 [(eT eI) paper, (eT eI) sequence] h = .ok (eI (v_count_of paper sequence)) h := by
  refine call_p (fd := fd368) (e := eI) (V := v_count_of paper sequence) [some ((eT eI) paper), some ((eT eI) sequence)] rfl rfl (nors_c (e := (eT eI)) (nors_c (e := (eT eI)) rfl)) rfl ?_
  unfold d_count_of at D
  unfold v_count_of
  exact xs_ret (ev_bif (evs_cons (ev_call (evs_cons (ev_var rfl) (evs_cons (ev_var rfl) evs_nil)) (o_all_collations (n + 0) _ paper sequence D.1)) evs_nil) (b_lenL (e := (eT eI)) (l := (v_all_collations paper sequence)))) (rt_p)
/-- count_collations(paper, sequence): 0 paper 1 sequence -/
def fd381 : FnD := ⟨2, 2, false,
  (.cons (.exp (.call 286 (.cons (.var 0) (.cons (.var 1) .nil)))) (.cons (.ret (.call 368 (.cons (.var 0) (.cons (.var 1) .nil)))) .nil))⟩
/-- count_collations -/
@[irreducible] def v_count_collations (paper : List Int) (sequence : List Int) : Int :=
  (v_count_of paper sequence)
@[irreducible] def d_count_collations (paper : List Int) (sequence : List Int) : Prop :=
  (d_check_sequence paper sequence) ∧ ((d_count_of paper sequence) ∧ (True))
theorem o_count_collations {P : Prog} [HasF P 0 fd0] [HasF P 238 fd238] [HasF P 239 fd239] [HasF P 240 fd240] [HasF P 241 fd241] [HasF P 242 fd242] [HasF P 279 fd279] [HasF P 280 fd280] [HasF P 281 fd281] [HasF P 285 fd285] [HasF P 286 fd286] [HasF P 366 fd366] [HasF P 367 fd367] [HasF P 368 fd368] [HasF P 381 fd381] [HasC P 2 (.int 6)] [HasC P 3 (.int 16)] (n : Nat) (h : MHp) (paper : List Int) (sequence : List Int) (D : d_count_collations paper sequence) : callN P (n + 9) 381 [(eT eI) paper, (eT eI) sequence] h = .ok (eI (v_count_collations paper sequence)) h := by
  refine call_p (fd := fd381) (e := eI) (V := v_count_collations paper sequence) [some ((eT eI) paper), some ((eT eI) sequence)] rfl rfl (nors_c (e := (eT eI)) (nors_c (e := (eT eI)) rfl)) rfl ?_
  unfold d_count_collations at D
  unfold v_count_collations
  refine xs_exp (ev_call (evs_cons (ev_var rfl) (evs_cons (ev_var rfl) evs_nil)) (o_check_sequence (n + 4) _ paper sequence D.1)) ?_
  exact xs_ret (ev_call (evs_cons (ev_var rfl) (evs_cons (ev_var rfl) evs_nil)) (o_count_of (n + 0) _ paper sequence D.2.1)) (rt_p)
/-- nth_collation(paper, sequence, index): 0 paper 1 sequence 2 index 3 found -/
def fd382 : FnD := ⟨3, 4, false,
  (.cons (.exp (.call 286 (.cons (.var 0) (.cons (.var 1) .nil)))) (.cons (.asg (.nm 3) (.call 367 (.cons (.var 0) (.cons (.var 1) .nil)))) (.cons (.ite (.not (.call 0 (.cons (.var 2) (.cons (.cst (.int 0)) (.cons (.bin .sub (.bif .len (.cons (.var 3) .nil)) (.cst (.int 1))) .nil))))) (.cons (.rai 1 (.cons (.cst (.str "index")) .nil)) .nil) .nil) (.cons (.ret (.ix (.var 3) (.var 2))) .nil))))⟩
/-- nth_collation -/
@[irreducible] def v_nth_collation (paper : List Int) (sequence : List Int) (index : Int) : List Int :=
  let found : List (List Int) := (v_all_collations paper sequence); if (!(v_is_whole (toA eI index) (0 : Int) ((found.length : Int) - (1 : Int)))) = true then ((default : List Int)) else ((gt found index))
@[irreducible] def d_nth_collation (paper : List Int) (sequence : List Int) (index : Int) : Prop :=
  (d_check_sequence paper sequence) ∧ ((d_all_collations paper sequence) ∧ (let found : List (List Int) := (v_all_collations paper sequence); (d_is_whole (toA eI index) (0 : Int) ((found.length : Int) - (1 : Int))) ∧ (((!(v_is_whole (toA eI index) (0 : Int) ((found.length : Int) - (1 : Int)))) = true → False) ∧ ((!(v_is_whole (toA eI index) (0 : Int) ((found.length : Int) - (1 : Int)))) = false → (InR found.length index) ∧ (True)))))
theorem o_nth_collation {P : Prog} [HasF P 0 fd0] [HasF P 238 fd238] [HasF P 239 fd239] [HasF P 240 fd240] [HasF P 241 fd241] [HasF P 242 fd242] [HasF P 279 fd279] [HasF P 280 fd280] [HasF P 281 fd281] [HasF P 285 fd285] [HasF P 286 fd286] [HasF P 366 fd366] [HasF P 367 fd367] [HasF P 382 fd382] [HasC P 2 (.int 6)] [HasC P 3 (.int 16)] (n : Nat) (h : MHp) (paper : List Int) (sequence : List Int) (index : Int) (D : d_nth_collation paper sequence index) : callN P (n + 8) 382 [(eT eI) paper, (eT eI) sequence, eI index] h = .ok ((eT eI) (v_nth_collation paper sequence index)) h := by
  refine call_p (fd := fd382) (e := (eT eI)) (V := v_nth_collation paper sequence index) [some ((eT eI) paper), some ((eT eI) sequence), some (eI index), none] rfl rfl (nors_c (e := (eT eI)) (nors_c (e := (eT eI)) (nors_c (e := eI) rfl))) rfl ?_
  unfold d_nth_collation at D
  unfold v_nth_collation
  refine xs_exp (ev_call (evs_cons (ev_var rfl) (evs_cons (ev_var rfl) evs_nil)) (o_check_sequence (n + 3) _ paper sequence D.1)) ?_
  let found : List (List Int) := (v_all_collations paper sequence)
  refine xs_asg [some ((eT eI) paper), some ((eT eI) sequence), some (eI index), some ((eL (eT eI)) found)] (ev_call (evs_cons (ev_var rfl) (evs_cons (ev_var rfl) evs_nil)) (o_all_collations (n + 0) _ paper sequence D.2.1)) rfl ?_
  refine xs_ite (evB_not (evB_of (ev_call (evs_cons (ev_var rfl) (evs_cons ev_cst (evs_cons (ev_bin (ev_bif (evs_cons (ev_var rfl) evs_nil) (b_lenL (e := (eT eI)) (l := found))) ev_cst o_sub) evs_nil))) (o_is_whole (n + 6) _ (toA eI index) (0 : Int) ((found.length : Int) - (1 : Int)) D.2.2.1)))) (fun hc => ?_) (fun hc => ?_)
  · have D_ := D.2.2.2.1 hc
    exact D_.elim
  · have D_2 := D.2.2.2.2 hc
    exact xs_ret (ev_ix (ev_var rfl) (ev_var rfl) (i_L (e := (eT eI)) (l := found) D_2.1)) (rt_p)
/-- index_of_collation(paper, sequence, value): 0 paper 1 sequence 2 value -/
def fd384 : FnD := ⟨3, 3, false,
  (.cons (.exp (.call 286 (.cons (.var 0) (.cons (.var 1) .nil)))) (.cons (.ite (.not (.call 374 (.cons (.var 0) (.cons (.var 1) (.cons (.var 2) .nil))))) (.cons (.ret (.cst .non)) .nil) .nil) (.cons (.ret (.mth .index (.call 367 (.cons (.var 0) (.cons (.var 1) .nil))) (.cons (.var 2) .nil))) .nil)))⟩
/-- index_of_collation -/
@[irreducible] def v_index_of_collation (paper : List Int) (sequence : List Int) (value : NV) : Option Int :=
  if (!(v_is_collation_of paper sequence value)) = true then ((none : Option Int)) else ((some (idx (v_all_collations paper sequence) (nTI value))))
@[irreducible] def d_index_of_collation (paper : List Int) (sequence : List Int) (value : NV) : Prop :=
  (d_check_sequence paper sequence) ∧ ((d_is_collation_of paper sequence value) ∧ (((!(v_is_collation_of paper sequence value)) = true → True) ∧ ((!(v_is_collation_of paper sequence value)) = false → (d_all_collations paper sequence) ∧ ((eA value = (eT eI) (nTI value)) ∧ (((nTI value) ∈ (v_all_collations paper sequence)) ∧ (True))))))
theorem o_index_of_collation {P : Prog} [HasF P 0 fd0] [HasF P 238 fd238] [HasF P 239 fd239] [HasF P 240 fd240] [HasF P 241 fd241] [HasF P 242 fd242] [HasF P 279 fd279] [HasF P 280 fd280] [HasF P 281 fd281] [HasF P 285 fd285] [HasF P 286 fd286] [HasF P 366 fd366] [HasF P 367 fd367] [HasF P 373 fd373] [HasF P 374 fd374] [HasF P 384 fd384] [HasC P 2 (.int 6)] [HasC P 3 (.int 16)] [HasC P 4 (.int 8)] (n : Nat) (h : MHp) (paper : List Int) (sequence : List Int) (value : NV) (D : d_index_of_collation paper sequence value) : callN P (n + 8) 384 [(eT eI) paper, (eT eI) sequence, eA value] h = .ok ((eO eI) (v_index_of_collation paper sequence value)) h := by
  refine call_p (fd := fd384) (e := (eO eI)) (V := v_index_of_collation paper sequence value) [some ((eT eI) paper), some ((eT eI) sequence), some (eA value)] rfl rfl (nors_c (e := (eT eI)) (nors_c (e := (eT eI)) (nors_c (e := eA) rfl))) rfl ?_
  unfold d_index_of_collation at D
  unfold v_index_of_collation
  refine xs_exp (ev_call (evs_cons (ev_var rfl) (evs_cons (ev_var rfl) evs_nil)) (o_check_sequence (n + 3) _ paper sequence D.1)) ?_
  refine xs_ite (evB_not (evB_of (ev_call (evs_cons (ev_var rfl) (evs_cons (ev_var rfl) (evs_cons (ev_var rfl) evs_nil))) (o_is_collation_of (n + 4) _ paper sequence value D.2.1)))) (fun hc => ?_) (fun hc => ?_)
  · exact xs_ret ev_cst (rt_p)
  · have D_2 := D.2.2.2 hc
    exact xs_ret (ev_mth (ev_call (evs_cons (ev_var rfl) (evs_cons (ev_var rfl) evs_nil)) (o_all_collations (n + 0) _ paper sequence D_2.1)) rfl (evs_cons (ev_cast (ev_var rfl) D_2.2.1) evs_nil) (m_index (e := (eT eI)) (l := (v_all_collations paper sequence)) (x := (nTI value)) D_2.2.2.1)) (rt_p)
/-- next_collation(paper, sequence, collation): 0 paper 1 sequence 2 collation 3 found 4 index -/
def fd385 : FnD := ⟨3, 5, false,
  (.cons (.exp (.call 286 (.cons (.var 0) (.cons (.var 1) .nil)))) (.cons (.ite (.not (.call 374 (.cons (.var 0) (.cons (.var 1) (.cons (.var 2) .nil))))) (.cons (.rai 1 (.cons (.cst (.str "collation")) .nil)) .nil) .nil) (.cons (.asg (.nm 3) (.call 367 (.cons (.var 0) (.cons (.var 1) .nil)))) (.cons (.asg (.nm 4) (.bin .add (.mth .index (.var 3) (.cons (.var 2) .nil)) (.cst (.int 1)))) (.cons (.ret (.ife (.cmp .lt (.var 4) (.bif .len (.cons (.var 3) .nil))) (.ix (.var 3) (.var 4)) (.cst .non))) .nil)))))⟩
/-- next_collation -/
@[irreducible] def v_next_collation (paper : List Int) (sequence : List Int) (collation : NV) : Option (List Int) :=
  if (!(v_is_collation_of paper sequence collation)) = true then ((default : Option (List Int))) else (let found : List (List Int) := (v_all_collations paper sequence); let index : Int := ((idx found (nTI collation)) + (1 : Int)); (if (decide (index < (found.length : Int))) = true then (some (gt found index)) else (none : Option (List Int))))
@[irreducible] def d_next_collation (paper : List Int) (sequence : List Int) (collation : NV) : Prop :=
  (d_check_sequence paper sequence) ∧ ((d_is_collation_of paper sequence collation) ∧ (((!(v_is_collation_of paper sequence collation)) = true → False) ∧ ((!(v_is_collation_of paper sequence collation)) = false → (d_all_collations paper sequence) ∧ (let found : List (List Int) := (v_all_collations paper sequence); (eA collation = (eT eI) (nTI collation)) ∧ (((nTI collation) ∈ found) ∧ (let index : Int := ((idx found (nTI collation)) + (1 : Int)); ((decide (index < (found.length : Int))) = true → (InR found.length index) ∧ (True)) ∧ (True)))))))
theorem o_next_collation {P : Prog} [HasF P 0 fd0] [HasF P 238 fd238] [HasF P 239 fd239] [HasF P 240 fd240] [HasF P 241 fd241] [HasF P 242 fd242] [HasF P 279 fd279] [HasF P 280 fd280] [HasF P 281 fd281] [HasF P 285 fd285] [HasF P 286 fd286] [HasF P 366 fd366] [HasF P 367 fd367] [HasF P 373 fd373] [HasF P 374 fd374] [HasF P 385 fd385] [HasC P 2 (.int 6)] [HasC P 3 (.int 16)] [HasC P 4 (.int 8)] (n : Nat) (h : MHp) (paper : List Int) (sequence : List Int) (collation : NV) (D : d_next_collation paper sequence collation) : callN P (n + 8) 385 [(eT eI) paper, (eT eI) sequence, eA collation] h = .ok ((eO (eT eI)) (v_next_collation paper sequence collation)) h := by
  refine call_p (fd := fd385) (e := (eO (eT eI))) (V := v_next_collation paper sequence collation) [some ((eT eI) paper), some ((eT eI) sequence), some (eA collation), none, none] rfl rfl (nors_c (e := (eT eI)) (nors_c (e := (eT eI)) (nors_c (e := eA) rfl))) rfl ?_
  unfold d_next_collation at D
  unfold v_next_collation
  refine xs_exp (ev_call (evs_cons (ev_var rfl) (evs_cons (ev_var rfl) evs_nil)) (o_check_sequence (n + 3) _ paper sequence D.1)) ?_
  refine xs_ite (evB_not (evB_of (ev_call (evs_cons (ev_var rfl) (evs_cons (ev_var rfl) (evs_cons (ev_var rfl) evs_nil))) (o_is_collation_of (n + 4) _ paper sequence collation D.2.1)))) (fun hc => ?_) (fun hc => ?_)
  · have D_ := D.2.2.1 hc
    exact D_.elim
  · have D_2 := D.2.2.2 hc
    let found : List (List Int) := (v_all_collations paper sequence)
    refine xs_asg [some ((eT eI) paper), some ((eT eI) sequence), some (eA collation), some ((eL (eT eI)) found), none] (ev_call (evs_cons (ev_var rfl) (evs_cons (ev_var rfl) evs_nil)) (o_all_collations (n + 0) _ paper sequence D_2.1)) rfl ?_
    let index : Int := ((idx found (nTI collation)) + (1 : Int))
    refine xs_asg [some ((eT eI) paper), some ((eT eI) sequence), some (eA collation), some ((eL (eT eI)) found), some (eI index)] (ev_bin (ev_mth (ev_var rfl) rfl (evs_cons (ev_cast (ev_var rfl) D_2.2.1) evs_nil) (m_index (e := (eT eI)) (l := found) (x := (nTI collation)) D_2.2.2.1)) ev_cst o_add) rfl ?_
    exact xs_ret (ev_ife (e := (eO (eT eI))) (x := (some (gt found index))) (y := (none : Option (List Int))) (evB_of (ev_cmp (ev_var rfl) (ev_bif (evs_cons (ev_var rfl) evs_nil) (b_lenL (e := (eT eI)) (l := found))) c_lt)) (fun hc => (fun D_3 => (ev_ix (ev_var rfl) (ev_var rfl) (i_L (e := (eT eI)) (l := found) D_3.1))) (D_2.2.2.2.1 hc)) (fun _ => ev_cst)) (rt_p)
end Qm

namespace Qm
/-- sequence_evidence(paper, sequence): 0 paper 1 sequence 2 lengths 3 left 4 told 5 length 6 start 7 pairs 8 many 9 leaf 10 other -/
def fd375 : FnD := ⟨2, 11, false,
  (.cons (.exp (.call 286 (.cons (.var 0) (.cons (.var 1) .nil)))) (.cons (.asg (.tp (.cons (.nm 2) (.cons (.nm 3) .nil))) (.call 241 (.cons (.var 0) (.cons (.var 1) .nil)))) (.cons (.asg (.nm 4) (.bif .tuple (.cons (.lc [5] (.bin .fdv (.var 5) (.cst (.int 2))) (.nm 5) (.seq (.var 2)) .nil) .nil))) (.cons (.ite (.cmp .eq (.var 3) (.cst (.int 0))) (.cons (.ret (.tup (.cons (.cst (.str "collation")) (.cons (.var 4) .nil)))) .nil) .nil) (.cons (.asg (.nm 6) (.bin .sub (.bif .len (.cons (.var 1) .nil)) (.var 3))) (.cons (.asg (.nm 7) (.lst true .nil)) (.cons (.for (.nm 8) (.rng (.cons (.cst (.int 2)) (.cons (.bin .add (.var 3) (.cst (.int 1))) (.cons (.cst (.int 2)) .nil)))) (.cons (.asg (.tp (.cons (.nm 9) (.cons (.nm 10) .nil))) (.call 238 (.cons (.var 0) (.cons (.sl (.var 1) (.some (.var 6)) (.some (.bin .add (.var 6) (.var 8)))) .nil)))) (.cons (.exp (.mth .append (.var 7) (.cons (.tup (.cons (.bin .add (.var 6) (.var 9)) (.cons (.bin .add (.var 6) (.var 10)) .nil))) .nil))) .nil))) (.cons (.ret (.tup (.cons (.cst (.str "rest")) (.cons (.var 4) (.cons (.bif .tuple (.cons (.var 7) .nil)) .nil))))) .nil))))))))⟩
@[irreducible] def v_sequence_evidence_L_ (paper : List Int) (sequence : List Int) (start : Int) (st_ : (List (Int × Int))) (many : Int) : (List (Int × Int)) :=
  let q2 : Int × Int := (gt ((v_conflict_of paper (cut sequence (some start) (some (start + many)))).getD default) 0, gt ((v_conflict_of paper (cut sequence (some start) (some (start + many)))).getD default) 1); let pairs2 : List (Int × Int) := st_ ++ [((start + q2.1), (start + q2.2))]; pairs2
@[irreducible] def d_sequence_evidence_L_ (paper : List Int) (sequence : List Int) (start : Int) (st_ : (List (Int × Int))) (many : Int) : Prop :=
  (d_conflict_of paper (cut sequence (some start) (some (start + many)))) ∧ (((v_conflict_of paper (cut sequence (some start) (some (start + many)))).isSome = true) ∧ ((((v_conflict_of paper (cut sequence (some start) (some (start + many)))).getD default).length = 2) ∧ (let q2 : Int × Int := (gt ((v_conflict_of paper (cut sequence (some start) (some (start + many)))).getD default) 0, gt ((v_conflict_of paper (cut sequence (some start) (some (start + many)))).getD default) 1); (st_.length < 16777216) ∧ (let pairs2 : List (Int × Int) := st_ ++ [((start + q2.1), (start + q2.2))]; True))))
/-- sequence_evidence -/
@[irreducible] def v_sequence_evidence (paper : List Int) (sequence : List Int) : NV :=
  let q : (List Int) × Int := (v_split_of paper sequence); let told : List Int := (q.1.map fun length => (length / (2 : Int))); if (decide (q.2 = (0 : Int))) = true then ((toA (eP2 eS (eT eI)) ((sv "collation"), told))) else (let start : Int := ((sequence.length : Int) - q.2); let pairs : List (Int × Int) := ([] : List (Int × Int)); let q3 : (List (Int × Int)) := List.foldl (v_sequence_evidence_L_ paper sequence start) (pairs : (List (Int × Int))) (rngC' (2 : Int) (q.2 + (1 : Int)) (2 : Int)); (toA (eP3 eS (eT eI) (eT (eP2 eI eI))) ((sv "rest"), told, q3)))
@[irreducible] def d_sequence_evidence (paper : List Int) (sequence : List Int) : Prop :=
  (d_check_sequence paper sequence) ∧ ((d_split_of paper sequence) ∧ (let q : (List Int) × Int := (v_split_of paper sequence); let told : List Int := (q.1.map fun length => (length / (2 : Int))); ((decide (q.2 = (0 : Int))) = true → True) ∧ ((decide (q.2 = (0 : Int))) = false → let start : Int := ((sequence.length : Int) - q.2); let pairs : List (Int × Int) := ([] : List (Int × Int)); (RngOk (2 : Int) (q.2 + (1 : Int))) ∧ ((FoldD (v_sequence_evidence_L_ paper sequence start) (d_sequence_evidence_L_ paper sequence start) (pairs : (List (Int × Int))) (rngC' (2 : Int) (q.2 + (1 : Int)) (2 : Int))) ∧ (let q3 : (List (Int × Int)) := List.foldl (v_sequence_evidence_L_ paper sequence start) (pairs : (List (Int × Int))) (rngC' (2 : Int) (q.2 + (1 : Int)) (2 : Int)); True)))))
theorem o_sequence_evidence {P : Prog} [HasF P 0 fd0] [HasF P 238 fd238] [HasF P 239 fd239] [HasF P 240 fd240] [HasF P 241 fd241] [HasF P 279 fd279] [HasF P 280 fd280] [HasF P 281 fd281] [HasF P 285 fd285] [HasF P 286 fd286] [HasF P 375 fd375] [HasC P 2 (.int 6)] [HasC P 3 (.int 16)] (n : Nat) (h : MHp) (paper : List Int) (sequence : List Int) (D : d_sequence_evidence paper sequence) : callN P (n + 5) 375 [(eT eI) paper, (eT eI) sequence] h = .ok (eA (v_sequence_evidence paper sequence)) h := by
  refine call_p (fd := fd375) (e := eA) (V := v_sequence_evidence paper sequence) [some ((eT eI) paper), some ((eT eI) sequence), none, none, none, none, none, none, none, none, none] rfl rfl (nors_c (e := (eT eI)) (nors_c (e := (eT eI)) rfl)) rfl ?_
  unfold d_sequence_evidence at D
  unfold v_sequence_evidence
  refine xs_exp (ev_call (evs_cons (ev_var rfl) (evs_cons (ev_var rfl) evs_nil)) (o_check_sequence (n + 0) _ paper sequence D.1)) ?_
  let q : (List Int) × Int := (v_split_of paper sequence)
  refine xs_asg [some ((eT eI) paper), some ((eT eI) sequence), some ((eT eI) q.1), some (eI q.2), none, none, none, none, none, none, none] (ev_call (evs_cons (ev_var rfl) (evs_cons (ev_var rfl) evs_nil)) (o_split_of (n + 0) _ paper sequence D.2.1)) rfl ?_
  let told : List Int := (q.1.map fun length => (length / (2 : Int)))
  refine xs_asg [some ((eT eI) paper), some ((eT eI) sequence), some ((eT eI) q.1), some (eI q.2), some ((eT eI) told), none, none, none, none, none, none] (ev_bif (evs_cons (ev_lc (e := eI) (g := eI) (xs := q.1) (f := fun length => (length / (2 : Int))) (evI_seqT (e := eI) (xs := q.1) (ev_var rfl)) rfl (fun length _ => ⟨[some ((eT eI) paper), some ((eT eI) sequence), some ((eT eI) q.1), some (eI q.2), none, some (eI length), none, none, none, none, none], rfl, (ev_bin (ev_var rfl) ev_cst (o_fdv (by decide)))⟩)) evs_nil) (b_tupL (e := eI) (l := (q.1.map fun length => (length / (2 : Int)))))) rfl ?_
  refine xs_ite (evB_of (ev_cmp (ev_var rfl) ev_cst (c_eq (e := eI) (a := q.2) (b := (0 : Int))))) (fun hc => ?_) (fun hc => ?_)
  · exact xs_ret (ev_tup (evs_cons ev_cst (evs_cons (ev_var rfl) evs_nil))) (rt_p)
  · have D_3 := D.2.2.2 hc
    let start : Int := ((sequence.length : Int) - q.2)
    refine xs_asg [some ((eT eI) paper), some ((eT eI) sequence), some ((eT eI) q.1), some (eI q.2), some ((eT eI) told), none, some (eI start), none, none, none, none] (ev_bin (ev_bif (evs_cons (ev_var rfl) evs_nil) (b_lenT (e := eI) (l := sequence))) (ev_var rfl) o_sub) rfl ?_
    let pairs : List (Int × Int) := ([] : List (Int × Int))
    refine xs_asg [some ((eT eI) paper), some ((eT eI) sequence), some ((eT eI) q.1), some (eI q.2), some ((eT eI) told), none, some (eI start), some (.ref 0), none, none, none] (ev_lstm evs_nil) rfl ?_
    refine xs_for (e := eI) (xs := (rngC' (2 : Int) (q.2 + (1 : Int)) (2 : Int))) (fun (w : (List (Int × Int))) (J : Jk) => [some ((eT eI) paper), some ((eT eI) sequence), some ((eT eI) q.1), some (eI q.2), some ((eT eI) told), none, some (eI start), some (.ref 0), J 8, J 9, J 10]) (fun (w : (List (Int × Int))) => [.lst (List.map (eP2 eI eI) w)]) (v_sequence_evidence_L_ paper sequence start) (d_sequence_evidence_L_ paper sequence start) (pairs : (List (Int × Int))) (fun n => ([some ((eT eI) paper), some ((eT eI) sequence), some ((eT eI) q.1), some (eI q.2), some ((eT eI) told), none, some (eI start), some (.ref 0), none, none, none] : Env).getD n none) (evI_rng (evs_cons ev_cst (evs_cons (ev_bin (ev_var rfl) ev_cst o_add) (evs_cons ev_cst evs_nil))) (range3 (by decide) (by decide) D_3.1)) rfl rfl (fun _ => rfl) D_3.2.1 ?_ ?_
    · intro st_ J_ many D
      refine ⟨[some ((eT eI) paper), some ((eT eI) sequence), some ((eT eI) q.1), some (eI q.2), some ((eT eI) told), none, some (eI start), some (.ref 0), some (eI many), J_ 9, J_ 10], rfl, ?_⟩
      unfold d_sequence_evidence_L_ at D
      unfold v_sequence_evidence_L_
      let q2 : Int × Int := (gt ((v_conflict_of paper (cut sequence (some start) (some (start + many)))).getD default) 0, gt ((v_conflict_of paper (cut sequence (some start) (some (start + many)))).getD default) 1)
      refine xs_asg [some ((eT eI) paper), some ((eT eI) sequence), some ((eT eI) q.1), some (eI q.2), some ((eT eI) told), none, some (eI start), some (.ref 0), some (eI many), some (eI q2.1), some (eI q2.2)] (ev_cast (ev_unO (e := (eT eI)) (o := (v_conflict_of paper (cut sequence (some start) (some (start + many))))) (ev_call (evs_cons (ev_var rfl) (evs_cons (ev_sl (ev_var rfl) (evO_some (ev_var rfl)) (evO_some (ev_bin (ev_var rfl) (ev_var rfl) o_add)) (s_T (e := eI) (l := sequence))) evs_nil)) (o_conflict_of (n + 3) _ paper (cut sequence (some start) (some (start + many))) D.1)) D.2.1) (tup2_of (e := eI) D.2.2.1)) rfl ?_
      let pairs2 : List (Int × Int) := st_ ++ [((start + q2.1), (start + q2.2))]
      refine xs_appT (e := (eP2 eI eI)) (l := st_) (y := ((start + q2.1), (start + q2.2))) [.lst (pairs2.map (eP2 eI eI))] rfl (ev_tup (evs_cons (ev_bin (ev_var rfl) (ev_var rfl) o_add) (evs_cons (ev_bin (ev_var rfl) (ev_var rfl) o_add) evs_nil))) rfl rfl D.2.2.2.1 rfl ?_
      exact xs_nil (nxG (fun n => ([some ((eT eI) paper), some ((eT eI) sequence), some ((eT eI) q.1), some (eI q.2), some ((eT eI) told), none, some (eI start), some (.ref 0), some (eI many), some (eI q2.1), some (eI q2.2)] : Env).getD n none) rfl rfl)
    let q3 : (List (Int × Int)) := List.foldl (v_sequence_evidence_L_ paper sequence start) (pairs : (List (Int × Int))) (rngC' (2 : Int) (q.2 + (1 : Int)) (2 : Int))
    intro J_2
    exact xs_ret (ev_tup (evs_cons ev_cst (evs_cons (ev_var rfl) (evs_cons (ev_bif (evs_cons (ev_var rfl) evs_nil) (b_tupR (e := (eP2 eI eI)) (l := q3) rfl)) evs_nil)))) (rt_p)
/-- parts(paper, sequence, start, many, pair): 0 paper 1 sequence 2 start 3 many 4 pair 5 leaf -/
def fd376 : FnD := ⟨5, 6, false,
  (.cons (.ite (.or (.cons (.not (.isi .tuple (.var 4))) (.cons (.cmp .ne (.bif .len (.cons (.var 4) .nil)) (.cst (.int 2))) .nil))) (.cons (.ret (.cst (.bl false))) .nil) .nil) (.cons (.ite (.or (.cons (.not (.bif .all (.cons (.lc [5] (.call 0 (.cons (.var 5) (.cons (.var 2) (.cons (.bin .sub (.bin .add (.var 2) (.var 3)) (.cst (.int 1))) .nil)))) (.nm 5) (.seq (.var 4)) .nil) .nil))) (.cons (.cmp .ge (.ix (.var 4) (.cst (.int 0))) (.ix (.var 4) (.cst (.int 1)))) .nil))) (.cons (.ret (.cst (.bl false))) .nil) .nil) (.cons (.ret (.and (.cons (.cmp .eq (.bin .add (.ix (.var 4) (.cst (.int 0))) (.ix (.var 4) (.cst (.int 1)))) (.bin .sub (.bin .add (.bin .mul (.cst (.int 2)) (.var 2)) (.var 3)) (.cst (.int 1)))) (.cons (.cmp .ne (.ix (.var 0) (.ix (.var 1) (.ix (.var 4) (.cst (.int 0))))) (.ix (.var 1) (.ix (.var 4) (.cst (.int 1))))) .nil)))) .nil)))⟩
/-- parts -/
@[irreducible] def v_parts (paper : List Int) (sequence : List Int) (start : Int) (many : Int) (pair : NV) : Bool :=
  if ((!(isY .tuple pair)) || !decide (((nT pair).length : Int) = (2 : Int))) = true then (false) else (if ((!(((nT pair).map fun leaf => (v_is_whole leaf start ((start + many) - (1 : Int)))).all id)) || decide ((nI (gt (nT pair) (1 : Int))) ≤ (nI (gt (nT pair) (0 : Int))))) = true then (false) else ((decide (((nI (gt (nT pair) (0 : Int))) + (nI (gt (nT pair) (1 : Int)))) = ((((2 : Int) * start) + many) - (1 : Int))) && !decide ((gt paper (gt sequence (nI (gt (nT pair) (0 : Int))))) = (gt sequence (nI (gt (nT pair) (1 : Int))))))))
@[irreducible] def d_parts (paper : List Int) (sequence : List Int) (start : Int) (many : Int) (pair : NV) : Prop :=
  ((!(isY .tuple pair)) = false → (eA pair = (eT eA) (nT pair)) ∧ (True)) ∧ ((((!(isY .tuple pair)) || !decide (((nT pair).length : Int) = (2 : Int))) = true → True) ∧ (((!(isY .tuple pair)) || !decide (((nT pair).length : Int) = (2 : Int))) = false → (eA pair = (eT eA) (nT pair)) ∧ ((∀ leaf ∈ (nT pair), (d_is_whole leaf start ((start + many) - (1 : Int))) ∧ (True)) ∧ (((!(((nT pair).map fun leaf => (v_is_whole leaf start ((start + many) - (1 : Int)))).all id)) = false → (eA pair = (eT eA) (nT pair)) ∧ ((InR (nT pair).length (0 : Int)) ∧ ((eA pair = (eT eA) (nT pair)) ∧ ((InR (nT pair).length (1 : Int)) ∧ ((eA (gt (nT pair) (0 : Int)) = eI (nI (gt (nT pair) (0 : Int)))) ∧ ((eA (gt (nT pair) (1 : Int)) = eI (nI (gt (nT pair) (1 : Int)))) ∧ (True))))))) ∧ ((((!(((nT pair).map fun leaf => (v_is_whole leaf start ((start + many) - (1 : Int)))).all id)) || decide ((nI (gt (nT pair) (1 : Int))) ≤ (nI (gt (nT pair) (0 : Int))))) = true → True) ∧ (((!(((nT pair).map fun leaf => (v_is_whole leaf start ((start + many) - (1 : Int)))).all id)) || decide ((nI (gt (nT pair) (1 : Int))) ≤ (nI (gt (nT pair) (0 : Int))))) = false → (eA pair = (eT eA) (nT pair)) ∧ ((InR (nT pair).length (0 : Int)) ∧ ((eA pair = (eT eA) (nT pair)) ∧ ((InR (nT pair).length (1 : Int)) ∧ ((eA (gt (nT pair) (0 : Int)) = eI (nI (gt (nT pair) (0 : Int)))) ∧ ((eA (gt (nT pair) (1 : Int)) = eI (nI (gt (nT pair) (1 : Int)))) ∧ (((decide (((nI (gt (nT pair) (0 : Int))) + (nI (gt (nT pair) (1 : Int)))) = ((((2 : Int) * start) + many) - (1 : Int)))) = true → (eA pair = (eT eA) (nT pair)) ∧ ((InR (nT pair).length (0 : Int)) ∧ ((eA (gt (nT pair) (0 : Int)) = eI (nI (gt (nT pair) (0 : Int)))) ∧ ((InR sequence.length (nI (gt (nT pair) (0 : Int)))) ∧ ((InR paper.length (gt sequence (nI (gt (nT pair) (0 : Int))))) ∧ ((eA pair = (eT eA) (nT pair)) ∧ ((InR (nT pair).length (1 : Int)) ∧ ((eA (gt (nT pair) (1 : Int)) = eI (nI (gt (nT pair) (1 : Int)))) ∧ ((InR sequence.length (nI (gt (nT pair) (1 : Int)))) ∧ (True)))))))))) ∧ (True)))))))))))))
theorem o_parts {P : Prog} [HasF P 0 fd0] [HasF P 376 fd376] (n : Nat) (h : MHp) (paper : List Int) (sequence : List Int) (start : Int) (many : Int) (pair : NV) (D : d_parts paper sequence start many pair) : callN P (n + 2) 376 [(eT eI) paper, (eT eI) sequence, eI start, eI many, eA pair] h = .ok (eB (v_parts paper sequence start many pair)) h := by
  refine call_p (fd := fd376) (e := eB) (V := v_parts paper sequence start many pair) [some ((eT eI) paper), some ((eT eI) sequence), some (eI start), some (eI many), some (eA pair), none] rfl rfl (nors_c (e := (eT eI)) (nors_c (e := (eT eI)) (nors_c (e := eI) (nors_c (e := eI) (nors_c (e := eA) rfl))))) rfl ?_
  unfold d_parts at D
  unfold v_parts
  refine xs_ite (evB_or (evBO_cons (evB_not (evB_of (ev_isi (ev_var rfl) isY_ok))) (fun hc => (fun D_ => (evBO_one (evB_of (ev_cmp (ev_bif (evs_cons (ev_cast (ev_var rfl) D_.1) evs_nil) (b_lenT (e := eA) (l := (nT pair)))) ev_cst (c_ne (e := eI) (a := ((nT pair).length : Int)) (b := (2 : Int))))))) (D.1 hc)))) (fun hc2 => ?_) (fun hc2 => ?_)
  · exact xs_ret ev_cst (rt_p)
  · have D_3 := D.2.2 hc2
    refine xs_ite (evB_or (evBO_cons (evB_not (evB_of (ev_bif (evs_cons (ev_lc (e := eA) (g := eB) (xs := (nT pair)) (f := fun leaf => (v_is_whole leaf start ((start + many) - (1 : Int)))) (evI_seqT (e := eA) (xs := (nT pair)) (ev_cast (ev_var rfl) D_3.1)) rfl (fun leaf hx => (fun D_4 => ⟨[some ((eT eI) paper), some ((eT eI) sequence), some (eI start), some (eI many), some (eA pair), some (eA leaf)], rfl, (ev_call (evs_cons (ev_var rfl) (evs_cons (ev_var rfl) (evs_cons (ev_bin (ev_bin (ev_var rfl) (ev_var rfl) o_add) ev_cst o_sub) evs_nil))) (o_is_whole (n + 0) _ leaf start ((start + many) - (1 : Int)) D_4.1))⟩) (D_3.2.1 leaf hx))) evs_nil) (b_all (l := ((nT pair).map fun leaf => (v_is_whole leaf start ((start + many) - (1 : Int))))))))) (fun hc => (fun D_5 => (evBO_one (evB_of (ev_cmp (ev_cast (ev_ix (ev_cast (ev_var rfl) D_5.1) ev_cst (i_T (e := eA) (l := (nT pair)) D_5.2.1)) D_5.2.2.2.2.1) (ev_cast (ev_ix (ev_cast (ev_var rfl) D_5.2.2.1) ev_cst (i_T (e := eA) (l := (nT pair)) D_5.2.2.2.1)) D_5.2.2.2.2.2.1) c_ge)))) (D_3.2.2.1 hc)))) (fun hc => ?_) (fun hc => ?_)
    · exact xs_ret ev_cst (rt_p)
    · have D_7 := D_3.2.2.2.2 hc
      exact xs_ret (ev_and (evA_cons (ev_cmp (ev_bin (ev_cast (ev_ix (ev_cast (ev_var rfl) D_7.1) ev_cst (i_T (e := eA) (l := (nT pair)) D_7.2.1)) D_7.2.2.2.2.1) (ev_cast (ev_ix (ev_cast (ev_var rfl) D_7.2.2.1) ev_cst (i_T (e := eA) (l := (nT pair)) D_7.2.2.2.1)) D_7.2.2.2.2.2.1) o_add) (ev_bin (ev_bin (ev_bin ev_cst (ev_var rfl) (o_mul (by first | exact .inl (by decide) | exact .inr (by decide)))) (ev_var rfl) o_add) ev_cst o_sub) (c_eq (e := eI) (a := ((nI (gt (nT pair) (0 : Int))) + (nI (gt (nT pair) (1 : Int))))) (b := ((((2 : Int) * start) + many) - (1 : Int))))) (fun hc => (fun D_8 => (evA_one (ev_cmp (ev_ix (ev_var rfl) (ev_ix (ev_var rfl) (ev_cast (ev_ix (ev_cast (ev_var rfl) D_8.1) ev_cst (i_T (e := eA) (l := (nT pair)) D_8.2.1)) D_8.2.2.1) (i_T (e := eI) (l := sequence) D_8.2.2.2.1)) (i_T (e := eI) (l := paper) D_8.2.2.2.2.1)) (ev_ix (ev_var rfl) (ev_cast (ev_ix (ev_cast (ev_var rfl) D_8.2.2.2.2.2.1) ev_cst (i_T (e := eA) (l := (nT pair)) D_8.2.2.2.2.2.2.1)) D_8.2.2.2.2.2.2.2.1) (i_T (e := eI) (l := sequence) D_8.2.2.2.2.2.2.2.2.1)) (c_ne (e := eI) (a := (gt paper (gt sequence (nI (gt (nT pair) (0 : Int)))))) (b := (gt sequence (nI (gt (nT pair) (1 : Int))))))))) (D_7.2.2.2.2.2.2.1 hc)))) (rt_p)
/-- shows_rest(paper, sequence, told, pairs): 0 paper 1 sequence 2 told 3 pairs 4 start 5 left 6 at 7 pair -/
def fd377 : FnD := ⟨4, 8, false,
  (.cons (.ite (.or (.cons (.not (.call 373 (.cons (.var 2) .nil))) (.cons (.not (.isi .tuple (.var 3))) .nil))) (.cons (.ret (.cst (.bl false))) .nil) .nil) (.cons (.asg (.nm 4) (.bin .mul (.cst (.int 2)) (.bif .sum (.cons (.var 2) .nil)))) (.cons (.asg (.nm 5) (.bin .sub (.bif .len (.cons (.var 1) .nil)) (.var 4))) (.cons (.ite (.or (.cons (.cmp .lt (.var 5) (.cst (.int 1))) (.cons (.not (.call 374 (.cons (.var 0) (.cons (.sl (.var 1) .no (.some (.var 4))) (.cons (.var 2) .nil))))) (.cons (.cmp .ne (.bif .len (.cons (.var 3) .nil)) (.bin .fdv (.var 5) (.cst (.int 2)))) .nil)))) (.cons (.ret (.cst (.bl false))) .nil) .nil) (.cons (.ret (.bif .all (.cons (.lc [6, 7] (.call 376 (.cons (.var 0) (.cons (.var 1) (.cons (.var 4) (.cons (.bin .add (.bin .mul (.cst (.int 2)) (.var 6)) (.cst (.int 2))) (.cons (.var 7) .nil)))))) (.tp (.cons (.nm 6) (.cons (.nm 7) .nil))) (.enu (.var 3)) .nil) .nil))) .nil)))))⟩
/-- shows_rest -/
@[irreducible] def v_shows_rest (paper : List Int) (sequence : List Int) (told : NV) (pairs : NV) : Bool :=
  if ((!(v_is_collation_form told)) || (!(isY .tuple pairs))) = true then (false) else (let start : Int := ((2 : Int) * (nTI told).sum); let left : Int := ((sequence.length : Int) - start); if (decide (left < (1 : Int)) || ((!(v_is_collation_of paper (cut sequence none (some start)) told)) || !decide (((nT pairs).length : Int) = (left / (2 : Int))))) = true then (false) else ((((enm 0 (nT pairs)).map fun p => (v_parts paper sequence start (((2 : Int) * p.1) + (2 : Int)) p.2)).all id)))
@[irreducible] def d_shows_rest (paper : List Int) (sequence : List Int) (told : NV) (pairs : NV) : Prop :=
  (d_is_collation_form told) ∧ ((((!(v_is_collation_form told)) || (!(isY .tuple pairs))) = true → True) ∧ (((!(v_is_collation_form told)) || (!(isY .tuple pairs))) = false → (eA told = (eT eI) (nTI told)) ∧ (let start : Int := ((2 : Int) * (nTI told).sum); let left : Int := ((sequence.length : Int) - start); ((decide (left < (1 : Int))) = false → (d_is_collation_of paper (cut sequence none (some start)) told) ∧ (((!(v_is_collation_of paper (cut sequence none (some start)) told)) = false → (eA pairs = (eT eA) (nT pairs)) ∧ (True)) ∧ (True))) ∧ (((decide (left < (1 : Int)) || ((!(v_is_collation_of paper (cut sequence none (some start)) told)) || !decide (((nT pairs).length : Int) = (left / (2 : Int))))) = true → True) ∧ ((decide (left < (1 : Int)) || ((!(v_is_collation_of paper (cut sequence none (some start)) told)) || !decide (((nT pairs).length : Int) = (left / (2 : Int))))) = false → (eA pairs = (eT eA) (nT pairs)) ∧ ((∀ p ∈ (enm 0 (nT pairs)), (d_parts paper sequence start (((2 : Int) * p.1) + (2 : Int)) p.2) ∧ (True)) ∧ (True)))))))
theorem o_shows_rest {P : Prog} [HasF P 0 fd0] [HasF P 238 fd238] [HasF P 239 fd239] [HasF P 373 fd373] [HasF P 374 fd374] [HasF P 376 fd376] [HasF P 377 fd377] [HasC P 4 (.int 8)] (n : Nat) (h : MHp) (paper : List Int) (sequence : List Int) (told : NV) (pairs : NV) (D : d_shows_rest paper sequence told pairs) : callN P (n + 4) 377 [(eT eI) paper, (eT eI) sequence, eA told, eA pairs] h = .ok (eB (v_shows_rest paper sequence told pairs)) h := by
  refine call_p (fd := fd377) (e := eB) (V := v_shows_rest paper sequence told pairs) [some ((eT eI) paper), some ((eT eI) sequence), some (eA told), some (eA pairs), none, none, none, none] rfl rfl (nors_c (e := (eT eI)) (nors_c (e := (eT eI)) (nors_c (e := eA) (nors_c (e := eA) rfl)))) rfl ?_
  unfold d_shows_rest at D
  unfold v_shows_rest
  refine xs_ite (evB_or (evBO_cons (evB_not (evB_of (ev_call (evs_cons (ev_var rfl) evs_nil) (o_is_collation_form (n + 1) _ told D.1)))) (fun _ => (evBO_one (evB_not (evB_of (ev_isi (ev_var rfl) isY_ok))))))) (fun hc2 => ?_) (fun hc2 => ?_)
  · exact xs_ret ev_cst (rt_p)
  · have D_3 := D.2.2 hc2
    let start : Int := ((2 : Int) * (nTI told).sum)
    refine xs_asg [some ((eT eI) paper), some ((eT eI) sequence), some (eA told), some (eA pairs), some (eI start), none, none, none] (ev_bin ev_cst (ev_bif (evs_cons (ev_cast (ev_var rfl) D_3.1) evs_nil) (b_sumT (l := (nTI told)))) (o_mul (by first | exact .inl (by decide) | exact .inr (by decide)))) rfl ?_
    let left : Int := ((sequence.length : Int) - start)
    refine xs_asg [some ((eT eI) paper), some ((eT eI) sequence), some (eA told), some (eA pairs), some (eI start), some (eI left), none, none] (ev_bin (ev_bif (evs_cons (ev_var rfl) evs_nil) (b_lenT (e := eI) (l := sequence))) (ev_var rfl) o_sub) rfl ?_
    refine xs_ite (evB_or (evBO_cons (evB_of (ev_cmp (ev_var rfl) ev_cst c_lt)) (fun hc => (fun D_4 => (evBO_cons (evB_not (evB_of (ev_call (evs_cons (ev_var rfl) (evs_cons (ev_sl (ev_var rfl) evO_no (evO_some (ev_var rfl)) (s_T (e := eI) (l := sequence))) (evs_cons (ev_var rfl) evs_nil))) (o_is_collation_of (n + 0) _ paper (cut sequence none (some start)) told D_4.1)))) (fun hc => (fun D_5 => (evBO_one (evB_of (ev_cmp (ev_bif (evs_cons (ev_cast (ev_var rfl) D_5.1) evs_nil) (b_lenT (e := eA) (l := (nT pairs)))) (ev_bin (ev_var rfl) ev_cst (o_fdv (by decide))) (c_ne (e := eI) (a := ((nT pairs).length : Int)) (b := (left / (2 : Int)))))))) (D_4.2.1 hc)))) (D_3.2.1 hc)))) (fun hc => ?_) (fun hc => ?_)
    · exact xs_ret ev_cst (rt_p)
    · have D_7 := D_3.2.2.2 hc
      exact xs_ret (ev_bif (evs_cons (ev_lc (e := (eP2 eI eA)) (g := eB) (xs := (enm 0 (nT pairs))) (f := fun p => (v_parts paper sequence start (((2 : Int) * p.1) + (2 : Int)) p.2)) (evI_enuT (e := eA) (xs := (nT pairs)) (ev_cast (ev_var rfl) D_7.1)) rfl (fun p hx => (fun D_8 => ⟨[some ((eT eI) paper), some ((eT eI) sequence), some (eA told), some (eA pairs), some (eI start), some (eI left), some (eI p.1), some (eA p.2)], rfl, (ev_call (evs_cons (ev_var rfl) (evs_cons (ev_var rfl) (evs_cons (ev_var rfl) (evs_cons (ev_bin (ev_bin ev_cst (ev_var rfl) (o_mul (by first | exact .inl (by decide) | exact .inr (by decide)))) ev_cst o_add) (evs_cons (ev_var rfl) evs_nil))))) (o_parts (n + 1) _ paper sequence start (((2 : Int) * p.1) + (2 : Int)) p.2 D_8.1))⟩) (D_7.2.1 p hx))) evs_nil) (b_all (l := ((enm 0 (nT pairs)).map fun p => (v_parts paper sequence start (((2 : Int) * p.1) + (2 : Int)) p.2))))) (rt_p)
/-- accepts_sequence(paper, sequence, value): 0 paper 1 sequence 2 value -/
def fd378 : FnD := ⟨3, 3, false,
  (.cons (.exp (.call 286 (.cons (.var 0) (.cons (.var 1) .nil)))) (.cons (.ite (.or (.cons (.not (.isi .tuple (.var 2))) (.cons (.not (.var 2)) (.cons (.not (.isi .str (.ix (.var 2) (.cst (.int 0))))) .nil)))) (.cons (.ret (.cst (.bl false))) .nil) .nil) (.cons (.ite (.cmp .eq (.ix (.var 2) (.cst (.int 0))) (.cst (.str "collation"))) (.cons (.ret (.and (.cons (.cmp .eq (.bif .len (.cons (.var 2) .nil)) (.cst (.int 2))) (.cons (.call 374 (.cons (.var 0) (.cons (.var 1) (.cons (.ix (.var 2) (.cst (.int 1))) .nil)))) .nil)))) .nil) .nil) (.cons (.ret (.and (.cons (.cmp .eq (.ix (.var 2) (.cst (.int 0))) (.cst (.str "rest"))) (.cons (.cmp .eq (.bif .len (.cons (.var 2) .nil)) (.cst (.int 3))) (.cons (.call 377 (.cons (.var 0) (.cons (.var 1) (.cons (.ix (.var 2) (.cst (.int 1))) (.cons (.ix (.var 2) (.cst (.int 2))) .nil))))) .nil))))) .nil))))⟩
/-- accepts_sequence -/
@[irreducible] def v_accepts_sequence (paper : List Int) (sequence : List Int) (value : NV) : Bool :=
  if ((!(isY .tuple value)) || ((!(!(nT value).isEmpty)) || (!(isY .str (gt (nT value) (0 : Int)))))) = true then (false) else (if (peq (eA (gt (nT value) (0 : Int))) (eS (sv "collation"))) = true then ((decide (((nT value).length : Int) = (2 : Int)) && (v_is_collation_of paper sequence (gt (nT value) (1 : Int))))) else ((peq (eA (gt (nT value) (0 : Int))) (eS (sv "rest")) && (decide (((nT value).length : Int) = (3 : Int)) && (v_shows_rest paper sequence (gt (nT value) (1 : Int)) (gt (nT value) (2 : Int)))))))
@[irreducible] def d_accepts_sequence (paper : List Int) (sequence : List Int) (value : NV) : Prop :=
  (d_check_sequence paper sequence) ∧ (((!(isY .tuple value)) = false → (eA value = (eT eA) (nT value)) ∧ (((!(!(nT value).isEmpty)) = false → (eA value = (eT eA) (nT value)) ∧ ((InR (nT value).length (0 : Int)) ∧ (True))) ∧ (True))) ∧ ((((!(isY .tuple value)) || ((!(!(nT value).isEmpty)) || (!(isY .str (gt (nT value) (0 : Int)))))) = true → True) ∧ (((!(isY .tuple value)) || ((!(!(nT value).isEmpty)) || (!(isY .str (gt (nT value) (0 : Int)))))) = false → (eA value = (eT eA) (nT value)) ∧ ((InR (nT value).length (0 : Int)) ∧ ((flatD (eA (gt (nT value) (0 : Int))) = true ∧ flatD (eS (sv "collation")) = true) ∧ (((peq (eA (gt (nT value) (0 : Int))) (eS (sv "collation"))) = true → (eA value = (eT eA) (nT value)) ∧ (((decide (((nT value).length : Int) = (2 : Int))) = true → (eA value = (eT eA) (nT value)) ∧ ((InR (nT value).length (1 : Int)) ∧ ((d_is_collation_of paper sequence (gt (nT value) (1 : Int))) ∧ (True)))) ∧ (True))) ∧ ((peq (eA (gt (nT value) (0 : Int))) (eS (sv "collation"))) = false → (eA value = (eT eA) (nT value)) ∧ ((InR (nT value).length (0 : Int)) ∧ ((flatD (eA (gt (nT value) (0 : Int))) = true ∧ flatD (eS (sv "rest")) = true) ∧ (((peq (eA (gt (nT value) (0 : Int))) (eS (sv "rest"))) = true → (eA value = (eT eA) (nT value)) ∧ (((decide (((nT value).length : Int) = (3 : Int))) = true → (eA value = (eT eA) (nT value)) ∧ ((InR (nT value).length (1 : Int)) ∧ ((eA value = (eT eA) (nT value)) ∧ ((InR (nT value).length (2 : Int)) ∧ ((d_shows_rest paper sequence (gt (nT value) (1 : Int)) (gt (nT value) (2 : Int))) ∧ (True)))))) ∧ (True))) ∧ (True)))))))))))
theorem o_accepts_sequence {P : Prog} [HasF P 0 fd0] [HasF P 238 fd238] [HasF P 239 fd239] [HasF P 279 fd279] [HasF P 280 fd280] [HasF P 281 fd281] [HasF P 285 fd285] [HasF P 286 fd286] [HasF P 373 fd373] [HasF P 374 fd374] [HasF P 376 fd376] [HasF P 377 fd377] [HasF P 378 fd378] [HasC P 2 (.int 6)] [HasC P 3 (.int 16)] [HasC P 4 (.int 8)] (n : Nat) (h : MHp) (paper : List Int) (sequence : List Int) (value : NV) (D : d_accepts_sequence paper sequence value) : callN P (n + 5) 378 [(eT eI) paper, (eT eI) sequence, eA value] h = .ok (eB (v_accepts_sequence paper sequence value)) h := by
  refine call_p (fd := fd378) (e := eB) (V := v_accepts_sequence paper sequence value) [some ((eT eI) paper), some ((eT eI) sequence), some (eA value)] rfl rfl (nors_c (e := (eT eI)) (nors_c (e := (eT eI)) (nors_c (e := eA) rfl))) rfl ?_
  unfold d_accepts_sequence at D
  unfold v_accepts_sequence
  refine xs_exp (ev_call (evs_cons (ev_var rfl) (evs_cons (ev_var rfl) evs_nil)) (o_check_sequence (n + 0) _ paper sequence D.1)) ?_
  refine xs_ite (evB_or (evBO_cons (evB_not (evB_of (ev_isi (ev_var rfl) isY_ok))) (fun hc => (fun D_ => (evBO_cons (evB_not (evB_v (ev_cast (ev_var rfl) D_.1) t_T)) (fun hc => (fun D_2 => (evBO_one (evB_not (evB_of (ev_isi (ev_ix (ev_cast (ev_var rfl) D_2.1) ev_cst (i_T (e := eA) (l := (nT value)) D_2.2.1)) isY_ok))))) (D_.2.1 hc)))) (D.2.1 hc)))) (fun hc2 => ?_) (fun hc2 => ?_)
  · exact xs_ret ev_cst (rt_p)
  · have D_4 := D.2.2.2 hc2
    refine xs_ite (evB_of (ev_cmp (ev_ix (ev_cast (ev_var rfl) D_4.1) ev_cst (i_T (e := eA) (l := (nT value)) D_4.2.1)) ev_cst (c_eqA (Nr.nor (e := eA) (gt (nT value) (0 : Int))) (Nr.nor (e := eS) (sv "collation")) D_4.2.2.1.1 D_4.2.2.1.2))) (fun hc => ?_) (fun hc => ?_)
    · have D_5 := D_4.2.2.2.1 hc
      exact xs_ret (ev_and (evA_cons (ev_cmp (ev_bif (evs_cons (ev_cast (ev_var rfl) D_5.1) evs_nil) (b_lenT (e := eA) (l := (nT value)))) ev_cst (c_eq (e := eI) (a := ((nT value).length : Int)) (b := (2 : Int)))) (fun hc => (fun D_7 => (evA_one (ev_call (evs_cons (ev_var rfl) (evs_cons (ev_var rfl) (evs_cons (ev_ix (ev_cast (ev_var rfl) D_7.1) ev_cst (i_T (e := eA) (l := (nT value)) D_7.2.1)) evs_nil))) (o_is_collation_of (n + 1) _ paper sequence (gt (nT value) (1 : Int)) D_7.2.2.1)))) (D_5.2.1 hc)))) (rt_p)
    · have D_6 := D_4.2.2.2.2 hc
      exact xs_ret (ev_and (evA_cons (ev_cmp (ev_ix (ev_cast (ev_var rfl) D_6.1) ev_cst (i_T (e := eA) (l := (nT value)) D_6.2.1)) ev_cst (c_eqA (Nr.nor (e := eA) (gt (nT value) (0 : Int))) (Nr.nor (e := eS) (sv "rest")) D_6.2.2.1.1 D_6.2.2.1.2)) (fun hc => (fun D_8 => (evA_cons (ev_cmp (ev_bif (evs_cons (ev_cast (ev_var rfl) D_8.1) evs_nil) (b_lenT (e := eA) (l := (nT value)))) ev_cst (c_eq (e := eI) (a := ((nT value).length : Int)) (b := (3 : Int)))) (fun hc => (fun D_9 => (evA_one (ev_call (evs_cons (ev_var rfl) (evs_cons (ev_var rfl) (evs_cons (ev_ix (ev_cast (ev_var rfl) D_9.1) ev_cst (i_T (e := eA) (l := (nT value)) D_9.2.1)) (evs_cons (ev_ix (ev_cast (ev_var rfl) D_9.2.2.1) ev_cst (i_T (e := eA) (l := (nT value)) D_9.2.2.2.1)) evs_nil)))) (o_shows_rest (n + 0) _ paper sequence (gt (nT value) (1 : Int)) (gt (nT value) (2 : Int)) D_9.2.2.2.2.1)))) (D_8.2.1 hc)))) (D_6.2.2.2.1 hc)))) (rt_p)
end Qm

namespace Qm
/-- law(_law_script): 0 _law_script 1 _law_stream_here 2 _law_paper_here 3 _law_sequence_here 4 _law_factors 5 _law_rest 6 _law_sheets 7 _law_factor 8 _law_due 9 _law_start 10 _law_pairs 11 _law_many 12 _law_rows 13 _law_k -/
def fd380 : FnD := ⟨1, 14, false,
  (.cons (.asg (.nm 1) (.call 229 (.cons (.var 0) .nil))) (.cons (.asg (.nm 2) (.call 245 (.cons (.var 1) .nil))) (.cons (.asg (.nm 3) (.call 292 (.cons (.var 1) (.cons (.var 2) (.cons (.ix (.lst false (.cons (.cst (.int 12)) (.cons (.cst (.int 12)) (.cons (.cst (.int 16)) .nil)))) (.call 230 (.cons (.var 1) (.cons (.cst (.int 3)) .nil)))) .nil))))) (.cons (.asg (.tp (.cons (.nm 4) (.cons (.nm 5) .nil))) (.call 294 (.cons (.var 2) (.cons (.var 3) .nil)))) (.cons (.asg (.nm 6) (.bif .tuple (.cons (.lc [7] (.bin .fdv (.bif .len (.cons (.var 7) .nil)) (.cst (.int 2))) (.nm 7) (.seq (.var 4)) .nil) .nil))) (.cons (.asg (.nm 8) (.tup (.cons (.cst (.str "collation")) (.cons (.var 6) .nil)))) (.cons (.ite (.var 5) (.cons (.asg (.nm 9) (.bin .sub (.bif .len (.cons (.var 3) .nil)) (.bif .len (.cons (.var 5) .nil)))) (.cons (.asg (.nm 10) (.tup .nil)) (.cons (.for (.nm 11) (.rng (.cons (.cst (.int 2)) (.cons (.bin .add (.bif .len (.cons (.var 5) .nil)) (.cst (.int 1))) (.cons (.cst (.int 2)) .nil)))) (.cons (.asg (.nm 12) (.lc [13] (.tup (.cons (.bin .add (.var 9) (.var 13)) (.cons (.bin .sub (.bin .sub (.bin .add (.var 9) (.var 11)) (.cst (.int 1))) (.var 13)) .nil))) (.nm 13) (.rng (.cons (.bin .fdv (.var 11) (.cst (.int 2))) .nil)) (.cons (.cmp .ne (.ix (.var 2) (.ix (.var 5) (.var 13))) (.ix (.var 5) (.bin .sub (.bin .sub (.var 11) (.cst (.int 1))) (.var 13)))) .nil))) (.cons (.asg (.nm 10) (.bin .add (.var 10) (.tup (.cons (.ix (.var 12) (.cst (.int 0))) .nil)))) .nil))) (.cons (.asg (.nm 8) (.tup (.cons (.cst (.str "rest")) (.cons (.var 6) (.cons (.var 10) .nil))))) .nil)))) .nil) (.cons (.ite (.or (.cons (.not (.call 282 (.cons (.call 375 (.cons (.var 2) (.cons (.var 3) .nil))) (.cons (.var 8) .nil)))) (.cons (.cmp .notN (.call 378 (.cons (.var 2) (.cons (.var 3) (.cons (.var 8) .nil)))) (.cst (.bl true))) .nil))) (.cons (.ret (.cst (.bl false))) .nil) .nil) (.cons (.ret (.bif .all (.cons (.lc [7] (.cmp .eq (.call 379 (.cons (.var 2) (.cons (.var 7) .nil))) (.lst false (.cons (.tup (.cons (.bin .fdv (.bif .len (.cons (.var 7) .nil)) (.cst (.int 2))) .nil)) .nil))) (.nm 7) (.seq (.var 4)) .nil) .nil))) .nil)))))))))⟩
@[irreducible] def v_law_k26_L_ (paper_here : List Int) (q : (List (List Int)) × (List Int)) (start : Int) (st_ : (List (Int × Int))) (many : Int) : (List (Int × Int)) :=
  let rows : List (Int × Int) := (((rng 0 (many / (2 : Int))).filter fun k => !decide ((gt paper_here (gt q.2 k)) = (gt q.2 ((many - (1 : Int)) - k)))).map fun k => ((start + k), (((start + many) - (1 : Int)) - k))); let pairs2 : List (Int × Int) := (st_ ++ [(gt rows (0 : Int))]); pairs2
@[irreducible] def d_law_k26_L_ (paper_here : List Int) (q : (List (List Int)) × (List Int)) (start : Int) (st_ : (List (Int × Int))) (many : Int) : Prop :=
  (RngOk 0 (many / (2 : Int))) ∧ ((∀ k ∈ (rng 0 (many / (2 : Int))), (InR q.2.length k) ∧ ((InR paper_here.length (gt q.2 k)) ∧ ((InR q.2.length ((many - (1 : Int)) - k)) ∧ (True)))) ∧ (let rows : List (Int × Int) := (((rng 0 (many / (2 : Int))).filter fun k => !decide ((gt paper_here (gt q.2 k)) = (gt q.2 ((many - (1 : Int)) - k)))).map fun k => ((start + k), (((start + many) - (1 : Int)) - k))); (InR rows.length (0 : Int)) ∧ ((BigOk st_.length [(gt rows (0 : Int))].length) ∧ (let pairs2 : List (Int × Int) := (st_ ++ [(gt rows (0 : Int))]); True))))
@[irreducible] def v_law_k26_L_2 (paper_here : List Int) (q : (List (List Int)) × (List Int)) (start2 : Int) (st_2 : (List (Int × Int))) (many2 : Int) : (List (Int × Int)) :=
  let rows2 : List (Int × Int) := (((rng 0 (many2 / (2 : Int))).filter fun k2 => !decide ((gt paper_here (gt q.2 k2)) = (gt q.2 ((many2 - (1 : Int)) - k2)))).map fun k2 => ((start2 + k2), (((start2 + many2) - (1 : Int)) - k2))); let pairs4 : List (Int × Int) := (st_2 ++ [(gt rows2 (0 : Int))]); pairs4
@[irreducible] def d_law_k26_L_2 (paper_here : List Int) (q : (List (List Int)) × (List Int)) (start2 : Int) (st_2 : (List (Int × Int))) (many2 : Int) : Prop :=
  (RngOk 0 (many2 / (2 : Int))) ∧ ((∀ k2 ∈ (rng 0 (many2 / (2 : Int))), (InR q.2.length k2) ∧ ((InR paper_here.length (gt q.2 k2)) ∧ ((InR q.2.length ((many2 - (1 : Int)) - k2)) ∧ (True)))) ∧ (let rows2 : List (Int × Int) := (((rng 0 (many2 / (2 : Int))).filter fun k2 => !decide ((gt paper_here (gt q.2 k2)) = (gt q.2 ((many2 - (1 : Int)) - k2)))).map fun k2 => ((start2 + k2), (((start2 + many2) - (1 : Int)) - k2))); (InR rows2.length (0 : Int)) ∧ ((BigOk st_2.length [(gt rows2 (0 : Int))].length) ∧ (let pairs4 : List (Int × Int) := (st_2 ++ [(gt rows2 (0 : Int))]); True))))
@[irreducible] def v_law_k26_L_3 (paper_here : List Int) (q : (List (List Int)) × (List Int)) (start3 : Int) (st_3 : (List (Int × Int))) (many3 : Int) : (List (Int × Int)) :=
  let rows3 : List (Int × Int) := (((rng 0 (many3 / (2 : Int))).filter fun k3 => !decide ((gt paper_here (gt q.2 k3)) = (gt q.2 ((many3 - (1 : Int)) - k3)))).map fun k3 => ((start3 + k3), (((start3 + many3) - (1 : Int)) - k3))); let pairs6 : List (Int × Int) := (st_3 ++ [(gt rows3 (0 : Int))]); pairs6
@[irreducible] def d_law_k26_L_3 (paper_here : List Int) (q : (List (List Int)) × (List Int)) (start3 : Int) (st_3 : (List (Int × Int))) (many3 : Int) : Prop :=
  (RngOk 0 (many3 / (2 : Int))) ∧ ((∀ k3 ∈ (rng 0 (many3 / (2 : Int))), (InR q.2.length k3) ∧ ((InR paper_here.length (gt q.2 k3)) ∧ ((InR q.2.length ((many3 - (1 : Int)) - k3)) ∧ (True)))) ∧ (let rows3 : List (Int × Int) := (((rng 0 (many3 / (2 : Int))).filter fun k3 => !decide ((gt paper_here (gt q.2 k3)) = (gt q.2 ((many3 - (1 : Int)) - k3)))).map fun k3 => ((start3 + k3), (((start3 + many3) - (1 : Int)) - k3))); (InR rows3.length (0 : Int)) ∧ ((BigOk st_3.length [(gt rows3 (0 : Int))].length) ∧ (let pairs6 : List (Int × Int) := (st_3 ++ [(gt rows3 (0 : Int))]); True))))
def g_law_k26 (ns : List Int) : Prop :=
  let s : Sm := st0 ns; (d_l_paper_245 s) ∧ (let r : (List Int) × Sm := v_l_paper_245 s; let paper_here : List Int := r.1; let r2 : Int × Sm := nx r.2 (3 : Int); (InR [(12 : Int), (12 : Int), (16 : Int)].length r2.1) ∧ ((d_l_sequence_292 r2.2 paper_here (gt [(12 : Int), (12 : Int), (16 : Int)] r2.1)) ∧ (let r3 : (List Int) × Sm := v_l_sequence_292 r2.2 paper_here (gt [(12 : Int), (12 : Int), (16 : Int)] r2.1); let sequence_here : List Int := r3.1; (d_l_split paper_here sequence_here) ∧ (let q : (List (List Int)) × (List Int) := (v_l_split paper_here sequence_here); let sheets : List Int := (q.1.map fun factor => ((factor.length : Int) / (2 : Int))); let due : SV × (List Int) := ((sv "collation"), sheets); (((!q.2.isEmpty) = true → let start3 : Int := ((sequence_here.length : Int) - (q.2.length : Int)); let pairs5 : List (Int × Int) := []; (RngOk (2 : Int) ((q.2.length : Int) + (1 : Int))) ∧ ((FoldD (v_law_k26_L_3 paper_here q start3) (d_law_k26_L_3 paper_here q start3) (pairs5 : (List (Int × Int))) (rngC' (2 : Int) ((q.2.length : Int) + (1 : Int)) (2 : Int))) ∧ (let q4 : (List (Int × Int)) := List.foldl (v_law_k26_L_3 paper_here q start3) (pairs5 : (List (Int × Int))) (rngC' (2 : Int) ((q.2.length : Int) + (1 : Int)) (2 : Int)); let due4 : SV × (List Int) × (List (Int × Int)) := ((sv "rest"), sheets, q4); True))) ∧ ((!q.2.isEmpty) = false → True)) ∧ (let q5 : NV := if (!q.2.isEmpty) = true then (let start3 : Int := ((sequence_here.length : Int) - (q.2.length : Int)); let pairs5 : List (Int × Int) := []; let q4 : (List (Int × Int)) := List.foldl (v_law_k26_L_3 paper_here q start3) (pairs5 : (List (Int × Int))) (rngC' (2 : Int) ((q.2.length : Int) + (1 : Int)) (2 : Int)); let due4 : SV × (List Int) × (List (Int × Int)) := ((sv "rest"), sheets, q4); (toA (eP3 eS (eT eI) (eT (eP2 eI eI))) due4)) else ((toA (eP2 eS (eT eI)) due)); (d_sequence_evidence paper_here sequence_here) ∧ ((bz (eA q5) = true) ∧ ((Dq 12 (eA q5)) ∧ ((Dq 12 (eA (v_sequence_evidence paper_here sequence_here))) ∧ (((!(lawEq (eA (v_sequence_evidence paper_here sequence_here)) (eA q5))) = false → (d_accepts_sequence paper_here sequence_here q5) ∧ (True)) ∧ ((((!(lawEq (eA (v_sequence_evidence paper_here sequence_here)) (eA q5))) || !decide ((v_accepts_sequence paper_here sequence_here q5) = true)) = true → (false = true) ∧ (True)) ∧ (((!(lawEq (eA (v_sequence_evidence paper_here sequence_here)) (eA q5))) || !decide ((v_accepts_sequence paper_here sequence_here q5) = true)) = false → (∀ factor2 ∈ q.1, (d_l_all_collations paper_here factor2) ∧ (True)) ∧ ((((q.1.map fun factor2 => decide ((v_l_all_collations paper_here factor2) = [[((factor2.length : Int) / (2 : Int))]])).all id) = true) ∧ (True)))))))))))))
theorem o_law_k26 {P : Prog} [HasF P 0 fd0] [HasF P 16 fd16] [HasF P 229 fd229] [HasF P 230 fd230] [HasF P 238 fd238] [HasF P 239 fd239] [HasF P 240 fd240] [HasF P 241 fd241] [HasF P 245 fd245] [HasF P 279 fd279] [HasF P 280 fd280] [HasF P 281 fd281] [HasF P 282 fd282] [HasF P 285 fd285] [HasF P 286 fd286] [HasF P 289 fd289] [HasF P 290 fd290] [HasF P 291 fd291] [HasF P 292 fd292] [HasF P 293 fd293] [HasF P 294 fd294] [HasF P 373 fd373] [HasF P 374 fd374] [HasF P 375 fd375] [HasF P 376 fd376] [HasF P 377 fd377] [HasF P 378 fd378] [HasF P 379 fd379] [HasF P 380 fd380] [HasC P 2 (.int 6)] [HasC P 3 (.int 16)] [HasC P 4 (.int 8)] (n : Nat) (ns : List Int) (D : g_law_k26 ns) : callN P (n + 15) 380 [.scr ns] [] = .ok (.bl true) [] := by
  refine call_law (fd := fd380) (V := true) [some (.scr ns), none, none, none, none, none, none, none, none, none, none, none, none, none] rfl rfl rfl ?_
  unfold g_law_k26 at D
  let s : Sm := st0 ns
  refine xs_asg [some (.scr ns), some (.ref 0), none, none, none, none, none, none, none, none, none, none, none, none] (ev_call (evs_cons (ev_var rfl) evs_nil) o_stream) rfl ?_
  let r : (List Int) × Sm := v_l_paper_245 s
  let paper_here : List Int := r.1
  refine xs_asg [some (.scr ns), some (.ref 0), some ((eT eI) paper_here), none, none, none, none, none, none, none, none, none, none, none] (ev_call (evs_cons (ev_var rfl) evs_nil) (o_l_paper_245 (n + 12) _ _ D.1)) rfl ?_
  let r2 : Int × Sm := nx r.2 (3 : Int)
  let r3 : (List Int) × Sm := v_l_sequence_292 r2.2 paper_here (gt [(12 : Int), (12 : Int), (16 : Int)] r2.1)
  let sequence_here : List Int := r3.1
  refine xs_asg [some (.scr ns), some (.ref 0), some ((eT eI) paper_here), some ((eT eI) sequence_here), none, none, none, none, none, none, none, none, none, none] (ev_call (evs_cons (ev_var rfl) (evs_cons (ev_var rfl) (evs_cons (ev_ix (ev_lst (evs_cons ev_cst (evs_cons ev_cst (evs_cons ev_cst evs_nil)))) (ev_call (evs_cons (ev_var rfl) (evs_cons ev_cst evs_nil)) (o_next (⟨by decide, by decide⟩))) (i_L (e := eI) (l := [(12 : Int), (12 : Int), (16 : Int)]) D.2.1)) evs_nil))) (o_l_sequence_292 (n + 10) _ _ paper_here (gt [(12 : Int), (12 : Int), (16 : Int)] r2.1) D.2.2.1)) rfl ?_
  let q : (List (List Int)) × (List Int) := (v_l_split paper_here sequence_here)
  refine xs_asg [some (.scr ns), some (.ref 0), some ((eT eI) paper_here), some ((eT eI) sequence_here), some ((eT (eT eI)) q.1), some ((eT eI) q.2), none, none, none, none, none, none, none, none] (ev_call (evs_cons (ev_var rfl) (evs_cons (ev_var rfl) evs_nil)) (o_l_split (n + 11) _ paper_here sequence_here D.2.2.2.1)) rfl ?_
  let sheets : List Int := (q.1.map fun factor => ((factor.length : Int) / (2 : Int)))
  refine xs_asg [some (.scr ns), some (.ref 0), some ((eT eI) paper_here), some ((eT eI) sequence_here), some ((eT (eT eI)) q.1), some ((eT eI) q.2), some ((eT eI) sheets), none, none, none, none, none, none, none] (ev_bif (evs_cons (ev_lc (e := (eT eI)) (g := eI) (xs := q.1) (f := fun factor => ((factor.length : Int) / (2 : Int))) (evI_seqT (e := (eT eI)) (xs := q.1) (ev_var rfl)) rfl (fun factor _ => ⟨[some (.scr ns), some (.ref 0), some ((eT eI) paper_here), some ((eT eI) sequence_here), some ((eT (eT eI)) q.1), some ((eT eI) q.2), none, some ((eT eI) factor), none, none, none, none, none, none], rfl, (ev_bin (ev_bif (evs_cons (ev_var rfl) evs_nil) (b_lenT (e := eI) (l := factor))) ev_cst (o_fdv (by decide)))⟩)) evs_nil) (b_tupL (e := eI) (l := (q.1.map fun factor => ((factor.length : Int) / (2 : Int)))))) rfl ?_
  let due : SV × (List Int) := ((sv "collation"), sheets)
  refine xs_asg [some (.scr ns), some (.ref 0), some ((eT eI) paper_here), some ((eT eI) sequence_here), some ((eT (eT eI)) q.1), some ((eT eI) q.2), some ((eT eI) sheets), none, some ((eP2 eS (eT eI)) due), none, none, none, none, none] (ev_tup (evs_cons ev_cst (evs_cons (ev_var rfl) evs_nil))) rfl ?_
  refine xs_join (S1 := (let start3 : Int := ((sequence_here.length : Int) - (q.2.length : Int)); let pairs5 : List (Int × Int) := []; let q4 : (List (Int × Int)) := List.foldl (v_law_k26_L_3 paper_here q start3) (pairs5 : (List (Int × Int))) (rngC' (2 : Int) ((q.2.length : Int) + (1 : Int)) (2 : Int)); let due4 : SV × (List Int) × (List (Int × Int)) := ((sv "rest"), sheets, q4); (toA (eP3 eS (eT eI) (eT (eP2 eI eI))) due4))) (S2 := ((toA (eP2 eS (eT eI)) due))) (fun (w3 : NV) (J : Jk) => [some (.scr ns), some (.ref 0), some ((eT eI) paper_here), some ((eT eI) sequence_here), some ((eT (eT eI)) q.1), some ((eT eI) q.2), some ((eT eI) sheets), none, some (eA w3), J 9, J 10, J 11, J 12, none]) (fun (w3 : NV) => (eM r3.2 :: [])) (evB_v (ev_var rfl) t_T) (fun hc => ?_) (fun hc => ?_) ?_
  · have D_12 := D.2.2.2.2.1.1 hc
    let start3 : Int := ((sequence_here.length : Int) - (q.2.length : Int))
    refine xs_asg [some (.scr ns), some (.ref 0), some ((eT eI) paper_here), some ((eT eI) sequence_here), some ((eT (eT eI)) q.1), some ((eT eI) q.2), some ((eT eI) sheets), none, some ((eP2 eS (eT eI)) due), some (eI start3), none, none, none, none] (ev_bin (ev_bif (evs_cons (ev_var rfl) evs_nil) (b_lenT (e := eI) (l := sequence_here))) (ev_bif (evs_cons (ev_var rfl) evs_nil) (b_lenT (e := eI) (l := q.2))) o_sub) rfl ?_
    let pairs5 : List (Int × Int) := []
    refine xs_asg [some (.scr ns), some (.ref 0), some ((eT eI) paper_here), some ((eT eI) sequence_here), some ((eT (eT eI)) q.1), some ((eT eI) q.2), some ((eT eI) sheets), none, some ((eP2 eS (eT eI)) due), some (eI start3), some ((eT (eP2 eI eI)) pairs5), none, none, none] (ev_tup evs_nil) rfl ?_
    refine xs_for (e := eI) (xs := (rngC' (2 : Int) ((q.2.length : Int) + (1 : Int)) (2 : Int))) (fun (w4 : (List (Int × Int))) (J : Jk) => [some (.scr ns), some (.ref 0), some ((eT eI) paper_here), some ((eT eI) sequence_here), some ((eT (eT eI)) q.1), some ((eT eI) q.2), some ((eT eI) sheets), none, some ((eP2 eS (eT eI)) due), some (eI start3), some ((eT (eP2 eI eI)) w4), J 11, J 12, none]) (fun (w4 : (List (Int × Int))) => (eM r3.2 :: [])) (v_law_k26_L_3 paper_here q start3) (d_law_k26_L_3 paper_here q start3) (pairs5 : (List (Int × Int))) (fun n => ([some (.scr ns), some (.ref 0), some ((eT eI) paper_here), some ((eT eI) sequence_here), some ((eT (eT eI)) q.1), some ((eT eI) q.2), some ((eT eI) sheets), none, some ((eP2 eS (eT eI)) due), some (eI start3), some ((eT (eP2 eI eI)) pairs5), none, none, none] : Env).getD n none) (evI_rng (evs_cons ev_cst (evs_cons (ev_bin (ev_bif (evs_cons (ev_var rfl) evs_nil) (b_lenT (e := eI) (l := q.2))) ev_cst o_add) (evs_cons ev_cst evs_nil))) (range3 (by decide) (by decide) D_12.1)) rfl rfl (fun _ => rfl) D_12.2.1 ?_ ?_
    · intro st_3 J_5 many3 D
      refine ⟨[some (.scr ns), some (.ref 0), some ((eT eI) paper_here), some ((eT eI) sequence_here), some ((eT (eT eI)) q.1), some ((eT eI) q.2), some ((eT eI) sheets), none, some ((eP2 eS (eT eI)) due), some (eI start3), some ((eT (eP2 eI eI)) st_3), some (eI many3), J_5 12, none], rfl, ?_⟩
      unfold d_law_k26_L_3 at D
      unfold v_law_k26_L_3
      let rows3 : List (Int × Int) := (((rng 0 (many3 / (2 : Int))).filter fun k3 => !decide ((gt paper_here (gt q.2 k3)) = (gt q.2 ((many3 - (1 : Int)) - k3)))).map fun k3 => ((start3 + k3), (((start3 + many3) - (1 : Int)) - k3)))
      refine xs_asg [some (.scr ns), some (.ref 0), some ((eT eI) paper_here), some ((eT eI) sequence_here), some ((eT (eT eI)) q.1), some ((eT eI) q.2), some ((eT eI) sheets), none, some ((eP2 eS (eT eI)) due), some (eI start3), some ((eT (eP2 eI eI)) st_3), some (eI many3), some ((eL (eP2 eI eI)) rows3), none] (ev_lcf (e := eI) (g := (eP2 eI eI)) (xs := (rng 0 (many3 / (2 : Int)))) (p := fun k3 => !decide ((gt paper_here (gt q.2 k3)) = (gt q.2 ((many3 - (1 : Int)) - k3)))) (f := fun k3 => ((start3 + k3), (((start3 + many3) - (1 : Int)) - k3))) (evI_rng (evs_cons (ev_bin (ev_var rfl) ev_cst (o_fdv (by decide))) evs_nil) (range1 D.1)) rfl (fun k3 hx => (fun D_15 => ⟨[some (.scr ns), some (.ref 0), some ((eT eI) paper_here), some ((eT eI) sequence_here), some ((eT (eT eI)) q.1), some ((eT eI) q.2), some ((eT eI) sheets), none, some ((eP2 eS (eT eI)) due), some (eI start3), some ((eT (eP2 eI eI)) st_3), some (eI many3), J_5 12, some (eI k3)], rfl, (evB_of (ev_cmp (ev_ix (ev_var rfl) (ev_ix (ev_var rfl) (ev_var rfl) (i_T (e := eI) (l := q.2) D_15.1)) (i_T (e := eI) (l := paper_here) D_15.2.1)) (ev_ix (ev_var rfl) (ev_bin (ev_bin (ev_var rfl) ev_cst o_sub) (ev_var rfl) o_sub) (i_T (e := eI) (l := q.2) D_15.2.2.1)) (c_ne (e := eI) (a := (gt paper_here (gt q.2 k3))) (b := (gt q.2 ((many3 - (1 : Int)) - k3)))))), (fun _ => (ev_tup (evs_cons (ev_bin (ev_var rfl) (ev_var rfl) o_add) (evs_cons (ev_bin (ev_bin (ev_bin (ev_var rfl) (ev_var rfl) o_add) ev_cst o_sub) (ev_var rfl) o_sub) evs_nil))))⟩) (D.2.1 k3 hx))) rfl ?_
      let pairs6 : List (Int × Int) := (st_3 ++ [(gt rows3 (0 : Int))])
      refine xs_asg [some (.scr ns), some (.ref 0), some ((eT eI) paper_here), some ((eT eI) sequence_here), some ((eT (eT eI)) q.1), some ((eT eI) q.2), some ((eT eI) sheets), none, some ((eP2 eS (eT eI)) due), some (eI start3), some ((eT (eP2 eI eI)) pairs6), some (eI many3), some ((eL (eP2 eI eI)) rows3), none] (ev_bin (ev_var rfl) (ev_tup (evs_cons (ev_ix (ev_var rfl) ev_cst (i_L (e := (eP2 eI eI)) (l := rows3) D.2.2.1)) evs_nil)) (o_addT (e := (eP2 eI eI)) (a := st_3) (b := [(gt rows3 (0 : Int))]) D.2.2.2.1)) rfl ?_
      exact xs_nil (nxG (fun n => ([some (.scr ns), some (.ref 0), some ((eT eI) paper_here), some ((eT eI) sequence_here), some ((eT (eT eI)) q.1), some ((eT eI) q.2), some ((eT eI) sheets), none, some ((eP2 eS (eT eI)) due), some (eI start3), some ((eT (eP2 eI eI)) pairs6), some (eI many3), some ((eL (eP2 eI eI)) rows3), none] : Env).getD n none) rfl rfl)
    let q4 : (List (Int × Int)) := List.foldl (v_law_k26_L_3 paper_here q start3) (pairs5 : (List (Int × Int))) (rngC' (2 : Int) ((q.2.length : Int) + (1 : Int)) (2 : Int))
    intro J_6
    let due4 : SV × (List Int) × (List (Int × Int)) := ((sv "rest"), sheets, q4)
    refine xs_asg [some (.scr ns), some (.ref 0), some ((eT eI) paper_here), some ((eT eI) sequence_here), some ((eT (eT eI)) q.1), some ((eT eI) q.2), some ((eT eI) sheets), none, some ((eP3 eS (eT eI) (eT (eP2 eI eI))) due4), some (eI start3), some ((eT (eP2 eI eI)) q4), J_6 11, J_6 12, none] (ev_tup (evs_cons ev_cst (evs_cons (ev_var rfl) (evs_cons (ev_var rfl) evs_nil)))) rfl ?_
    exact xs_nil (nxJ (fun n => ([some (.scr ns), some (.ref 0), some ((eT eI) paper_here), some ((eT eI) sequence_here), some ((eT (eT eI)) q.1), some ((eT eI) q.2), some ((eT eI) sheets), none, some ((eP3 eS (eT eI) (eT (eP2 eI eI))) due4), some (eI start3), some ((eT (eP2 eI eI)) q4), J_6 11, J_6 12, none] : Env).getD n none) rfl rfl)
  · exact xs_nil (nxJ (fun n => ([some (.scr ns), some (.ref 0), some ((eT eI) paper_here), some ((eT eI) sequence_here), some ((eT (eT eI)) q.1), some ((eT eI) q.2), some ((eT eI) sheets), none, some ((eP2 eS (eT eI)) due), none, none, none, none, none] : Env).getD n none) rfl rfl)
  let q5 : NV := if (!q.2.isEmpty) = true then (let start3 : Int := ((sequence_here.length : Int) - (q.2.length : Int)); let pairs5 : List (Int × Int) := []; let q4 : (List (Int × Int)) := List.foldl (v_law_k26_L_3 paper_here q start3) (pairs5 : (List (Int × Int))) (rngC' (2 : Int) ((q.2.length : Int) + (1 : Int)) (2 : Int)); let due4 : SV × (List Int) × (List (Int × Int)) := ((sv "rest"), sheets, q4); (toA (eP3 eS (eT eI) (eT (eP2 eI eI))) due4)) else ((toA (eP2 eS (eT eI)) due))
  intro J_7
  refine xs_ite' (evB_or (evBO_cons (evB_not (evB_of (ev_call (evs_cons (ev_call (evs_cons (ev_var rfl) (evs_cons (ev_var rfl) evs_nil)) (o_sequence_evidence (n + 9) _ paper_here sequence_here D.2.2.2.2.2.1)) (evs_cons (ev_var rfl) evs_nil)) (o_equal' 12 (n + 0) _ (eA (v_sequence_evidence paper_here sequence_here)) (eA q5) D.2.2.2.2.2.2.2.1 D.2.2.2.2.2.2.2.2.1 D.2.2.2.2.2.2.1)))) (fun hc => (fun D_17 => (evBO_one (evB_of (ev_cmp (ev_call (evs_cons (ev_var rfl) (evs_cons (ev_var rfl) (evs_cons (ev_var rfl) evs_nil))) (o_accepts_sequence (n + 9) _ paper_here sequence_here q5 D_17.1)) ev_cst c_notBB)))) (D.2.2.2.2.2.2.2.2.2.1 hc)))) (fun hc2 => ?_) (fun hc2 => ?_)
  · have D_18 := D.2.2.2.2.2.2.2.2.2.2.1 hc2
    exact xs_ret ev_cst (rt_p (congrArg eB D_18.1))
  · have D_19 := D.2.2.2.2.2.2.2.2.2.2.2 hc2
    exact xs_ret (ev_bif (evs_cons (ev_lc (e := (eT eI)) (g := eB) (xs := q.1) (f := fun factor2 => decide ((v_l_all_collations paper_here factor2) = [[((factor2.length : Int) / (2 : Int))]])) (evI_seqT (e := (eT eI)) (xs := q.1) (ev_var rfl)) rfl (fun factor2 hx => (fun D_20 => ⟨[some (.scr ns), some (.ref 0), some ((eT eI) paper_here), some ((eT eI) sequence_here), some ((eT (eT eI)) q.1), some ((eT eI) q.2), some ((eT eI) sheets), some ((eT eI) factor2), some (eA q5), J_7 9, J_7 10, J_7 11, J_7 12, none], rfl, (ev_cmp (ev_call (evs_cons (ev_var rfl) (evs_cons (ev_var rfl) evs_nil)) (o_l_all_collations (n + 11) _ paper_here factor2 D_20.1)) (ev_lst (evs_cons (ev_tup (evs_cons (ev_bin (ev_bif (evs_cons (ev_var rfl) evs_nil) (b_lenT (e := eI) (l := factor2))) ev_cst (o_fdv (by decide))) evs_nil)) evs_nil)) (c_eq (e := (eL (eT eI))) (a := (v_l_all_collations paper_here factor2)) (b := [[((factor2.length : Int) / (2 : Int))]])))⟩) (D_19.1 factor2 hx))) evs_nil) (b_all (l := (q.1.map fun factor2 => decide ((v_l_all_collations paper_here factor2) = [[((factor2.length : Int) / (2 : Int))]]))))) (rt_p (congrArg eB D_19.2.1))
def lawK_k26 : Nat := 15
end Qm

/-! F7: collations are runs of factors. -/
namespace Fac
open Qm
section
variable {θ : Int → Int}
/-- the sheets of some gatherings -/
def shs (fs : List (List Int)) : List Int := fs.map fun f => (f.length : Int) / 2
theorem head_flat {β : Type} {f : Nat → List β} : ∀ (n i : Nat) , i < n → (∀ j, j < i → f j = []) → f i ≠ [] → (((List.range n).map f).flatten).head? = (f i).head? := fun n i hi h0 h1 => by
  have e : List.range n = List.range i ++ (List.range (n - i)).map (fun k => i + k) := by
    conv => lhs; rw [show n = i + (n - i) from by omega, List.range_add]
  rw [e, List.map_append, List.flatten_append]
  have e0 : ((List.range i).map f).flatten = [] := by
    rw [List.flatten_eq_nil_iff]
    intro l hl
    obtain ⟨j, hj, rfl⟩ := List.mem_map.mp hl
    exact h0 j (List.mem_range.mp hj)
  rw [e0, List.nil_append, show n - i = (n - i - 1) + 1 from by omega, List.range_succ_eq_map, List.map_cons, List.map_cons, List.flatten_cons, Nat.add_zero]
  cases h : f i with
  | nil => exact (h1 h).elim
  | cons a l => rfl
theorem cols_head (hθ : ∀ x, θ (θ x) = x) (s : List Int) : Co θ s → (cols θ s).head? = some (shs (fac θ s).1) := by
  refine fac_ind (θ := θ) (C := fun s => Co θ s → (cols θ s).head? = some (shs (fac θ s).1)) (fun s h c => ?_) (fun s h ih c => ?_) s
  · have e := (co_iff hθ s).mp c
    rw [fac_zero h] at e
    have e : s = [] := e
    subst e
    rw [cols_nil, fac_zero h]; rfl
  · obtain ⟨g, hl, hn⟩ := sh_pos h
    have hne : s ≠ [] := fun e => by
      have := g.ge2
      rw [e] at this
      simp at this
    have c2 := (co_drop hθ c hne).2
    have ih := ih c2
    have g2 := g.ge2
    have g1 := g.2.1
    rw [List.length_take, Nat.min_eq_left hl] at g1 g2
    have ei : 2 * (sh θ s / 2 - 1 + 1) = sh θ s := by omega
    have et : turn θ s (sh θ s / 2 - 1) = (cols θ (s.drop (sh θ s))).map (((sh θ s / 2 - 1 + 1 : Nat) : Int) :: ·) := by
      unfold turn
      rw [ei, if_pos g]
    rw [cols_ne hne, head_flat _ (sh θ s / 2 - 1) (by omega) (fun j hj => ?_) ?_, et, List.head?_map, ih, fac_pos h]
    · show some (_ :: _) = some (_ :: _)
      congr 2
      show ((sh θ s / 2 - 1 + 1 : Nat) : Int) = ((s.take (sh θ s)).length : Int) / 2
      rw [List.length_take, Nat.min_eq_left hl]
      omega
    · rw [et]
      intro e
      rw [List.map_eq_nil_iff] at e
      rw [e] at ih
      cases ih
    · unfold turn
      rw [if_neg (hn (2 * (j + 1)) (by omega))]
theorem col_app {c : List Int} {xs : List (List Int)} (h : ∀ f ∈ xs, G θ f) (t : List Int) : Col θ (shs xs ++ c) (xs.flatten ++ t) ↔ Col θ c t := by
  induction xs with
  | nil => exact Iff.rfl
  | cons x r ih =>
    have gx := h x List.mem_cons_self
    have g1 := gx.2.1
    have g2 := gx.ge2
    have e : 2 * ((x.length : Int) / 2).toNat = x.length := by omega
    show (0 < (x.length : Int) / 2 ∧ G θ (((x ++ r.flatten) ++ t).take (2 * ((x.length : Int) / 2).toNat)) ∧ 2 * ((x.length : Int) / 2).toNat ≤ ((x ++ r.flatten) ++ t).length ∧ Col θ (shs r ++ c) (((x ++ r.flatten) ++ t).drop (2 * ((x.length : Int) / 2).toNat))) ↔ _
    rw [e, List.append_assoc, List.take_left, List.drop_left, ih fun f hf => h f (List.mem_cons_of_mem _ hf)]
    refine ⟨fun q => q.2.2.2, fun q => ⟨by omega, gx, by simp, q⟩⟩
theorem col_shs {xs : List (List Int)} (h : ∀ f ∈ xs, G θ f) : Col θ (shs xs) xs.flatten := by
  have := (col_app (θ := θ) (c := []) h []).mpr rfl
  rwa [List.append_nil, List.append_nil] at this
theorem sum_shs {xs : List (List Int)} (h : ∀ f ∈ xs, f.length % 2 = 0) : 2 * (shs xs).sum = (xs.flatten.length : Int) := by
  induction xs with
  | nil => rfl
  | cons x r ih =>
    have := ih fun f hf => h f (List.mem_cons_of_mem _ hf)
    have := h x List.mem_cons_self
    unfold shs at *
    rw [List.map_cons, List.sum_cons, List.flatten_cons, List.length_append]
    omega
/-- factors joined -/
theorem col_join {xs ms zs : List (List Int)} (hx : ∀ f ∈ xs, G θ f) (hm : ∀ f ∈ ms, G θ f) (hz : ∀ f ∈ zs, G θ f) (hn : ms ≠ []) : Col θ (shs xs ++ (shs ms).sum :: shs zs) (xs.flatten ++ (ms.flatten ++ zs.flatten)) ↔ G θ ms.flatten := by
  rw [col_app hx]
  have e := sum_shs (xs := ms) fun f hf => (hm f hf).2.1
  have e2 : 2 * ((shs ms).sum).toNat = ms.flatten.length := by omega
  have hp : 0 < ms.flatten.length := by
    cases ms with
    | nil => exact (hn rfl).elim
    | cons a r =>
      have := (hm a List.mem_cons_self).pos
      rw [List.flatten_cons, List.length_append]; omega
  show (0 < (shs ms).sum ∧ G θ ((ms.flatten ++ zs.flatten).take (2 * ((shs ms).sum).toNat)) ∧ 2 * ((shs ms).sum).toNat ≤ (ms.flatten ++ zs.flatten).length ∧ Col θ (shs zs) ((ms.flatten ++ zs.flatten).drop (2 * ((shs ms).sum).toNat))) ↔ _
  rw [e2, List.take_left, List.drop_left]
  exact ⟨fun q => q.2.1, fun q => ⟨by omega, q, by simp, col_shs hz⟩⟩
theorem rf_flat : ∀ xs : List (List Int), rf θ xs.flatten = (xs.reverse.map (rf θ)).flatten
  | [] => rfl
  | x :: r => by rw [List.flatten_cons, rf_app, rf_flat r, List.reverse_cons, List.map_append, List.flatten_append]; simp
/-- some primes joined are a gathering exactly if they are the same read from their end -/
theorem run_pal (hθ : ∀ x, θ (θ x) = x) {ms : List (List Int)} (hm : ∀ f ∈ ms, Pr θ f) (hn : ms ≠ []) : G θ ms.flatten ↔ ms = ms.reverse := by
  have f0 : fac θ ms.flatten = (ms, []) := by
    have := fac_app (θ := θ) ms [] hm
    rw [List.append_nil, fac_zero (show sh θ [] = 0 from rfl)] at this
    simpa using this
  constructor
  · intro g
    have := fac_rf hθ (s := ms.flatten) (by rw [f0])
    rw [g.2.2, f0] at this
    exact congrArg Prod.fst this
  · intro e
    refine ⟨fun z => ?_, ?_, ?_⟩
    · cases ms with
      | nil => exact hn rfl
      | cons a r =>
        have := (hm a List.mem_cons_self).1.pos
        have z := congrArg List.length z
        rw [List.flatten_cons, List.length_append, List.length_nil] at z
        omega
    · have := sum_shs (xs := ms) fun f hf => (hm f hf).1.2.1
      omega
    · rw [rf_flat, ← e]
      congr 1
      exact (List.map_congr_left (g := id) fun f hf => (hm f hf).1.2.2).trans (List.map_id _)
end
end Fac

/-! D0: what the laws of factors draw. -/
namespace Qm
open Fac
def papers9 : List (List Int) := [[0], [1, 0], [0, 1], [1, 0, 2], [0, 2, 1], [1, 0, 3, 2], [0, 1, 2], [4, 3, 2, 1, 0], [1, 0, 2, 5, 4, 3]]
def goodPb (p : List Int) : Bool := decide (1 ≤ p.length) && decide (p.length ≤ 6) && p.all (fun x => decide (0 ≤ x) && decide (x < p.length)) && (List.range p.length).all fun i => decide (gt p (gt p (i : Int)) = (i : Int))
theorem goodP_of {p : List Int} (h : goodPb p = true) : GoodP p := by
  unfold goodPb at h
  rw [Bool.and_eq_true, Bool.and_eq_true, Bool.and_eq_true] at h
  obtain ⟨⟨⟨h1, h2⟩, h3⟩, h4⟩ := h
  refine ⟨of_decide_eq_true h1, of_decide_eq_true h2, fun x hx => ?_, fun i i0 i1 => ?_⟩
  · have := List.all_eq_true.mp h3 x hx
    rw [Bool.and_eq_true] at this
    exact ⟨of_decide_eq_true this.1, of_decide_eq_true this.2⟩
  · have := of_decide_eq_true (List.all_eq_true.mp h4 i.toNat (List.mem_range.mpr (by omega)))
    rwa [show ((i.toNat : Nat) : Int) = i from by omega] at this
theorem papers9_good : ∀ p ∈ papers9, GoodP p := fun p hp => goodP_of (List.all_eq_true.mp (show papers9.all goodPb = true by decide +kernel) p hp)
theorem l_paper9 (s : Sm) : d_l_paper_245 s ∧ GoodP (v_l_paper_245 s).1 ∧ (v_l_paper_245 s).1 ∈ papers9 := by
  have h1 := nx_ge s (m := 9) (by decide)
  have h2 := nx_lt s (m := 9) (by decide)
  have r : InR papers9.length (nx s 9).1 := inR h1 h2
  have m : (v_l_paper_245 s).1 ∈ papers9 := by
    unfold v_l_paper_245
    exact gt_mem r
  refine ⟨?_, papers9_good _ m, m⟩
  unfold d_l_paper_245
  exact ⟨r, trivial⟩
theorem l_marks_ok (s : Sm) {p : List Int} (g : GoodP p) {m : Int} (h0 : 0 ≤ m) (h1 : m ≤ 1000) : d_l_marks s p m ∧ GoodS p (v_l_marks s p m).1 ∧ ((v_l_marks s p m).1.length : Int) = m := by
  have l1 := g.l1
  have l6 := g.l6
  refine ⟨?_, ?_, ?_⟩
  · unfold d_l_marks
    exact ⟨rngOk (by omega) (by omega) (by omega) (by omega), fun k _ t => ⟨drOk (by omega) (by omega), trivial⟩, trivial⟩
  · unfold v_l_marks
    dsimp only
    exact mapS_all fun t k _ => ⟨nx_ge t (by omega), nx_lt t (by omega)⟩
  · unfold v_l_marks
    dsimp only
    rw [mapS_len, len_rng]
    omega
theorem book_turn {p : List Int} (g : GoodP p) {most : Int} (hm : 0 ≤ most) (hm2 : most ≤ 100) {st : List Int × Sm} (h : GoodS p st.1) (hl : (st.1.length : Int) ≤ most) (t : Int) :
    d_l_book_L_ p most st t ∧ GoodS p (v_l_book_L_ p most st t).1 ∧ ((v_l_book_L_ p most st t).1.length : Int) ≤ most := by
  unfold d_l_book_L_ v_l_book_L_
  have n0 := nx_ge st.2 (m := 3) (by decide)
  have n1 := nx_lt st.2 (m := 3) (by decide)
  obtain ⟨d1, g1, e1⟩ := l_marks_ok (nx st.2 3).2 g (m := 1 + (nx st.2 3).1) (by omega) (by omega)
  dsimp only
  generalize v_l_marks (nx st.2 3).2 p (1 + (nx st.2 3).1) = r3 at g1 e1 ⊢
  have e2 : v_l_reflected_289 p r3.1 = rf (th p) r3.1 := v_rf2 g1
  have gp : GoodS p (r3.1 ++ v_l_reflected_289 p r3.1) := by rw [e2]; exact g1.app (g1.rf g)
  have lp : (r3.1 ++ v_l_reflected_289 p r3.1).length ≤ 6 := by rw [e2, List.length_append, len_rf]; omega
  have lr : (v_l_reflected_289 p r3.1).length ≤ 3 := by rw [e2, len_rf]; omega
  generalize (if (!st.1.isEmpty) = true then (decide ((nx r3.2 3).1 = 0), (nx r3.2 3).2) else (false, r3.2)) = r5
  have gq : GoodS p (if r5.1 = true then cut st.1 (some (-2)) none else r3.1 ++ v_l_reflected_289 p r3.1) ∧ (if r5.1 = true then cut st.1 (some (-2)) none else r3.1 ++ v_l_reflected_289 p r3.1).length ≤ 200 := by
    split
    · have := len_cut (l := st.1) (a := some (-2)) (b := none)
      exact ⟨h.cut _ _, by omega⟩
    · exact ⟨gp, by omega⟩
  generalize (if r5.1 = true then cut st.1 (some (-2)) none else r3.1 ++ v_l_reflected_289 p r3.1) = q at gq ⊢
  generalize (if (!st.1.isEmpty) = true then (decide ((nx r5.2 4).1 = 0), (nx r5.2 4).2) else (false, r5.2)) = r7
  have gq2 : GoodS p (if r7.1 = true then st.1 else q) ∧ (if r7.1 = true then st.1 else q).length ≤ 200 := by
    split
    · exact ⟨h, by omega⟩
    · exact gq
  generalize (if r7.1 = true then st.1 else q) = q2 at gq2 ⊢
  refine ⟨⟨d1, d_rf2 g1, bigOk (by omega) (by omega), ⟨fun _ => ⟨bigOk (by omega) (by omega), trivial⟩, fun _ => trivial⟩, trivial⟩, ?_, ?_⟩
  · split
    · exact h.app gq2.1
    · exact h
  · split
    · rename_i c
      have := of_decide_eq_true c
      rw [List.length_append]; omega
    · exact hl
theorem l_book_ok (s : Sm) {p : List Int} (g : GoodP p) {most : Int} (hm : 0 ≤ most) (hm2 : most ≤ 100) : d_l_book s p most ∧ GoodS p (v_l_book s p most).1 ∧ ((v_l_book s p most).1.length : Int) ≤ most := by
  have n0 := nx_ge s (m := 4) (by decide)
  have n1 := nx_lt s (m := 4) (by decide)
  have key := fold_inv (step := v_l_book_L_ p most) (D := d_l_book_L_ p most) (fun _ st => GoodS p st.1 ∧ (st.1.length : Int) ≤ most) (xs := rng 0 (1 + (nx s 4).1)) (s := ([], (nx s 4).2)) ⟨GoodS.nil, hm⟩ (fun x r st I => by
    obtain ⟨a, b, c⟩ := book_turn g hm hm2 I.1 I.2 x
    exact ⟨a, b, c⟩)
  unfold d_l_book v_l_book
  exact ⟨⟨rngOk (by omega) (by omega) (by omega) (by omega), key.1, trivial⟩, key.2.1, key.2.2⟩
theorem l_seq_ok (s : Sm) {p : List Int} (g : GoodP p) {most : Int} (hm : 0 ≤ most) (hm2 : most ≤ 100) : d_l_sequence_292 s p most ∧ GoodS p (v_l_sequence_292 s p most).1 ∧ ((v_l_sequence_292 s p most).1.length : Int) ≤ most := by
  obtain ⟨d0, g0, l0⟩ := l_book_ok s g hm hm2
  unfold d_l_sequence_292 v_l_sequence_292
  dsimp only
  generalize v_l_book s p most = r at g0 l0 ⊢
  generalize nx r.2 5 = r2
  have n0 := nx_ge r2.2 (m := most + 1) (by omega)
  have n1 := nx_lt r2.2 (m := most + 1) (by omega)
  obtain ⟨d1, g1, l1⟩ := l_marks_ok (nx r2.2 (most + 1)).2 g n0 (by omega)
  have gq : GoodS p (if decide (r2.1 = 0) = true then ((v_l_marks (nx r2.2 (most + 1)).2 p (nx r2.2 (most + 1)).1).1, (v_l_marks (nx r2.2 (most + 1)).2 p (nx r2.2 (most + 1)).1).2) else (r.1, r2.2)).1 ∧
      ((if decide (r2.1 = 0) = true then ((v_l_marks (nx r2.2 (most + 1)).2 p (nx r2.2 (most + 1)).1).1, (v_l_marks (nx r2.2 (most + 1)).2 p (nx r2.2 (most + 1)).1).2) else (r.1, r2.2)).1.length : Int) ≤ most := by
    split
    · exact ⟨g1, by dsimp only; omega⟩
    · exact ⟨g0, l0⟩
  generalize (if decide (r2.1 = 0) = true then ((v_l_marks (nx r2.2 (most + 1)).2 p (nx r2.2 (most + 1)).1).1, (v_l_marks (nx r2.2 (most + 1)).2 p (nx r2.2 (most + 1)).1).2) else (r.1, r2.2)) = q at gq ⊢
  obtain ⟨gq, lq⟩ := gq
  have m0 := nx_ge q.2 (m := 4) (by decide)
  have m1 := nx_lt q.2 (m := 4) (by decide)
  obtain ⟨d2, g2, l2⟩ := l_marks_ok (nx q.2 4).2 g m0 (by omega)
  have gq2 : GoodS p (if decide (r2.1 = 1) = true then (cut (q.1 ++ (v_l_marks (nx q.2 4).2 p (nx q.2 4).1).1) none (some most), (v_l_marks (nx q.2 4).2 p (nx q.2 4).1).2) else (q.1, q.2)).1 ∧
      ((if decide (r2.1 = 1) = true then (cut (q.1 ++ (v_l_marks (nx q.2 4).2 p (nx q.2 4).1).1) none (some most), (v_l_marks (nx q.2 4).2 p (nx q.2 4).1).2) else (q.1, q.2)).1.length : Int) ≤ most := by
    split
    · refine ⟨(gq.app g2).cut _ _, ?_⟩
      dsimp only
      rw [cut_take _ hm, List.length_take]
      omega
    · exact ⟨gq, lq⟩
  generalize (if decide (r2.1 = 1) = true then (cut (q.1 ++ (v_l_marks (nx q.2 4).2 p (nx q.2 4).1).1) none (some most), (v_l_marks (nx q.2 4).2 p (nx q.2 4).1).2) else (q.1, q.2)) = q2 at gq2 ⊢
  obtain ⟨gq2, lq2⟩ := gq2
  refine ⟨⟨d0, ⟨fun _ => ⟨drOk (by omega) (by omega), d1, trivial⟩, fun _ => trivial⟩, ⟨fun _ => ⟨d2, bigOk (by omega) (by omega), trivial⟩, fun _ => trivial⟩, trivial⟩, ?_, ?_⟩
  · split
    · exact gq2.cut _ _
    · exact gq2
  · split
    · have := len_cut (l := q2.1) (a := some (nx q2.2 3).1) (b := none)
      dsimp only; omega
    · exact lq2
end Qm

/-! B28: is_collation and its kin, in plain terms. -/
namespace Qm
open Fac
theorem isTup_eq {x : NV} (h : isTup x = true) : x = toA (eT eA) (nT x) := nv_ext (nT_eq h)
/-- a tuple of ints -/
theorem tupI_of {x : NV} (h : isTup x = true) (hi : ∀ y ∈ nT x, isInt y = true) : x = toA (eT eI) (nTI x) := by
  refine nv_ext ?_
  rw [nT_eq h]
  show PV.tup _ = PV.tup _
  congr 1
  unfold nTI
  rw [List.map_map]
  exact List.map_congr_left fun y hy => nI_eq (hi y hy)
theorem dForm (x : NV) : d_is_collation_form x := by
  unfold d_is_collation_form
  exact ⟨fun h => ⟨nT_eq (by rw [← isY_tup]; exact h), fun _ _ => ⟨dW _ _ _, trivial⟩, trivial⟩, trivial⟩
theorem form_true {x : NV} (h : v_is_collation_form x = true) : x = toA (eT eI) (nTI x) ∧ ∀ k ∈ nTI x, 1 ≤ k ∧ k ≤ 8 := by
  unfold v_is_collation_form at h
  rw [Bool.and_eq_true, isY_tup, all_id_map, List.all_eq_true] at h
  obtain ⟨h1, h2⟩ := h
  refine ⟨tupI_of h1 fun y hy => (isW_true (h2 y hy)).1, fun k hk => ?_⟩
  unfold nTI at hk
  obtain ⟨y, hy, rfl⟩ := List.mem_map.mp hk
  exact (isW_true (h2 y hy)).2
theorem form_I (c : List Int) : v_is_collation_form (toA (eT eI) c) = decide (∀ k ∈ c, 1 ≤ k ∧ k ≤ 8) := by
  unfold v_is_collation_form
  rw [show isY .tuple (toA (eT eI) c) = true from rfl, Bool.true_and, nT_toA, all_id_map, List.all_map]
  by_cases h : ∀ k ∈ c, 1 ≤ k ∧ k ≤ 8
  · rw [decide_eq_true h, List.all_eq_true]
    intro k hk
    have := h k hk
    simp [this]
  · rw [decide_eq_false h]
    refine Bool.eq_false_iff.mpr fun q => h fun k hk => ?_
    have := List.all_eq_true.mp q k hk
    simp at this
    exact this
instance colDec (θ : Int → Int) : ∀ c s, Decidable (Col θ c s)
  | [], s => inferInstanceAs (Decidable (s = []))
  | k :: c, s => by
    have := colDec θ c (s.drop (2 * k.toNat))
    unfold Col
    infer_instance
theorem col_sum {θ : Int → Int} : ∀ {c s : List Int}, Col θ c s → 2 * c.sum = s.length ∧ ∀ k ∈ c, 1 ≤ k ∧ 2 * k ≤ s.length
  | [], s, h => by
    have h : s = [] := h
    subst h
    exact ⟨rfl, fun k hk => by simp at hk⟩
  | k :: c, s, h => by
    obtain ⟨h1, h2, h3, h4⟩ := h
    obtain ⟨i1, i2⟩ := col_sum h4
    rw [List.length_drop] at i1 i2
    refine ⟨by rw [List.sum_cons]; omega, fun j hj => ?_⟩
    rcases List.mem_cons.mp hj with rfl | hj
    · omega
    · have := i2 j hj; omega
theorem sum_nonneg : ∀ {c : List Int}, (∀ k ∈ c, 1 ≤ k) → 0 ≤ c.sum
  | [], _ => Int.le_refl _
  | k :: c, h => by
    have := sum_nonneg fun j hj => h j (List.mem_cons_of_mem _ hj)
    have := h k List.mem_cons_self
    rw [List.sum_cons]; omega
theorem parts {p s : List Int} (g : GoodP p) (gs : GoodS p s) (hs : s.length ≤ 900) : ∀ (c : List Int) (a : Nat), (∀ k ∈ c, 1 ≤ k) → (a : Int) + 2 * c.sum = s.length →
    FoldXD (v_is_collation_of_L_ p s) (d_is_collation_of_L_ p s) (a : Int) (c.map (toA eI)) ∧ sumK (foldX (v_is_collation_of_L_ p s) (a : Int) (c.map (toA eI))) (fun _ => true) = decide (Col (th p) c (s.drop a))
  | [], a, _, e => by
    refine ⟨trivial, ?_⟩
    have e : (a : Int) + 2 * 0 = s.length := e
    have : s.drop a = [] := List.drop_of_length_le (by omega)
    rw [this]
    rfl
  | k :: c, a, hk, e => by
    have k1 := hk k List.mem_cons_self
    have hc := fun j hj => hk j (List.mem_cons_of_mem k hj)
    have sn := sum_nonneg hc
    rw [List.sum_cons] at e
    obtain ⟨i1, i2⟩ := parts g gs hs c (a + 2 * k.toNat) hc (by omega)
    have lc : (cut s (some (a : Int)) (some ((a : Int) + 2 * k))).length ≤ 1000 := Nat.le_trans len_cut (by omega)
    have ec : cut s (some (a : Int)) (some ((a : Int) + 2 * k)) = (s.drop a).take (2 * k.toNat) := by
      rw [cut2 (by omega) (by omega)]
      congr 1
      omega
    have hv : v_is_gathering_of p (cut s (some (a : Int)) (some ((a : Int) + 2 * nI (toA eI k)))) = decide (G (th p) ((s.drop a).take (2 * k.toNat))) := by
      rw [nI_toA, v_gath g (gs.cut _ _), ec]
    have e1 : v_is_collation_of_L_ p s (a : Int) (toA eI k) = if G (th p) ((s.drop a).take (2 * k.toNat)) then .inr (((a + 2 * k.toNat : Nat)) : Int) else .inl false := by
      unfold v_is_collation_of_L_
      rw [hv]
      by_cases q : G (th p) ((s.drop a).take (2 * k.toNat))
      · rw [decide_eq_true q, if_pos q, if_neg (by decide), nI_toA]
        show Sum.inr _ = Sum.inr _
        congr 1
        omega
      · rw [decide_eq_false q, if_neg q, if_pos (by decide)]
    constructor
    · refine ⟨?_, ?_⟩
      · unfold d_is_collation_of_L_
        exact ⟨rfl, d_gath g (gs.cut _ _) (by rw [nI_toA]; exact lc), fun _ => trivial, fun _ => ⟨rfl, trivial⟩⟩
      · rw [e1]
        by_cases q : G (th p) ((s.drop a).take (2 * k.toNat))
        · rw [if_pos q]; exact i1
        · rw [if_neg q]; trivial
    · rw [List.map_cons, foldX, e1]
      by_cases q : G (th p) ((s.drop a).take (2 * k.toNat))
      · rw [if_pos q]
        show sumK (foldX _ _ _) _ = _
        rw [i2]
        refine decide_eq_decide.mpr ?_
        show _ ↔ (0 < k ∧ G (th p) ((s.drop a).take (2 * k.toNat)) ∧ 2 * k.toNat ≤ (s.drop a).length ∧ Col (th p) c ((s.drop a).drop (2 * k.toNat)))
        rw [List.drop_drop, List.length_drop]
        exact ⟨fun w => ⟨by omega, q, by omega, w⟩, fun w => w.2.2.2⟩
      · rw [if_neg q]
        show false = _
        exact (decide_eq_false fun w : Col (th p) (k :: c) (s.drop a) => q w.2.1).symm
/-- is_collation_of of any value -/
theorem isCol {p s : List Int} (g : GoodP p) (gs : GoodS p s) (hs : s.length ≤ 16) (x : NV) : d_is_collation_of p s x ∧ (v_is_collation_of p s x = true ↔ x = toA (eT eI) (nTI x) ∧ Col (th p) (nTI x) s) := by
  by_cases hf : v_is_collation_form x = true
  · obtain ⟨f1, f2⟩ := form_true hf
    generalize hc : nTI x = c at f1 f2
    subst f1
    by_cases hsum : 2 * c.sum = (s.length : Int)
    · obtain ⟨p1, p2⟩ := parts g gs (by omega) c 0 (fun k hk => (f2 k hk).1) (by omega)
      constructor
      · unfold d_is_collation_of
        refine ⟨dForm _, fun _ => ⟨by rw [hc]; rfl, trivial⟩, fun _ => trivial, fun _ => ⟨?_, ?_, trivial⟩⟩
        · rw [nT_toA]; show PV.tup _ = PV.tup _; rw [List.map_map]; rfl
        · rw [nT_toA]; exact p1
      · unfold v_is_collation_of
        rw [hf, hc, decide_eq_true hsum, if_neg (by decide), nT_toA]
        show sumK (foldX (v_is_collation_of_L_ p s) ((0 : Nat) : Int) _) _ = true ↔ _
        rw [p2, decide_eq_true_iff]
        exact ⟨fun h => ⟨rfl, h⟩, fun h => h.2⟩
    · constructor
      · unfold d_is_collation_of
        refine ⟨dForm _, fun _ => ⟨by rw [hc]; rfl, trivial⟩, fun _ => trivial, fun h => ?_⟩
        rw [hc, decide_eq_false hsum] at h
        simp at h
      · unfold v_is_collation_of
        rw [hc, decide_eq_false hsum, if_pos (by simp)]
        exact ⟨fun h => (by cases h), fun h => (hsum (col_sum h.2).1).elim⟩
  · have hf' : v_is_collation_form x = false := by simpa using hf
    constructor
    · unfold d_is_collation_of
      refine ⟨dForm _, fun h => ?_, fun _ => trivial, fun h => ?_⟩
      · rw [hf'] at h; cases h
      · rw [hf'] at h; simp at h
    · unfold v_is_collation_of
      rw [hf', if_pos (by simp)]
      refine ⟨fun h => (by cases h), fun h => ?_⟩
      obtain ⟨h1, h2⟩ := h
      rw [h1, form_I] at hf'
      have := of_decide_eq_false hf'
      refine (this fun k hk => ?_).elim
      have := (col_sum h2).2 k hk
      omega
theorem isCol_I {p s : List Int} (g : GoodP p) (gs : GoodS p s) (hs : s.length ≤ 16) (c : List Int) : v_is_collation_of p s (toA (eT eI) c) = decide (Col (th p) c s) := by
  have h := (isCol g gs hs (toA (eT eI) c)).2
  rw [nTI_toA] at h
  by_cases q : Col (th p) c s
  · rw [decide_eq_true q]; exact h.mpr ⟨rfl, q⟩
  · rw [decide_eq_false q]; exact Bool.eq_false_iff.mpr fun w => q (h.mp w).2
theorem v_allc (p s : List Int) : v_all_collations p s = cols (th p) s := by unfold v_all_collations; rfl
theorem v_lallc (p s : List Int) : v_l_all_collations p s = cols (th p) s := by unfold v_l_all_collations; rfl
theorem countC {p s : List Int} (g : GoodP p) (gs : GoodS p s) (hs : s.length ≤ 16) : d_count_collations p s ∧ v_count_collations p s = ((cols (th p) s).length : Int) := by
  constructor
  · unfold d_count_collations d_count_of
    exact ⟨dCheckS g gs hs, ⟨⟨g, gs, hs⟩, trivial⟩, trivial⟩
  · unfold v_count_collations v_count_of
    rw [v_allc]
theorem nthC {p s : List Int} (g : GoodP p) (gs : GoodS p s) (hs : s.length ≤ 16) {i : Int} (h0 : 0 ≤ i) (h1 : i < (cols (th p) s).length) : d_nth_collation p s i ∧ v_nth_collation p s i = gt (cols (th p) s) i := by
  have hw : v_is_whole (toA eI i) 0 (((cols (th p) s).length : Int) - 1) = true := by
    rw [isW_I, decide_eq_true h0, decide_eq_true (by omega)]; rfl
  constructor
  · unfold d_nth_collation
    rw [v_allc]
    dsimp only
    refine ⟨dCheckS g gs hs, ⟨g, gs, hs⟩, dW _ _ _, fun h => ?_, fun _ => ⟨inR h0 h1, trivial⟩⟩
    rw [hw] at h; cases h
  · unfold v_nth_collation
    rw [v_allc]
    dsimp only
    rw [hw, if_neg (by decide)]
theorem indexC {p s : List Int} (g : GoodP p) (gs : GoodS p s) (hs : s.length ≤ 16) (x : NV) : d_index_of_collation p s x ∧ v_index_of_collation p s x = if v_is_collation_of p s x = true then some (idx (cols (th p) s) (nTI x)) else none := by
  obtain ⟨h1, h2⟩ := isCol g gs hs x
  constructor
  · unfold d_index_of_collation
    rw [v_allc]
    refine ⟨dCheckS g gs hs, h1, fun _ => trivial, fun h => ?_⟩
    have := h2.mp (by simpa using h)
    refine ⟨⟨g, gs, hs⟩, ?_, mem_cols'.mpr this.2, trivial⟩
    conv => lhs; rw [this.1]
    rfl
  · unfold v_index_of_collation
    rw [v_allc]
    cases v_is_collation_of p s x <;> rfl
theorem nextC {p s : List Int} (g : GoodP p) (gs : GoodS p s) (hs : s.length ≤ 16) {c : List Int} (hc : c ∈ cols (th p) s) : d_next_collation p s (toA (eT eI) c) ∧ v_next_collation p s (toA (eT eI) c) = if idx (cols (th p) s) c + 1 < (cols (th p) s).length then some (gt (cols (th p) s) (idx (cols (th p) s) c + 1)) else none := by
  obtain ⟨h1, h2⟩ := isCol g gs hs (toA (eT eI) c)
  have hv := isCol_I g gs hs c
  rw [decide_eq_true (mem_cols'.mp hc)] at hv
  constructor
  · unfold d_next_collation
    rw [v_allc, hv]
    dsimp only
    refine ⟨dCheckS g gs hs, h1, fun h => (by cases h), fun _ => ⟨⟨g, gs, hs⟩, by rw [nTI_toA]; rfl, by rw [nTI_toA]; exact hc, fun h => ⟨?_, trivial⟩, trivial⟩⟩
    have := of_decide_eq_true h
    refine inR ?_ this
    unfold idx
    omega
  · unfold v_next_collation
    rw [v_allc, hv, if_neg (by decide)]
    dsimp only
    rw [nTI_toA]
    by_cases q : idx (cols (th p) s) c + 1 < ((cols (th p) s).length : Int)
    · rw [decide_eq_true q, if_pos rfl, if_pos q]
    · rw [decide_eq_false q, if_neg (by decide), if_neg q]
theorem idx_gt {α : Type} [DecidableEq α] [Inhabited α] {l : List α} (h : l.Nodup) {i : Int} (h0 : 0 ≤ i) (h1 : i < l.length) : idx l (gt l i) = i := by
  unfold idx
  rw [gt_nn h0 h1, h.idxOf_getElem]
  omega
end Qm

/-! B26: evidence of sequences. -/
namespace Qm
open Fac
theorem gt_take {α : Type} [Inhabited α] {l : List α} {m : Nat} {k : Int} (h0 : 0 ≤ k) (h1 : k < m) : gt (l.take m) k = gt l k := by
  rw [gt_getD _ h0, gt_getD _ h0, List.getElem?_take_of_lt (by omega)]
theorem gt_app2 {α : Type} [Inhabited α] (a l : List α) {k : Int} (h0 : 0 ≤ k) : gt (a ++ l) ((a.length : Int) + k) = gt l k := by
  rw [gt_getD _ (by omega), gt_getD _ h0, List.getElem?_append_right (by omega), show ((a.length : Int) + k).toNat - a.length = k.toNat from by omega]
def badm (p u : List Int) (m k : Int) : Bool := !decide (gt p (gt u k) = gt u (m - 1 - k))
/-- the first leaf that is no counterpart -/
def cf (p u : List Int) (m : Int) : Int := ((rng 0 (m / 2)).find? (badm p u m)).getD 0
section
variable {p u : List Int}
theorem cf_spec (g : GoodP p) (gu : GoodS p u) (hu : sh (th p) u = 0) {m : Int} (h2 : 2 ≤ m) (hm : m ≤ u.length) (he : m % 2 = 0) : (rng 0 (m / 2)).find? (badm p u m) = some (cf p u m) ∧ 0 ≤ cf p u m ∧ cf p u m < m / 2 ∧ gt p (gt u (cf p u m)) ≠ gt u (m - 1 - cf p u m) := by
  have hG := sh_zero hu m.toNat
  have hl : (u.take m.toNat).length = m.toNat := by rw [List.length_take]; omega
  cases e : (rng 0 (m / 2)).find? (badm p u m) with
  | none =>
    refine (hG ((G_iff g (gu.take _)).mpr ⟨fun z => ?_, by omega, fun i hi => ?_⟩)).elim
    · rw [z] at hl; simp at hl; omega
    · have := List.find?_eq_none.mp e (i : Int) (mem_rng.mpr ⟨by omega, by omega⟩)
      rw [hl]
      rw [gt_take (by omega) (by omega), show ((m.toNat : Nat) : Int) - 1 - i = m - 1 - i from by omega, gt_take (by omega) (by omega)]
      unfold badm at this
      simpa using this
  | some k =>
    have h3 := List.find?_some e
    obtain ⟨i0, i1⟩ := mem_rng.mp (List.mem_of_find?_eq_some e)
    have ek : cf p u m = k := by unfold cf; rw [e]; rfl
    rw [ek]
    unfold badm at h3
    exact ⟨rfl, i0, i1, by simpa using h3⟩
theorem conf_w (g : GoodP p) (gu : GoodS p u) (hu : sh (th p) u = 0) {m : Int} (h2 : 2 ≤ m) (hm : m ≤ u.length) (he : m % 2 = 0) : v_conflict_of p (u.take m.toNat) = some [cf p u m, m - 1 - cf p u m] := by
  have hl : ((u.take m.toNat).length : Int) = m := by rw [List.length_take]; omega
  obtain ⟨c1, _⟩ := cf_spec g gu hu h2 hm he
  unfold v_conflict_of
  rw [hl]
  dsimp only
  rw [decide_eq_false (show ¬ m = 0 by omega), decide_eq_false (show ¬ m % 2 = 1 by omega), if_neg (by decide), if_neg (by decide)]
  rw [foldX_find (c := fun i => !decide (gt p (gt (u.take m.toNat) i) = gt (u.take m.toNat) (m - 1 - i))) (v := fun i => some [i, m - 1 - i]) (fun x _ => by unfold v_conflict_of_L_; rfl)]
  have e : (rng 0 (m / 2)).find? (fun i => !decide (gt p (gt (u.take m.toNat) i) = gt (u.take m.toNat) (m - 1 - i))) = (rng 0 (m / 2)).find? (badm p u m) := v_sh.find_congr fun a ha => by
    obtain ⟨a0, a1⟩ := mem_rng.mp ha
    unfold badm
    rw [gt_take (by omega) (by omega), gt_take (by omega) (by omega)]
  rw [e, c1]
  rfl
def pairOf (p u : List Int) (start m : Int) : Int × Int := (start + cf p u m, start + (m - 1 - cf p u m))
theorem mem_evs {n : Nat} {m : Int} (h : m ∈ rngC' 2 ((n : Int) + 1) 2) : 2 ≤ m ∧ m ≤ n ∧ m % 2 = 0 := by
  unfold rngC' at h
  obtain ⟨i, hi, e⟩ := List.mem_map.mp h
  have e : 2 + (i : Int) * 2 = m := e
  have := List.mem_range.mp hi
  omega
theorem len_evs (n : Nat) : (rngC' 2 ((n : Int) + 1) 2).length = n / 2 := by
  unfold rngC'
  rw [List.length_map, List.length_range]
  omega
theorem evs_at {n i : Nat} (h : i < n / 2) : (rngC' 2 ((n : Int) + 1) 2)[i]? = some (2 * (i : Int) + 2) := by
  unfold rngC'
  rw [List.getElem?_map, List.getElem?_range (by omega)]
  show some (2 + (i : Int) * 2) = some (2 * (i : Int) + 2)
  congr 1
  omega
theorem fold_snoc_mem {α β : Type} (f : α → β) {step : List β → α → List β} : ∀ (xs : List α) (s : List β), (∀ s, ∀ x ∈ xs, step s x = s ++ [f x]) → xs.foldl step s = s ++ xs.map f
  | [], s, _ => by simp
  | x :: r, s, hs => by rw [List.foldl_cons, hs s x List.mem_cons_self, fold_snoc_mem f r _ fun s y hy => hs s y (List.mem_cons_of_mem _ hy)]; simp
end
/-- what is told -/
def evPairs (p u : List Int) (start : Int) : List (Int × Int) := (rngC' 2 ((u.length : Int) + 1) 2).map (pairOf p u start)
theorem nT_P2 {α β : Type} {e : α → PV} {f : β → PV} [Nr e] [Nr f] (a : α) (b : β) : nT (toA (eP2 e f) (a, b)) = [toA e a, toA f b] := rfl
theorem nT_P3 {α β γ : Type} {e : α → PV} {f : β → PV} {k : γ → PV} [Nr e] [Nr f] [Nr k] (a : α) (b : β) (c : γ) : nT (toA (eP3 e f k) (a, b, c)) = [toA e a, toA f b, toA k c] := rfl
theorem dParts {p s : List Int} (g : GoodP p) (gs : GoodS p s) {start many : Int} (h0 : 0 ≤ start) (h1 : start + many ≤ s.length) (x : NV) : d_parts p s start many x := by
  unfold d_parts
  have t : (!isY .tuple x) = false → eA x = (eT eA) (nT x) := fun h => nT_eq (by rw [← isY_tup]; simpa using h)
  refine ⟨fun h => ⟨t h, trivial⟩, fun _ => trivial, fun h => ?_⟩
  rw [Bool.or_eq_false_iff] at h
  obtain ⟨ht, hl⟩ := h
  have hl : (nT x).length = 2 := by
    have := of_decide_eq_true (by simpa using hl : decide (((nT x).length : Int) = 2) = true)
    omega
  have r0 : InR (nT x).length 0 := inR (by decide) (by omega)
  have r1 : InR (nT x).length 1 := inR (by decide) (by omega)
  have key : (!(((nT x).map fun leaf => (v_is_whole leaf start ((start + many) - (1 : Int)))).all id)) = false → (isInt (gt (nT x) 0) = true ∧ start ≤ nI (gt (nT x) 0) ∧ nI (gt (nT x) 0) ≤ start + many - 1) ∧ (isInt (gt (nT x) 1) = true ∧ start ≤ nI (gt (nT x) 1) ∧ nI (gt (nT x) 1) ≤ start + many - 1) := fun q => by
    have q : ((nT x).map fun leaf => (v_is_whole leaf start ((start + many) - (1 : Int)))).all id = true := by simpa using q
    rw [all_id_map, List.all_eq_true] at q
    exact ⟨isW_true (q _ (gt_mem r0)), isW_true (q _ (gt_mem r1))⟩
  refine ⟨t ht, fun _ _ => ⟨dW _ _ _, trivial⟩, fun q => ?_, fun _ => trivial, fun q => ?_⟩
  · obtain ⟨a, b⟩ := key q
    exact ⟨t ht, r0, t ht, r1, nI_eq a.1, nI_eq b.1, trivial⟩
  · rw [Bool.or_eq_false_iff] at q
    obtain ⟨a, b⟩ := key q.1
    have i0 : InR s.length (nI (gt (nT x) 0)) := inR (by omega) (by omega)
    have i1 : InR s.length (nI (gt (nT x) 1)) := inR (by omega) (by omega)
    obtain ⟨m0, m1⟩ := gs _ (gt_mem i0)
    exact ⟨t ht, r0, t ht, r1, nI_eq a.1, nI_eq b.1, fun _ => ⟨t ht, r0, nI_eq a.1, i0, inR m0 m1, t ht, r1, nI_eq b.1, i1, trivial⟩, trivial⟩
theorem dShows {p s : List Int} (g : GoodP p) (gs : GoodS p s) (hs : s.length ≤ 16) (told pairs : NV) : d_shows_rest p s told pairs := by
  unfold d_shows_rest
  refine ⟨dForm _, fun _ => trivial, fun h => ?_⟩
  rw [Bool.or_eq_false_iff] at h
  obtain ⟨h1, h2⟩ := h
  obtain ⟨f1, f2⟩ := form_true (by simpa using h1 : v_is_collation_form told = true)
  have t : eA pairs = (eT eA) (nT pairs) := nT_eq (by rw [← isY_tup]; simpa using h2)
  have sn := sum_nonneg fun k hk => (f2 k hk).1
  refine ⟨congrArg eA f1, ?_⟩
  intro start left
  have hst : 0 ≤ start := by show 0 ≤ 2 * (nTI told).sum; omega
  have hle : left = (s.length : Int) - start := rfl
  clear_value left
  clear_value start
  have ic := isCol g (gs.cut none (some start)) (Nat.le_trans len_cut hs) told
  refine ⟨fun _ => ⟨ic.1, fun _ => ⟨t, trivial⟩, trivial⟩, fun _ => trivial, fun q => ?_⟩
  rw [Bool.or_eq_false_iff, Bool.or_eq_false_iff] at q
  obtain ⟨q1, q2, q3⟩ := q
  have q1 := of_decide_eq_false q1
  have q3 := of_decide_eq_true (by simpa using q3 : decide (((nT pairs).length : Int) = left / 2) = true)
  refine ⟨t, fun x hx => ⟨dParts g gs hst ?_ _, trivial⟩, trivial⟩
  obtain ⟨i, e1, e2⟩ := mem_enm.mp hx
  have := (List.getElem?_eq_some_iff.mp e2).1
  rw [e1]
  omega
theorem dAccepts {p s : List Int} (g : GoodP p) (gs : GoodS p s) (hs : s.length ≤ 16) (x : NV) (hf : isTup x = true → isY .str (gt (nT x) 0) = true → flatD (eA (gt (nT x) 0)) = true) : d_accepts_sequence p s x := by
  unfold d_accepts_sequence
  have t : (!isY .tuple x) = false → eA x = (eT eA) (nT x) := fun h => nT_eq (by rw [← isY_tup]; simpa using h)
  have r0 : (!(!(nT x).isEmpty)) = false → InR (nT x).length 0 := fun h => inR (by decide) (by
    cases e : nT x with
    | nil => rw [e] at h; cases h
    | cons a r => rw [List.length_cons]; omega)
  refine ⟨dCheckS g gs hs, fun h => ⟨t h, fun h2 => ⟨t h, r0 h2, trivial⟩, trivial⟩, fun _ => trivial, fun h => ?_⟩
  rw [Bool.or_eq_false_iff, Bool.or_eq_false_iff] at h
  obtain ⟨h1, h2, h3⟩ := h
  have fl : flatD (eA (gt (nT x) 0)) = true := hf (by rw [← isY_tup]; simpa using h1) (by simpa using h3)
  refine ⟨t h1, r0 h2, ⟨fl, fl_flat (e := eS) (d := 0) (by decide) _⟩, fun _ => ⟨t h1, fun q => ⟨t h1, ?_, (isCol g gs hs _).1, trivial⟩, trivial⟩, fun _ => ⟨t h1, r0 h2, ⟨fl, fl_flat (e := eS) (d := 0) (by decide) _⟩, fun _ => ⟨t h1, fun q => ⟨t h1, ?_, t h1, ?_, dShows g gs hs _ _, trivial⟩, trivial⟩, trivial⟩⟩
  · have := of_decide_eq_true q
    exact inR (by decide) (by omega)
  · have := of_decide_eq_true q
    exact inR (by decide) (by omega)
  · have := of_decide_eq_true q
    exact inR (by decide) (by omega)
/-- the told evidence -/
def evid (p s : List Int) : NV := if (fac (th p) s).2 = [] then toA (eP2 eS (eT eI)) (sv "collation", shs (fac (th p) s).1) else toA (eP3 eS (eT eI) (eT (eP2 eI eI))) (sv "rest", shs (fac (th p) s).1, evPairs p (fac (th p) s).2 ((s.length : Int) - (fac (th p) s).2.length))
theorem seqEv {p s : List Int} (g : GoodP p) (gs : GoodS p s) (hs : s.length ≤ 16) : d_sequence_evidence p s ∧ v_sequence_evidence p s = evid p s := by
  have hu := (fac_primes (θ := th p) s).2
  have gu := gs.rem (p := p)
  have hl := (fac_len (th p) s).1
  have hj := fac_join (θ := th p) s
  have hlt : (lens (fac (th p) s).1).map (fun length => length / (2 : Int)) = shs (fac (th p) s).1 := by unfold lens shs; rw [List.map_map]; rfl
  have ec : ∀ m : Int, 0 ≤ m → cut s (some ((s.length : Int) - (fac (th p) s).2.length)) (some ((s.length : Int) - (fac (th p) s).2.length + m)) = (fac (th p) s).2.take m.toNat := fun m h0 => by
    rw [cut2 (by omega) (by omega)]
    have e1 : s.drop ((s.length : Int) - (fac (th p) s).2.length).toNat = (fac (th p) s).2 := by
      have : ((s.length : Int) - (fac (th p) s).2.length).toNat = (fac (th p) s).1.flatten.length := by
        have := congrArg List.length hj
        rw [List.length_append] at this
        omega
      rw [this]
      have := drop_fac (θ := th p) (s := s) (xs := (fac (th p) s).1) (ys := []) (by simp)
      simpa using this
    rw [e1]
    congr 1
    omega
  constructor
  · unfold d_sequence_evidence
    rw [v_splitOf g gs (by omega)]
    dsimp only
    refine ⟨dCheckS g gs hs, d_splitOf g gs (by omega), fun _ => trivial, fun h => ⟨rngOk (by omega) (by omega) (by omega) (by omega), ?_, trivial⟩⟩
    refine FoldD.of_inv (fun (xs : List Int) (st : List (Int × Int)) => (∀ m ∈ xs, 2 ≤ m ∧ m ≤ ((fac (th p) s).2.length : Int) ∧ m % 2 = 0) ∧ st.length + xs.length ≤ 1000) ⟨fun m hm => mem_evs hm, by rw [len_evs]; simp; omega⟩ fun m r st I => ?_
    obtain ⟨i1, i2⟩ := I
    rw [List.length_cons] at i2
    obtain ⟨m1, m2, m3⟩ := i1 m List.mem_cons_self
    constructor
    · unfold d_sequence_evidence_L_
      rw [ec m (by omega), conf_w g gu hu m1 m2 m3]
      exact ⟨d_conf g (gu.take _) (by rw [List.length_take]; omega), rfl, rfl, by omega, trivial⟩
    · refine ⟨fun y hy => i1 y (List.mem_cons_of_mem _ hy), ?_⟩
      unfold v_sequence_evidence_L_
      dsimp only
      rw [List.length_append, List.length_singleton]; omega
  · unfold v_sequence_evidence evid
    rw [v_splitOf g gs (by omega)]
    dsimp only
    rw [hlt]
    by_cases z : (fac (th p) s).2 = []
    · rw [if_pos z, z, if_pos (by rfl)]
    · have zl := List.length_pos_iff.mpr z
      rw [if_neg z, decide_eq_false (show ¬ ((fac (th p) s).2.length : Int) = 0 by omega), if_neg (by decide)]
      rw [fold_snoc_mem (pairOf p (fac (th p) s).2 ((s.length : Int) - (fac (th p) s).2.length)) _ _ fun st m hm => ?_]
      · rfl
      · obtain ⟨m1, m2, m3⟩ := mem_evs hm
        unfold v_sequence_evidence_L_
        rw [ec m (by omega), conf_w g gu hu m1 m2 m3]
        rfl
theorem parts_ok {p a u : List Int} (g : GoodP p) (gu : GoodS p u) (hu : sh (th p) u = 0) {i : Nat} (hi : i < u.length / 2) : v_parts p (a ++ u) (a.length : Int) (2 * (i : Int) + 2) (toA (eP2 eI eI) (pairOf p u (a.length : Int) (2 * (i : Int) + 2))) = true := by
  obtain ⟨_, c0, c1, c2⟩ := cf_spec g gu hu (m := 2 * (i : Int) + 2) (by omega) (by omega) (by omega)
  unfold pairOf
  generalize cf p u (2 * (i : Int) + 2) = k at c0 c1 c2
  have h1 : isY .tuple (toA (eP2 eI eI) ((a.length : Int) + k, (a.length : Int) + (2 * (i : Int) + 2 - 1 - k))) = true := rfl
  unfold v_parts
  rw [h1, nT_P2]
  have e0 : gt [toA eI ((a.length : Int) + k), toA eI ((a.length : Int) + (2 * (i : Int) + 2 - 1 - k))] 0 = toA eI ((a.length : Int) + k) := rfl
  have e1 : gt [toA eI ((a.length : Int) + k), toA eI ((a.length : Int) + (2 * (i : Int) + 2 - 1 - k))] 1 = toA eI ((a.length : Int) + (2 * (i : Int) + 2 - 1 - k)) := rfl
  rw [e0, e1, nI_toA, nI_toA, gt_app2 _ _ c0, gt_app2 _ _ (by omega)]
  have hall : (([toA eI ((a.length : Int) + k), toA eI ((a.length : Int) + (2 * (i : Int) + 2 - 1 - k))].map fun leaf => v_is_whole leaf (a.length : Int) ((a.length : Int) + (2 * (i : Int) + 2) - 1)).all id) = true := by
    rw [List.map_cons, List.map_cons, List.map_nil, isW_I, isW_I, decide_eq_true (by omega), decide_eq_true (by omega), decide_eq_true (by omega), decide_eq_true (by omega)]
    rfl
  rw [hall, decide_eq_false (show ¬ (a.length : Int) + (2 * (i : Int) + 2 - 1 - k) ≤ (a.length : Int) + k by omega)]
  rw [decide_eq_true (show (a.length : Int) + k + ((a.length : Int) + (2 * (i : Int) + 2 - 1 - k)) = 2 * (a.length : Int) + (2 * (i : Int) + 2) - 1 by omega), decide_eq_false c2]
  rfl
theorem accEv {p s : List Int} (g : GoodP p) (gs : GoodS p s) (hs : s.length ≤ 16) : d_accepts_sequence p s (evid p s) ∧ v_accepts_sequence p s (evid p s) = true := by
  have hp := fac_primes (θ := th p) s
  have gu := gs.rem (p := p)
  have hj := fac_join (θ := th p) s
  have hsum := sum_shs (xs := (fac (th p) s).1) fun f hf => (hp.1 f hf).1.2.1
  have hcs := col_shs (xs := (fac (th p) s).1) fun f hf => (hp.1 f hf).1
  have hpos : ∀ k ∈ shs (fac (th p) s).1, 1 ≤ k ∧ k ≤ 8 := fun k hk => by
    have h1 := (col_sum hcs).2 k hk
    have := congrArg List.length hj
    rw [List.length_append] at this
    omega
  unfold evid
  by_cases z : (fac (th p) s).2 = []
  · rw [if_pos z]
    rw [z, List.append_nil] at hj
    refine ⟨dAccepts g gs hs _ fun _ _ => ?_, ?_⟩
    · rw [nT_P2]; exact fl_flat (e := eS) (d := 0) (by decide) (sv "collation")
    · unfold v_accepts_sequence
      rw [nT_P2]
      have e1 : gt [toA eS (sv "collation"), toA (eT eI) (shs (fac (th p) s).1)] 1 = toA (eT eI) (shs (fac (th p) s).1) := rfl
      have e0 : gt [toA eS (sv "collation"), toA (eT eI) (shs (fac (th p) s).1)] 0 = toA eS (sv "collation") := rfl
      have hc : Col (th p) (shs (fac (th p) s).1) s := by rw [hj] at hcs; exact hcs
      rw [e1, e0, isCol_I g gs hs, decide_eq_true hc, eA_toA, Ke.eq, decide_eq_true rfl]
      rfl
  · rw [if_neg z]
    generalize hfs : (fac (th p) s).1 = fs at *
    generalize huu : (fac (th p) s).2 = u at *
    have hu := hp.2
    have zl := List.length_pos_iff.mpr z
    have est : ((s.length : Int) - u.length) = (fs.flatten.length : Int) := by
      have := congrArg List.length hj
      rw [List.length_append] at this
      omega
    rw [est]
    refine ⟨dAccepts g gs hs _ fun _ _ => ?_, ?_⟩
    · rw [nT_P3]; exact fl_flat (e := eS) (d := 0) (by decide) (sv "rest")
    · unfold v_accepts_sequence
      rw [nT_P3]
      have e1 : gt [toA eS (sv "rest"), toA (eT eI) (shs fs), toA (eT (eP2 eI eI)) (evPairs p u (fs.flatten.length : Int))] 1 = toA (eT eI) (shs fs) := rfl
      have e2 : gt [toA eS (sv "rest"), toA (eT eI) (shs fs), toA (eT (eP2 eI eI)) (evPairs p u (fs.flatten.length : Int))] 2 = toA (eT (eP2 eI eI)) (evPairs p u (fs.flatten.length : Int)) := rfl
      have hsh : v_shows_rest p s (toA (eT eI) (shs fs)) (toA (eT (eP2 eI eI)) (evPairs p u (fs.flatten.length : Int))) = true := by
        unfold v_shows_rest
        have t1 : isY .tuple (toA (eT (eP2 eI eI)) (evPairs p u (fs.flatten.length : Int))) = true := rfl
        have ecut : cut s none (some (fs.flatten.length : Int)) = fs.flatten := by
          rw [cut_take _ (by omega), Int.toNat_natCast, ← hj, List.take_left]
        have lf : fs.flatten.length ≤ 16 := by
          have := congrArg List.length hj
          rw [List.length_append] at this
          omega
        have hl : (evPairs p u (fs.flatten.length : Int)).length = u.length / 2 := by unfold evPairs; rw [List.length_map, len_evs]
        rw [form_I, decide_eq_true hpos, t1, nTI_toA, nT_toA, List.length_map, hl, hsum]
        dsimp only
        have gf : GoodS p fs.flatten := fun x hx => gs x (by rw [← hj]; exact List.mem_append_left _ hx)
        rw [ecut, isCol_I g gf lf, decide_eq_true hcs, decide_eq_false (show ¬ (s.length : Int) - (fs.flatten.length : Int) < 1 by omega), decide_eq_true (show ((u.length / 2 : Nat) : Int) = ((s.length : Int) - (fs.flatten.length : Int)) / 2 by omega)]
        rw [if_neg (by decide), if_neg (by decide), all_id_map, List.all_eq_true]
        intro q hq
        obtain ⟨i, q1, q2⟩ := mem_enm.mp hq
        unfold evPairs at q2
        rw [List.map_map, List.getElem?_map] at q2
        have hi : i < u.length / 2 := by
          by_cases w : i < u.length / 2
          · exact w
          · rw [List.getElem?_eq_none (by rw [len_evs]; omega)] at q2
            cases q2
        rw [evs_at hi] at q2
        have q2 : toA (eP2 eI eI) (pairOf p u (fs.flatten.length : Int) (2 * (i : Int) + 2)) = q.2 := Option.some.inj q2
        rw [← q2, q1, Nat.zero_add]
        have := parts_ok (a := fs.flatten) g gu hu hi
        rw [hj] at this
        exact this
      have e0 : gt [toA eS (sv "rest"), toA (eT eI) (shs fs), toA (eT (eP2 eI eI)) (evPairs p u (fs.flatten.length : Int))] 0 = toA eS (sv "rest") := rfl
      rw [e1, e2, hsh, e0, eA_toA, Ke.eq, Ke.eq, decide_eq_false (by decide : ¬ sv "rest" = sv "collation"), decide_eq_true rfl]
      rfl
end Qm

/-! F8: how many collations; their order. -/
namespace Fac
open Qm
section
variable {θ : Int → Int}
/-! ### the order -/
def lx (a b : List Int) : Prop := pLts (a.map eI) (b.map eI) = true
theorem lx_cons (x : Int) (a b : List Int) : lx (x :: a) (x :: b) ↔ lx a b := by
  unfold lx
  rw [List.map_cons, List.map_cons, pLts, if_pos (by show (x == x) = true; simp)]
theorem lx_head {x y : Int} (h : x < y) (a b : List Int) : lx (x :: a) (y :: b) := by
  unfold lx
  rw [List.map_cons, List.map_cons, pLts, if_neg (by show ¬ (x == y) = true; simp; omega), pLt]
  exact decide_eq_true h
theorem lx_irr : ∀ (a b : List Int), lx a b → ¬ lx b a
  | [], b, h => by intro q; unfold lx at q; cases b <;> simp [pLts] at q
  | x :: a, [], h => by unfold lx at h; simp [pLts] at h
  | x :: a, y :: b, h => by
    by_cases e : x = y
    · subst e
      rw [lx_cons] at h ⊢
      exact lx_irr a b h
    · intro q
      unfold lx at h q
      rw [List.map_cons, List.map_cons, pLts, if_neg (by show ¬ (x == y) = true; simpa using e), pLt] at h
      rw [List.map_cons, List.map_cons, pLts, if_neg (by show ¬ (y == x) = true; simpa using fun z => e z.symm), pLt] at q
      have := of_decide_eq_true h
      have := of_decide_eq_true q
      omega
theorem lx_turns {s : List Int} (hr : ∀ i, (cols θ (s.drop (2 * (i + 1)))).Pairwise lx) : ∀ l : List Nat, l.Pairwise (· < ·) → ((l.map (turn θ s)).flatten).Pairwise lx
  | [], _ => by simp
  | i :: l, h => by
    rw [List.pairwise_cons] at h
    rw [List.map_cons, List.flatten_cons, List.pairwise_append]
    refine ⟨?_, lx_turns hr l h.2, ?_⟩
    · unfold turn
      split
      · exact List.Pairwise.map _ (fun a b hab => (lx_cons _ a b).mpr hab) (hr i)
      · simp
    · intro a ha b hb
      obtain ⟨t, ht, hbt⟩ := List.mem_flatten.mp hb
      obtain ⟨j, hj, rfl⟩ := List.mem_map.mp ht
      have := h.1 j hj
      unfold turn at ha hbt
      split at ha
      · split at hbt
        · obtain ⟨x, _, rfl⟩ := List.mem_map.mp ha
          obtain ⟨y, _, rfl⟩ := List.mem_map.mp hbt
          exact lx_head (by omega) _ _
        · simp at hbt
      · simp at ha
theorem cols_lx : ∀ (n : Nat) (s : List Int), s.length ≤ n → (cols θ s).Pairwise lx
  | n, s, hn => by
    by_cases z : s = []
    · subst z; rw [cols_nil]; simp
    · have hl := List.length_pos_iff.mpr z
      rw [cols_ne z]
      refine lx_turns (fun i => ?_) _ List.pairwise_lt_range
      match n, hn with
      | 0, hn => exact absurd hl (by omega)
      | n + 1, hn => exact cols_lx n _ (by rw [List.length_drop]; omega)
theorem cols_lx' (s : List Int) : (cols θ s).Pairwise lx := cols_lx s.length s (Nat.le_refl _)
/-! ### how long -/
theorem fac_g (hθ : ∀ x, θ (θ x) = x) {g t : List Int} (h : G θ g) : fac θ (g ++ t) = ((fac θ g).1 ++ (fac θ t).1, (fac θ t).2) := by
  rw [fac_more, (co_iff hθ g).mp (.one h), List.nil_append]
theorem fac_gne (hθ : ∀ x, θ (θ x) = x) {g : List Int} (h : G θ g) : (fac θ g).1 ≠ [] := fun e => by
  have := fac_join (θ := θ) g
  rw [e, (co_iff hθ g).mp (.one h)] at this
  exact h.1 this.symm
theorem col_le (hθ : ∀ x, θ (θ x) = x) : ∀ {c s : List Int}, Col θ c s → c.length ≤ (fac θ s).1.length
  | [], _, _ => Nat.zero_le _
  | k :: c, s, h => by
    obtain ⟨_, g, _, r⟩ := h
    have i := col_le hθ r
    have e := fac_g hθ (t := s.drop (2 * k.toNat)) g
    rw [List.take_append_drop] at e
    rw [e, List.length_append, List.length_cons]
    have := List.length_pos_iff.mpr (fac_gne hθ g)
    omega
theorem col_one {s : List Int} (h : G θ s) : Col θ [((s.length : Int) / 2)] s := by
  have := h.2.1
  have := h.ge2
  have e : 2 * ((s.length : Int) / 2).toNat = s.length := by omega
  refine ⟨by omega, ?_, by omega, ?_⟩
  · rw [e, List.take_length]; exact h
  · rw [e, List.drop_length]; rfl
theorem one_col {k : Int} {s : List Int} (h : Col θ [k] s) : G θ s := by
  obtain ⟨_, g, h2, e⟩ := h
  have e : s.drop (2 * k.toNat) = [] := e
  have := congrArg List.length e
  rw [List.length_drop, List.length_nil] at this
  rwa [List.take_of_length_le (by omega)] at g
/-! ### how many -/
theorem offs_range : ∀ (fs : List (List Int)) (a : Nat), offs a fs = (List.range (fs.length + 1)).map fun k => a + (fs.take k).flatten.length
  | [], a => by rfl
  | f :: r, a => by
    rw [offs, offs_range r, List.length_cons, List.range_succ_eq_map (n := r.length + 1), List.map_cons, List.map_map]
    congr 1
    refine List.map_congr_left fun k _ => ?_
    simp only [Function.comp, List.take_succ_cons, List.flatten_cons, List.length_append]
    omega
/-- how many ways there are to join what is the same read from its end -/
def cntN : Nat → List (List Int) → Nat
  | 0, _ => 1
  | n + 1, fs => if fs = [] then 1 else ((List.range fs.length).map fun i => if fs.take (i + 1) = (fs.take (i + 1)).reverse then cntN n (fs.drop (i + 1)) else 0).sum
theorem seg_zero {s : List Int} (a : Nat) : seg θ s a a = [] := by unfold seg; rw [if_neg (by omega)]
theorem drop_flat (fs : List (List Int)) (k : Nat) : fs.flatten.drop (fs.take k).flatten.length = (fs.drop k).flatten := by
  have : fs.flatten = (fs.take k).flatten ++ (fs.drop k).flatten := by rw [← List.flatten_append, List.take_append_drop]
  conv => lhs; rw [this]
  rw [List.drop_left]
theorem take_flat (fs : List (List Int)) (k : Nat) : fs.flatten.take (fs.take k).flatten.length = (fs.take k).flatten := by
  have : fs.flatten = (fs.take k).flatten ++ (fs.drop k).flatten := by rw [← List.flatten_append, List.take_append_drop]
  conv => lhs; rw [this]
  rw [List.take_left]
theorem fac_of {fs : List (List Int)} (h : ∀ f ∈ fs, Pr θ f) : fac θ fs.flatten = (fs, []) := by
  have := fac_app (θ := θ) fs [] h
  rw [List.append_nil, fac_zero (show sh θ [] = 0 from rfl)] at this
  simpa using this
theorem cols_cnt (hθ : ∀ x, θ (θ x) = x) : ∀ (n : Nat) (fs : List (List Int)), (∀ f ∈ fs, Pr θ f) → fs.length ≤ n → (cols θ fs.flatten).length = cntN n fs
  | n, fs, hp, hn => by
    by_cases z : fs = []
    · subst z
      cases n with
      | zero => rfl
      | succ n => rw [cntN, if_pos rfl]; rfl
    · cases n with
      | zero => exact (z (List.eq_nil_of_length_eq_zero (by omega))).elim
      | succ n =>
        have hpos : ∀ f ∈ fs, 0 < f.length := fun f hf => (hp f hf).1.pos
        have hfl : 0 < fs.flatten.length := by
          cases fs with
          | nil => exact (z rfl).elim
          | cons f r =>
            have := hpos f List.mem_cons_self
            rw [List.flatten_cons, List.length_append]; omega
        have hE : ends θ fs.flatten = (List.range (fs.length + 1)).map fun k => 0 + (fs.take k).flatten.length := by
          unfold ends; rw [fac_of hp, offs_range]
        have hs := cols_seg (θ := θ) (s := fs.flatten) (a := 0) hfl (ends_asc fs.flatten) (fun e h1 h2 h3 => ends_closed hθ (ends_zero _) h1 h2 h3)
        rw [List.drop_zero] at hs
        rw [← hs, hE, cntN, if_neg z, List.range_succ_eq_map, List.map_cons, List.map_cons, List.flatten_cons]
        have e0 : seg θ fs.flatten 0 (0 + (fs.take 0).flatten.length) = [] := seg_zero 0
        rw [e0, List.nil_append, List.length_flatten, List.map_map, List.map_map, List.map_map]
        congr 1
        refine List.map_congr_left fun i hi => ?_
        have hi := List.mem_range.mp hi
        simp only [Function.comp, Nat.succ_eq_add_one, Nat.zero_add]
        have hne : fs.take (i + 1) ≠ [] := fun e => by
          have := congrArg List.length e
          rw [List.length_take, List.length_nil] at this
          omega
        have hpt : ∀ f ∈ fs.take (i + 1), Pr θ f := fun f hf => hp f (List.mem_of_mem_take hf)
        have hpd : ∀ f ∈ fs.drop (i + 1), Pr θ f := fun f hf => hp f (List.mem_of_mem_drop hf)
        have hle : (fs.take (i + 1)).flatten.length ≤ fs.flatten.length := by
          conv => rhs; rw [← List.take_append_drop (i + 1) fs, List.flatten_append, List.length_append]
          omega
        have hgt : 0 < (fs.take (i + 1)).flatten.length := by
          cases e : fs.take (i + 1) with
          | nil => exact (hne e).elim
          | cons f r =>
            have := (hpt f (by rw [e]; exact List.mem_cons_self)).1.pos
            rw [List.flatten_cons, List.length_append]; omega
        unfold seg
        rw [List.drop_zero, Nat.sub_zero, take_flat, drop_flat]
        have hrp := run_pal hθ hpt hne
        by_cases q : fs.take (i + 1) = (fs.take (i + 1)).reverse
        · rw [if_pos ⟨hgt, hle, hrp.mpr q⟩, if_pos q, List.length_map, cols_cnt hθ n _ hpd (by rw [List.length_drop]; omega)]
        · rw [if_neg (fun w => q (hrp.mp w.2.2)), if_neg q]; rfl
def allEq (fs : List (List Int)) : Prop := ∀ f ∈ fs, ∀ h ∈ fs, f = h
theorem allEq_rev {fs : List (List Int)} (h : allEq fs) : fs = fs.reverse := by
  cases fs with
  | nil => rfl
  | cons a r =>
    have e : (a :: r) = List.replicate (r.length + 1) a := by
      refine List.eq_replicate_iff.mpr ⟨rfl, fun b hb => h b hb a List.mem_cons_self⟩
    rw [e, List.reverse_replicate]
theorem sum_bound (f : Nat → Nat) (m : Nat) (hf : ∀ i, i < m → f i ≤ 2 ^ (m - 1 - i)) : ((List.range m).map f).sum ≤ 2 ^ m - 1 ∧ (((List.range m).map f).sum = 2 ^ m - 1 → ∀ i, i < m → f i = 2 ^ (m - 1 - i)) := by
  have key : ∀ k, k ≤ m → ((List.range k).map f).sum + 2 ^ (m - k) ≤ 2 ^ m ∧ (((List.range k).map f).sum + 2 ^ (m - k) = 2 ^ m → ∀ i, i < k → f i = 2 ^ (m - 1 - i)) := fun k => by
    induction k with
    | zero => intro _; exact ⟨by simp, fun _ i hi => by omega⟩
    | succ k ih =>
      intro hk
      obtain ⟨h1, h2⟩ := ih (by omega)
      have hfk := hf k (by omega)
      have e : 2 ^ (m - k) = 2 * 2 ^ (m - (k + 1)) := by rw [show m - k = (m - (k + 1)) + 1 from by omega, Nat.pow_succ]; omega
      rw [show m - 1 - k = m - (k + 1) from by omega] at hfk
      rw [List.range_succ, List.map_append, List.sum_append]
      simp only [List.map_cons, List.map_nil, List.sum_cons, List.sum_nil]
      refine ⟨by omega, fun q i hi => ?_⟩
      by_cases w : i = k
      · subst w; rw [show m - 1 - i = m - (i + 1) from by omega]; omega
      · exact h2 (by omega) i (by omega)
  obtain ⟨h1, h2⟩ := key m (Nat.le_refl _)
  rw [Nat.sub_self, Nat.pow_zero] at h1 h2
  have : 0 < 2 ^ m := Nat.pos_of_ne_zero (by simp)
  exact ⟨by omega, fun q => h2 (by omega)⟩
theorem cnt_bound : ∀ (n : Nat) (fs : List (List Int)), fs ≠ [] → fs.length ≤ n → cntN n fs ≤ 2 ^ (fs.length - 1) ∧ (cntN n fs = 2 ^ (fs.length - 1) ↔ allEq fs)
  | 0, fs, z, hn => (z (List.eq_nil_of_length_eq_zero (by omega))).elim
  | n + 1, fs, z, hn => by
    have hl := List.length_pos_iff.mpr z
    obtain ⟨m, hm⟩ : ∃ m, fs.length = m + 1 := ⟨fs.length - 1, by omega⟩
    -- the last term apart
    have hlast : (if fs.take (m + 1) = (fs.take (m + 1)).reverse then cntN n (fs.drop (m + 1)) else 0) = if fs = fs.reverse then 1 else 0 := by
      rw [List.take_of_length_le (by omega), List.drop_of_length_le (by omega)]
      have : cntN n [] = 1 := by cases n <;> rfl
      rw [this]
    rw [cntN, if_neg z, hm, List.range_succ, List.map_append, List.sum_append]
    simp only [List.map_cons, List.map_nil, List.sum_cons, List.sum_nil, Nat.add_zero, Nat.add_sub_cancel]
    rw [hlast]
    have hterm : ∀ i, i < m → (cntN n (fs.drop (i + 1)) ≤ 2 ^ (m - 1 - i) ∧ (cntN n (fs.drop (i + 1)) = 2 ^ (m - 1 - i) ↔ allEq (fs.drop (i + 1)))) := fun i hi => by
      have hd : (fs.drop (i + 1)).length = m - i := by rw [List.length_drop]; omega
      have hdn : fs.drop (i + 1) ≠ [] := fun e => by rw [e, List.length_nil] at hd; omega
      have := cnt_bound n (fs.drop (i + 1)) hdn (by omega)
      rw [hd, show m - i - 1 = m - 1 - i from by omega] at this
      exact this
    obtain ⟨b1, b2⟩ := sum_bound (fun i => if fs.take (i + 1) = (fs.take (i + 1)).reverse then cntN n (fs.drop (i + 1)) else 0) m (fun i hi => by
      split
      · exact (hterm i hi).1
      · exact Nat.zero_le _)
    have hp : 0 < 2 ^ m := Nat.pos_of_ne_zero (by simp)
    generalize hS : ((List.range m).map fun i => if fs.take (i + 1) = (fs.take (i + 1)).reverse then cntN n (fs.drop (i + 1)) else 0).sum = S at b1 b2
    refine ⟨by split <;> omega, fun q => ?_, fun q => ?_⟩
    · by_cases pal : fs = fs.reverse
      · rw [if_pos pal] at q
        have b3 := b2 (by omega)
        by_cases m0 : m = 0
        · cases fs with
          | nil => exact (z rfl).elim
          | cons a r =>
            have : r = [] := List.eq_nil_of_length_eq_zero (by rw [List.length_cons] at hm; omega)
            subst this
            intro x hx y hy
            rw [List.mem_singleton] at hx hy
            rw [hx, hy]
        · have t0 := b3 0 (by omega)
          have ht : fs.take (0 + 1) = (fs.take (0 + 1)).reverse := by
            cases fs with
            | nil => rfl
            | cons a r => rfl
          rw [if_pos ht] at t0
          have ae := ((hterm 0 (by omega)).2).mp t0
          cases fs with
          | nil => exact (z rfl).elim
          | cons a r =>
            have ae : allEq r := ae
            -- a is the last one
            have ha : a ∈ r := by
              have e1 : (a :: r).reverse.getLast? = some a := by simp
              rw [← pal] at e1
              cases r with
              | nil => rw [List.length_singleton] at hm; omega
              | cons b r =>
                rw [List.getLast?_cons_cons] at e1
                exact List.mem_of_getLast? e1
            intro x hx y hy
            have hx' : x ∈ r := by rcases List.mem_cons.mp hx with e | e; exact e ▸ ha; exact e
            have hy' : y ∈ r := by rcases List.mem_cons.mp hy with e | e; exact e ▸ ha; exact e
            exact ae x hx' y hy'
      · rw [if_neg pal] at q
        omega
    · have pal := allEq_rev q
      rw [if_pos pal]
      have hall : ∀ i, i < m → (if fs.take (i + 1) = (fs.take (i + 1)).reverse then cntN n (fs.drop (i + 1)) else 0) = 2 ^ (m - 1 - i) := fun i hi => by
        rw [if_pos (allEq_rev fun x hx y hy => q x (List.mem_of_mem_take hx) y (List.mem_of_mem_take hy))]
        exact (hterm i hi).2.mpr fun x hx y hy => q x (List.mem_of_mem_drop hx) y (List.mem_of_mem_drop hy)
      have : S = ((List.range m).map fun i => 2 ^ (m - 1 - i)).sum := by
        rw [← hS]
        congr 1
        exact List.map_congr_left fun i hi => hall i (List.mem_range.mp hi)
      have g : ∀ k, k ≤ m → ((List.range k).map fun i => 2 ^ (m - 1 - i)).sum + 2 ^ (m - k) = 2 ^ m := fun k => by
        induction k with
        | zero => intro _; simp
        | succ k ih =>
          intro hk
          have ih := ih (by omega)
          have e : 2 ^ (m - k) = 2 * 2 ^ (m - (k + 1)) := by rw [show m - k = (m - (k + 1)) + 1 from by omega, Nat.pow_succ]; omega
          rw [List.range_succ, List.map_append, List.sum_append]
          simp only [List.map_cons, List.map_nil, List.sum_cons, List.sum_nil]
          rw [show m - 1 - k = m - (k + 1) from by omega]
          omega
      have := g m (Nat.le_refl _)
      rw [Nat.sub_self, Nat.pow_zero] at this
      omega
end
end Fac

/-! Mk_k26: the mathematics of k26. -/
namespace Qm
open Fac
namespace k26
theorem row_ok {p : List Int} {q : (List (List Int)) × (List Int)} (g : GoodP p) (gu : GoodS p q.2) (hu : sh (th p) q.2 = 0) (hl : q.2.length ≤ 100) {start m : Int} (st : List (Int × Int)) (hs : st.length ≤ 1000) (h2 : 2 ≤ m) (hm : m ≤ q.2.length) (he : m % 2 = 0) :
    d_law_k26_L_3 p q start st m ∧ v_law_k26_L_3 p q start st m = st ++ [pairOf p q.2 start m] := by
  obtain ⟨c, _⟩ := cf_spec g gu hu h2 hm he
  have hf : (((rng 0 (m / 2)).filter fun k => !decide ((gt p (gt q.2 k)) = (gt q.2 ((m - (1 : Int)) - k))))).head? = some (cf p q.2 m) := by
    rw [filter_head]; exact c
  have hrow : ∃ t, ((((rng 0 (m / 2)).filter fun k => !decide ((gt p (gt q.2 k)) = (gt q.2 ((m - (1 : Int)) - k)))).map fun k => ((start + k), (((start + m) - (1 : Int)) - k)))) = pairOf p q.2 start m :: t := by
    cases e : ((rng 0 (m / 2)).filter fun k => !decide ((gt p (gt q.2 k)) = (gt q.2 ((m - (1 : Int)) - k)))) with
    | nil => rw [e] at hf; cases hf
    | cons a t =>
      rw [e] at hf
      have ha : a = cf p q.2 m := Option.some.inj hf
      refine ⟨t.map fun k => ((start + k), (((start + m) - (1 : Int)) - k)), ?_⟩
      rw [List.map_cons, ha]
      congr 1
      unfold pairOf
      congr 1
      omega
  obtain ⟨t, ht⟩ := hrow
  constructor
  · unfold d_law_k26_L_3
    rw [ht]
    refine ⟨rngOk (by omega) (by omega) (by omega) (by omega), fun k hk => ?_, inR (by decide) (by rw [List.length_cons]; omega), bigOk (by omega) (by simp), trivial⟩
    obtain ⟨k0, k1⟩ := mem_rng.mp hk
    have r1 : InR q.2.length k := inR k0 (by omega)
    obtain ⟨a, b⟩ := gu _ (gt_mem r1)
    exact ⟨r1, inR a b, inR (by omega) (by omega), trivial⟩
  · unfold v_law_k26_L_3
    rw [ht]
    rfl
theorem dq_ev (p s : List Int) : Dq 12 (eA (evid p s)) := by
  unfold evid
  split
  · exact dq_of (e := eP2 eS (eT eI)) _
  · exact dq_of (e := eP3 eS (eT eI) (eT (eP2 eI eI))) _
theorem bz_ev {p s : List Int} (hs : s.length ≤ 16) : bz (eA (evid p s)) = true := by
  have hfl := fac_len (th p) s
  have h1 : bz (eT eI (shs (fac (th p) s).1)) = true := bz_TI (by unfold shs; rw [List.length_map]; omega)
  unfold evid
  split
  · show bz (.tup [eS _, eT eI _]) = true
    simp [bz, bzs, h1, eS]
  · have h2 : bz (eT (eP2 eI eI) (evPairs p (fac (th p) s).2 ((s.length : Int) - (fac (th p) s).2.length))) = true := bz_T (by unfold evPairs; rw [List.length_map, len_evs]; omega) fun x _ => rfl
    show bz (.tup [eS _, eT eI _, eT (eP2 eI eI) _]) = true
    simp [bz, bzs, h1, h2, eS]
theorem eq_ev (p s : List Int) : lawEq (eA (evid p s)) (eA (evid p s)) = true := by
  unfold evid
  split
  · show lawEq (.tup [eS _, eT eI _]) (.tup [eS _, eT eI _]) = true
    rw [lawEq, lawEqs, lawEqs, lawEqs, Lq.eq, Lq.eq]; simp
  · show lawEq (.tup [eS _, eT eI _, eT (eP2 eI eI) _]) (.tup [eS _, eT eI _, eT (eP2 eI eI) _]) = true
    rw [lawEq, lawEqs, lawEqs, lawEqs, lawEqs, Lq.eq, Lq.eq, Lq.eq]; simp
theorem one_only {θ : Int → Int} (hθ : ∀ x, θ (θ x) = x) {f : List Int} (h : Pr θ f) : cols θ f = [[((f.length : Int) / 2)]] := by
  have f0 : fac θ f = ([f], []) := by
    have := fac_of (θ := θ) (fs := [f]) (fun x hx => by rw [List.mem_singleton] at hx; rw [hx]; exact h)
    simpa using this
  have hc := cols_cnt hθ 1 [f] (fun x hx => by rw [List.mem_singleton] at hx; rw [hx]; exact h) (by simp)
  have hf : [f].flatten = f := by simp
  rw [hf] at hc
  have h1 : cntN 1 [f] = 1 := by
    rw [cntN, if_neg (by simp)]
    simp [cntN]
  rw [h1] at hc
  have hh := cols_head hθ f ((co_iff hθ f).mpr (by rw [f0]))
  rw [f0] at hh
  cases e : cols θ f with
  | nil => rw [e] at hh; cases hh
  | cons c r =>
    rw [e] at hh hc
    have : r = [] := List.eq_nil_of_length_eq_zero (by rw [List.length_cons] at hc; omega)
    rw [this]
    have hh : c = shs [f] := Option.some.inj hh
    rw [hh]; rfl
theorem good (ns : List Int) : g_law_k26 ns := by
  unfold g_law_k26
  intro s
  obtain ⟨dp, gp, _⟩ := l_paper9 s
  refine ⟨dp, ?_⟩
  intro r p
  have gp : GoodP p := gp
  clear_value p
  intro r2
  have hr2 : 0 ≤ r2.1 ∧ r2.1 < 3 := ⟨nx_ge _ (by decide), nx_lt _ (by decide)⟩
  clear_value r2
  have i3 : InR [(12 : Int), (12 : Int), (16 : Int)].length r2.1 := inR hr2.1 (by simp; omega)
  refine ⟨i3, ?_⟩
  have hm := gt_mem i3
  generalize gt [(12 : Int), (12 : Int), (16 : Int)] r2.1 = most at hm
  have hm : 0 ≤ most ∧ most ≤ 16 := by
    simp only [List.mem_cons, List.not_mem_nil, or_false] at hm
    omega
  obtain ⟨ds, gs, hs⟩ := l_seq_ok r2.2 gp hm.1 (by omega : most ≤ 100)
  refine ⟨ds, ?_⟩
  intro r3 sq
  have gs : GoodS p sq := gs
  have hs : (sq.length : Int) ≤ most := hs
  clear_value sq
  have hs16 : sq.length ≤ 16 := by omega
  refine ⟨d_lsp gp gs (by omega), ?_⟩
  intro q
  have hq : q = fac (th p) sq := v_lsp gp gs
  clear_value q
  have hp := fac_primes (θ := th p) sq
  have gu := gs.rem (p := p)
  have hfl := fac_len (th p) sq
  have hev : ∀ (q : (List (List Int)) × (List Int)), q = fac (th p) sq → evid p sq = if q.2 = [] then toA (eP2 eS (eT eI)) (sv "collation", shs q.1) else toA (eP3 eS (eT eI) (eT (eP2 eI eI))) (sv "rest", shs q.1, evPairs p q.2 ((sq.length : Int) - q.2.length)) := fun q hq => by subst hq; rfl
  have hev := hev q hq
  rw [← hq] at hp gu hfl
  have dcol : ∀ f ∈ q.1, d_l_all_collations p f ∧ cols (th p) f = [[((f.length : Int) / 2)]] := fun f hf => by
    refine ⟨⟨gp, gs.fac (p := p) f (by rw [← hq]; exact hf), ?_⟩, one_only (th_th gp) (hp.1 f hf)⟩
    have h1 := fac_join (θ := th p) sq
    rw [← hq] at h1
    have h1 := congrArg List.length h1
    obtain ⟨x, y, e⟩ := List.append_of_mem hf
    rw [e, List.flatten_append, List.flatten_cons, List.length_append, List.length_append, List.length_append] at h1
    omega
  clear hq
  intro sheets
  have hsh : sheets = shs q.1 := rfl
  clear_value sheets
  subst hsh
  intro due
  have rows : ∀ (st : List (Int × Int)) (m : Int), st.length ≤ 1000 → m ∈ rngC' 2 ((q.2.length : Int) + 1) 2 → d_law_k26_L_3 p q ((sq.length : Int) - (q.2.length : Int)) st m ∧ v_law_k26_L_3 p q ((sq.length : Int) - (q.2.length : Int)) st m = st ++ [pairOf p q.2 ((sq.length : Int) - (q.2.length : Int)) m] := fun st m hst hm => by
    obtain ⟨m1, m2, m3⟩ := mem_evs hm
    exact row_ok gp gu hp.2 (by omega) st hst m1 m2 m3
  have foldE : ∀ (xs : List Int) (st : List (Int × Int)), (∀ m ∈ xs, m ∈ rngC' 2 ((q.2.length : Int) + 1) 2) → st.length + xs.length ≤ 1000 → FoldD (v_law_k26_L_3 p q ((sq.length : Int) - (q.2.length : Int))) (d_law_k26_L_3 p q ((sq.length : Int) - (q.2.length : Int))) st xs ∧ xs.foldl (v_law_k26_L_3 p q ((sq.length : Int) - (q.2.length : Int))) st = st ++ xs.map (pairOf p q.2 ((sq.length : Int) - (q.2.length : Int))) := fun xs => by
    induction xs with
    | nil => intro st _ _; exact ⟨trivial, by simp⟩
    | cons m r ih =>
      intro st hm hst
      rw [List.length_cons] at hst
      obtain ⟨d, v⟩ := rows st m (by omega) (hm m List.mem_cons_self)
      have i := ih (st ++ [pairOf p q.2 ((sq.length : Int) - (q.2.length : Int)) m]) (fun y hy => hm y (List.mem_cons_of_mem _ hy)) (by rw [List.length_append, List.length_singleton]; omega)
      refine ⟨⟨d, by rw [v]; exact i.1⟩, ?_⟩
      rw [List.foldl_cons, v, i.2]; simp
  obtain ⟨fd, fv⟩ := foldE (rngC' 2 ((q.2.length : Int) + 1) 2) [] (fun m hm => hm) (by rw [len_evs]; simp; omega)
  refine ⟨⟨fun _ => ⟨rngOk (by omega) (by omega) (by omega) (by omega), fd, trivial⟩, fun _ => trivial⟩, ?_⟩
  intro q5
  have hq5 : q5 = evid p sq := by
    rw [hev]
    show (if (!q.2.isEmpty) = true then toA (eP3 eS (eT eI) (eT (eP2 eI eI))) (sv "rest", shs q.1, List.foldl (v_law_k26_L_3 p q ((sq.length : Int) - (q.2.length : Int))) [] (rngC' 2 ((q.2.length : Int) + 1) 2)) else toA (eP2 eS (eT eI)) (sv "collation", shs q.1)) = _
    rw [fv]
    cases e : q.2 with
    | nil => rfl
    | cons a t => rfl
  clear_value q5
  subst hq5
  obtain ⟨d1, v1⟩ := seqEv gp gs hs16
  obtain ⟨d2, v2⟩ := accEv gp gs hs16
  rw [v1, v2, eq_ev]
  refine ⟨d1, bz_ev hs16, dq_ev p sq, dq_ev p sq, fun _ => ⟨d2, trivial⟩, fun h => (by simp at h), fun _ => ⟨fun f hf => ⟨(dcol f hf).1, trivial⟩, ?_, trivial⟩⟩
  rw [all_id_map, List.all_eq_true]
  intro f hf
  rw [v_lallc, (dcol f hf).2]
  exact decide_eq_true rfl
end k26
end Qm

/-! the defs of law k26 as Qm terms (printed by gen.py) -/
namespace Qm
def conk26 : Nat → Option PV
  | 2 => some (.int 6)
  | 3 => some (.int 16)
  | 4 => some (.int 8)
  | _ => none
def fnsk26 : Nat → Option FnD
  | 0 => some fd0
  | 279 => some fd279
  | 280 => some fd280
  | 281 => some fd281
  | 285 => some fd285
  | 286 => some fd286
  | 238 => some fd238
  | 239 => some fd239
  | 240 => some fd240
  | 241 => some fd241
  | 373 => some fd373
  | 374 => some fd374
  | 375 => some fd375
  | 376 => some fd376
  | 377 => some fd377
  | 378 => some fd378
  | 229 => some fd229
  | 230 => some fd230
  | 16 => some fd16
  | 282 => some fd282
  | 245 => some fd245
  | 289 => some fd289
  | 290 => some fd290
  | 291 => some fd291
  | 292 => some fd292
  | 293 => some fd293
  | 379 => some fd379
  | 294 => some fd294
  | 380 => some fd380
  | _ => none
def sub : Nat → Nat → Bool := fun a b => a == b || (b == 0 && decide (a < 5)) || b == 6
def fldN : Nat → List Nat
  | 1 => [0] | 2 => [1] | 3 => [2] | 4 => [3, 4] | 5 => [5] | _ => []
def progk26 : Prog := ⟨conk26, fldN, sub, fnsk26⟩
abbrev lawIdk26 : Nat := 380
end Qm

namespace Qm
namespace k26
open PySem PySem.Spec PyProof.Rows L2
def top (i : Nat) : Stmt := PySem.Challenge.pw_quiremarks_k26_told_evidence_of_sequence.main.body.getD i (.Pass ⟨0, 0, 0, 0⟩)
def dm0 : DM := ⟨"is_whole", top 6, ["value", "low", "high"], ["value", "low", "high"]⟩
def dm279 : DM := ⟨"is_paper", top 7, ["value", "mark"], ["value"]⟩
def dm280 : DM := ⟨"are_marks", top 8, ["paper", "value", "mark"], ["paper", "value"]⟩
def dm281 : DM := ⟨"is_sequence", top 9, ["paper", "value"], ["paper", "value"]⟩
def dm285 : DM := ⟨"check_paper", top 10, ["paper"], ["paper"]⟩
def dm286 : DM := ⟨"check_sequence", top 11, ["paper", "sequence"], ["paper", "sequence"]⟩
def dm238 : DM := ⟨"conflict_of", top 13, ["paper", "sequence", "many", "leaf"], ["paper", "sequence"]⟩
def dm239 : DM := ⟨"is_gathering_of", top 14, ["paper", "sequence"], ["paper", "sequence"]⟩
def dm240 : DM := ⟨"shortest_at", top 16, ["paper", "sequence", "start", "end"], ["paper", "sequence", "start"]⟩
def dm241 : DM := ⟨"split_of", top 17, ["paper", "sequence", "lengths", "start", "length"], ["paper", "sequence"]⟩
def dm373 : DM := ⟨"is_collation_form", top 20, ["value", "sheets"], ["value"]⟩
def dm374 : DM := ⟨"is_collation_of", top 21, ["paper", "sequence", "value", "start", "sheets"], ["paper", "sequence", "value"]⟩
def dm375 : DM := ⟨"sequence_evidence", top 23, ["paper", "sequence", "lengths", "left", "told", "length", "start", "pairs", "many", "leaf", "other"], ["paper", "sequence"]⟩
def dm376 : DM := ⟨"parts", top 24, ["paper", "sequence", "start", "many", "pair", "leaf"], ["paper", "sequence", "start", "many", "pair"]⟩
def dm377 : DM := ⟨"shows_rest", top 25, ["paper", "sequence", "told", "pairs", "start", "left", "at", "pair"], ["paper", "sequence", "told", "pairs"]⟩
def dm378 : DM := ⟨"accepts_sequence", top 26, ["paper", "sequence", "value"], ["paper", "sequence", "value"]⟩
def dm229 : DM := ⟨"_law_stream", top 28, ["_law_script"], ["_law_script"]⟩
def dm230 : DM := ⟨"_law_next", top 29, ["_law_stream_here", "_law_many", "_law_k", "_law_cell", "_law_digit"], ["_law_stream_here", "_law_many"]⟩
def dm16 : DM := ⟨"_law_is_integer", top 30, ["_law_actual"], ["_law_actual"]⟩
def dm282 : DM := ⟨"_law_equal", top 31, ["_law_actual", "_law_due", "_law_at"], ["_law_actual", "_law_due"]⟩
def dm245 : DM := ⟨"_law_paper", top 32, ["_law_stream_here"], ["_law_stream_here"]⟩
def dm289 : DM := ⟨"_law_reflected", top 33, ["_law_paper_here", "_law_sequence_here", "_law_mark"], ["_law_paper_here", "_law_sequence_here"]⟩
def dm290 : DM := ⟨"_law_marks", top 34, ["_law_stream_here", "_law_paper_here", "_law_many", "_law_k"], ["_law_stream_here", "_law_paper_here", "_law_many"]⟩
def dm291 : DM := ⟨"_law_book", top 35, ["_law_stream_here", "_law_paper_here", "_law_most", "_law_sequence_here", "_law_turn", "_law_half", "_law_part"], ["_law_stream_here", "_law_paper_here", "_law_most"]⟩
def dm292 : DM := ⟨"_law_sequence", top 36, ["_law_stream_here", "_law_paper_here", "_law_most", "_law_sequence_here", "_law_pick"], ["_law_stream_here", "_law_paper_here", "_law_most"]⟩
def dm293 : DM := ⟨"_law_is_gathering", top 37, ["_law_paper_here", "_law_sequence_here"], ["_law_paper_here", "_law_sequence_here"]⟩
def dm379 : DM := ⟨"_law_all_collations", top 38, ["_law_paper_here", "_law_sequence_here", "_law_tails", "_law_start", "_law_found", "_law_sheets", "_law_end", "_law_tail"], ["_law_paper_here", "_law_sequence_here"]⟩
def dm294 : DM := ⟨"_law_split", top 39, ["_law_paper_here", "_law_sequence_here", "_law_factors", "_law_rest", "_law_turn", "_law_sizes", "_law_many"], ["_law_paper_here", "_law_sequence_here"]⟩
def dm380 : DM := ⟨"law", top 40, ["_law_script", "_law_stream_here", "_law_paper_here", "_law_sequence_here", "_law_factors", "_law_rest", "_law_sheets", "_law_factor", "_law_due", "_law_start", "_law_pairs", "_law_many", "_law_rows", "_law_k"], ["_law_script"]⟩
def gl : List (Str × GK) := [(("BadValue" : Str), GK.cls 1), (("MOST_MARKS" : Str), GK.con 2), (("MOST_LEAVES" : Str), GK.con 3), (("is_whole" : Str), GK.fn 0), (("is_paper" : Str), GK.fn 279), (("are_marks" : Str), GK.fn 280), (("is_sequence" : Str), GK.fn 281), (("check_paper" : Str), GK.fn 285), (("check_sequence" : Str), GK.fn 286), (("conflict_of" : Str), GK.fn 238), (("is_gathering_of" : Str), GK.fn 239), (("shortest_at" : Str), GK.fn 240), (("split_of" : Str), GK.fn 241), (("MOST_SHEETS" : Str), GK.con 4), (("is_collation_form" : Str), GK.fn 373), (("is_collation_of" : Str), GK.fn 374), (("sequence_evidence" : Str), GK.fn 375), (("parts" : Str), GK.fn 376), (("shows_rest" : Str), GK.fn 377), (("accepts_sequence" : Str), GK.fn 378), (("_law_stream" : Str), GK.fn 229), (("_law_next" : Str), GK.fn 230), (("_law_is_integer" : Str), GK.fn 16), (("_law_equal" : Str), GK.fn 282), (("_law_paper" : Str), GK.fn 245), (("_law_reflected" : Str), GK.fn 289), (("_law_marks" : Str), GK.fn 290), (("_law_book" : Str), GK.fn 291), (("_law_sequence" : Str), GK.fn 292), (("_law_is_gathering" : Str), GK.fn 293), (("_law_all_collations" : Str), GK.fn 379), (("_law_split" : Str), GK.fn 294), (("law" : Str), GK.fn 380), (("abs" : Str), GK.bi), (("all" : Str), GK.bi), (("bool" : Str), GK.bi), (("enumerate" : Str), GK.bi), (("int" : Str), GK.bi), (("isinstance" : Str), GK.bi), (("len" : Str), GK.bi), (("list" : Str), GK.bi), (("range" : Str), GK.bi), (("str" : Str), GK.bi), (("sum" : Str), GK.bi), (("tuple" : Str), GK.bi)]
def tb : List (Nat × FnD × DM) := [(0, fd0, dm0), (279, fd279, dm279), (280, fd280, dm280), (281, fd281, dm281), (285, fd285, dm285), (286, fd286, dm286), (238, fd238, dm238), (239, fd239, dm239), (240, fd240, dm240), (241, fd241, dm241), (373, fd373, dm373), (374, fd374, dm374), (375, fd375, dm375), (376, fd376, dm376), (377, fd377, dm377), (378, fd378, dm378), (229, fd229, dm229), (230, fd230, dm230), (16, fd16, dm16), (282, fd282, dm282), (245, fd245, dm245), (289, fd289, dm289), (290, fd290, dm290), (291, fd291, dm291), (292, fd292, dm292), (293, fd293, dm293), (379, fd379, dm379), (294, fd294, dm294), (380, fd380, dm380)]
def prog : Prog := ⟨conk26, fldN, sub, fnsL tb⟩
theorem tx0 : Txt gl dm0 fd0 := ⟨by rfl, by decide +kernel, ⟨rfl, rfl, rfl, by decide +kernel, rfl, by decide +kernel, by decide +kernel⟩, rfl, rfl⟩
theorem tx279 : Txt gl dm279 fd279 := ⟨by rfl, by decide +kernel, ⟨rfl, rfl, rfl, by decide +kernel, rfl, by decide +kernel, by decide +kernel⟩, rfl, rfl⟩
theorem tx280 : Txt gl dm280 fd280 := ⟨by rfl, by decide +kernel, ⟨rfl, rfl, rfl, by decide +kernel, rfl, by decide +kernel, by decide +kernel⟩, rfl, rfl⟩
theorem tx281 : Txt gl dm281 fd281 := ⟨by rfl, by decide +kernel, ⟨rfl, rfl, rfl, by decide +kernel, rfl, by decide +kernel, by decide +kernel⟩, rfl, rfl⟩
theorem tx285 : Txt gl dm285 fd285 := ⟨by rfl, by decide +kernel, ⟨rfl, rfl, rfl, by decide +kernel, rfl, by decide +kernel, by decide +kernel⟩, rfl, rfl⟩
theorem tx286 : Txt gl dm286 fd286 := ⟨by rfl, by decide +kernel, ⟨rfl, rfl, rfl, by decide +kernel, rfl, by decide +kernel, by decide +kernel⟩, rfl, rfl⟩
theorem tx238 : Txt gl dm238 fd238 := ⟨by rfl, by decide +kernel, ⟨rfl, rfl, rfl, by decide +kernel, rfl, by decide +kernel, by decide +kernel⟩, rfl, rfl⟩
theorem tx239 : Txt gl dm239 fd239 := ⟨by rfl, by decide +kernel, ⟨rfl, rfl, rfl, by decide +kernel, rfl, by decide +kernel, by decide +kernel⟩, rfl, rfl⟩
theorem tx240 : Txt gl dm240 fd240 := ⟨by rfl, by decide +kernel, ⟨rfl, rfl, rfl, by decide +kernel, rfl, by decide +kernel, by decide +kernel⟩, rfl, rfl⟩
theorem tx241 : Txt gl dm241 fd241 := ⟨by rfl, by decide +kernel, ⟨rfl, rfl, rfl, by decide +kernel, rfl, by decide +kernel, by decide +kernel⟩, rfl, rfl⟩
theorem tx373 : Txt gl dm373 fd373 := ⟨by rfl, by decide +kernel, ⟨rfl, rfl, rfl, by decide +kernel, rfl, by decide +kernel, by decide +kernel⟩, rfl, rfl⟩
theorem tx374 : Txt gl dm374 fd374 := ⟨by rfl, by decide +kernel, ⟨rfl, rfl, rfl, by decide +kernel, rfl, by decide +kernel, by decide +kernel⟩, rfl, rfl⟩
theorem tx375 : Txt gl dm375 fd375 := ⟨by rfl, by decide +kernel, ⟨rfl, rfl, rfl, by decide +kernel, rfl, by decide +kernel, by decide +kernel⟩, rfl, rfl⟩
theorem tx376 : Txt gl dm376 fd376 := ⟨by rfl, by decide +kernel, ⟨rfl, rfl, rfl, by decide +kernel, rfl, by decide +kernel, by decide +kernel⟩, rfl, rfl⟩
theorem tx377 : Txt gl dm377 fd377 := ⟨by rfl, by decide +kernel, ⟨rfl, rfl, rfl, by decide +kernel, rfl, by decide +kernel, by decide +kernel⟩, rfl, rfl⟩
theorem tx378 : Txt gl dm378 fd378 := ⟨by rfl, by decide +kernel, ⟨rfl, rfl, rfl, by decide +kernel, rfl, by decide +kernel, by decide +kernel⟩, rfl, rfl⟩
theorem tx229 : Txt gl dm229 fd229 := ⟨by rfl, by decide +kernel, ⟨rfl, rfl, rfl, by decide +kernel, rfl, by decide +kernel, by decide +kernel⟩, rfl, rfl⟩
theorem tx230 : Txt gl dm230 fd230 := ⟨by rfl, by decide +kernel, ⟨rfl, rfl, rfl, by decide +kernel, rfl, by decide +kernel, by decide +kernel⟩, rfl, rfl⟩
theorem tx16 : Txt gl dm16 fd16 := ⟨by rfl, by decide +kernel, ⟨rfl, rfl, rfl, by decide +kernel, rfl, by decide +kernel, by decide +kernel⟩, rfl, rfl⟩
theorem tx282 : Txt gl dm282 fd282 := ⟨by rfl, by decide +kernel, ⟨rfl, rfl, rfl, by decide +kernel, rfl, by decide +kernel, by decide +kernel⟩, rfl, rfl⟩
theorem tx245 : Txt gl dm245 fd245 := ⟨by rfl, by decide +kernel, ⟨rfl, rfl, rfl, by decide +kernel, rfl, by decide +kernel, by decide +kernel⟩, rfl, rfl⟩
theorem tx289 : Txt gl dm289 fd289 := ⟨by rfl, by decide +kernel, ⟨rfl, rfl, rfl, by decide +kernel, rfl, by decide +kernel, by decide +kernel⟩, rfl, rfl⟩
theorem tx290 : Txt gl dm290 fd290 := ⟨by rfl, by decide +kernel, ⟨rfl, rfl, rfl, by decide +kernel, rfl, by decide +kernel, by decide +kernel⟩, rfl, rfl⟩
theorem tx291 : Txt gl dm291 fd291 := ⟨by rfl, by decide +kernel, ⟨rfl, rfl, rfl, by decide +kernel, rfl, by decide +kernel, by decide +kernel⟩, rfl, rfl⟩
theorem tx292 : Txt gl dm292 fd292 := ⟨by rfl, by decide +kernel, ⟨rfl, rfl, rfl, by decide +kernel, rfl, by decide +kernel, by decide +kernel⟩, rfl, rfl⟩
theorem tx293 : Txt gl dm293 fd293 := ⟨by rfl, by decide +kernel, ⟨rfl, rfl, rfl, by decide +kernel, rfl, by decide +kernel, by decide +kernel⟩, rfl, rfl⟩
theorem tx379 : Txt gl dm379 fd379 := ⟨by rfl, by decide +kernel, ⟨rfl, rfl, rfl, by decide +kernel, rfl, by decide +kernel, by decide +kernel⟩, rfl, rfl⟩
theorem tx294 : Txt gl dm294 fd294 := ⟨by rfl, by decide +kernel, ⟨rfl, rfl, rfl, by decide +kernel, rfl, by decide +kernel, by decide +kernel⟩, rfl, rfl⟩
theorem tx380 : Txt gl dm380 fd380 := ⟨by rfl, by decide +kernel, ⟨rfl, rfl, rfl, by decide +kernel, rfl, by decide +kernel, by decide +kernel⟩, rfl, rfl⟩
theorem txs : AllTxt gl tb := ⟨tx0, tx279, tx280, tx281, tx285, tx286, tx238, tx239, tx240, tx241, tx373, tx374, tx375, tx376, tx377, tx378, tx229, tx230, tx16, tx282, tx245, tx289, tx290, tx291, tx292, tx293, tx379, tx294, tx380, trivial⟩
def inBadValue : Stmt := inClass (top 2) 0
theorem all_mk {p : Program} {w : World} {K : PySem.W.Frag} {h : Heap} {mg : Str → Option Value} {fa : Addr} (n : Nat) (X : K.In h) (G : h.Ns mainGlobals mg) (hfa : mg "law" = some (.ref fa))
    {od0 an0 : Option Addr} {sl0 : Array (Option Value)} {oc0 kV0 dc0 pm0 cd0 ct0 : Value} {f0 : Addr}
    {od279 an279 : Option Addr} {sl279 : Array (Option Value)} {oc279 kV279 dc279 pm279 cd279 ct279 : Value} {f279 : Addr}
    {od280 an280 : Option Addr} {sl280 : Array (Option Value)} {oc280 kV280 dc280 pm280 cd280 ct280 : Value} {f280 : Addr}
    {od281 an281 : Option Addr} {sl281 : Array (Option Value)} {oc281 kV281 dc281 pm281 cd281 ct281 : Value} {f281 : Addr}
    {od285 an285 : Option Addr} {sl285 : Array (Option Value)} {oc285 kV285 dc285 pm285 cd285 ct285 : Value} {f285 : Addr}
    {od286 an286 : Option Addr} {sl286 : Array (Option Value)} {oc286 kV286 dc286 pm286 cd286 ct286 : Value} {f286 : Addr}
    {od238 an238 : Option Addr} {sl238 : Array (Option Value)} {oc238 kV238 dc238 pm238 cd238 ct238 : Value} {f238 : Addr}
    {od239 an239 : Option Addr} {sl239 : Array (Option Value)} {oc239 kV239 dc239 pm239 cd239 ct239 : Value} {f239 : Addr}
    {od240 an240 : Option Addr} {sl240 : Array (Option Value)} {oc240 kV240 dc240 pm240 cd240 ct240 : Value} {f240 : Addr}
    {od241 an241 : Option Addr} {sl241 : Array (Option Value)} {oc241 kV241 dc241 pm241 cd241 ct241 : Value} {f241 : Addr}
    {od373 an373 : Option Addr} {sl373 : Array (Option Value)} {oc373 kV373 dc373 pm373 cd373 ct373 : Value} {f373 : Addr}
    {od374 an374 : Option Addr} {sl374 : Array (Option Value)} {oc374 kV374 dc374 pm374 cd374 ct374 : Value} {f374 : Addr}
    {od375 an375 : Option Addr} {sl375 : Array (Option Value)} {oc375 kV375 dc375 pm375 cd375 ct375 : Value} {f375 : Addr}
    {od376 an376 : Option Addr} {sl376 : Array (Option Value)} {oc376 kV376 dc376 pm376 cd376 ct376 : Value} {f376 : Addr}
    {od377 an377 : Option Addr} {sl377 : Array (Option Value)} {oc377 kV377 dc377 pm377 cd377 ct377 : Value} {f377 : Addr}
    {od378 an378 : Option Addr} {sl378 : Array (Option Value)} {oc378 kV378 dc378 pm378 cd378 ct378 : Value} {f378 : Addr}
    {od229 an229 : Option Addr} {sl229 : Array (Option Value)} {oc229 kV229 dc229 pm229 cd229 ct229 : Value} {f229 : Addr}
    {od230 an230 : Option Addr} {sl230 : Array (Option Value)} {oc230 kV230 dc230 pm230 cd230 ct230 : Value} {f230 : Addr}
    {od16 an16 : Option Addr} {sl16 : Array (Option Value)} {oc16 kV16 dc16 pm16 cd16 ct16 : Value} {f16 : Addr}
    {od282 an282 : Option Addr} {sl282 : Array (Option Value)} {oc282 kV282 dc282 pm282 cd282 ct282 : Value} {f282 : Addr}
    {od245 an245 : Option Addr} {sl245 : Array (Option Value)} {oc245 kV245 dc245 pm245 cd245 ct245 : Value} {f245 : Addr}
    {od289 an289 : Option Addr} {sl289 : Array (Option Value)} {oc289 kV289 dc289 pm289 cd289 ct289 : Value} {f289 : Addr}
    {od290 an290 : Option Addr} {sl290 : Array (Option Value)} {oc290 kV290 dc290 pm290 cd290 ct290 : Value} {f290 : Addr}
    {od291 an291 : Option Addr} {sl291 : Array (Option Value)} {oc291 kV291 dc291 pm291 cd291 ct291 : Value} {f291 : Addr}
    {od292 an292 : Option Addr} {sl292 : Array (Option Value)} {oc292 kV292 dc292 pm292 cd292 ct292 : Value} {f292 : Addr}
    {od293 an293 : Option Addr} {sl293 : Array (Option Value)} {oc293 kV293 dc293 pm293 cd293 ct293 : Value} {f293 : Addr}
    {od379 an379 : Option Addr} {sl379 : Array (Option Value)} {oc379 kV379 dc379 pm379 cd379 ct379 : Value} {f379 : Addr}
    {od294 an294 : Option Addr} {sl294 : Array (Option Value)} {oc294 kV294 dc294 pm294 cd294 ct294 : Value} {f294 : Addr}
    {od380 an380 : Option Addr} {sl380 : Array (Option Value)} {oc380 kV380 dc380 pm380 cd380 ct380 : Value} {f380 : Addr}
    {CBadValue : Addr}
    {nmBadValue qnBadValue : Str} {NBadValue : Addr} {bsBadValue bmBadValue : List Value} {snBadValue : List Str} {subBadValue : List Value} {abBadValue : Bool} {colBadValue : Option Bool} {ddBadValue : Option Addr} {m0BadValue m1BadValue m2BadValue m3BadValue m5BadValue : Option Value}
    {odBadValue anBadValue : Option Addr} {slBadValue : Array (Option Value)} {ocBadValue kVBadValue dcBadValue pmBadValue cdBadValue ctBadValue : Value} {fBadValue : Addr}
    {tMOST_MARKS : Tok}
    {tMOST_LEAVES : Tok}
    {tMOST_SHEETS : Tok}
    (a0 : PySem.W.nsIn K mainGlobals "is_whole" = some (some (.ref f0)))
    (l0 : K.lookup f0 = some ⟨oc0, od0, .func (PySem.W.fnOf "is_whole" "is_whole" (defArgs dm0.st) (defBody dm0.st) (defScope dm0.st) .none kV0 dc0 pm0 an0 cd0 ct0), sl0⟩)
    (c0 : PySem.W.codeIn K cd0 "is_whole" = true)
    (k0 : PySem.W.keepIn K (.ref f0) = true)
    (a279 : PySem.W.nsIn K mainGlobals "is_paper" = some (some (.ref f279)))
    (l279 : K.lookup f279 = some ⟨oc279, od279, .func (PySem.W.fnOf "is_paper" "is_paper" (defArgs dm279.st) (defBody dm279.st) (defScope dm279.st) .none kV279 dc279 pm279 an279 cd279 ct279), sl279⟩)
    (c279 : PySem.W.codeIn K cd279 "is_paper" = true)
    (k279 : PySem.W.keepIn K (.ref f279) = true)
    (a280 : PySem.W.nsIn K mainGlobals "are_marks" = some (some (.ref f280)))
    (l280 : K.lookup f280 = some ⟨oc280, od280, .func (PySem.W.fnOf "are_marks" "are_marks" (defArgs dm280.st) (defBody dm280.st) (defScope dm280.st) .none kV280 dc280 pm280 an280 cd280 ct280), sl280⟩)
    (c280 : PySem.W.codeIn K cd280 "are_marks" = true)
    (k280 : PySem.W.keepIn K (.ref f280) = true)
    (a281 : PySem.W.nsIn K mainGlobals "is_sequence" = some (some (.ref f281)))
    (l281 : K.lookup f281 = some ⟨oc281, od281, .func (PySem.W.fnOf "is_sequence" "is_sequence" (defArgs dm281.st) (defBody dm281.st) (defScope dm281.st) .none kV281 dc281 pm281 an281 cd281 ct281), sl281⟩)
    (c281 : PySem.W.codeIn K cd281 "is_sequence" = true)
    (k281 : PySem.W.keepIn K (.ref f281) = true)
    (a285 : PySem.W.nsIn K mainGlobals "check_paper" = some (some (.ref f285)))
    (l285 : K.lookup f285 = some ⟨oc285, od285, .func (PySem.W.fnOf "check_paper" "check_paper" (defArgs dm285.st) (defBody dm285.st) (defScope dm285.st) .none kV285 dc285 pm285 an285 cd285 ct285), sl285⟩)
    (c285 : PySem.W.codeIn K cd285 "check_paper" = true)
    (k285 : PySem.W.keepIn K (.ref f285) = true)
    (a286 : PySem.W.nsIn K mainGlobals "check_sequence" = some (some (.ref f286)))
    (l286 : K.lookup f286 = some ⟨oc286, od286, .func (PySem.W.fnOf "check_sequence" "check_sequence" (defArgs dm286.st) (defBody dm286.st) (defScope dm286.st) .none kV286 dc286 pm286 an286 cd286 ct286), sl286⟩)
    (c286 : PySem.W.codeIn K cd286 "check_sequence" = true)
    (k286 : PySem.W.keepIn K (.ref f286) = true)
    (a238 : PySem.W.nsIn K mainGlobals "conflict_of" = some (some (.ref f238)))
    (l238 : K.lookup f238 = some ⟨oc238, od238, .func (PySem.W.fnOf "conflict_of" "conflict_of" (defArgs dm238.st) (defBody dm238.st) (defScope dm238.st) .none kV238 dc238 pm238 an238 cd238 ct238), sl238⟩)
    (c238 : PySem.W.codeIn K cd238 "conflict_of" = true)
    (k238 : PySem.W.keepIn K (.ref f238) = true)
    (a239 : PySem.W.nsIn K mainGlobals "is_gathering_of" = some (some (.ref f239)))
    (l239 : K.lookup f239 = some ⟨oc239, od239, .func (PySem.W.fnOf "is_gathering_of" "is_gathering_of" (defArgs dm239.st) (defBody dm239.st) (defScope dm239.st) .none kV239 dc239 pm239 an239 cd239 ct239), sl239⟩)
    (c239 : PySem.W.codeIn K cd239 "is_gathering_of" = true)
    (k239 : PySem.W.keepIn K (.ref f239) = true)
    (a240 : PySem.W.nsIn K mainGlobals "shortest_at" = some (some (.ref f240)))
    (l240 : K.lookup f240 = some ⟨oc240, od240, .func (PySem.W.fnOf "shortest_at" "shortest_at" (defArgs dm240.st) (defBody dm240.st) (defScope dm240.st) .none kV240 dc240 pm240 an240 cd240 ct240), sl240⟩)
    (c240 : PySem.W.codeIn K cd240 "shortest_at" = true)
    (k240 : PySem.W.keepIn K (.ref f240) = true)
    (a241 : PySem.W.nsIn K mainGlobals "split_of" = some (some (.ref f241)))
    (l241 : K.lookup f241 = some ⟨oc241, od241, .func (PySem.W.fnOf "split_of" "split_of" (defArgs dm241.st) (defBody dm241.st) (defScope dm241.st) .none kV241 dc241 pm241 an241 cd241 ct241), sl241⟩)
    (c241 : PySem.W.codeIn K cd241 "split_of" = true)
    (k241 : PySem.W.keepIn K (.ref f241) = true)
    (a373 : PySem.W.nsIn K mainGlobals "is_collation_form" = some (some (.ref f373)))
    (l373 : K.lookup f373 = some ⟨oc373, od373, .func (PySem.W.fnOf "is_collation_form" "is_collation_form" (defArgs dm373.st) (defBody dm373.st) (defScope dm373.st) .none kV373 dc373 pm373 an373 cd373 ct373), sl373⟩)
    (c373 : PySem.W.codeIn K cd373 "is_collation_form" = true)
    (k373 : PySem.W.keepIn K (.ref f373) = true)
    (a374 : PySem.W.nsIn K mainGlobals "is_collation_of" = some (some (.ref f374)))
    (l374 : K.lookup f374 = some ⟨oc374, od374, .func (PySem.W.fnOf "is_collation_of" "is_collation_of" (defArgs dm374.st) (defBody dm374.st) (defScope dm374.st) .none kV374 dc374 pm374 an374 cd374 ct374), sl374⟩)
    (c374 : PySem.W.codeIn K cd374 "is_collation_of" = true)
    (k374 : PySem.W.keepIn K (.ref f374) = true)
    (a375 : PySem.W.nsIn K mainGlobals "sequence_evidence" = some (some (.ref f375)))
    (l375 : K.lookup f375 = some ⟨oc375, od375, .func (PySem.W.fnOf "sequence_evidence" "sequence_evidence" (defArgs dm375.st) (defBody dm375.st) (defScope dm375.st) .none kV375 dc375 pm375 an375 cd375 ct375), sl375⟩)
    (c375 : PySem.W.codeIn K cd375 "sequence_evidence" = true)
    (k375 : PySem.W.keepIn K (.ref f375) = true)
    (a376 : PySem.W.nsIn K mainGlobals "parts" = some (some (.ref f376)))
    (l376 : K.lookup f376 = some ⟨oc376, od376, .func (PySem.W.fnOf "parts" "parts" (defArgs dm376.st) (defBody dm376.st) (defScope dm376.st) .none kV376 dc376 pm376 an376 cd376 ct376), sl376⟩)
    (c376 : PySem.W.codeIn K cd376 "parts" = true)
    (k376 : PySem.W.keepIn K (.ref f376) = true)
    (a377 : PySem.W.nsIn K mainGlobals "shows_rest" = some (some (.ref f377)))
    (l377 : K.lookup f377 = some ⟨oc377, od377, .func (PySem.W.fnOf "shows_rest" "shows_rest" (defArgs dm377.st) (defBody dm377.st) (defScope dm377.st) .none kV377 dc377 pm377 an377 cd377 ct377), sl377⟩)
    (c377 : PySem.W.codeIn K cd377 "shows_rest" = true)
    (k377 : PySem.W.keepIn K (.ref f377) = true)
    (a378 : PySem.W.nsIn K mainGlobals "accepts_sequence" = some (some (.ref f378)))
    (l378 : K.lookup f378 = some ⟨oc378, od378, .func (PySem.W.fnOf "accepts_sequence" "accepts_sequence" (defArgs dm378.st) (defBody dm378.st) (defScope dm378.st) .none kV378 dc378 pm378 an378 cd378 ct378), sl378⟩)
    (c378 : PySem.W.codeIn K cd378 "accepts_sequence" = true)
    (k378 : PySem.W.keepIn K (.ref f378) = true)
    (a229 : PySem.W.nsIn K mainGlobals "_law_stream" = some (some (.ref f229)))
    (l229 : K.lookup f229 = some ⟨oc229, od229, .func (PySem.W.fnOf "_law_stream" "_law_stream" (defArgs dm229.st) (defBody dm229.st) (defScope dm229.st) .none kV229 dc229 pm229 an229 cd229 ct229), sl229⟩)
    (c229 : PySem.W.codeIn K cd229 "_law_stream" = true)
    (k229 : PySem.W.keepIn K (.ref f229) = true)
    (a230 : PySem.W.nsIn K mainGlobals "_law_next" = some (some (.ref f230)))
    (l230 : K.lookup f230 = some ⟨oc230, od230, .func (PySem.W.fnOf "_law_next" "_law_next" (defArgs dm230.st) (defBody dm230.st) (defScope dm230.st) .none kV230 dc230 pm230 an230 cd230 ct230), sl230⟩)
    (c230 : PySem.W.codeIn K cd230 "_law_next" = true)
    (k230 : PySem.W.keepIn K (.ref f230) = true)
    (a16 : PySem.W.nsIn K mainGlobals "_law_is_integer" = some (some (.ref f16)))
    (l16 : K.lookup f16 = some ⟨oc16, od16, .func (PySem.W.fnOf "_law_is_integer" "_law_is_integer" (defArgs dm16.st) (defBody dm16.st) (defScope dm16.st) .none kV16 dc16 pm16 an16 cd16 ct16), sl16⟩)
    (c16 : PySem.W.codeIn K cd16 "_law_is_integer" = true)
    (k16 : PySem.W.keepIn K (.ref f16) = true)
    (a282 : PySem.W.nsIn K mainGlobals "_law_equal" = some (some (.ref f282)))
    (l282 : K.lookup f282 = some ⟨oc282, od282, .func (PySem.W.fnOf "_law_equal" "_law_equal" (defArgs dm282.st) (defBody dm282.st) (defScope dm282.st) .none kV282 dc282 pm282 an282 cd282 ct282), sl282⟩)
    (c282 : PySem.W.codeIn K cd282 "_law_equal" = true)
    (k282 : PySem.W.keepIn K (.ref f282) = true)
    (a245 : PySem.W.nsIn K mainGlobals "_law_paper" = some (some (.ref f245)))
    (l245 : K.lookup f245 = some ⟨oc245, od245, .func (PySem.W.fnOf "_law_paper" "_law_paper" (defArgs dm245.st) (defBody dm245.st) (defScope dm245.st) .none kV245 dc245 pm245 an245 cd245 ct245), sl245⟩)
    (c245 : PySem.W.codeIn K cd245 "_law_paper" = true)
    (k245 : PySem.W.keepIn K (.ref f245) = true)
    (a289 : PySem.W.nsIn K mainGlobals "_law_reflected" = some (some (.ref f289)))
    (l289 : K.lookup f289 = some ⟨oc289, od289, .func (PySem.W.fnOf "_law_reflected" "_law_reflected" (defArgs dm289.st) (defBody dm289.st) (defScope dm289.st) .none kV289 dc289 pm289 an289 cd289 ct289), sl289⟩)
    (c289 : PySem.W.codeIn K cd289 "_law_reflected" = true)
    (k289 : PySem.W.keepIn K (.ref f289) = true)
    (a290 : PySem.W.nsIn K mainGlobals "_law_marks" = some (some (.ref f290)))
    (l290 : K.lookup f290 = some ⟨oc290, od290, .func (PySem.W.fnOf "_law_marks" "_law_marks" (defArgs dm290.st) (defBody dm290.st) (defScope dm290.st) .none kV290 dc290 pm290 an290 cd290 ct290), sl290⟩)
    (c290 : PySem.W.codeIn K cd290 "_law_marks" = true)
    (k290 : PySem.W.keepIn K (.ref f290) = true)
    (a291 : PySem.W.nsIn K mainGlobals "_law_book" = some (some (.ref f291)))
    (l291 : K.lookup f291 = some ⟨oc291, od291, .func (PySem.W.fnOf "_law_book" "_law_book" (defArgs dm291.st) (defBody dm291.st) (defScope dm291.st) .none kV291 dc291 pm291 an291 cd291 ct291), sl291⟩)
    (c291 : PySem.W.codeIn K cd291 "_law_book" = true)
    (k291 : PySem.W.keepIn K (.ref f291) = true)
    (a292 : PySem.W.nsIn K mainGlobals "_law_sequence" = some (some (.ref f292)))
    (l292 : K.lookup f292 = some ⟨oc292, od292, .func (PySem.W.fnOf "_law_sequence" "_law_sequence" (defArgs dm292.st) (defBody dm292.st) (defScope dm292.st) .none kV292 dc292 pm292 an292 cd292 ct292), sl292⟩)
    (c292 : PySem.W.codeIn K cd292 "_law_sequence" = true)
    (k292 : PySem.W.keepIn K (.ref f292) = true)
    (a293 : PySem.W.nsIn K mainGlobals "_law_is_gathering" = some (some (.ref f293)))
    (l293 : K.lookup f293 = some ⟨oc293, od293, .func (PySem.W.fnOf "_law_is_gathering" "_law_is_gathering" (defArgs dm293.st) (defBody dm293.st) (defScope dm293.st) .none kV293 dc293 pm293 an293 cd293 ct293), sl293⟩)
    (c293 : PySem.W.codeIn K cd293 "_law_is_gathering" = true)
    (k293 : PySem.W.keepIn K (.ref f293) = true)
    (a379 : PySem.W.nsIn K mainGlobals "_law_all_collations" = some (some (.ref f379)))
    (l379 : K.lookup f379 = some ⟨oc379, od379, .func (PySem.W.fnOf "_law_all_collations" "_law_all_collations" (defArgs dm379.st) (defBody dm379.st) (defScope dm379.st) .none kV379 dc379 pm379 an379 cd379 ct379), sl379⟩)
    (c379 : PySem.W.codeIn K cd379 "_law_all_collations" = true)
    (k379 : PySem.W.keepIn K (.ref f379) = true)
    (a294 : PySem.W.nsIn K mainGlobals "_law_split" = some (some (.ref f294)))
    (l294 : K.lookup f294 = some ⟨oc294, od294, .func (PySem.W.fnOf "_law_split" "_law_split" (defArgs dm294.st) (defBody dm294.st) (defScope dm294.st) .none kV294 dc294 pm294 an294 cd294 ct294), sl294⟩)
    (c294 : PySem.W.codeIn K cd294 "_law_split" = true)
    (k294 : PySem.W.keepIn K (.ref f294) = true)
    (a380 : PySem.W.nsIn K mainGlobals "law" = some (some (.ref f380)))
    (l380 : K.lookup f380 = some ⟨oc380, od380, .func (PySem.W.fnOf "law" "law" (defArgs dm380.st) (defBody dm380.st) (defScope dm380.st) .none kV380 dc380 pm380 an380 cd380 ct380), sl380⟩)
    (c380 : PySem.W.codeIn K cd380 "law" = true)
    (k380 : PySem.W.keepIn K (.ref f380) = true)
    (gBadValue : PySem.W.nsIn K mainGlobals "BadValue" = some (some (.ref CBadValue)))
    (xBadValue : K.lookup CBadValue = some (excClassObj nmBadValue qnBadValue CBadValue NBadValue bsBadValue bmBadValue true snBadValue subBadValue abBadValue colBadValue ddBadValue m0BadValue m1BadValue m2BadValue m3BadValue m5BadValue "ValueError.__new__"))
    (vBadValue : PySem.HandSPX.refsVE bmBadValue = true)
    (saBadValue : PySem.W.findIn K (.ref CBadValue) "__setattr__" = some (some (.builtin "object.__setattr__")))
    (eCBadValue : PySem.W.subIn K (.ref CBadValue) (.type "BaseException") = some true) (tCBadValue : PySem.W.typeIn K (.ref CBadValue) = some (.type "type")) (kCBadValue : PySem.W.keepIn K (.ref CBadValue) = true)
    (nbBadValue : PySem.W.findIn K (.ref CBadValue) "name" = some none)
    (aBadValue : PySem.W.findIn K (.ref CBadValue) "__init__" = some (some (.ref fBadValue))) (tBadValue : PySem.W.typeIn K (.ref fBadValue) = some (.type "function"))
    (lBadValue : K.lookup fBadValue = some ⟨ocBadValue, odBadValue, .func (PySem.W.fnOf "__init__" "BadValue.__init__" (defArgs inBadValue) (defBody inBadValue) (defScope inBadValue) .none kVBadValue dcBadValue pmBadValue anBadValue cdBadValue ctBadValue), slBadValue⟩)
    (cBadValue : PySem.W.codeIn K cdBadValue "BadValue.__init__" = true)
    (gMOST_MARKS : PySem.W.nsIn K mainGlobals "MOST_MARKS" = some (some (.int 6 tMOST_MARKS)))
    (gMOST_LEAVES : PySem.W.nsIn K mainGlobals "MOST_LEAVES" = some (some (.int 16 tMOST_LEAVES)))
    (gMOST_SHEETS : PySem.W.nsIn K mainGlobals "MOST_SHEETS" = some (some (.int 8 tMOST_SHEETS)))
    (zabs : PySem.W.nsIn K mainGlobals "abs" = some none)
    (zall : PySem.W.nsIn K mainGlobals "all" = some none)
    (zbool : PySem.W.nsIn K mainGlobals "bool" = some none)
    (zenumerate : PySem.W.nsIn K mainGlobals "enumerate" = some none)
    (zint : PySem.W.nsIn K mainGlobals "int" = some none)
    (zisinstance : PySem.W.nsIn K mainGlobals "isinstance" = some none)
    (zlen : PySem.W.nsIn K mainGlobals "len" = some none)
    (zlist : PySem.W.nsIn K mainGlobals "list" = some none)
    (zrange : PySem.W.nsIn K mainGlobals "range" = some none)
    (zstr : PySem.W.nsIn K mainGlobals "str" = some none)
    (zsum : PySem.W.nsIn K mainGlobals "sum" = some none)
    (ztuple : PySem.W.nsIn K mainGlobals "tuple" = some none)
    : ∃ fd : FuncData, (∀ (s : Shared) (v : Value), BindsTo s fd ⟨[v], []⟩ [("_law_script", v)]) ∧ ∀ base : Heap, K.In base → base.Ns mainGlobals mg → FnOk p w K mg base (L2.CX p w) (n + 3) fa fd ["_law_script"] (spLaw K (callN prog n 380)) := by
  have e := hfa.symm.trans (PySem.W.mg_of X G a380)
  cases e
  refine ⟨_, fun s v => .of_eq rfl, fun base _ _ => FnOk.weak (fns_ok (tab := tabL tb) (mg := mg) (base := base) (gl := gl) (C := ⟨⟨K, []⟩, fun k => match k with | 1 => some CBadValue | _ => none, fldC⟩) (top_mk rfl txs ?_) n 380 dm380 fd380 _ _ rfl rfl (fun_mk (st := dm380.st) l380 c380 k380)) law_weak⟩
  exact ⟨⟨CBadValue, rfl, PySem.W.mg_of X G gBadValue, fun _ => ⟨fBadValue, _, ["self", "name"], ⟨⟨nmBadValue, qnBadValue, NBadValue, bsBadValue, bmBadValue, snBadValue, subBadValue, abBadValue, colBadValue, ddBadValue, m0BadValue, m1BadValue, m2BadValue, m3BadValue, m5BadValue, xBadValue, vBadValue⟩, saBadValue, eCBadValue, tCBadValue, kCBadValue⟩, aBadValue, tBadValue, init1_ok (st := inBadValue) ⟨⟨nmBadValue, qnBadValue, NBadValue, bsBadValue, bmBadValue, snBadValue, subBadValue, abBadValue, colBadValue, ddBadValue, m0BadValue, m1BadValue, m2BadValue, m3BadValue, m5BadValue, xBadValue, vBadValue⟩, saBadValue, eCBadValue, tCBadValue, kCBadValue⟩ nbBadValue lBadValue cBadValue ⟨rfl, rfl, rfl, by decide +kernel, rfl, by decide +kernel, by decide +kernel⟩ ⟨by rfl, by rfl⟩ ⟨by rfl, by rfl⟩ (by rfl), .all fun us hl => match us, hl with | [_, _], _ => rfl⟩⟩, ⟨_, .int 6, .int 6, PySem.W.mg_of X G gMOST_MARKS, ⟨_, rfl⟩, rfl, fun _ _ _ => rv_i⟩, ⟨_, .int 16, .int 16, PySem.W.mg_of X G gMOST_LEAVES, ⟨_, rfl⟩, rfl, fun _ _ _ => rv_i⟩, ⟨fd0, dm0, _, _, rfl, rfl, PySem.W.mg_of X G a0, fun_mk (st := dm0.st) l0 c0 k0, (fun_mk (st := dm0.st) l0 c0 k0).binds (ps := dm0.ps) fun _ _ _ _ _ _ us hl => match us, hl with | [_, _, _], _ => rfl⟩, ⟨fd279, dm279, _, _, rfl, rfl, PySem.W.mg_of X G a279, fun_mk (st := dm279.st) l279 c279 k279, (fun_mk (st := dm279.st) l279 c279 k279).binds (ps := dm279.ps) fun _ _ _ _ _ _ us hl => match us, hl with | [_], _ => rfl⟩, ⟨fd280, dm280, _, _, rfl, rfl, PySem.W.mg_of X G a280, fun_mk (st := dm280.st) l280 c280 k280, (fun_mk (st := dm280.st) l280 c280 k280).binds (ps := dm280.ps) fun _ _ _ _ _ _ us hl => match us, hl with | [_, _], _ => rfl⟩, ⟨fd281, dm281, _, _, rfl, rfl, PySem.W.mg_of X G a281, fun_mk (st := dm281.st) l281 c281 k281, (fun_mk (st := dm281.st) l281 c281 k281).binds (ps := dm281.ps) fun _ _ _ _ _ _ us hl => match us, hl with | [_, _], _ => rfl⟩, ⟨fd285, dm285, _, _, rfl, rfl, PySem.W.mg_of X G a285, fun_mk (st := dm285.st) l285 c285 k285, (fun_mk (st := dm285.st) l285 c285 k285).binds (ps := dm285.ps) fun _ _ _ _ _ _ us hl => match us, hl with | [_], _ => rfl⟩, ⟨fd286, dm286, _, _, rfl, rfl, PySem.W.mg_of X G a286, fun_mk (st := dm286.st) l286 c286 k286, (fun_mk (st := dm286.st) l286 c286 k286).binds (ps := dm286.ps) fun _ _ _ _ _ _ us hl => match us, hl with | [_, _], _ => rfl⟩, ⟨fd238, dm238, _, _, rfl, rfl, PySem.W.mg_of X G a238, fun_mk (st := dm238.st) l238 c238 k238, (fun_mk (st := dm238.st) l238 c238 k238).binds (ps := dm238.ps) fun _ _ _ _ _ _ us hl => match us, hl with | [_, _], _ => rfl⟩, ⟨fd239, dm239, _, _, rfl, rfl, PySem.W.mg_of X G a239, fun_mk (st := dm239.st) l239 c239 k239, (fun_mk (st := dm239.st) l239 c239 k239).binds (ps := dm239.ps) fun _ _ _ _ _ _ us hl => match us, hl with | [_, _], _ => rfl⟩, ⟨fd240, dm240, _, _, rfl, rfl, PySem.W.mg_of X G a240, fun_mk (st := dm240.st) l240 c240 k240, (fun_mk (st := dm240.st) l240 c240 k240).binds (ps := dm240.ps) fun _ _ _ _ _ _ us hl => match us, hl with | [_, _, _], _ => rfl⟩, ⟨fd241, dm241, _, _, rfl, rfl, PySem.W.mg_of X G a241, fun_mk (st := dm241.st) l241 c241 k241, (fun_mk (st := dm241.st) l241 c241 k241).binds (ps := dm241.ps) fun _ _ _ _ _ _ us hl => match us, hl with | [_, _], _ => rfl⟩, ⟨_, .int 8, .int 8, PySem.W.mg_of X G gMOST_SHEETS, ⟨_, rfl⟩, rfl, fun _ _ _ => rv_i⟩, ⟨fd373, dm373, _, _, rfl, rfl, PySem.W.mg_of X G a373, fun_mk (st := dm373.st) l373 c373 k373, (fun_mk (st := dm373.st) l373 c373 k373).binds (ps := dm373.ps) fun _ _ _ _ _ _ us hl => match us, hl with | [_], _ => rfl⟩, ⟨fd374, dm374, _, _, rfl, rfl, PySem.W.mg_of X G a374, fun_mk (st := dm374.st) l374 c374 k374, (fun_mk (st := dm374.st) l374 c374 k374).binds (ps := dm374.ps) fun _ _ _ _ _ _ us hl => match us, hl with | [_, _, _], _ => rfl⟩, ⟨fd375, dm375, _, _, rfl, rfl, PySem.W.mg_of X G a375, fun_mk (st := dm375.st) l375 c375 k375, (fun_mk (st := dm375.st) l375 c375 k375).binds (ps := dm375.ps) fun _ _ _ _ _ _ us hl => match us, hl with | [_, _], _ => rfl⟩, ⟨fd376, dm376, _, _, rfl, rfl, PySem.W.mg_of X G a376, fun_mk (st := dm376.st) l376 c376 k376, (fun_mk (st := dm376.st) l376 c376 k376).binds (ps := dm376.ps) fun _ _ _ _ _ _ us hl => match us, hl with | [_, _, _, _, _], _ => rfl⟩, ⟨fd377, dm377, _, _, rfl, rfl, PySem.W.mg_of X G a377, fun_mk (st := dm377.st) l377 c377 k377, (fun_mk (st := dm377.st) l377 c377 k377).binds (ps := dm377.ps) fun _ _ _ _ _ _ us hl => match us, hl with | [_, _, _, _], _ => rfl⟩, ⟨fd378, dm378, _, _, rfl, rfl, PySem.W.mg_of X G a378, fun_mk (st := dm378.st) l378 c378 k378, (fun_mk (st := dm378.st) l378 c378 k378).binds (ps := dm378.ps) fun _ _ _ _ _ _ us hl => match us, hl with | [_, _, _], _ => rfl⟩, ⟨fd229, dm229, _, _, rfl, rfl, PySem.W.mg_of X G a229, fun_mk (st := dm229.st) l229 c229 k229, (fun_mk (st := dm229.st) l229 c229 k229).binds (ps := dm229.ps) fun _ _ _ _ _ _ us hl => match us, hl with | [_], _ => rfl⟩, ⟨fd230, dm230, _, _, rfl, rfl, PySem.W.mg_of X G a230, fun_mk (st := dm230.st) l230 c230 k230, (fun_mk (st := dm230.st) l230 c230 k230).binds (ps := dm230.ps) fun _ _ _ _ _ _ us hl => match us, hl with | [_, _], _ => rfl⟩, ⟨fd16, dm16, _, _, rfl, rfl, PySem.W.mg_of X G a16, fun_mk (st := dm16.st) l16 c16 k16, (fun_mk (st := dm16.st) l16 c16 k16).binds (ps := dm16.ps) fun _ _ _ _ _ _ us hl => match us, hl with | [_], _ => rfl⟩, ⟨fd282, dm282, _, _, rfl, rfl, PySem.W.mg_of X G a282, fun_mk (st := dm282.st) l282 c282 k282, (fun_mk (st := dm282.st) l282 c282 k282).binds (ps := dm282.ps) fun _ _ _ _ _ _ us hl => match us, hl with | [_, _], _ => rfl⟩, ⟨fd245, dm245, _, _, rfl, rfl, PySem.W.mg_of X G a245, fun_mk (st := dm245.st) l245 c245 k245, (fun_mk (st := dm245.st) l245 c245 k245).binds (ps := dm245.ps) fun _ _ _ _ _ _ us hl => match us, hl with | [_], _ => rfl⟩, ⟨fd289, dm289, _, _, rfl, rfl, PySem.W.mg_of X G a289, fun_mk (st := dm289.st) l289 c289 k289, (fun_mk (st := dm289.st) l289 c289 k289).binds (ps := dm289.ps) fun _ _ _ _ _ _ us hl => match us, hl with | [_, _], _ => rfl⟩, ⟨fd290, dm290, _, _, rfl, rfl, PySem.W.mg_of X G a290, fun_mk (st := dm290.st) l290 c290 k290, (fun_mk (st := dm290.st) l290 c290 k290).binds (ps := dm290.ps) fun _ _ _ _ _ _ us hl => match us, hl with | [_, _, _], _ => rfl⟩, ⟨fd291, dm291, _, _, rfl, rfl, PySem.W.mg_of X G a291, fun_mk (st := dm291.st) l291 c291 k291, (fun_mk (st := dm291.st) l291 c291 k291).binds (ps := dm291.ps) fun _ _ _ _ _ _ us hl => match us, hl with | [_, _, _], _ => rfl⟩, ⟨fd292, dm292, _, _, rfl, rfl, PySem.W.mg_of X G a292, fun_mk (st := dm292.st) l292 c292 k292, (fun_mk (st := dm292.st) l292 c292 k292).binds (ps := dm292.ps) fun _ _ _ _ _ _ us hl => match us, hl with | [_, _, _], _ => rfl⟩, ⟨fd293, dm293, _, _, rfl, rfl, PySem.W.mg_of X G a293, fun_mk (st := dm293.st) l293 c293 k293, (fun_mk (st := dm293.st) l293 c293 k293).binds (ps := dm293.ps) fun _ _ _ _ _ _ us hl => match us, hl with | [_, _], _ => rfl⟩, ⟨fd379, dm379, _, _, rfl, rfl, PySem.W.mg_of X G a379, fun_mk (st := dm379.st) l379 c379 k379, (fun_mk (st := dm379.st) l379 c379 k379).binds (ps := dm379.ps) fun _ _ _ _ _ _ us hl => match us, hl with | [_, _], _ => rfl⟩, ⟨fd294, dm294, _, _, rfl, rfl, PySem.W.mg_of X G a294, fun_mk (st := dm294.st) l294 c294 k294, (fun_mk (st := dm294.st) l294 c294 k294).binds (ps := dm294.ps) fun _ _ _ _ _ _ us hl => match us, hl with | [_, _], _ => rfl⟩, ⟨fd380, dm380, _, _, rfl, rfl, PySem.W.mg_of X G a380, fun_mk (st := dm380.st) l380 c380 k380, (fun_mk (st := dm380.st) l380 c380 k380).binds (ps := dm380.ps) fun _ _ _ _ _ _ us hl => match us, hl with | [_], _ => rfl⟩, PySem.W.mg_none_of X G zabs, PySem.W.mg_none_of X G zall, PySem.W.mg_none_of X G zbool, PySem.W.mg_none_of X G zenumerate, PySem.W.mg_none_of X G zint, PySem.W.mg_none_of X G zisinstance, PySem.W.mg_none_of X G zlen, PySem.W.mg_none_of X G zlist, PySem.W.mg_none_of X G zrange, PySem.W.mg_none_of X G zstr, PySem.W.mg_none_of X G zsum, PySem.W.mg_none_of X G ztuple, trivial⟩
end k26
end Qm

namespace Qm
namespace k26
instance : HasF prog 0 fd0 := ⟨rfl⟩
instance : HasF prog 279 fd279 := ⟨rfl⟩
instance : HasF prog 280 fd280 := ⟨rfl⟩
instance : HasF prog 281 fd281 := ⟨rfl⟩
instance : HasF prog 285 fd285 := ⟨rfl⟩
instance : HasF prog 286 fd286 := ⟨rfl⟩
instance : HasF prog 238 fd238 := ⟨rfl⟩
instance : HasF prog 239 fd239 := ⟨rfl⟩
instance : HasF prog 240 fd240 := ⟨rfl⟩
instance : HasF prog 241 fd241 := ⟨rfl⟩
instance : HasF prog 373 fd373 := ⟨rfl⟩
instance : HasF prog 374 fd374 := ⟨rfl⟩
instance : HasF prog 375 fd375 := ⟨rfl⟩
instance : HasF prog 376 fd376 := ⟨rfl⟩
instance : HasF prog 377 fd377 := ⟨rfl⟩
instance : HasF prog 378 fd378 := ⟨rfl⟩
instance : HasF prog 229 fd229 := ⟨rfl⟩
instance : HasF prog 230 fd230 := ⟨rfl⟩
instance : HasF prog 16 fd16 := ⟨rfl⟩
instance : HasF prog 282 fd282 := ⟨rfl⟩
instance : HasF prog 245 fd245 := ⟨rfl⟩
instance : HasF prog 289 fd289 := ⟨rfl⟩
instance : HasF prog 290 fd290 := ⟨rfl⟩
instance : HasF prog 291 fd291 := ⟨rfl⟩
instance : HasF prog 292 fd292 := ⟨rfl⟩
instance : HasF prog 293 fd293 := ⟨rfl⟩
instance : HasF prog 379 fd379 := ⟨rfl⟩
instance : HasF prog 294 fd294 := ⟨rfl⟩
instance : HasF prog 380 fd380 := ⟨rfl⟩
instance : HasC prog 2 (.int 6) := ⟨rfl⟩
instance : HasC prog 3 (.int 16) := ⟨rfl⟩
instance : HasC prog 4 (.int 8) := ⟨rfl⟩
theorem math (ns : List Int) (_ : ns.length ≤ 63) : ∃ h, callN prog 60 380 [.scr ns] [] = .ok (.bl true) h := ⟨[], o_law_k26 45 ns (good ns)⟩
end k26
end Qm
open PySem PySem.W PyProof.Rows
set_option maxRecDepth 100000 in
set_option maxHeartbeats 0 in
theorem PySem.Challenge.cw_quiremarks_k26_told_evidence_of_sequence_holds : PySem.Challenge.rw_quiremarks_k26_told_evidence_of_sequence.Holds := by
  w_on; o_law; k_head; (case hw => w_witness2)
  k_fill
  refine L2.walk_of (l := PySem.Challenge.rw_quiremarks_k26_told_evidence_of_sequence) (n := 63) (k := 63) (x := "_law_script") (CX := fun w => L2.CX (PySem.Challenge.rw_quiremarks_k26_told_evidence_of_sequence).prog w) (sp := fun w => Qm.spLaw _ (Qm.callN Qm.k26.prog 60 380)) rfl (by decide) rfl (Qm.room_top (n := 60) (Nat.le_refl _)) (fun w h Y => PySem.W.kIn_of Y) ?F (fun _ _ a ns hl hO hS => Qm.law_sp (Qm.k26.math ns hl) (Nat.le_trans hl (by decide)) hS) (fun _ _ _ _ _ h => Qm.cx_never h)
  case F =>
    intro w mg fa h KX G hmg
    refine' Qm.k26.all_mk 60 KX G hmg ?a0 ?l0 ?c0 ?k0 ?a279 ?l279 ?c279 ?k279 ?a280 ?l280 ?c280 ?k280 ?a281 ?l281 ?c281 ?k281 ?a285 ?l285 ?c285 ?k285 ?a286 ?l286 ?c286 ?k286 ?a238 ?l238 ?c238 ?k238 ?a239 ?l239 ?c239 ?k239 ?a240 ?l240 ?c240 ?k240 ?a241 ?l241 ?c241 ?k241 ?a373 ?l373 ?c373 ?k373 ?a374 ?l374 ?c374 ?k374 ?a375 ?l375 ?c375 ?k375 ?a376 ?l376 ?c376 ?k376 ?a377 ?l377 ?c377 ?k377 ?a378 ?l378 ?c378 ?k378 ?a229 ?l229 ?c229 ?k229 ?a230 ?l230 ?c230 ?k230 ?a16 ?l16 ?c16 ?k16 ?a282 ?l282 ?c282 ?k282 ?a245 ?l245 ?c245 ?k245 ?a289 ?l289 ?c289 ?k289 ?a290 ?l290 ?c290 ?k290 ?a291 ?l291 ?c291 ?k291 ?a292 ?l292 ?c292 ?k292 ?a293 ?l293 ?c293 ?k293 ?a379 ?l379 ?c379 ?k379 ?a294 ?l294 ?c294 ?k294 ?a380 ?l380 ?c380 ?k380 ?gBadValue ?xBadValue ?vBadValue ?saBadValue ?eCBadValue ?tCBadValue ?kCBadValue ?nbBadValue ?aBadValue ?tBadValue ?lBadValue ?cBadValue ?gMOST_MARKS ?gMOST_LEAVES ?gMOST_SHEETS ?zabs ?zall ?zbool ?zenumerate ?zint ?zisinstance ?zlen ?zlist ?zrange ?zstr ?zsum ?ztuple
    (case a0 => k_is); (case l0 => k_is); (case c0 => k_is); (case k0 => k_is); (case a279 => k_is); (case l279 => k_is); (case c279 => k_is); (case k279 => k_is); (case a280 => k_is); (case l280 => k_is); (case c280 => k_is); (case k280 => k_is); (case a281 => k_is); (case l281 => k_is); (case c281 => k_is); (case k281 => k_is); (case a285 => k_is); (case l285 => k_is); (case c285 => k_is); (case k285 => k_is); (case a286 => k_is); (case l286 => k_is); (case c286 => k_is); (case k286 => k_is); (case a238 => k_is); (case l238 => k_is); (case c238 => k_is); (case k238 => k_is); (case a239 => k_is); (case l239 => k_is); (case c239 => k_is); (case k239 => k_is); (case a240 => k_is); (case l240 => k_is); (case c240 => k_is); (case k240 => k_is); (case a241 => k_is); (case l241 => k_is); (case c241 => k_is); (case k241 => k_is); (case a373 => k_is); (case l373 => k_is); (case c373 => k_is); (case k373 => k_is); (case a374 => k_is); (case l374 => k_is); (case c374 => k_is); (case k374 => k_is); (case a375 => k_is); (case l375 => k_is); (case c375 => k_is); (case k375 => k_is); (case a376 => k_is); (case l376 => k_is); (case c376 => k_is); (case k376 => k_is); (case a377 => k_is); (case l377 => k_is); (case c377 => k_is); (case k377 => k_is); (case a378 => k_is); (case l378 => k_is); (case c378 => k_is); (case k378 => k_is); (case a229 => k_is); (case l229 => k_is); (case c229 => k_is); (case k229 => k_is); (case a230 => k_is); (case l230 => k_is); (case c230 => k_is); (case k230 => k_is); (case a16 => k_is); (case l16 => k_is); (case c16 => k_is); (case k16 => k_is); (case a282 => k_is); (case l282 => k_is); (case c282 => k_is); (case k282 => k_is); (case a245 => k_is); (case l245 => k_is); (case c245 => k_is); (case k245 => k_is); (case a289 => k_is); (case l289 => k_is); (case c289 => k_is); (case k289 => k_is); (case a290 => k_is); (case l290 => k_is); (case c290 => k_is); (case k290 => k_is); (case a291 => k_is); (case l291 => k_is); (case c291 => k_is); (case k291 => k_is); (case a292 => k_is); (case l292 => k_is); (case c292 => k_is); (case k292 => k_is); (case a293 => k_is); (case l293 => k_is); (case c293 => k_is); (case k293 => k_is); (case a379 => k_is); (case l379 => k_is); (case c379 => k_is); (case k379 => k_is); (case a294 => k_is); (case l294 => k_is); (case c294 => k_is); (case k294 => k_is); (case a380 => k_is); (case l380 => k_is); (case c380 => k_is); (case k380 => k_is); (case gBadValue => k_is); (case xBadValue => k_is); (case saBadValue => k_is); (case eCBadValue => k_is); (case tCBadValue => k_is); (case kCBadValue => k_is); (case nbBadValue => k_is); (case aBadValue => k_is); (case tBadValue => k_is); (case lBadValue => k_is); (case cBadValue => k_is); (case gMOST_MARKS => k_is); (case gMOST_LEAVES => k_is); (case gMOST_SHEETS => k_is); (case zabs => k_is); (case zall => k_is); (case zbool => k_is); (case zenumerate => k_is); (case zint => k_is); (case zisinstance => k_is); (case zlen => k_is); (case zlist => k_is); (case zrange => k_is); (case zstr => k_is); (case zsum => k_is); (case ztuple => k_is); (case vBadValue => decide +kernel)

