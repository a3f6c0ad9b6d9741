import PyProof.Rows.All
import Wide.All
import OpenK.AllK
import Wide.FinOn
import HandS.ForMost
import HandS.ForExc
import HandS.ExcInit
import HandS.ExcField
import HandS.TryMany
import HandS.Deep
import HandS.DictComp
import HandS.DictTup
import HandS.TupLen
import HandS.Rev
import HandS.Conv
import HandS.SortInts
import HandS.SortRule
import HandS.IsInst
import HandS.Flow
import HandS.TupLe
import HandS.Zip
import HandS.Strs
import PyProof.StrBlock2
import HandS.Style
import HandS.TupAny
import HandS.TupMul
import KE.DataMinMax
import KE.KTupSum
import KE.DataCmp
import KE.GoesEnum
import HandS.ExcIs
import KE.KExcIs
import PyProof.TableCode
import PySem.Challenge.RW_quiremarks_k07_refusals_of_papers
set_option Elab.async false
set_option linter.all false
set_option maxRecDepth 100000
set_option maxHeartbeats 4000000
/-! Qm: a small evaluator of pure Python values over a small heap. Q0: values, syntax, evaluation. -/
namespace Qm
open PySem (Str)

/-- a value: lists (lst) that nobody changes any more, tuples, dicts (t: keyed by tuples) as trees; ref: a thing of the small heap that can change; scr: the law's script -/
inductive PV where
  | non | bl (b : Bool) | int (i : Int) | str (s : Str)
  | tup (xs : List PV) | lst (xs : List PV) | dic (t : Bool) (ks vs : List PV)
  | ref (n : Nat) | scr (ns : List Int)
  deriving Inhabited

mutual
def PV.beq : PV → PV → Bool
  | .non, .non => true
  | .bl a, .bl b => a == b
  | .int a, .int b => a == b
  | .str a, .str b => a == b
  | .tup a, .tup b => PV.beqs a b
  | .lst a, .lst b => PV.beqs a b
  | .dic t a b, .dic u c d => (t == u) && PV.beqs a c && PV.beqs b d
  | .ref a, .ref b => a == b
  | .scr a, .scr b => a == b
  | _, _ => false
def PV.beqs : List PV → List PV → Bool
  | [], [] => true
  | x :: xs, y :: ys => PV.beq x y && PV.beqs xs ys
  | _, _ => false
end
mutual
theorem PV.beq_self : ∀ x : PV, PV.beq x x = true
  | .non => by simp [PV.beq]
  | .bl _ => by simp [PV.beq]
  | .int _ => by simp [PV.beq]
  | .str _ => by simp [PV.beq]
  | .tup a => by simp [PV.beq, PV.beqs_self a]
  | .lst a => by simp [PV.beq, PV.beqs_self a]
  | .dic _ a b => by simp [PV.beq, PV.beqs_self a, PV.beqs_self b]
  | .ref _ => by simp [PV.beq]
  | .scr _ => by simp [PV.beq]
theorem PV.beqs_self : ∀ x : List PV, PV.beqs x x = true
  | [] => by simp [PV.beqs]
  | x :: xs => by simp [PV.beqs, PV.beq_self x, PV.beqs_self xs]
end
mutual
theorem PV.eq_of_beq : ∀ x y : PV, PV.beq x y = true → x = y
  | .non, y, h => by cases y <;> simp [PV.beq] at h ⊢
  | .bl _, y, h => by cases y <;> simp [PV.beq] at h ⊢; exact h
  | .int _, y, h => by cases y <;> simp [PV.beq] at h ⊢; exact h
  | .str _, y, h => by cases y <;> simp [PV.beq] at h ⊢; exact h
  | .tup a, y, h => by cases y <;> simp [PV.beq] at h ⊢; exact PV.eqs_of_beqs _ _ h
  | .lst a, y, h => by cases y <;> simp [PV.beq] at h ⊢; exact PV.eqs_of_beqs _ _ h
  | .dic _ a b, y, h => by
    cases y <;> simp [PV.beq] at h ⊢
    exact ⟨h.1.1, PV.eqs_of_beqs _ _ h.1.2, PV.eqs_of_beqs _ _ h.2⟩
  | .ref _, y, h => by cases y <;> simp [PV.beq] at h ⊢; exact h
  | .scr _, y, h => by cases y <;> simp [PV.beq] at h ⊢; exact h
theorem PV.eqs_of_beqs : ∀ x y : List PV, PV.beqs x y = true → x = y
  | [], y, h => by cases y <;> simp [PV.beqs] at h ⊢
  | x :: xs, y, h => by
    cases y with
    | nil => simp [PV.beqs] at h
    | cons z zs =>
      simp [PV.beqs] at h
      rw [PV.eq_of_beq _ _ h.1, PV.eqs_of_beqs _ _ h.2]
end
instance : DecidableEq PV := fun x y => if h : PV.beq x y = true then .isTrue (PV.eq_of_beq x y h) else .isFalse fun e => h (e ▸ PV.beq_self x)

/-- a thing of the small heap: a list, a dict, an instance (of the class numbered c, its fields) -/
inductive MO where
  | lst (xs : List PV) | dic (t : Bool) (ks vs : List PV) | ins (c : Nat) (fs : List (Nat × PV))
  deriving DecidableEq, Inhabited
abbrev MHp := List MO
abbrev Env := List (Option PV)
/-- an exception: its class's number, its fields -/
structure MX where
  cls : Nat
  fs : List PV
  deriving DecidableEq
inductive Res (α : Type) where
  | ok (a : α) (h : MHp) | exn (x : MX) (h : MHp) | stuck
inductive SRes where
  | nx (σ : Env) (h : MHp) | rt (v : PV) (h : MHp) | bk (σ : Env) (h : MHp) | ct (σ : Env) (h : MHp) | ex (x : MX) (σ : Env) (h : MHp) | stuck
def Res.bind {α β : Type} (r : Res α) (f : α → MHp → Res β) : Res β :=
  match r with
  | .ok a h => f a h
  | .exn x h => .exn x h
  | .stuck => .stuck
@[simp] theorem Res.bind_ok {α β : Type} (a : α) (h : MHp) (f : α → MHp → Res β) : (Res.ok a h).bind f = f a h := rfl
@[simp] theorem Res.bind_exn {α β : Type} (x : MX) (h : MHp) (f : α → MHp → Res β) : (Res.exn x h).bind f = .exn x h := rfl
@[simp] theorem Res.bind_stuck {α β : Type} (f : α → MHp → Res β) : (Res.stuck : Res α).bind f = .stuck := rfl
def ofOpt {α : Type} (o : Option α) (h : MHp) : Res α := match o with | some a => .ok a h | none => .stuck
@[simp] theorem ofOpt_some {α : Type} (a : α) (h : MHp) : ofOpt (some a) h = .ok a h := rfl
@[simp] theorem ofOpt_none {α : Type} (h : MHp) : ofOpt (none : Option α) h = .stuck := rfl

abbrev big : Nat := 16777216

/-! ### operations by values -/
inductive BO where
  | add | sub | mul | fdv | mod | pow
  deriving DecidableEq
inductive CO where
  | eq | ne | lt | le | gt | ge | isN | notN | isin | notin
  deriving DecidableEq
/-- the items of a list, a tuple -/
def itemsT : PV → MHp → Option (List PV)
  | .tup xs, _ => some xs
  | .lst xs, _ => some xs
  | .ref n, h => match h[n]? with | some (.lst xs) => some xs | _ => none
  | _, _ => none
/-- the items of a list -/
def itemsL : PV → MHp → Option (List PV)
  | .lst xs, _ => some xs
  | .ref n, h => match h[n]? with | some (.lst xs) => some xs | _ => none
  | _, _ => none
/-- a dict -/
def asDic : PV → MHp → Option (Bool × List PV × List PV)
  | .dic t ks vs, _ => some (t, ks, vs)
  | .ref n, h => match h[n]? with | some (.dic t ks vs) => some (t, ks, vs) | _ => none
  | _, _ => none
def repN (xs : List PV) : Nat → List PV
  | 0 => []
  | n + 1 => xs ++ repN xs n
def small64 (i : Int) : Bool := decide (-(2 ^ 64) < i ∧ i < 2 ^ 64)
def smallR (i : Int) : Bool := decide (-(2 ^ 62) ≤ i ∧ i < 2 ^ 62)
def bopI : BO → Int → Int → Option PV
  | .add, i, j => some (.int (i + j))
  | .sub, i, j => some (.int (i - j))
  | .mul, i, j => if small64 j || small64 i then some (.int (i * j)) else none
  | .fdv, i, j => if decide (0 < j) && decide (j < 1073741824) then some (.int (i / j)) else none
  | .mod, i, j => if decide (0 < j) then some (.int (i % j)) else none
  | .pow, i, j => if decide (0 ≤ j) && decide (j ≤ 1000000) && decide (i.natAbs < 2 ^ 64) then some (.int (i ^ j.toNat)) else none
def addS (x y : PV) (h : MHp) : Option PV :=
  match x, y with
  | .tup a, .tup b => if decide (a.length + b.length ≤ big) then some (.tup (a ++ b)) else none
  | .str a, .str b => if decide (a.length + b.length ≤ big) then some (.str (a ++ b)) else none
  | x, y => match itemsL x h, itemsL y h with
    | some a, some b => if decide (a.length + b.length ≤ big) then some (.lst (a ++ b)) else none
    | _, _ => none
def mulS (x : PV) (j : Int) (h : MHp) : Option PV :=
  if smallR j then
    match x with
    | .tup a => if decide (j = 1) then some (.tup a) else if decide (2 ≤ j) && decide (j ≤ 1000) && decide (a ≠ []) && decide (a.length ≤ 1000) then some (.tup (repN a j.toNat)) else none
    | .str s => if decide (j = 1) then some (.str s) else if decide (2 ≤ j) && decide (j ≤ 1000) && decide (0 < s.length) && decide (s.length ≤ 1000) then some (.str ⟨(List.replicate j.toNat s.cps).foldl (· ++ ·) #[]⟩) else none
    | x => match itemsL x h with
      | some a => if decide (a.length * j.toNat ≤ big) then some (.lst (repN a j.toNat)) else none
      | _ => none
  else none
def mulJ (x y : PV) (h : MHp) : Option PV := match y with | .int j => mulS x j h | _ => none
def bopS (o : BO) (x y : PV) (h : MHp) : Option PV :=
  match o with
  | .add => addS x y h
  | .mul => mulJ x y h
  | _ => none
def bop (o : BO) (x y : PV) (h : MHp) : Option PV :=
  match x, y with
  | .int i, .int j => bopI o i j
  | x, y => bopS o x y h

/-- the items of a list that + or * makes anew -/
def bopL (o : BO) (x y : PV) (h : MHp) : Option (List PV) :=
  match o with
  | .add => match itemsL x h, itemsL y h with
    | some a, some b => if decide (a.length + b.length ≤ big) then some (a ++ b) else none
    | _, _ => none
  | .mul => match itemsL x h, y with
    | some a, .int j => if smallR j && decide (a.length * j.toNat ≤ big) then some (repN a j.toNat) else none
    | _, _ => none
  | _ => none
/-! ### equality, order -/
mutual
def peq : PV → PV → Bool
  | .non, .non => true
  | .bl a, .bl b => a == b
  | .bl a, .int j => (if a then 1 else 0) == j
  | .int i, .bl b => i == (if b then 1 else 0)
  | .int i, .int j => i == j
  | .str a, .str b => a == b
  | .tup a, .tup b => peqs a b
  | .lst a, .lst b => peqs a b
  | _, _ => false
def peqs : List PV → List PV → Bool
  | [], [] => true
  | x :: xs, y :: ys => peq x y && peqs xs ys
  | _, _ => false
end
-- how deep; none: no data (a thing of the heap, a dict within)
mutual
def dep : PV → Option Nat
  | .non => some 0
  | .bl _ => some 0
  | .int _ => some 0
  | .str s => if s.cps.all (· < 0x110000) then some 0 else none
  | .tup xs => (deps xs).map (· + 1)
  | .lst xs => (deps xs).map (· + 1)
  | _ => none
def deps : List PV → Option Nat
  | [] => some 0
  | x :: xs => match dep x, deps xs with | some a, some b => some (max a b) | _, _ => none
end
/-- data of a depth at most 60 -/
def flatD (x : PV) : Bool := match dep x with | some n => decide (n ≤ 60) | none => false
def eqD (x y : PV) : Option Bool := if flatD x && flatD y then some (peq x y) else none
/-- a list as data: its items -/
def dataOf (x : PV) (h : MHp) : PV := match x with | .ref n => (match h[n]? with | some (.lst xs) => .lst xs | _ => x) | _ => x
-- the order of data; what may be compared
mutual
def alikeP : PV → PV → Bool
  | .non, .non => true
  | .bl _, .bl _ => true
  | .int _, .int _ => true
  | .str _, .str _ => true
  | .lst a, .lst b => alikePs a b
  | .tup a, .tup b => alikePs a b
  | _, _ => false
def alikePs : List PV → List PV → Bool
  | x :: xs, y :: ys => alikeP x y && alikePs xs ys
  | [], _ => true
  | _ :: _, [] => true
end
mutual
def pLt : PV → PV → Bool
  | .bl a, .bl b => !a && b
  | .int i, .int j => decide (i < j)
  | .str a, .str b => decide (a.cps.toList < b.cps.toList)
  | .lst a, .lst b => pLts a b
  | .tup a, .tup b => pLts a b
  | _, _ => false
def pLts : List PV → List PV → Bool
  | [], [] => false
  | [], _ :: _ => true
  | _ :: _, [] => false
  | x :: xs, y :: ys => if peq x y then pLts xs ys else pLt x y
end
/-- a key of such a dict -/
def keyOk (t : Bool) (x : PV) : Bool :=
  match t, x with
  | false, .int _ => true
  | false, .str _ => true
  | true, .tup xs => xs.all fun z => match z with | .int _ => true | _ => false
  | _, _ => false
def isinZ (x : PV) (z : Str) : Option Bool := match x with | .str w => if w.length = 1 then some (z.cps.toList.contains (w.cps.getD 0 0)) else none | _ => none
def isinR (x y : PV) (h : MHp) : Option Bool :=
  match itemsT y h with
  | some xs => if flatD x && xs.all flatD then some (xs.any fun z => peq z x) else none
  | none => match asDic y h with
    | some (t, ks, _) => if keyOk t x then some (ks.any fun z => peq z x) else none
    | none => none
def isinS (x y : PV) (h : MHp) : Option Bool :=
  match y with
  | .str z => isinZ x z
  | y => isinR x y h
def ordI : CO → Int → Int → Option Bool
  | .lt, i, j => some (decide (i < j))
  | .le, i, j => some (decide (i ≤ j))
  | .gt, i, j => some (decide (j < i))
  | .ge, i, j => some (decide (j ≤ i))
  | _, _, _ => none
def ordT : CO → List PV → List PV → Option Bool
  | .lt, a, b => some (pLts a b)
  | .gt, a, b => some (pLts b a)
  | .le, a, b => some (!pLts b a)
  | .ge, a, b => some (!pLts a b)
  | _, _, _ => none
def ordS (o : CO) (x y : PV) : Option Bool :=
  match x, y with
  | .int i, .int j => ordI o i j
  | .tup a, .tup b => if flatD (.tup a) && flatD (.tup b) && alikePs a b then ordT o a b else none
  | _, _ => none
def cop (o : CO) (x y : PV) (h : MHp) : Option Bool :=
  match o with
  | .eq => eqD (dataOf x h) (dataOf y h)
  | .ne => (eqD (dataOf x h) (dataOf y h)).map not
  | .isN => match y with | .non => some (decide (x = .non)) | .bl b => (match x with | .bl a => some (decide (a = b)) | _ => none) | _ => none
  | .notN => match y with | .non => some (!decide (x = .non)) | .bl b => (match x with | .bl a => some (!decide (a = b)) | _ => none) | _ => none
  | .isin => isinS x y h
  | .notin => (isinS x y h).map not
  | o => ordS o x y
def truthR (x : PV) (h : MHp) : Option Bool :=
  match itemsT x h with
  | some xs => some (!xs.isEmpty)
  | none => match asDic x h with
    | some (false, ks, _) => some (!ks.isEmpty)
    | _ => none
def truth (x : PV) (h : MHp) : Option Bool :=
  match x with
  | .non => some false
  | .bl b => some b
  | .int i => some (i != 0)
  | .str s => some (s.length != 0)
  | x => truthR x h
/-- a place counted from the end if it is negative -/
def ixN (n : Nat) (i : Int) : Option Nat := if 0 ≤ i then (if i < n then some i.toNat else none) else if -(n : Int) ≤ i then some (i + n).toNat else none
def atI {α : Type} (xs : List α) (i : Int) : Option α := (ixN xs.length i).bind fun j => xs[j]?
def lookK : List PV → List PV → PV → Option PV
  | k :: ks, v :: vs, x => if peq k x then some v else lookK ks vs x
  | _, _, _ => none
def indexI (xs : List PV) (i : PV) : Option PV := match i with | .int i => atI xs i | _ => none
def indexZ (z : Str) (i : PV) : Option PV := match i with | .int i => (atI z.cps.toList i).map fun c => .str ⟨#[c]⟩ | _ => none
def indexR (x i : PV) (h : MHp) : Option PV :=
  match itemsT x h with
  | some xs => indexI xs i
  | none => match asDic x h with
    | some (t, ks, vs) => if keyOk t i then lookK ks vs i else none
    | none => none
def index (x i : PV) (h : MHp) : Option PV :=
  match x with
  | .str z => indexZ z i
  | x => indexR x i h
def sIx (n d : Nat) : Option Int → Nat
  | none => d
  | some i => if i < 0 then (i + (n : Int)).toNat else min i.toNat n
def cut {α : Type} (xs : List α) (lo hi : Option Int) : List α := (xs.drop (sIx xs.length 0 lo)).take (sIx xs.length xs.length hi - sIx xs.length 0 lo)
def slice (x : PV) (lo hi : Option Int) (h : MHp) : Option PV :=
  match x with
  | .str z => some (.str ⟨(cut z.cps.toList lo hi).toArray⟩)
  | .tup xs => some (.tup (cut xs lo hi))
  | x => match itemsL x h with
    | some xs => some (.lst (cut xs lo hi))
    | none => none
def revS (x : PV) (h : MHp) : Option PV :=
  match x with
  | .tup xs => some (.tup xs.reverse)
  | x => match itemsL x h with
    | some xs => some (.lst xs.reverse)
    | none => none

/-! ### built-in functions by values -/
inductive Bi where
  | len | abs | int | sum | min1 | max1 | min2 | max2 | all | any | tuple | str
  deriving DecidableEq
/-- those that make a new list -/
inductive Bl where
  | list | sorted
  deriving DecidableEq
def bools : List PV → Option (List Bool)
  | [] => some []
  | .bl b :: r => (bools r).map (b :: ·)
  | _ => none
/-- the least one, the first of several -/
def minI : Int → List Int → Int
  | x, [] => x
  | x, y :: r => minI (if y < x then y else x) r
def maxI : Int → List Int → Int
  | x, [] => x
  | x, y :: r => maxI (if x < y then y else x) r
def insI (x : Int) : List Int → List Int
  | [] => [x]
  | y :: r => if x ≤ y then x :: y :: r else y :: insI x r
def sortI : List Int → List Int
  | [] => []
  | x :: r => insI x (sortI r)
def intsOf : List PV → Option (List Int)
  | [] => some []
  | .int i :: r => (intsOf r).map (i :: ·)
  | _ => none
/-- by the first place where they differ; the shorter first -/
def lexL : List Int → List Int → Bool
  | [], [] => false
  | [], _ :: _ => true
  | _ :: _, [] => false
  | x :: xs, y :: ys => if x = y then lexL xs ys else decide (x < y)
def intsL : List PV → Option (List (List Int))
  | [] => some []
  | .tup xs :: r => match intsOf xs, intsL r with | some a, some b => some (a :: b) | _, _ => none
  | _ => none
def insL (x : List Int) : List (List Int) → List (List Int)
  | [] => [x]
  | y :: r => if lexL y x then y :: insL x r else x :: y :: r
def sortL : List (List Int) → List (List Int)
  | [] => []
  | x :: r => insL x (sortL r)
def sortedP (xs : List PV) : Option (List PV) :=
  match intsOf xs with
  | some ns => some ((sortI ns).map .int)
  | none => match intsL xs with
    | some ls => if decide (ls.length < 2) || ls.all (fun l => !l.isEmpty) then some ((sortL ls).map fun ns => .tup (ns.map .int)) else none
    | none => none
def lenR (x : PV) (h : MHp) : Option PV :=
  match itemsT x h with
  | some xs => some (.int xs.length)
  | none => match asDic x h with
    | some (_, ks, _) => some (.int ks.length)
    | none => none
def lenP (x : PV) (h : MHp) : Option PV :=
  match x with
  | .str s => some (.int s.length)
  | x => lenR x h
def isNon : PV → Bool
  | .non => true
  | _ => false
def okOrd (l : List PV) : Bool := l.all flatD && l.all (fun x => !isNon x) && l.all fun x => l.all fun y => alikeP x y
def minV (x : PV) (r : List PV) : PV := r.foldl (fun a y => if pLt y a then y else a) x
def maxV (x : PV) (r : List PV) : PV := r.foldl (fun a y => if pLt a y then y else a) x
def minP : List PV → Option PV
  | x :: r => if okOrd (x :: r) then some (minV x r) else none
  | [] => none
def maxP : List PV → Option PV
  | x :: r => if okOrd (x :: r) then some (maxV x r) else none
  | [] => none
def sumP (xs : List PV) : Option PV := (intsOf xs).map fun ns => .int ns.sum
def absP (x : PV) : Option PV := match x with | .int i => some (.int (if i < 0 then -i else i)) | _ => none
def intP (x : PV) : Option PV := match x with | .int i => some (.int i) | .bl k => some (.int (if k then 1 else 0)) | _ => none
def strP (x : PV) : Option PV := match x with | .int i => if decide (i.natAbs < 2 ^ 64) then some (.str (Str.ofString (toString i))) else none | _ => none
def bi1 (b : Bi) (x : PV) (h : MHp) : Option PV :=
  match b with
  | .len => lenP x h
  | .abs => absP x
  | .int => intP x
  | .sum => (itemsT x h).bind sumP
  | .min1 => (itemsT x h).bind minP
  | .max1 => (itemsT x h).bind maxP
  | .all => (itemsL x h).bind fun xs => (bools xs).map fun bs => .bl (bs.all id)
  | .any => (itemsL x h).bind fun xs => (bools xs).map fun bs => .bl (bs.any id)
  | .tuple => (itemsT x h).map .tup
  | .str => none
  | _ => none
/-- the keys of a dict in order: ints, fewer than 64 -/
def sortD (x : PV) (h : MHp) : Option (List PV) :=
  match asDic x h with
  | some (false, ks, _) => match intsOf ks with
    | some ns => if decide (ns.length < 64) then some ((sortI ns).map .int) else none
    | none => none
  | _ => none
def sortV (x : PV) (h : MHp) : Option (List PV) :=
  match itemsL x h with
  | some xs => sortedP xs
  | none => sortD x h
def bl1 (b : Bl) (x : PV) (h : MHp) : Option (List PV) :=
  match b with
  | .list => match x with
    | .scr ns => some (ns.map .int)
    | x => itemsT x h
  | .sorted => sortV x h
def blS (b : Bl) (xs : List PV) (h : MHp) : Option (List PV) := match xs with | [x] => bl1 b x h | _ => none
def bi2 (b : Bi) (x y : PV) : Option PV :=
  match b, x, y with
  | .min2, .int i, .int j => some (.int (if j < i then j else i))
  | .max2, .int i, .int j => some (.int (if j > i then j else i))
  | _, _, _ => none
def biS (b : Bi) (xs : List PV) (h : MHp) : Option PV :=
  match xs with
  | [x] => bi1 b x h
  | [x, y] => bi2 b x y
  | _ => none
/-- the built-in classes that isinstance asks for -/
inductive Ty where
  | int | bool | str | tuple | list
  deriving DecidableEq
def isTy (t : Ty) (x : PV) (h : MHp) : Option Bool :=
  match x with
  | .non => some false
  | .bl _ => some (decide (t = .int) || decide (t = .bool))
  | .int _ => some (decide (t = .int))
  | .str _ => some (decide (t = .str))
  | .tup _ => some (decide (t = .tuple))
  | .lst _ => some (decide (t = .list))
  | .dic _ _ _ => some false
  | .ref n => match h[n]? with | some (.lst _) => some (decide (t = .list)) | some (.dic _ _ _) => some false | _ => none
  | .scr _ => none
/-! ### methods of built-in types -/
inductive Mt where
  | append | extend | pop | popAt | get | index | count | join | values
  deriving DecidableEq
/-- where a flat thing stands first -/
def findP (x : PV) : List PV → Nat → Option Nat
  | [], _ => none
  | y :: r, n => if peq y x then some n else findP x r (n + 1)
def repV : List PV → List PV → PV → PV → List PV
  | k :: ks, v :: vs, x, y => (if peq k x then y else v) :: repV ks vs x y
  | _, vs, _, _ => vs
def setK (ks vs : List PV) (x y : PV) : List PV × List PV := if (ks.any fun z => peq z x) then (ks, repV ks vs x y) else (ks ++ [x], vs ++ [y])
def mth (m : Mt) (x : PV) (args : List PV) (h : MHp) : Option (PV × MHp) :=
  match m, args with
  | .append, [y] => match x with
    | .ref n => match h[n]? with | some (.lst xs) => if decide (xs.length < big) then some (.non, h.set n (.lst (xs ++ [y]))) else none | _ => none
    | _ => none
  | .extend, [y] => match x with
    | .ref n => match h[n]? with
      | some (.lst xs) => (itemsL y h).bind fun ys => if decide (xs.length + ys.length ≤ big) then some (.non, h.set n (.lst (xs ++ ys))) else none
      | _ => none
    | _ => none
  | .pop, [] => match x with
    | .ref n => match h[n]? with | some (.lst xs) => (xs[xs.length - 1]?).map fun y => (y, h.set n (.lst xs.dropLast)) | _ => none
    | _ => none
  | .popAt, [.int i] => match x with
    | .ref n => match h[n]? with
      | some (.lst xs) => (ixN xs.length i).bind fun k => (xs[k]?).map fun y => (y, h.set n (.lst (xs.eraseIdx k)))
      | _ => none
    | _ => none
  | .get, [k, d] => (asDic x h).bind fun (t, ks, vs) => if keyOk t k then some ((lookK ks vs k).getD d, h) else none
  | .index, [y] => (itemsL x h).bind fun xs => if flatD y && xs.all flatD then (findP y xs 0).map fun (k : Nat) => (PV.int (k : Int), h) else none
  | .count, [.int y] => match x with
    | .tup xs => (intsOf xs).map fun ns => (.int (ns.count y), h)
    | _ => none
  | .values, [] => (asDic x h).map fun (_, _, vs) => (.lst vs, h)
  | _, _ => none
/-- the method is the receiver's -/
def rcv (m : Mt) (x : PV) (h : MHp) : Bool :=
  match m with
  | .get => (asDic x h).isSome
  | .count => true
  | .join => true
  | .values => true
  | _ => (itemsL x h).isSome
/-- o[i] = v -/
def storeIx (o i v : PV) (h : MHp) : Option MHp :=
  match o with
  | .ref n => match h[n]? with
    | some (.lst xs) => match i with | .int i => (ixN xs.length i).map fun k => h.set n (.lst (xs.set k v)) | _ => none
    | some (.dic t ks vs) => if keyOk t i && decide (ks.length < big) then some (h.set n (.dic t (setK ks vs i v).1 (setK ks vs i v).2)) else none
    | _ => none
  | _ => none

/-! ### targets -/
mutual
inductive MT where
  | nm (i : Nat) | tp (ts : MTs)
inductive MTs where
  | nil | cons (t : MT) (r : MTs)
end
mutual
def asgT : MT → PV → Env → Option Env
  | .nm i, v, σ => some (σ.set i (some v))
  | .tp ts, .tup xs, σ => asgTs ts xs σ
  | .tp ts, .lst xs, σ => asgTs ts xs σ
  | .tp _, _, _ => none
def asgTs : MTs → List PV → Env → Option Env
  | .nil, [], σ => some σ
  | .cons t r, x :: xs, σ => (asgT t x σ).bind fun σ' => asgTs r xs σ'
  | _, _, _ => none
end

/-! ### syntax -/
mutual
inductive ME where
  | var (i : Nat)
  | cst (v : PV)
  | glb (k : Nat)
  | bin (o : BO) (a b : ME)
  | bnm (o : BO) (a b : ME)
  | neg (a : ME)
  | not (a : ME)
  | cmp (o : CO) (a b : ME)
  | chn (o p : CO) (a b c : ME)
  | and (es : MEs)
  | or (es : MEs)
  | ife (c a b : ME)
  | ix (a i : ME)
  | sl (a : ME) (lo hi : MOp)
  | rev (a : ME)
  | tup (es : MEs)
  | lst (m : Bool) (es : MEs)
  | dc0 (m t : Bool)
  | dc1 (m : Bool) (k v : ME)
  | call (f : Nat) (es : MEs)
  | bif (b : Bi) (es : MEs)
  | bil (b : Bl) (m : Bool) (es : MEs)
  | lrg (m : Bool) (es : MEs)
  | isi (t : Ty) (a : ME)
  | mth (m : Mt) (o : ME) (es : MEs)
  | lc (own : List Nat) (elt : ME) (tg : MT) (it : MI) (ifs : MEs)
  | lcm (own : List Nat) (elt : ME) (tg : MT) (it : MI) (ifs : MEs)
  | dcc (t : Bool) (own : List Nat) (k v : ME) (tg : MT) (it : MI) (ifs : MEs)
  | xfl (j f : Nat)
  | xis (j c : Nat)
inductive MEs where
  | nil | cons (e : ME) (r : MEs)
inductive MOp where
  | no | some (e : ME)
inductive MI where
  | seq (e : ME) | rng (es : MEs) | enu (e : ME) | zip (a b : ME) | rvd (e : ME) | itm (e : ME)
end
mutual
inductive MS where
  | asg (t : MT) (e : ME)
  | aug (i : Nat) (o : BO) (e : ME)
  | stx (o i e : ME)
  | exp (e : ME)
  | ite (c : ME) (a b : MSs)
  | for (t : MT) (it : MI) (b : MSs)
  | whl (n : Nat) (c : ME) (b : MSs)
  | ret (e : ME)
  | retN
  | rai (c : Nat) (es : MEs)
  | try (b : MSs) (c : Nat) (i : Option Nat) (s : MSs)
  | trm (b : MSs) (cs : MHs)
  | pas | brk | cnt
inductive MSs where
  | nil | cons (s : MS) (r : MSs)
inductive MHs where
  | nil | cons (c i : Nat) (s : MSs) (r : MHs)
end

/-! ### the program -/
structure FnD where
  np : Nat
  nl : Nat
  raw : Bool
  body : MSs
/-- the program: the constants of the top; the classes of exceptions (each with those above it); the defs by their numbers -/
structure Prog where
  con : Nat → Option PV
  fld : Nat → List Nat
  sub : Nat → Nat → Bool
  fns : Nat → Option FnD
/-- the field numbered f, by the class's list of its fields' numbers -/
def lookF : List Nat → List PV → Nat → Option PV
  | k :: ks, v :: vs, f => if k = f then some v else lookF ks vs f
  | _, _, _ => none
abbrev Fn := Nat → List PV → MHp → Res PV
structure Wk where
  items : List PV
  src : List (Nat × MO)
def srcOk : List (Nat × MO) → MHp → Bool
  | [], _ => true
  | (n, o) :: r, h => decide (h[n]? = some o) && srcOk r h
def srcOf (x : PV) (xs : List PV) : List (Nat × MO) := match x with | .ref n => [(n, .lst xs)] | _ => []
def srcOfD (x : PV) (t : Bool) (ks vs : List PV) : List (Nat × MO) := match x with | .ref n => [(n, .dic t ks vs)] | _ => []
def wipeE (σ : Env) : List Nat → Env
  | [] => σ
  | v :: vs => (wipeE σ vs).set v none
def rngI (lo : Int) (n : Nat) : List PV := (List.range n).map fun (k : Nat) => .int (lo + (k : Int))
def rngC (lo c : Int) (n : Nat) : List PV := (List.range n).map fun (k : Nat) => .int (lo + (k : Int) * c)
/-- the ints of a range -/
def rangeOf : List PV → Option (List PV)
  | [.int j] => if smallR j && decide (j.toNat ≤ big) then some (rngI 0 j.toNat) else none
  | [.int i, .int j] => if smallR i && smallR j && decide ((j - i).toNat ≤ big) then some (rngI i (j - i).toNat) else none
  | [.int i, .int j, .int c] =>
    if smallR i && smallR j && decide (0 < c) && decide (c < 1000) && decide ((j - i).toNat ≤ big) then some (rngC i c ((j - i + c - 1) / c).toNat)
    else if smallR i && smallR j && decide (c = -1) && decide ((i - j).toNat ≤ big) then some (rngC i (-1) (i - j).toNat)
    else none
  | _ => none
def enumL : Nat → List PV → List PV
  | _, [] => []
  | n, x :: r => .tup [.int n, x] :: enumL (n + 1) r
def zipL : List PV → List PV → List PV
  | x :: xs, y :: ys => .tup [x, y] :: zipL xs ys
  | _, _ => []
def itemsZ (x y : PV) (h : MHp) : Option Wk :=
  match x, y with
  | .tup a, .tup b => some ⟨zipL a b, []⟩
  | x, .tup b => (itemsL x h).map fun a => ⟨zipL a b, srcOf x a⟩
  | x, y => match itemsL x h, itemsL y h with
    | some a, some b => some ⟨zipL a b, srcOf x a ++ srcOf y b⟩
    | _, _ => none
/-- a new thing of the small heap, or a list that nobody will change -/
def newL (m : Bool) (xs : List PV) (h : MHp) : Res PV := if m then .ok (.ref h.length) (h ++ [.lst xs]) else .ok (.lst xs) h
/-- a comprehension's loop -/
def loopC (fe : Env → MHp → Res PV) (ft : Env → MHp → Res Bool) (tg : MT) (src : List (Nat × MO)) : List PV → Env → MHp → Res (List PV)
  | [], _, h => if srcOk src h then .ok [] h else .stuck
  | x :: xs, σ, h =>
    if srcOk src h then
      match asgT tg x σ with
      | none => .stuck
      | some σ' => (ft σ' h).bind fun b h1 =>
        if b then (fe σ' h1).bind fun y h2 => (loopC fe ft tg src xs σ h2).bind fun ys h3 => .ok (y :: ys) h3
        else loopC fe ft tg src xs σ h1
    else .stuck
/-- a dict comprehension's loop -/
def loopD (fk fv : Env → MHp → Res PV) (ft : Env → MHp → Res Bool) (t : Bool) (tg : MT) (src : List (Nat × MO)) : List PV → Env → List PV → List PV → MHp → Res (List PV × List PV)
  | [], _, ks, vs, h => if srcOk src h then .ok (ks, vs) h else .stuck
  | x :: xs, σ, ks, vs, h =>
    if srcOk src h then
      match asgT tg x σ with
      | none => .stuck
      | some σ' => (ft σ' h).bind fun b h1 =>
        if b then (fk σ' h1).bind fun k h2 => (fv σ' h2).bind fun v h3 =>
          if keyOk t k && decide (ks.length < big) then loopD fk fv ft t tg src xs σ (setK ks vs k v).1 (setK ks vs k v).2 h3 else .stuck
        else loopD fk fv ft t tg src xs σ ks vs h1
    else .stuck
def loopF (fb : Env → MHp → SRes) (tg : MT) (src : List (Nat × MO)) : List PV → Env → MHp → SRes
  | [], σ, h => if srcOk src h then .nx σ h else .stuck
  | x :: xs, σ, h =>
    if srcOk src h then
      match asgT tg x σ with
      | none => .stuck
      | some σ' => match fb σ' h with
        | .nx σ1 h1 => loopF fb tg src xs σ1 h1
        | .ct σ1 h1 => loopF fb tg src xs σ1 h1
        | .bk σ1 h1 => .nx σ1 h1
        | r => r
    else .stuck
def ofRes (r : Res Bool) (σ : Env) (f : Bool → MHp → SRes) : SRes :=
  match r with
  | .ok b h => f b h
  | .exn x h => .ex x σ h
  | .stuck => .stuck
def ofResV {α : Type} (r : Res α) (σ : Env) (f : α → MHp → SRes) : SRes :=
  match r with
  | .ok b h => f b h
  | .exn x h => .ex x σ h
  | .stuck => .stuck
def loopW (fc : Env → MHp → Res Bool) (fb : Env → MHp → SRes) : Nat → Env → MHp → SRes
  | 0, _, _ => .stuck
  | n + 1, σ, h => ofRes (fc σ h) σ fun b h1 =>
    if b then
      match fb σ h1 with
      | .nx σ1 h2 => loopW fc fb n σ1 h2
      | .ct σ1 h2 => loopW fc fb n σ1 h2
      | .bk σ1 h2 => .nx σ1 h2
      | r => r
    else .nx σ h1

mutual
def ev (P : Prog) (F : Fn) (cx : Option MX) : ME → Env → MHp → Res PV
  | .var i, σ, h => match σ[i]? with | some (some v) => .ok v h | _ => .stuck
  | .cst v, _, h => .ok v h
  | .glb k, _, h => ofOpt (P.con k) h
  | .bin o a b, σ, h => (ev P F cx a σ h).bind fun x h1 => (ev P F cx b σ h1).bind fun y h2 => ofOpt (bop o x y h2) h2
  | .bnm o a b, σ, h => (ev P F cx a σ h).bind fun x h1 => (ev P F cx b σ h1).bind fun y h2 =>
    (ofOpt (bopL o x y h2) h2).bind fun xs h3 => newL true xs h3
  | .neg a, σ, h => (ev P F cx a σ h).bind fun x h1 => match x with | .int i => .ok (.int (-i)) h1 | _ => .stuck
  | .not a, σ, h => (ev P F cx a σ h).bind fun x h1 => (ofOpt (truth x h1) h1).bind fun b h2 => .ok (.bl (!b)) h2
  | .cmp o a b, σ, h => (ev P F cx a σ h).bind fun x h1 => (ev P F cx b σ h1).bind fun y h2 => (ofOpt (cop o x y h2) h2).bind fun k h3 => .ok (.bl k) h3
  | .chn o p a b c, σ, h => (ev P F cx a σ h).bind fun x h1 => (ev P F cx b σ h1).bind fun y h2 => (ofOpt (cop o x y h2) h2).bind fun k h3 =>
    if k then (ev P F cx c σ h3).bind fun z h4 => (ofOpt (cop p y z h4) h4).bind fun k h5 => .ok (.bl k) h5 else .ok (.bl false) h3
  | .and es, σ, h => evAnd P F cx es σ h
  | .or es, σ, h => evOr P F cx es σ h
  | .ife c a b, σ, h => (ev P F cx c σ h).bind fun x h1 => (ofOpt (truth x h1) h1).bind fun k h2 => if k then ev P F cx a σ h2 else ev P F cx b σ h2
  | .ix a i, σ, h => (ev P F cx a σ h).bind fun x h1 => (ev P F cx i σ h1).bind fun y h2 => ofOpt (index x y h2) h2
  | .sl a lo hi, σ, h => (ev P F cx a σ h).bind fun x h1 => (evO P F cx lo σ h1).bind fun l h2 => (evO P F cx hi σ h2).bind fun u h3 => ofOpt (slice x l u h3) h3
  | .rev a, σ, h => (ev P F cx a σ h).bind fun x h1 => ofOpt (revS x h1) h1
  | .tup es, σ, h => (evs P F cx es σ h).bind fun xs h1 => if decide (xs.length ≤ big) then .ok (.tup xs) h1 else .stuck
  | .lst m es, σ, h => (evs P F cx es σ h).bind fun xs h1 => if decide (xs.length ≤ big) then newL m xs h1 else .stuck
  | .dc0 m t, _, h => if m then .ok (.ref h.length) (h ++ [.dic t [] []]) else .ok (.dic t [] []) h
  | .dc1 m k v, σ, h => match ev P F cx k σ h with
    | .ok x h1 => (match ev P F cx v σ h1 with
      | .ok y h2 => if keyOk false x then (if m then .ok (.ref h2.length) (h2 ++ [.dic false [x] [y]]) else .ok (.dic false [x] [y]) h2) else .stuck
      | _ => .stuck)
    | _ => .stuck
  | .call f es, σ, h => (evs P F cx es σ h).bind fun xs h1 => F f xs h1
  | .bif b es, σ, h => (evs P F cx es σ h).bind fun xs h1 => ofOpt (biS b xs h1) h1
  | .bil b m es, σ, h => (evs P F cx es σ h).bind fun xs h1 => (ofOpt (blS b xs h1) h1).bind fun ys h2 => newL m ys h2
  | .lrg m es, σ, h => (evs P F cx es σ h).bind fun xs h1 => (ofOpt (rangeOf xs) h1).bind fun ys h2 => newL m ys h2
  | .isi t a, σ, h => (ev P F cx a σ h).bind fun x h1 => (ofOpt (isTy t x h1) h1).bind fun k h2 => .ok (.bl k) h2
  | .mth m o es, σ, h => (ev P F cx o σ h).bind fun x h1 => if rcv m x h1 then (evs P F cx es σ h1).bind fun xs h2 =>
    (match mth m x xs h2 with | some (v, h3) => .ok v h3 | none => .stuck) else .stuck
  | .lc own elt tg it ifs, σ, h => (evI P F cx it σ h).bind fun r h1 =>
    match loopC (ev P F cx elt) (evT P F cx ifs) tg r.src r.items (wipeE σ own) h1 with
    | .ok ys h2 => .ok (.lst ys) h2
    | _ => .stuck
  | .lcm own elt tg it ifs, σ, h => (evI P F cx it σ h).bind fun r h1 =>
    match loopC (ev P F cx elt) (evT P F cx ifs) tg r.src r.items (wipeE σ own) h1 with
    | .ok ys h2 => .ok (.ref h2.length) (h2 ++ [.lst ys])
    | _ => .stuck
  | .dcc t own k v tg it ifs, σ, h => (evI P F cx it σ h).bind fun r h1 =>
    match loopD (ev P F cx k) (ev P F cx v) (evT P F cx ifs) t tg r.src r.items (wipeE σ own) [] [] h1 with
    | .ok kv h2 => .ok (.dic t kv.1 kv.2) h2
    | _ => .stuck
  | .xfl j f, σ, h => match cx with | some x => (match σ[j]? with | some none => ofOpt (lookF (P.fld x.cls) x.fs f) h | _ => .stuck) | none => .stuck
  | .xis j c, σ, h => match cx with | some x => (match σ[j]? with | some none => .ok (.bl (P.sub x.cls c)) h | _ => .stuck) | none => .stuck
def evs (P : Prog) (F : Fn) (cx : Option MX) : MEs → Env → MHp → Res (List PV)
  | .nil, _, h => .ok [] h
  | .cons e r, σ, h => (ev P F cx e σ h).bind fun x h1 => (evs P F cx r σ h1).bind fun xs h2 => .ok (x :: xs) h2
def evAnd (P : Prog) (F : Fn) (cx : Option MX) : MEs → Env → MHp → Res PV
  | .nil, _, _ => .stuck
  | .cons e r, σ, h => (ev P F cx e σ h).bind fun x h1 => match r with
    | .nil => .ok x h1
    | .cons _ _ => (ofOpt (truth x h1) h1).bind fun k h2 => if k then evAnd P F cx r σ h2 else .ok x h2
def evOr (P : Prog) (F : Fn) (cx : Option MX) : MEs → Env → MHp → Res PV
  | .nil, _, _ => .stuck
  | .cons e r, σ, h => (ev P F cx e σ h).bind fun x h1 => match r with
    | .nil => .ok x h1
    | .cons _ _ => (ofOpt (truth x h1) h1).bind fun k h2 => if k then .ok x h2 else evOr P F cx r σ h2
def evO (P : Prog) (F : Fn) (cx : Option MX) : MOp → Env → MHp → Res (Option Int)
  | .no, _, h => .ok none h
  | .some e, σ, h => (ev P F cx e σ h).bind fun x h1 => match x with | .int i => .ok (some i) h1 | _ => .stuck
/-- the tests of a comprehension (none or one) -/
def evT (P : Prog) (F : Fn) (cx : Option MX) : MEs → Env → MHp → Res Bool
  | .nil, _, h => .ok true h
  | .cons e .nil, σ, h => (ev P F cx e σ h).bind fun x h1 => ofOpt (truth x h1) h1
  | .cons _ (.cons _ _), _, _ => .stuck
def evI (P : Prog) (F : Fn) (cx : Option MX) : MI → Env → MHp → Res Wk
  | .seq e, σ, h => (ev P F cx e σ h).bind fun x h1 => (ofOpt (itemsT x h1) h1).bind fun xs h2 => .ok ⟨xs, srcOf x xs⟩ h2
  | .rng es, σ, h => (evs P F cx es σ h).bind fun xs h1 => (ofOpt (rangeOf xs) h1).bind fun ys h2 => .ok ⟨ys, []⟩ h2
  | .enu e, σ, h => (ev P F cx e σ h).bind fun x h1 => (ofOpt (itemsT x h1) h1).bind fun xs h2 => .ok ⟨enumL 0 xs, srcOf x xs⟩ h2
  | .zip a b, σ, h => (ev P F cx a σ h).bind fun x h1 => (ev P F cx b σ h1).bind fun y h2 => ofOpt (itemsZ x y h2) h2
  | .rvd e, σ, h => (ev P F cx e σ h).bind fun x h1 => (ofOpt (itemsT x h1) h1).bind fun xs h2 => .ok ⟨xs.reverse, srcOf x xs⟩ h2
  | .itm e, σ, h => (ev P F cx e σ h).bind fun x h1 => (ofOpt (asDic x h1) h1).bind fun d h2 => .ok ⟨zipL d.2.1 d.2.2, srcOfD x d.1 d.2.1 d.2.2⟩ h2
end

mutual
def ex (P : Prog) (F : Fn) (cx : Option MX) : MS → Env → MHp → SRes
  | .asg t e, σ, h => ofResV (ev P F cx e σ h) σ fun x h1 => match asgT t x σ with | some σ' => .nx σ' h1 | none => .stuck
  | .aug i o e, σ, h => match σ[i]? with
    | some (some x) => ofResV (ev P F cx e σ h) σ fun y h1 => match x, y with
      | .int a, .int b => match bopI o a b with | some z => .nx (σ.set i (some z)) h1 | none => .stuck
      | _, _ => .stuck
    | _ => .stuck
  | .stx o i e, σ, h => ofResV (ev P F cx e σ h) σ fun v h1 => ofResV (ev P F cx o σ h1) σ fun x h2 => ofResV (ev P F cx i σ h2) σ fun y h3 =>
    match storeIx x y v h3 with | some h4 => .nx σ h4 | none => .stuck
  | .exp e, σ, h => ofResV (ev P F cx e σ h) σ fun _ h1 => .nx σ h1
  | .ite c a b, σ, h => ofResV (ev P F cx c σ h) σ fun x h1 => match truth x h1 with | some true => exs P F cx a σ h1 | some false => exs P F cx b σ h1 | none => .stuck
  | .for t it b, σ, h => ofResV (evI P F cx it σ h) σ fun r h1 => loopF (exs P F cx b) t r.src r.items σ h1
  | .whl n c b, σ, h => loopW (fun σ h => (ev P F cx c σ h).bind fun x h1 => ofOpt (truth x h1) h1) (exs P F cx b) n σ h
  | .ret e, σ, h => ofResV (ev P F cx e σ h) σ fun x h1 => .rt x h1
  | .retN, _, h => .rt .non h
  | .rai c es, σ, h => match cx with
    | none => ofResV (evs P F cx es σ h) σ fun xs h1 => .ex ⟨c, xs⟩ σ h1
    | some _ => .stuck
  | .try b c i s, σ, h => match cx with
    | none => match exs P F none b σ h with
      | .ex x σ1 h1 => if P.sub x.cls c then
          match exs P F (some x) s (match i with | some j => σ1.set j none | none => σ1) h1 with
          | .nx σ2 h2 => .nx (match i with | some j => σ2.set j none | none => σ2) h2
          | .rt v h2 => .rt v h2
          | _ => .stuck
        else .ex x σ1 h1
      | r => r
    | some _ => .stuck
  | .trm b cs, σ, h => match cx with
    | none => match exs P F none b σ h with
      | .ex x σ1 h1 => exh P F x cs σ1 h1
      | r => r
    | some _ => .stuck
  | .pas, σ, h => .nx σ h
  | .brk, σ, h => .bk σ h
  | .cnt, σ, h => .ct σ h
def exs (P : Prog) (F : Fn) (cx : Option MX) : MSs → Env → MHp → SRes
  | .nil, σ, h => .nx σ h
  | .cons s r, σ, h => match ex P F cx s σ h with
    | .nx σ1 h1 => exs P F cx r σ1 h1
    | x => x
/-- the except clauses, one by one -/
def exh (P : Prog) (F : Fn) (x : MX) : MHs → Env → MHp → SRes
  | .nil, σ1, h1 => .ex x σ1 h1
  | .cons c i s r, σ1, h1 => if P.sub x.cls c then
      match exs P F (some x) s (σ1.set i none) h1 with
      | .nx σ2 h2 => .nx (σ2.set i none) h2
      | .rt v h2 => .rt v h2
      | _ => .stuck
    else exh P F x r σ1 h1
end

/-! ### a call: what is handed back: things of the callee's own become trees -/
mutual
def frzT (g : Nat → Option PV) : PV → Option PV
  | .non => some .non
  | .bl b => some (.bl b)
  | .int i => some (.int i)
  | .str s => some (.str s)
  | .tup xs => (frzTs g xs).map .tup
  | .lst xs => (frzTs g xs).map .lst
  | .dic t ks vs => match frzTs g ks, frzTs g vs with | some a, some b => some (.dic t a b) | _, _ => none
  | .scr _ => none
  | .ref n => g n
def frzTs (g : Nat → Option PV) : List PV → Option (List PV)
  | [] => some []
  | x :: xs => match frzT g x, frzTs g xs with | some a, some b => some (a :: b) | _, _ => none
end
def frzG (base : Nat) (h : MHp) : Nat → Nat → Option PV
  | 0, _ => none
  | k + 1, n => if n < base then some (.ref n) else match h[n]? with
    | some (.lst xs) => (frzTs (frzG base h k) xs).map .lst
    | some (.dic t ks vs) => match frzTs (frzG base h k) ks, frzTs (frzG base h k) vs with | some a, some b => some (.dic t a b) | _, _ => none
    | _ => none
def frz (base : Nat) (h : MHp) (x : PV) : Option PV := frzT (frzG base h 4) x
def frzs (base : Nat) (h : MHp) (x : List PV) : Option (List PV) := frzTs (frzG base h 4) x
mutual
def nor : PV → Bool
  | .non => true
  | .bl _ => true
  | .int _ => true
  | .str _ => true
  | .tup xs => nors xs
  | .lst xs => nors xs
  | .dic _ ks vs => nors ks && nors vs
  | .scr _ => false
  | .ref _ => false
def nors : List PV → Bool
  | [] => true
  | x :: xs => nor x && nors xs
end
def norO : MO → Bool
  | .lst xs => nors xs
  | .dic _ ks vs => nors ks && nors vs
  | .ins _ _ => false
/-- the caller's things stand as they were, or hold trees alone -/
def keepOk : MHp → MHp → Bool
  | [], _ => true
  | o :: r, o' :: r' => (decide (o' = o) || norO o') && keepOk r r'
  | _ :: _, [] => false
/-- the end of a call that began at the heap h -/
def leave (raw : Bool) (h h' : MHp) (v : PV) : Res PV :=
  if raw then .ok v h' else if keepOk h h' then ofOpt (frz h.length h' v) (h'.take h.length) else .stuck
def leaveX (raw : Bool) (h h' : MHp) (x : MX) : Res PV :=
  if raw then .exn x h' else if keepOk h h' then (match frzs h.length h' x.fs with | some fs => .exn ⟨x.cls, fs⟩ (h'.take h.length) | none => .stuck) else .stuck
/-- the end of a call with trees alone: the callee had a small heap of its own -/
def leaveT (h h' : MHp) (v : PV) : Res PV := ofOpt (frz 0 h' v) h
def leaveTX (h h' : MHp) (x : MX) : Res PV := match frzs 0 h' x.fs with | some fs => .exn ⟨x.cls, fs⟩ h | none => .stuck
def runFn (P : Prog) (F : Fn) (fd : FnD) (args : List PV) (h : MHp) : Res PV :=
  if args.length = fd.np then
    if !fd.raw && nors args then
      match exs P F none fd.body (args.map some ++ List.replicate (fd.nl - fd.np) none) [] with
      | .nx _ h' => leaveT h h' .non
      | .rt v h' => leaveT h h' v
      | .ex x _ h' => leaveTX h h' x
      | _ => .stuck
    else
      match exs P F none fd.body (args.map some ++ List.replicate (fd.nl - fd.np) none) h with
      | .nx _ h' => leave fd.raw h h' .non
      | .rt v h' => leave fd.raw h h' v
      | .ex x _ h' => leaveX fd.raw h h' x
      | _ => .stuck
  else .stuck
/-- the defs, called at most n deep -/
def callN (P : Prog) : Nat → Fn
  | 0 => fun _ _ _ => .stuck
  | n + 1 => fun f args h => match P.fns f with
    | some fd => runFn P (callN P n) fd args h
    | none => .stuck
end Qm

/-! S0: how the values and the small heap of Qm stand in HandS's abstract heap. -/
namespace Qm
open PySem PySem.Spec PyProof.Rows L2

def keyP : Key → PV
  | .inl i => .int i
  | .inr s => .str s
/-- what an except suite holds: its slot, the exception, its class, its dict, the fields, the exception as it flew -/
structure XF where
  j : Nat
  a : Addr
  c : Addr
  d : Addr
  fs : List (Str × V)
  m : MX
/-- the written part; what stands hidden (a comprehension's list in the making): no value names it -/
structure KZ where
  f : PySem.W.Frag
  z : List Addr
  x : Option XF
/-- the names of the own exceptions' fields -/
def fldC : Nat → List Str
  | 1 => ["name"] | 2 => ["what"] | 3 => ["why"] | 4 => ["column", "words"] | 5 => ["options"] | _ => []
def Off (K : KZ) (M : List Addr) (a : Addr) : Prop := a ∉ M ∧ a ∉ K.z
section
variable (K : KZ)
/-- a tuple's place: tracked and none of the small heap's, or of the module -/
def TupAt (M : List Addr) (H : Hp) (a : Addr) (vs : List V) : Prop :=
  (vs.length ≤ sizeLine ∧ Off K M a ∧ H a = some (.tup vs)) ∨
    ∃ (o : Obj) (its : Array Value) (n : Nat), K.f.lookup a = some o ∧ o.cls = .type "tuple" ∧ o.data = .seq its n ∧ its.size ≤ sizeLine ∧ Vals vs its.toList ∧ ∃ s, vs[0]? = some (.str s)
def ScrAt (M : List Addr) (H : Hp) (a : Addr) (ns : List Int) : Prop :=
  ns.length ≤ 1000 ∧ ((Off K M a ∧ Rd H a (.lst (ns.map V.int))) ∨
    ∃ (o : Obj) (its : Array Value) (n : Nat), K.f.lookup a = some o ∧ o.cls = .type "list" ∧ o.dict = none ∧ o.data = .seq its n ∧ its.size ≤ sizeLine ∧ Vals (ns.map V.int) its.toList)
/-- what stands as a dict -/
def DK (t : Bool) (ks : List PV) (ws : List V) (u : HO) : Prop :=
  if t = true then ∃ kvs : List (List Key × V), u = .dT kvs ∧ ks = kvs.map (fun p => .tup (p.1.map keyP)) ∧ ws = kvs.map (·.2)
  else ∃ kvs : List (Key × V), u = .dK kvs ∧ ks = kvs.map (fun p => keyP p.1) ∧ ws = kvs.map (·.2)
mutual
def RV (M : List Addr) (H : Hp) : PV → V → Prop
  | .non, v => v = .non
  | .bl b, v => v = .bl b
  | .int i, v => v = .int i
  | .str s, v => v = .str s ∧ s.length ≤ sizeLine
  | .tup xs, v => ∃ a vs, v = .ref a ∧ TupAt K M H a vs ∧ RVs M H xs vs
  | .lst xs, v => ∃ a vs, v = .ref a ∧ vs.length ≤ sizeLine ∧ Off K M a ∧ H a = some (.lst vs) ∧ RVs M H xs vs
  | .dic t ks ws, v => ∃ a us u, v = .ref a ∧ Off K M a ∧ H a = some u ∧ DK t ks us u ∧ RVs M H ws us
  | .ref n, v => ∃ a, v = .ref a ∧ M[n]? = some a
  | .scr ns, v => ∃ a, v = .ref a ∧ ScrAt K M H a ns
def RVs (M : List Addr) (H : Hp) : List PV → List V → Prop
  | [], vs => vs = []
  | x :: xs, vs => ∃ v r, vs = v :: r ∧ RV M H x v ∧ RVs M H xs r
end
/-- a thing of the small heap -/
def ORel (M : List Addr) (H : Hp) (o : MO) (u : Option HO) : Prop :=
  match o with
  | .lst xs => ∃ vs, u = some (.lst vs) ∧ vs.length ≤ sizeLine ∧ RVs K M H xs vs
  | .dic t ks ws => ∃ us x, u = some x ∧ DK t ks us x ∧ RVs K M H ws us
  | .ins _ _ => False
structure HRel (M : List Addr) (H : Hp) (h : MHp) : Prop where
  len : M.length = h.length
  nd : M.Nodup
  zs : ∀ a ∈ K.z, a ∉ M ∧ H a ≠ none
  at_ : ∀ (n : Nat) (a : Addr) (o : MO), M[n]? = some a → h[n]? = some o → ORel K M H o (H a)
structure ERel (M : List Addr) (H : Hp) (σ : L2.St) (env : Env) : Prop where
  len : env.length = σ.length
  at_ : ∀ (i : Nat) (p : PV), env[i]? = some (some p) → ∃ v, σ[i]? = some (some v) ∧ RV K M H p v
  xs : ∀ q, K.x = some q → env[q.j]? = some none → σ[q.j]? = some (some (.ref q.a)) ∧ Off K M q.d ∧ H q.d = some (.xd q.fs) ∧ q.m.fs.length = (fldC q.m.cls).length ∧
    ∀ (i : Nat) (p : PV) (n : Str), q.m.fs[i]? = some p → (fldC q.m.cls)[i]? = some n → ∃ v, q.fs.lookup n = some v ∧ RV K M H p v
end
/-- what may happen to the heap: the small heap's things may change, the others stay; what is new was free -/
structure Ext (M : List Addr) (H : Hp) (M' : List Addr) (H' : Hp) : Prop where
  pre : ∃ l, M' = M ++ l
  keep : ∀ a o, a ∉ M → H a = some o → H' a = some o
  new : ∀ a, a ∈ M' → a ∈ M ∨ H a = none
section
variable {K : KZ} {M M' M1 M2 : List Addr} {H H' H1 H2 : Hp}
theorem Ext.refl : Ext M H M H := ⟨⟨[], by simp⟩, fun _ _ _ e => e, fun _ h => .inl h⟩
theorem Ext.mem (x : Ext M H M' H') {a : Addr} (h : a ∈ M) : a ∈ M' := by
  obtain ⟨l, e⟩ := x.pre
  rw [e]; exact List.mem_append_left _ h
theorem Ext.out (x : Ext M H M' H') {a : Addr} {o : HO} (h : a ∉ M) (e : H a = some o) : a ∉ M' := fun z => by
  rcases x.new a z with q | q
  · exact h q
  · rw [q] at e; cases e
theorem Ext.trans (x : Ext M H M1 H1) (y : Ext M1 H1 M2 H2) : Ext M H M2 H2 where
  pre := by
    obtain ⟨l, e⟩ := x.pre
    obtain ⟨l', e'⟩ := y.pre
    exact ⟨l ++ l', by rw [e', e, List.append_assoc]⟩
  keep := fun a o n e => y.keep a o (x.out n e) (x.keep a o n e)
  new := fun a h => by
    rcases y.new a h with q | q
    · exact x.new a q
    · by_cases hm : a ∈ M
      · exact .inl hm
      · refine .inr ?_
        cases e : H a with
        | none => rfl
        | some o => rw [x.keep a o hm e] at q; cases q
theorem Ext.get (x : Ext M H M' H') {n : Nat} {a : Addr} (e : M[n]? = some a) : M'[n]? = some a := by
  obtain ⟨l, el⟩ := x.pre
  rw [el, List.getElem?_append_left (List.getElem?_eq_some_iff.mp e).1]
  exact e
theorem Ext.rd (x : Ext M H M' H') {a : Addr} {u : HO} (n : Off K M a) (e : H a = some u) : Off K M' a ∧ H' a = some u := ⟨⟨x.out n.1 e, n.2⟩, x.keep _ _ n.1 e⟩
theorem Ext.zs (x : Ext M H M' H') {l : List Addr} (h : ∀ a ∈ l, a ∉ M ∧ H a ≠ none) : ∀ a ∈ l, a ∉ M' ∧ H' a ≠ none := fun a ha => by
  obtain ⟨n, e⟩ := h a ha
  cases q : H a with
  | none => exact (e q).elim
  | some u => exact ⟨x.out n q, by rw [x.keep _ _ n q]; exact fun z => nomatch z⟩
theorem TupAt.ext (x : Ext M H M' H') {a : Addr} {vs : List V} (r : TupAt K M H a vs) : TupAt K M' H' a vs := by
  rcases r with ⟨z, n, r⟩ | r
  · exact .inl ⟨z, x.rd n r⟩
  · exact .inr r
theorem ScrAt.ext (x : Ext M H M' H') {a : Addr} {ns : List Int} (r : ScrAt K M H a ns) : ScrAt K M' H' a ns := by
  obtain ⟨z, r⟩ := r
  refine ⟨z, ?_⟩
  rcases r with ⟨n, e | ⟨o, e⟩⟩ | r
  · exact .inl ⟨(x.rd n e).1, .inl (x.rd n e).2⟩
  · exact .inl ⟨(x.rd n e).1, .inr ⟨o, (x.rd n e).2⟩⟩
  · exact .inr r
mutual
theorem RV.ext (x : Ext M H M' H') : ∀ {p : PV} {v : V}, RV K M H p v → RV K M' H' p v
  | .non, _, h => by rw [RV] at h ⊢; exact h
  | .bl _, _, h => by rw [RV] at h ⊢; exact h
  | .int _, _, h => by rw [RV] at h ⊢; exact h
  | .str _, _, h => by rw [RV] at h ⊢; exact h
  | .tup xs, _, h => by
    rw [RV] at h ⊢
    obtain ⟨a, vs, e, t, r⟩ := h
    exact ⟨a, vs, e, t.ext x, RVs.ext x r⟩
  | .lst xs, _, h => by
    rw [RV] at h ⊢
    obtain ⟨a, vs, e, z, n, t, r⟩ := h
    exact ⟨a, vs, e, z, (x.rd n t).1, (x.rd n t).2, RVs.ext x r⟩
  | .dic _ _ _, _, h => by
    rw [RV] at h ⊢
    obtain ⟨a, us, u, e, n, t, d, r⟩ := h
    exact ⟨a, us, u, e, (x.rd n t).1, (x.rd n t).2, d, RVs.ext x r⟩
  | .ref _, _, h => by
    rw [RV] at h ⊢
    obtain ⟨a, e, q⟩ := h
    exact ⟨a, e, x.get q⟩
  | .scr _, _, h => by
    rw [RV] at h ⊢
    obtain ⟨a, e, q⟩ := h
    exact ⟨a, e, q.ext x⟩
theorem RVs.ext (x : Ext M H M' H') : ∀ {p : List PV} {v : List V}, RVs K M H p v → RVs K M' H' p v
  | [], _, h => by rw [RVs] at h ⊢; exact h
  | _ :: _, _, h => by
    rw [RVs] at h ⊢
    obtain ⟨v, r, e, h1, h2⟩ := h
    exact ⟨v, r, e, RV.ext x h1, RVs.ext x h2⟩
end
theorem ORel.ext (x : Ext M H M' H') {o : MO} {u : Option HO} (r : ORel K M H o u) : ORel K M' H' o u := by
  cases o with
  | lst xs => obtain ⟨vs, e, z, r⟩ := r; exact ⟨vs, e, z, r.ext x⟩
  | dic t ks ws => obtain ⟨us, y, e, d, r⟩ := r; exact ⟨us, y, e, d, r.ext x⟩
  | ins _ _ => exact r
theorem ERel.ext (x : Ext M H M' H') {σ : L2.St} {env : Env} (r : ERel K M H σ env) : ERel K M' H' σ env :=
  ⟨r.1, fun i p e => let ⟨v, e1, r1⟩ := r.2 i p e; ⟨v, e1, r1.ext x⟩, fun q hq he => let ⟨s1, s2, s3, s4, s5⟩ := r.xs q hq he; ⟨s1, (x.rd s2 s3).1, (x.rd s2 s3).2, s4, fun i p n a b => let ⟨v, l, rv⟩ := s5 i p n a b; ⟨v, l, rv.ext x⟩⟩⟩
theorem RVs.len : ∀ {p : List PV} {v : List V}, RVs K M H p v → v.length = p.length
  | [], _, h => by rw [RVs] at h; subst h; rfl
  | _ :: _, _, h => by
    rw [RVs] at h
    obtain ⟨v, r, e, h1, h2⟩ := h
    subst e
    simp [RVs.len h2]
theorem RVs.get : ∀ {p : List PV} {v : List V} {i : Nat} {x : PV}, RVs K M H p v → p[i]? = some x → ∃ y, v[i]? = some y ∧ RV K M H x y
  | [], _, _, _, _, e => by simp at e
  | x :: xs, v, i, y, h, e => by
    rw [RVs] at h
    obtain ⟨w, r, e1, h1, h2⟩ := h
    subst e1
    cases i with
    | zero => simp at e; subst e; exact ⟨w, by simp, h1⟩
    | succ i =>
      obtain ⟨z, e2, r2⟩ := RVs.get (i := i) h2 (by simpa using e)
      exact ⟨z, by simpa using e2, r2⟩
theorem RVs.nil : RVs K M H [] [] := by rw [RVs]
theorem RVs.cons {x : PV} {v : V} {xs : List PV} {vs : List V} (h : RV K M H x v) (t : RVs K M H xs vs) : RVs K M H (x :: xs) (v :: vs) := by
  rw [RVs]; exact ⟨v, vs, rfl, h, t⟩
theorem RVs.one {x : PV} {v : V} (h : RV K M H x v) : RVs K M H [x] [v] := .cons h .nil
theorem RVs.append : ∀ {p q : List PV} {v w : List V}, RVs K M H p v → RVs K M H q w → RVs K M H (p ++ q) (v ++ w)
  | [], _, _, _, h, t => by rw [RVs] at h; subst h; exact t
  | _ :: _, _, _, _, h, t => by
    rw [RVs] at h
    obtain ⟨v, r, e, h1, h2⟩ := h
    subst e
    exact .cons h1 (RVs.append h2 t)
theorem RVs.set : ∀ {p : List PV} {v : List V} {x : PV} {y : V} (i : Nat), RVs K M H p v → RV K M H x y → RVs K M H (p.set i x) (v.set i y)
  | [], _, _, _, _, h, _ => by rw [RVs] at h; subst h; simp; exact .nil
  | _ :: _, _, _, _, i, h, t => by
    rw [RVs] at h
    obtain ⟨v, r, e, h1, h2⟩ := h
    subst e
    cases i with
    | zero => exact .cons t h2
    | succ i => exact .cons h1 (RVs.set i h2 t)
theorem RVs.drop : ∀ {p : List PV} {v : List V} (n : Nat), RVs K M H p v → RVs K M H (p.drop n) (v.drop n)
  | _, _, 0, h => h
  | [], _, _ + 1, h => by rw [RVs] at h; subst h; exact .nil
  | _ :: _, _, n + 1, h => by
    rw [RVs] at h
    obtain ⟨v, r, e, h1, h2⟩ := h
    subst e
    exact RVs.drop n h2
theorem RVs.take : ∀ {p : List PV} {v : List V} (n : Nat), RVs K M H p v → RVs K M H (p.take n) (v.take n)
  | _, _, 0, h => .nil
  | [], _, _ + 1, h => by rw [RVs] at h; subst h; exact .nil
  | _ :: _, _, n + 1, h => by
    rw [RVs] at h
    obtain ⟨v, r, e, h1, h2⟩ := h
    subst e
    exact .cons h1 (RVs.take n h2)
theorem RVs.reverse : ∀ {p : List PV} {v : List V}, RVs K M H p v → RVs K M H p.reverse v.reverse
  | [], _, h => by rw [RVs] at h; subst h; exact .nil
  | _ :: _, _, h => by
    rw [RVs] at h
    obtain ⟨v, r, e, h1, h2⟩ := h
    subst e
    rw [List.reverse_cons, List.reverse_cons]
    exact (RVs.reverse h2).append (.one h1)
theorem RVs.eraseIdx : ∀ {p : List PV} {v : List V} (i : Nat), RVs K M H p v → RVs K M H (p.eraseIdx i) (v.eraseIdx i)
  | [], _, _, h => by rw [RVs] at h; subst h; exact .nil
  | _ :: _, _, i, h => by
    rw [RVs] at h
    obtain ⟨v, r, e, h1, h2⟩ := h
    subst e
    cases i with
    | zero => exact h2
    | succ i => exact .cons h1 (RVs.eraseIdx i h2)
theorem RVs.dropLast {p : List PV} {v : List V} (h : RVs K M H p v) : RVs K M H p.dropLast v.dropLast := by
  rw [List.dropLast_eq_take, List.dropLast_eq_take, h.len]
  exact h.take _
theorem RVs.rep {p : List PV} {v : List V} (h : RVs K M H p v) : ∀ n : Nat, RVs K M H (repN p n) (List.replicate n v).flatten
  | 0 => by rw [repN]; exact .nil
  | n + 1 => by
    rw [repN, List.replicate_succ, List.flatten_cons]
    exact h.append (RVs.rep h n)
theorem RVs.ints : ∀ {ns : List Int}, RVs K M H (ns.map PV.int) (ns.map V.int)
  | [] => .nil
  | n :: ns => .cons (by rw [RV]) RVs.ints
/-! ### what is read -/
theorem TupAt.seq {a : Addr} {vs : List V} (t : TupAt K M H a vs) : SqT K.f H a vs := by
  rcases t with ⟨_, _, r⟩ | ⟨o, its, n, h1, h2, h3, h4, h5, _⟩
  · exact .inl (.inl r)
  · exact .inr ⟨o, its, n, h1, h2, h3, h4, h5⟩
theorem TupAt.len {a : Addr} {vs : List V} (t : TupAt K M H a vs) : vs.length ≤ sizeLine := by
  rcases t with ⟨z, _⟩ | ⟨o, its, n, h1, h2, h3, h4, h5, _⟩
  · exact z
  · have := h5.length; simp at this; omega
/-- a list's items -/
theorem itemsL_ok {h : MHp} (hr : HRel K M H h) {x : PV} {v : V} {xs : List PV} (r : RV K M H x v) (e : itemsL x h = some xs) : ∃ a vs, v = .ref a ∧ vs.length ≤ sizeLine ∧ H a = some (.lst vs) ∧ RVs K M H xs vs := by
  cases x with
  | lst ys =>
    rw [RV] at r
    obtain ⟨a, vs, e1, z, n, t, q⟩ := r
    simp only [itemsL, Option.some.injEq] at e
    subst e
    exact ⟨a, vs, e1, z, t, q⟩
  | ref n =>
    rw [RV] at r
    obtain ⟨a, e1, em⟩ := r
    simp only [itemsL] at e
    split at e
    · rename_i ys eh
      cases e
      have := hr.at_ n a _ em eh
      obtain ⟨vs, e2, z, q⟩ := this
      exact ⟨a, vs, e1, z, e2, q⟩
    · cases e
  | _ => simp [itemsL] at e
theorem itemsT_ok {h : MHp} (hr : HRel K M H h) {x : PV} {v : V} {xs : List PV} (r : RV K M H x v) (e : itemsT x h = some xs) :
    ∃ a vs, v = .ref a ∧ vs.length ≤ sizeLine ∧ ((∃ ys, x = .tup ys) ∧ SqT K.f H a vs ∨ itemsL x h = some xs ∧ H a = some (.lst vs)) ∧ RVs K M H xs vs := by
  cases x with
  | tup ys =>
    rw [RV] at r
    obtain ⟨a, vs, e1, t, q⟩ := r
    simp only [itemsT, Option.some.injEq] at e
    subst e
    exact ⟨a, vs, e1, t.len, .inl ⟨⟨_, rfl⟩, t.seq⟩, q⟩
  | lst ys =>
    have e' : itemsL (.lst ys) h = some xs := e
    obtain ⟨a, vs, h1, h2, h3, h4⟩ := itemsL_ok hr r e'
    exact ⟨a, vs, h1, h2, .inr ⟨e', h3⟩, h4⟩
  | ref n =>
    have e' : itemsL (.ref n) h = some xs := e
    obtain ⟨a, vs, h1, h2, h3, h4⟩ := itemsL_ok hr r e'
    exact ⟨a, vs, h1, h2, .inr ⟨e', h3⟩, h4⟩
  | _ => simp [itemsT] at e
theorem asDic_ok {h : MHp} (hr : HRel K M H h) {x : PV} {v : V} {t : Bool} {ks ws : List PV} (r : RV K M H x v) (e : asDic x h = some (t, ks, ws)) : ∃ a us u, v = .ref a ∧ H a = some u ∧ DK t ks us u ∧ RVs K M H ws us := by
  cases x with
  | dic t' ks' ws' =>
    rw [RV] at r
    obtain ⟨a, us, u, e1, n, z, d, q⟩ := r
    simp only [asDic, Option.some.injEq, Prod.mk.injEq] at e
    obtain ⟨rfl, rfl, rfl⟩ := e
    exact ⟨a, us, u, e1, z, d, q⟩
  | ref n =>
    rw [RV] at r
    obtain ⟨a, e1, em⟩ := r
    simp only [asDic] at e
    split at e
    · rename_i t' ks' ws' eh
      cases e
      obtain ⟨us, u, e2, d, q⟩ := hr.at_ n a _ em eh
      exact ⟨a, us, u, e1, e2, d, q⟩
    · cases e
  | _ => simp [asDic] at e

/-! ### the small heap grows, changes -/
theorem Ext.laid {p : Addr} {o : HO} (hp : H p = none) : Ext M H M (upd H p o) :=
  ⟨⟨[], by simp⟩, fun a u _ e => by rw [upd_ne (ne_of_none e hp)]; exact e, fun _ h => .inl h⟩
theorem HRel.mem {h : MHp} (hr : HRel K M H h) {a : Addr} (m : a ∈ M) : H a ≠ none := by
  obtain ⟨n, hn⟩ := List.getElem?_of_mem m
  have hl : n < h.length := by rw [← hr.len]; exact (List.getElem?_eq_some_iff.mp hn).1
  have := hr.at_ n a _ hn (List.getElem?_eq_getElem hl)
  intro z
  rw [z] at this
  cases q : h[n] with
  | lst xs => rw [q] at this; obtain ⟨_, e, _⟩ := this; cases e
  | dic t ks ws => rw [q] at this; obtain ⟨_, _, e, _⟩ := this; cases e
  | ins _ _ => rw [q] at this; exact this
theorem HRel.fresh {h : MHp} (hr : HRel K M H h) {p : Addr} (hp : H p = none) : p ∉ M := fun m => hr.mem m hp
theorem HRel.off {h : MHp} (hr : HRel K M H h) {p : Addr} (hp : H p = none) : Off K M p := ⟨hr.fresh hp, fun z => (hr.zs p z).2 hp⟩
/-- a thing that is none of the small heap's is laid -/
theorem HRel.laid {h : MHp} (hr : HRel K M H h) {p : Addr} {o : HO} (hp : H p = none) : HRel K M (upd H p o) h :=
  ⟨hr.len, hr.nd, (Ext.laid hp).zs hr.zs, fun n a u e1 e2 => by
    have hne : a ≠ p := fun z => hr.fresh hp (z ▸ List.mem_of_getElem? e1)
    rw [upd_ne hne]
    exact (hr.at_ n a u e1 e2).ext (Ext.laid hp)⟩
theorem HRel.ext {h : MHp} (hr : HRel K M H h) {H' : Hp} (x : Ext M H M H') (k : ∀ a ∈ M, H' a = H a) : HRel K M H' h :=
  ⟨hr.len, hr.nd, x.zs hr.zs, fun n a u e1 e2 => by
    rw [k a (List.mem_of_getElem? e1)]
    exact (hr.at_ n a u e1 e2).ext x⟩
/-- a thing is laid in the small heap -/
theorem Ext.push {p : Addr} {o : HO} (hp : H p = none) : Ext M H (M ++ [p]) (upd H p o) :=
  ⟨⟨[p], rfl⟩, fun a u _ e => by rw [upd_ne (ne_of_none e hp)]; exact e, fun a m => by
    rcases List.mem_append.mp m with m | m
    · exact .inl m
    · simp at m; subst m; exact .inr hp⟩
theorem HRel.push {h : MHp} (hr : HRel K M H h) {p : Addr} {o : HO} {mo : MO} (hp : H p = none) (new : ORel K M H mo (some o)) : HRel K (M ++ [p]) (upd H p o) (h ++ [mo]) := by
  have hf := hr.fresh hp
  refine ⟨by simp [hr.len], List.nodup_append.mpr ⟨hr.nd, by simp, fun a ha b hb => by simp at hb; subst hb; exact fun z => hf (z ▸ ha)⟩, (Ext.push hp).zs hr.zs, fun n a u e1 e2 => ?_⟩
  by_cases hn : n < M.length
  · rw [List.getElem?_append_left hn] at e1
    rw [List.getElem?_append_left (by rw [← hr.len]; exact hn)] at e2
    have hne : a ≠ p := fun z => hf (z ▸ List.mem_of_getElem? e1)
    rw [upd_ne hne]
    exact (hr.at_ n a u e1 e2).ext (Ext.push hp)
  · have hn' : n = M.length := by
      have := (List.getElem?_eq_some_iff.mp e1).1
      simp at this
      omega
    subst hn'
    rw [List.getElem?_append_right (Nat.le_refl _)] at e1
    rw [hr.len, List.getElem?_append_right (Nat.le_refl _)] at e2
    simp at e1 e2
    subst e1; subst e2
    rw [upd_same]
    exact new.ext (Ext.push hp)
/-- a thing of the small heap is changed -/
theorem Ext.chg {a : Addr} {o : HO} (hm : a ∈ M) : Ext M H M (upd H a o) :=
  ⟨⟨[], by simp⟩, fun b u n e => by rw [upd_ne (fun z => n (by subst z; exact hm))]; exact e, fun _ h => .inl h⟩
theorem HRel.chg {h : MHp} (hr : HRel K M H h) {n : Nat} {a : Addr} {o : HO} {mo : MO} (hn : M[n]? = some a) (new : ORel K M H mo (some o)) : HRel K M (upd H a o) (h.set n mo) := by
  have hm := List.mem_of_getElem? hn
  refine ⟨by simp [hr.len], hr.nd, (Ext.chg hm).zs hr.zs, fun m b u e1 e2 => ?_⟩
  by_cases e : m = n
  · subst e
    rw [hn] at e1; cases e1
    have hl : m < h.length := by rw [← hr.len]; exact (List.getElem?_eq_some_iff.mp hn).1
    rw [List.getElem?_set_self hl] at e2
    cases e2
    rw [upd_same]
    exact new.ext (Ext.chg hm)
  · rw [List.getElem?_set_ne (Ne.symm e)] at e2
    have hne : b ≠ a := fun z => e (by
      subst z
      obtain ⟨l1, q1⟩ := List.getElem?_eq_some_iff.mp e1
      obtain ⟨l2, q2⟩ := List.getElem?_eq_some_iff.mp hn
      exact (List.getElem_inj hr.nd).mp (q1.trans q2.symm))
    rw [upd_ne hne]
    exact (hr.at_ m b u e1 e2).ext (Ext.chg hm)
/-! ### what is hidden -/
def KZ.hide (K : KZ) (D : Addr) : KZ := ⟨K.f, D :: K.z, K.x⟩
theorem Off.of {D a : Addr} (h : Off (K.hide D) M a) : Off K M a := ⟨h.1, fun z => h.2 (List.mem_cons_of_mem _ z)⟩
theorem Off.ne {D a : Addr} (h : Off K M a) (hd : D ∈ K.z) : a ≠ D := fun z => h.2 (z ▸ hd)
theorem Off.hids {z' : List Addr} {a : Addr} {u : HO} (h : Off K M a) (e : H a = some u) (n : ∀ a ∈ z', a ∈ K.z ∨ H a = none) : Off ⟨K.f, z', K.x⟩ M a := ⟨h.1, fun z => by
  rcases n a z with q | q
  · exact h.2 q
  · rw [q] at e; cases e⟩
theorem Off.hid {D a : Addr} {u : HO} (h : Off K M a) (e : H a = some u) (n : H D = none) : Off (K.hide D) M a := ⟨h.1, fun z => by
  rcases List.mem_cons.mp z with z | z
  · rw [z, n] at e; cases e
  · exact h.2 z⟩
mutual
theorem RV.unhide {D : Addr} : ∀ {p : PV} {v : V}, RV (K.hide D) M H p v → RV K M H p v
  | .non, _, h => by rw [RV] at h ⊢; exact h
  | .bl _, _, h => by rw [RV] at h ⊢; exact h
  | .int _, _, h => by rw [RV] at h ⊢; exact h
  | .str _, _, h => by rw [RV] at h ⊢; exact h
  | .tup xs, _, h => by
    rw [RV] at h ⊢
    obtain ⟨a, vs, e, t, r⟩ := h
    refine ⟨a, vs, e, ?_, RVs.unhide r⟩
    rcases t with ⟨z, n, t⟩ | t
    · exact .inl ⟨z, n.of, t⟩
    · exact .inr t
  | .lst xs, _, h => by
    rw [RV] at h ⊢
    obtain ⟨a, vs, e, z, n, t, r⟩ := h
    exact ⟨a, vs, e, z, n.of, t, RVs.unhide r⟩
  | .dic _ _ _, _, h => by
    rw [RV] at h ⊢
    obtain ⟨a, us, u, e, n, t, d, r⟩ := h
    exact ⟨a, us, u, e, n.of, t, d, RVs.unhide r⟩
  | .ref _, _, h => by rw [RV] at h ⊢; exact h
  | .scr _, _, h => by
    rw [RV] at h ⊢
    obtain ⟨a, e, z, q⟩ := h
    refine ⟨a, e, z, ?_⟩
    rcases q with ⟨n, q⟩ | q
    · exact .inl ⟨n.of, q⟩
    · exact .inr q
theorem RVs.unhide {D : Addr} : ∀ {p : List PV} {v : List V}, RVs (K.hide D) M H p v → RVs K M H p v
  | [], _, h => by rw [RVs] at h ⊢; exact h
  | _ :: _, _, h => by
    rw [RVs] at h ⊢
    obtain ⟨v, r, e, h1, h2⟩ := h
    exact ⟨v, r, e, RV.unhide h1, RVs.unhide h2⟩
end
mutual
theorem RV.hids {z' : List Addr} (n : ∀ a ∈ z', a ∈ K.z ∨ H a = none) : ∀ {p : PV} {v : V}, RV K M H p v → RV ⟨K.f, z', K.x⟩ M H p v
  | .non, _, h => by rw [RV] at h ⊢; exact h
  | .bl _, _, h => by rw [RV] at h ⊢; exact h
  | .int _, _, h => by rw [RV] at h ⊢; exact h
  | .str _, _, h => by rw [RV] at h ⊢; exact h
  | .tup xs, _, h => by
    rw [RV] at h ⊢
    obtain ⟨a, vs, e, t, r⟩ := h
    refine ⟨a, vs, e, ?_, RVs.hids n r⟩
    rcases t with ⟨z, m, t⟩ | t
    · exact .inl ⟨z, m.hids t n, t⟩
    · exact .inr t
  | .lst xs, _, h => by
    rw [RV] at h ⊢
    obtain ⟨a, vs, e, z, m, t, r⟩ := h
    exact ⟨a, vs, e, z, m.hids t n, t, RVs.hids n r⟩
  | .dic _ _ _, _, h => by
    rw [RV] at h ⊢
    obtain ⟨a, us, u, e, m, t, d, r⟩ := h
    exact ⟨a, us, u, e, m.hids t n, t, d, RVs.hids n r⟩
  | .ref _, _, h => by rw [RV] at h ⊢; exact h
  | .scr _, _, h => by
    rw [RV] at h ⊢
    obtain ⟨a, e, z, q⟩ := h
    refine ⟨a, e, z, ?_⟩
    rcases q with ⟨m, q | ⟨o, q⟩⟩ | q
    · exact .inl ⟨m.hids q n, .inl q⟩
    · exact .inl ⟨m.hids q n, .inr ⟨o, q⟩⟩
    · exact .inr q
theorem RVs.hids {z' : List Addr} (n : ∀ a ∈ z', a ∈ K.z ∨ H a = none) : ∀ {p : List PV} {v : List V}, RVs K M H p v → RVs ⟨K.f, z', K.x⟩ M H p v
  | [], _, h => by rw [RVs] at h ⊢; exact h
  | _ :: _, _, h => by
    rw [RVs] at h ⊢
    obtain ⟨v, r, e, h1, h2⟩ := h
    exact ⟨v, r, e, RV.hids n h1, RVs.hids n h2⟩
end
theorem RV.hid {D : Addr} (n : H D = none) {p : PV} {v : V} (r : RV K M H p v) : RV (K.hide D) M H p v := RV.hids (fun a ha => by
  rcases List.mem_cons.mp ha with rfl | ha
  · exact .inr n
  · exact .inl ha) r
theorem RVs.hid {D : Addr} (n : H D = none) {p : List PV} {v : List V} (r : RVs K M H p v) : RVs (K.hide D) M H p v := RVs.hids (fun a ha => by
  rcases List.mem_cons.mp ha with rfl | ha
  · exact .inr n
  · exact .inl ha) r
mutual
/-- what is hidden is written -/
theorem RV.hwr {D : Addr} {o : HO} (hd : D ∈ K.z) : ∀ {p : PV} {v : V}, RV K M H p v → RV K M (upd H D o) p v
  | .non, _, h => by rw [RV] at h ⊢; exact h
  | .bl _, _, h => by rw [RV] at h ⊢; exact h
  | .int _, _, h => by rw [RV] at h ⊢; exact h
  | .str _, _, h => by rw [RV] at h ⊢; exact h
  | .tup xs, _, h => by
    rw [RV] at h ⊢
    obtain ⟨a, vs, e, t, r⟩ := h
    refine ⟨a, vs, e, ?_, RVs.hwr hd r⟩
    rcases t with ⟨z, m, t⟩ | t
    · exact .inl ⟨z, m, by rw [upd_ne (m.ne hd)]; exact t⟩
    · exact .inr t
  | .lst xs, _, h => by
    rw [RV] at h ⊢
    obtain ⟨a, vs, e, z, m, t, r⟩ := h
    exact ⟨a, vs, e, z, m, by rw [upd_ne (m.ne hd)]; exact t, RVs.hwr hd r⟩
  | .dic _ _ _, _, h => by
    rw [RV] at h ⊢
    obtain ⟨a, us, u, e, m, t, d, r⟩ := h
    exact ⟨a, us, u, e, m, by rw [upd_ne (m.ne hd)]; exact t, d, RVs.hwr hd r⟩
  | .ref _, _, h => by rw [RV] at h ⊢; exact h
  | .scr _, _, h => by
    rw [RV] at h ⊢
    obtain ⟨a, e, z, q⟩ := h
    refine ⟨a, e, z, ?_⟩
    rcases q with ⟨m, q | ⟨o', q⟩⟩ | q
    · exact .inl ⟨m, .inl (by rw [upd_ne (m.ne hd)]; exact q)⟩
    · exact .inl ⟨m, .inr ⟨o', by rw [upd_ne (m.ne hd)]; exact q⟩⟩
    · exact .inr q
theorem RVs.hwr {D : Addr} {o : HO} (hd : D ∈ K.z) : ∀ {p : List PV} {v : List V}, RVs K M H p v → RVs K M (upd H D o) p v
  | [], _, h => by rw [RVs] at h ⊢; exact h
  | _ :: _, _, h => by
    rw [RVs] at h ⊢
    obtain ⟨v, r, e, h1, h2⟩ := h
    exact ⟨v, r, e, RV.hwr hd h1, RVs.hwr hd h2⟩
end
theorem HRel.hwr {h : MHp} {D : Addr} {o : HO} (hd : D ∈ K.z) (hr : HRel K M H h) : HRel K M (upd H D o) h :=
  ⟨hr.len, hr.nd, fun a ha => ⟨(hr.zs a ha).1, by
      by_cases c : a = D
      · subst c; rw [upd_same]; exact fun z => nomatch z
      · rw [upd_ne c]; exact (hr.zs a ha).2⟩,
    fun n a u e1 e2 => by
      have hne : a ≠ D := fun z => (hr.zs D hd).1 (z ▸ List.mem_of_getElem? e1)
      rw [upd_ne hne]
      have := hr.at_ n a u e1 e2
      cases u with
      | lst xs => obtain ⟨vs, e, z, r⟩ := this; exact ⟨vs, e, z, r.hwr hd⟩
      | dic t ks ws => obtain ⟨us, y, e, d, r⟩ := this; exact ⟨us, y, e, d, r.hwr hd⟩
      | ins _ _ => exact this⟩
theorem HRel.unhide {h : MHp} {D : Addr} (hr : HRel (K.hide D) M H h) : HRel K M H h :=
  ⟨hr.len, hr.nd, fun a ha => hr.zs a (List.mem_cons_of_mem _ ha), fun n a u e1 e2 => by
    have := hr.at_ n a u e1 e2
    cases u with
    | lst xs => obtain ⟨vs, e, z, r⟩ := this; exact ⟨vs, e, z, r.unhide⟩
    | dic t ks ws => obtain ⟨us, y, e, d, r⟩ := this; exact ⟨us, y, e, d, r.unhide⟩
    | ins _ _ => exact this⟩
/-! a hidden thing goes into the small heap -/
theorem Off.tr {D a : Addr} (h : Off (K.hide D) M a) : Off K (M ++ [D]) a := ⟨fun m => by
  rcases List.mem_append.mp m with m | m
  · exact h.1 m
  · rw [List.mem_singleton] at m
    exact h.2 (by rw [m]; exact List.mem_cons_self), fun z => h.2 (List.mem_cons_of_mem _ z)⟩
mutual
theorem RV.tr {D : Addr} : ∀ {p : PV} {v : V}, RV (K.hide D) M H p v → RV K (M ++ [D]) H p v
  | .non, _, h => by rw [RV] at h ⊢; exact h
  | .bl _, _, h => by rw [RV] at h ⊢; exact h
  | .int _, _, h => by rw [RV] at h ⊢; exact h
  | .str _, _, h => by rw [RV] at h ⊢; exact h
  | .tup xs, _, h => by
    rw [RV] at h ⊢
    obtain ⟨a, vs, e, t, r⟩ := h
    refine ⟨a, vs, e, ?_, RVs.tr r⟩
    rcases t with ⟨z, n, t⟩ | t
    · exact .inl ⟨z, n.tr, t⟩
    · exact .inr t
  | .lst xs, _, h => by
    rw [RV] at h ⊢
    obtain ⟨a, vs, e, z, n, t, r⟩ := h
    exact ⟨a, vs, e, z, n.tr, t, RVs.tr r⟩
  | .dic _ _ _, _, h => by
    rw [RV] at h ⊢
    obtain ⟨a, us, u, e, n, t, d, r⟩ := h
    exact ⟨a, us, u, e, n.tr, t, d, RVs.tr r⟩
  | .ref n, _, h => by
    rw [RV] at h ⊢
    obtain ⟨a, e, m⟩ := h
    exact ⟨a, e, by rw [List.getElem?_append_left (List.getElem?_eq_some_iff.mp m).1]; exact m⟩
  | .scr _, _, h => by
    rw [RV] at h ⊢
    obtain ⟨a, e, z, q⟩ := h
    refine ⟨a, e, z, ?_⟩
    rcases q with ⟨n, q⟩ | q
    · exact .inl ⟨n.tr, q⟩
    · exact .inr q
theorem RVs.tr {D : Addr} : ∀ {p : List PV} {v : List V}, RVs (K.hide D) M H p v → RVs K (M ++ [D]) H p v
  | [], _, h => by rw [RVs] at h ⊢; exact h
  | _ :: _, _, h => by
    rw [RVs] at h ⊢
    obtain ⟨v, r, e, h1, h2⟩ := h
    exact ⟨v, r, e, RV.tr h1, RVs.tr h2⟩
end
theorem HRel.tr {h : MHp} {D : Addr} {acc : List V} {ys : List PV} (hr : HRel (K.hide D) M H h) (nz : D ∉ K.z) (eD : H D = some (.lst acc)) (la : acc.length ≤ sizeLine) (r : RVs (K.hide D) M H ys acc) : HRel K (M ++ [D]) H (h ++ [.lst ys]) := by
  have nD : D ∉ M := (hr.zs D List.mem_cons_self).1
  refine ⟨by simp [hr.len], List.nodup_append.mpr ⟨hr.nd, by simp, fun a ha b hb => by simp at hb; subst hb; exact fun z => nD (z ▸ ha)⟩, fun a ha => ⟨fun m => ?_, (hr.zs a (List.mem_cons_of_mem _ ha)).2⟩, fun n a u e1 e2 => ?_⟩
  · rcases List.mem_append.mp m with m | m
    · exact (hr.zs a (List.mem_cons_of_mem _ ha)).1 m
    · rw [List.mem_singleton] at m; exact nz (m ▸ ha)
  · by_cases hn : n < M.length
    · rw [List.getElem?_append_left hn] at e1
      rw [List.getElem?_append_left (by rw [← hr.len]; exact hn)] at e2
      have := hr.at_ n a u e1 e2
      cases u with
      | lst xs => obtain ⟨vs, e, z, r⟩ := this; exact ⟨vs, e, z, r.tr⟩
      | dic t ks ws => obtain ⟨us, y, e, d, r⟩ := this; exact ⟨us, y, e, d, r.tr⟩
      | ins _ _ => exact this
    · have hn2 : n < (M ++ [D]).length := (List.getElem?_eq_some_iff.mp e1).1
      have e : n = M.length := by rw [List.length_append, List.length_singleton] at hn2; omega
      subst e
      rw [List.getElem?_append_right (Nat.le_refl _), Nat.sub_self] at e1
      rw [List.getElem?_append_right (by rw [hr.len]; exact Nat.le_refl _), hr.len, Nat.sub_self] at e2
      cases e1
      cases e2
      exact ⟨acc, eD, la, r.tr⟩
theorem Ext.more {D : Addr} (x : Ext M H M' H') (hD : H D = none) : Ext M H (M' ++ [D]) H' := ⟨by
  obtain ⟨l, e⟩ := x.pre
  exact ⟨l ++ [D], by rw [e, List.append_assoc]⟩, x.keep, fun a m => by
  rcases List.mem_append.mp m with m | m
  · exact x.new a m
  · rw [List.mem_singleton] at m; rw [m]; exact .inr hD⟩
/-- a hidden thing is laid -/
theorem HRel.hide {h : MHp} {D : Addr} {o : HO} (hr : HRel K M H h) (n : H D = none) : HRel (K.hide D) M (upd H D o) h :=
  ⟨hr.len, hr.nd, fun a ha => by
      rcases List.mem_cons.mp ha with rfl | ha
      · exact ⟨hr.fresh n, by rw [upd_same]; exact fun z => nomatch z⟩
      · have := hr.zs a ha
        have c : a ≠ D := fun z => this.2 (by rw [z]; exact n)
        exact ⟨this.1, by rw [upd_ne c]; exact this.2⟩,
    fun k a u e1 e2 => by
      have hne : a ≠ D := fun z => hr.fresh n (z ▸ List.mem_of_getElem? e1)
      rw [upd_ne hne]
      have := hr.at_ k a u e1 e2
      have hd : D ∈ (K.hide D).z := List.mem_cons_self
      cases u with
      | lst xs => obtain ⟨vs, e, z, r⟩ := this; exact ⟨vs, e, z, (r.hid n).hwr hd⟩
      | dic t ks ws => obtain ⟨us, y, e, d, r⟩ := this; exact ⟨us, y, e, d, (r.hid n).hwr hd⟩
      | ins _ _ => exact this⟩
theorem ERel.hide {D : Addr} {o : HO} {σ : L2.St} {env : Env} (r : ERel K M H σ env) (n : H D = none) : ERel (K.hide D) M (upd H D o) σ env :=
  ⟨r.1, fun i p e => let ⟨v, e1, r1⟩ := r.2 i p e; ⟨v, e1, (r1.hid n).hwr List.mem_cons_self⟩, fun q hq he => let ⟨s1, s2, s3, s4, s5⟩ := r.xs q hq he; ⟨s1, s2.hid s3 n, by rw [upd_ne (ne_of_none s3 n)]; exact s3, s4, fun i p m a b => let ⟨v, l, rv⟩ := s5 i p m a b; ⟨v, l, (rv.hid n).hwr List.mem_cons_self⟩⟩⟩
theorem ERel.hwr {D : Addr} {o : HO} {σ : L2.St} {env : Env} (hd : D ∈ K.z) (r : ERel K M H σ env) : ERel K M (upd H D o) σ env :=
  ⟨r.1, fun i p e => let ⟨v, e1, r1⟩ := r.2 i p e; ⟨v, e1, r1.hwr hd⟩, fun q hq he => let ⟨s1, s2, s3, s4, s5⟩ := r.xs q hq he; ⟨s1, s2, by rw [upd_ne (s2.ne hd)]; exact s3, s4, fun i p m a b => let ⟨v, l, rv⟩ := s5 i p m a b; ⟨v, l, rv.hwr hd⟩⟩⟩
mutual
/-- what is caught matters to no value -/
theorem RV.kx {x : Option XF} : ∀ {p : PV} {v : V}, RV K M H p v → RV ⟨K.f, K.z, x⟩ M H p v
  | .non, _, h => by rw [RV] at h ⊢; exact h
  | .bl _, _, h => by rw [RV] at h ⊢; exact h
  | .int _, _, h => by rw [RV] at h ⊢; exact h
  | .str _, _, h => by rw [RV] at h ⊢; exact h
  | .tup xs, _, h => by
    rw [RV] at h ⊢
    obtain ⟨a, vs, e, t, r⟩ := h
    exact ⟨a, vs, e, t, RVs.kx r⟩
  | .lst xs, _, h => by
    rw [RV] at h ⊢
    obtain ⟨a, vs, e, z, m, t, r⟩ := h
    exact ⟨a, vs, e, z, m, t, RVs.kx r⟩
  | .dic _ _ _, _, h => by
    rw [RV] at h ⊢
    obtain ⟨a, us, u, e, m, t, d, r⟩ := h
    exact ⟨a, us, u, e, m, t, d, RVs.kx r⟩
  | .ref _, _, h => by rw [RV] at h ⊢; exact h
  | .scr _, _, h => by rw [RV] at h ⊢; exact h
theorem RVs.kx {x : Option XF} : ∀ {p : List PV} {v : List V}, RVs K M H p v → RVs ⟨K.f, K.z, x⟩ M H p v
  | [], _, h => by rw [RVs] at h ⊢; exact h
  | _ :: _, _, h => by
    rw [RVs] at h ⊢
    obtain ⟨v, r, e, h1, h2⟩ := h
    exact ⟨v, r, e, RV.kx h1, RVs.kx h2⟩
end
theorem HRel.kx {x : Option XF} {h : MHp} (hr : HRel K M H h) : HRel ⟨K.f, K.z, x⟩ M H h :=
  ⟨hr.len, hr.nd, hr.zs, fun n a u e1 e2 => by
    have := hr.at_ n a u e1 e2
    cases u with
    | lst xs => obtain ⟨vs, e, z, r⟩ := this; exact ⟨vs, e, z, r.kx⟩
    | dic t ks ws => obtain ⟨us, y, e, d, r⟩ := this; exact ⟨us, y, e, d, r.kx⟩
    | ins _ _ => exact this⟩
theorem ERel.kx0 {σ : L2.St} {env : Env} (r : ERel K M H σ env) : ERel ⟨K.f, K.z, none⟩ M H σ env :=
  ⟨r.1, fun i p e => let ⟨v, e1, r1⟩ := r.2 i p e; ⟨v, e1, r1.kx⟩, fun q hq _ => nomatch hq⟩
/-- a slot is emptied -/
theorem ERel.unset {σ : L2.St} {env : Env} (hx : K.x = none) (r : ERel K M H σ env) (i : Nat) (y : Option V) : ERel K M H (σ.set i y) (env.set i none) := by
  refine ⟨by simp [r.1], fun j q e => ?_, fun q hq => by rw [hx] at hq; cases hq⟩
  by_cases h : i = j
  · subst h
    by_cases hl : i < env.length
    · rw [List.getElem?_set_self hl] at e; cases e
    · rw [List.getElem?_eq_none (by simpa using hl)] at e; cases e
  · rw [List.getElem?_set_ne h] at e
    obtain ⟨w, e1, r1⟩ := r.2 j q e
    exact ⟨w, by rw [List.getElem?_set_ne h]; exact e1, r1⟩
end
end Qm

/-! S0m: tuple * 1: the tuple itself. -/
namespace L2
open PySem PySem.Spec PyProof.Rows
theorem tuple_mul1 (l : Addr) (items : Array Value) (n : Nat) (dd : Option Addr) (sl : Array (Option Value)) (u : Tok) :
    Meets (Builtin.«tuple.__mul__» ⟨[.ref l, .int 1 u], []⟩) (fun _ R s => s.heap.get? l = some { cls := .type "tuple", dict := dd, data := .seq items n, slots := sl } ∧ R (.ok (.ret (Value.ref l))) s) :=
  .of_wp fun prog w A R s h => by
    obtain ⟨hp, g, d, tk, os⟩ := s
    obtain ⟨hl, h⟩ := h
    have f1 := AutoSeq1.idx_int
    have c1 : (items.isEmpty || (1 : Int) == 1) = true := by simp
    wp_walk using wpAny_loadPart' hl
    repeat (first
      | (refine wpAny_ite_false (by decide) ?_; wp_walk using wpAny_loadPart' hl)
      | (refine wpAny_ite_true (by rw [c1]) ?_; wp_walk using wpAny_loadPart' hl))
    exact ⟨_, rfl, h⟩
/-- tuple * 1 -/
theorem op_repT1 {X : Cx} : OpR X (binaryOp .Mult) (fun x y H Q => ∃ l xs, x = .ref l ∧ y = .int 1 ∧ SqT X.K H l xs ∧ Q (.ref l) H) := by
  intro pins s σ H x y v u Q I rx ry h
  obtain ⟨l, xs, rfl, rfl, hT, q⟩ := h
  cases rx
  obtain ⟨t, rfl⟩ := ry
  obtain ⟨its, r, ⟨⟨cls, dd, data, sl⟩, ho, hc, n, hd⟩, hs⟩ := I.tuple hT
  simp only at hc hd
  subst hc hd
  refine wpAny_binaryOp_repeat_ref (T := "tuple") (U := "int") (by decide) ⟨_, ho, rfl⟩ (fun s' => typeIs_int s' 1 t) noFill_tuple_mul F.fills_int_mul F.slot_int_rmul repeat_tuple F.slot_int_index.lookup
    (call_meets F.slot_int_rmul (typeIs_int s 1 t) F.entry_int_rmul (F.args_int_rmul_2 _ _) (int_rmul_tuple 1 t l its.toArray n dd sl)
      ⟨ho, rfl, ⟨_, ho, rfl⟩, call_meets F.slot_tuple_mul ⟨_, ho, rfl⟩ F.entry_tuple_mul (F.args_tuple_mul_2 _ _) (tuple_mul1 l its.toArray n dd sl t) ⟨ho, ?_⟩⟩)
  exact ⟨.ref l, H, I, rfl, q⟩
end L2

/-! S1: readings by an evaluation; operators. -/
namespace Qm
open PySem PySem.Spec PyProof.Rows L2

/-- the written part, the classes of the exceptions by their numbers, their fields' names -/
structure XC where
  K : KZ
  ca : Nat → Option Addr
  fld : Nat → List Str
  cx : Option MX
/-- an exception as it flies -/
def XRel (C : XC) (M : List Addr) (H : Hp) (x : MX) (cls : Value) (d : Option Addr) : Prop :=
  ∃ (a dd : Addr) (fs : List (Str × V)), C.ca x.cls = some a ∧ cls = .ref a ∧ d = some dd ∧ Off C.K M dd ∧ H dd = some (.xd fs) ∧ x.fs.length = (C.fld x.cls).length ∧
    ∀ (i : Nat) (p : PV) (n : Str), x.fs[i]? = some p → (C.fld x.cls)[i]? = some n → ∃ v, fs.lookup n = some v ∧ RV C.K M H p v
def Out (C : XC) (E : XK) (Q : VK) (M : List Addr) (H : Hp) (r : Res PV) : Prop :=
  match r with
  | .ok p h' => ∀ v H' M', Ext M H M' H' → HRel C.K M' H' h' → RV C.K M' H' p v → Q v H'
  | .exn x h' => ∀ cls d H' M', Ext M H M' H' → HRel C.K M' H' h' → XRel C M' H' x cls d → E cls d H'
  | .stuck => False
def OutA (C : XC) (E : XK) (Q : List V → Hp → Prop) (M : List Addr) (H : Hp) (r : Res (List PV)) : Prop :=
  match r with
  | .ok p h' => ∀ v H' M', Ext M H M' H' → HRel C.K M' H' h' → RVs C.K M' H' p v → Q v H'
  | .exn x h' => ∀ cls d H' M', Ext M H M' H' → HRel C.K M' H' h' → XRel C M' H' x cls d → E cls d H'
  | .stuck => False
def OutB (C : XC) (E : XK) (Q : Bool → Hp → Prop) (M : List Addr) (H : Hp) (r : Res Bool) : Prop :=
  match r with
  | .ok p h' => ∀ H' M', Ext M H M' H' → HRel C.K M' H' h' → Q p H'
  | .exn x h' => ∀ cls d H' M', Ext M H M' H' → HRel C.K M' H' h' → XRel C M' H' x cls d → E cls d H'
  | .stuck => False
section
variable {C : XC} {E : XK} {Q : VK} {M M1 : List Addr} {H H1 : Hp}
theorem Out.shift {r : Res PV} (o : Out C E Q M H r) (x : Ext M H M1 H1) : Out C E Q M1 H1 r := by
  cases r with
  | ok p h' => exact fun v H' M' y => o v H' M' (x.trans y)
  | exn e h' => exact fun c d H' M' y => o c d H' M' (x.trans y)
  | stuck => exact o
theorem OutA.shift {Q : List V → Hp → Prop} {r : Res (List PV)} (o : OutA C E Q M H r) (x : Ext M H M1 H1) : OutA C E Q M1 H1 r := by
  cases r with
  | ok p h' => exact fun v H' M' y => o v H' M' (x.trans y)
  | exn e h' => exact fun c d H' M' y => o c d H' M' (x.trans y)
  | stuck => exact o
theorem OutB.shift {Q : Bool → Hp → Prop} {r : Res Bool} (o : OutB C E Q M H r) (x : Ext M H M1 H1) : OutB C E Q M1 H1 r := by
  cases r with
  | ok p h' => exact fun H' M' y => o H' M' (x.trans y)
  | exn e h' => exact fun c d H' M' y => o c d H' M' (x.trans y)
  | stuck => exact o
end
abbrev Sem1 := Env → MHp → Res PV
abbrev SemA := Env → MHp → Res (List PV)
def RdE (C : XC) (W : WX) (f : Sem1) : TE := fun σ H Q => ∃ M h env, HRel C.K M H h ∧ ERel C.K M H σ env ∧ Out C (WE W σ) Q M H (f env h)
def RdA (C : XC) (W : WX) (f : SemA) : TA := fun σ H Q => ∃ M h env, HRel C.K M H h ∧ ERel C.K M H σ env ∧ OutA C (WE W σ) Q M H (f env h)
/-- a test: by the value's truth -/
def tst (f : Sem1) : Env → MHp → Res Bool := fun env h => (f env h).bind fun x h1 => ofOpt (truth x h1) h1
def RdT (C : XC) (W : WX) (f : Env → MHp → Res Bool) : TT := fun σ H Q => ∃ M h env, HRel C.K M H h ∧ ERel C.K M H σ env ∧ OutB C (WE W σ) Q M H (f env h)
/-- any end -/
def Fin (C : XC) (E : XK) {α : Type} (T : α → List Addr → Hp → MHp → Prop) (M : List Addr) (H : Hp) (r : Res α) : Prop :=
  match r with
  | .ok p h' => T p M H h'
  | .exn x h' => ∀ cls d H' M', Ext M H M' H' → HRel C.K M' H' h' → XRel C M' H' x cls d → E cls d H'
  | .stuck => False
section
variable {C : XC} {W : WX} {σ : L2.St} {M : List Addr} {H : Hp} {h : MHp} {env : Env}
/-- one part first: then the rest from what it gives -/
theorem RdE.step {f : Sem1} {β : Type} {g : PV → MHp → Res β} {O : List Addr → Hp → Res β → Prop} {R : VK} (hr : HRel C.K M H h) (er : ERel C.K M H σ env)
    (o : O M H ((f env h).bind g)) (sh : ∀ M1 H1 r, Ext M H M1 H1 → O M H r → O M1 H1 r) (ox : ∀ x h', O M H (.exn x h') → ∀ cls d H' M', Ext M H M' H' → HRel C.K M' H' h' → XRel C M' H' x cls d → WE W σ cls d H') (os : ¬ O M H .stuck)
    (k : ∀ v H1 M1 h1 p, Ext M H M1 H1 → HRel C.K M1 H1 h1 → ERel C.K M1 H1 σ env → RV C.K M1 H1 p v → O M1 H1 (g p h1) → R v H1) : RdE C W f σ H R := by
  refine ⟨M, h, env, hr, er, ?_⟩
  cases e : f env h with
  | ok p h1 =>
    rw [e] at o
    exact fun v H1 M1 x hr1 rv => k v H1 M1 h1 p x hr1 (er.ext x) rv (sh _ _ _ x o)
  | exn x h1 =>
    rw [e] at o
    exact ox x h1 o
  | stuck =>
    rw [e] at o
    exact (os o).elim
theorem RdE.go {f : Sem1} {g : PV → MHp → Res PV} {Q R : VK} (hr : HRel C.K M H h) (er : ERel C.K M H σ env) (o : Out C (WE W σ) Q M H ((f env h).bind g))
    (k : ∀ v H1 M1 h1 p, Ext M H M1 H1 → HRel C.K M1 H1 h1 → ERel C.K M1 H1 σ env → RV C.K M1 H1 p v → Out C (WE W σ) Q M1 H1 (g p h1) → R v H1) : RdE C W f σ H R :=
  RdE.step (O := fun M H r => Out C (WE W σ) Q M H r) hr er o (fun _ _ _ x o => o.shift x) (fun _ _ o => o) (fun z => z) k
theorem RdE.goB {f : Sem1} {g : PV → MHp → Res Bool} {Q : Bool → Hp → Prop} {R : VK} (hr : HRel C.K M H h) (er : ERel C.K M H σ env) (o : OutB C (WE W σ) Q M H ((f env h).bind g))
    (k : ∀ v H1 M1 h1 p, Ext M H M1 H1 → HRel C.K M1 H1 h1 → ERel C.K M1 H1 σ env → RV C.K M1 H1 p v → OutB C (WE W σ) Q M1 H1 (g p h1) → R v H1) : RdE C W f σ H R :=
  RdE.step (O := fun M H r => OutB C (WE W σ) Q M H r) hr er o (fun _ _ _ x o => o.shift x) (fun _ _ o => o) (fun z => z) k
theorem RdE.goA {f : Sem1} {g : PV → MHp → Res (List PV)} {Q : List V → Hp → Prop} {R : VK} (hr : HRel C.K M H h) (er : ERel C.K M H σ env) (o : OutA C (WE W σ) Q M H ((f env h).bind g))
    (k : ∀ v H1 M1 h1 p, Ext M H M1 H1 → HRel C.K M1 H1 h1 → ERel C.K M1 H1 σ env → RV C.K M1 H1 p v → OutA C (WE W σ) Q M1 H1 (g p h1) → R v H1) : RdE C W f σ H R :=
  RdE.step (O := fun M H r => OutA C (WE W σ) Q M H r) hr er o (fun _ _ _ x o => o.shift x) (fun _ _ o => o) (fun z => z) k
/-- arguments first -/
theorem RdA.go {f : SemA} {g : List PV → MHp → Res PV} {Q : VK} {R : List V → Hp → Prop} (hr : HRel C.K M H h) (er : ERel C.K M H σ env) (o : Out C (WE W σ) Q M H ((f env h).bind g))
    (k : ∀ v H1 M1 h1 p, Ext M H M1 H1 → HRel C.K M1 H1 h1 → ERel C.K M1 H1 σ env → RVs C.K M1 H1 p v → Out C (WE W σ) Q M1 H1 (g p h1) → R v H1) : RdA C W f σ H R := by
  refine ⟨M, h, env, hr, er, ?_⟩
  cases e : f env h with
  | ok p h1 =>
    rw [e] at o
    exact fun v H1 M1 x hr1 rv => k v H1 M1 h1 p x hr1 (er.ext x) rv (o.shift x)
  | exn x h1 =>
    rw [e] at o
    exact o
  | stuck =>
    rw [e] at o
    exact o.elim
theorem RdA.goA {f : SemA} {g : List PV → MHp → Res (List PV)} {Q : List V → Hp → Prop} {R : List V → Hp → Prop} (hr : HRel C.K M H h) (er : ERel C.K M H σ env) (o : OutA C (WE W σ) Q M H ((f env h).bind g))
    (k : ∀ v H1 M1 h1 p, Ext M H M1 H1 → HRel C.K M1 H1 h1 → ERel C.K M1 H1 σ env → RVs C.K M1 H1 p v → OutA C (WE W σ) Q M1 H1 (g p h1) → R v H1) : RdA C W f σ H R := by
  refine ⟨M, h, env, hr, er, ?_⟩
  cases e : f env h with
  | ok p h1 =>
    rw [e] at o
    exact fun v H1 M1 x hr1 rv => k v H1 M1 h1 p x hr1 (er.ext x) rv (o.shift x)
  | exn x h1 =>
    rw [e] at o
    exact o
  | stuck =>
    rw [e] at o
    exact o.elim
end
theorem pe_weak {X : Cx} {e : Expr} {t t' : TE} (a : PE X e t) (w : ∀ σ H Q, t' σ H Q → t σ H Q) : PE X e t' := ⟨fun pins s σ H Q I q => a.run pins s σ H Q I (w σ H Q q)⟩
theorem pt_weak {X : Cx} {e : Expr} {t t' : TT} (a : PT X e t) (w : ∀ σ H Q, t' σ H Q → t σ H Q) : PT X e t' := ⟨fun pins s σ H Q I q => a.run pins s σ H Q I (w σ H Q q)⟩
theorem pw_weak {X : Cx} {e : Expr} {t t' : TT} (a : PW X e t) (w : ∀ σ H Q, t' σ H Q → t σ H Q) : PW X e t' := ⟨fun wh pins s σ H Q I q => a.run wh pins s σ H Q I (w σ H Q q)⟩
theorem pa_weak {X : Cx} {e : List Expr} {t t' : TA} (a : PA X e t) (w : ∀ σ H Q, t' σ H Q → t σ H Q) : PA X e t' := ⟨fun pos pins s σ H Q I q => a.run pos pins s σ H Q I (w σ H Q q)⟩

/-! ### the reading of a value op, by values -/
/-- what an operation of two values asks: its answer z in Qm, and the wish at every heap that has grown by the answer alone -/
def r2 (C : XC) (f : PV → PV → MHp → Option PV) : R2 := fun x y H Q => ∃ M h p q z, HRel C.K M H h ∧ RV C.K M H p x ∧ RV C.K M H q y ∧ f p q h = some z ∧
  ∀ v H' M', Ext M H M' H' → HRel C.K M' H' h → RV C.K M' H' z v → Q v H'
def r1 (C : XC) (f : PV → MHp → Option PV) : V → Hp → VK → Prop := fun x H Q => ∃ M h p z, HRel C.K M H h ∧ RV C.K M H p x ∧ f p h = some z ∧
  ∀ v H' M', Ext M H M' H' → HRel C.K M' H' h → RV C.K M' H' z v → Q v H'
section
variable {X : Cx} {C : XC} {W : WX} {a b : Expr} {fa fb : Sem1} {pos : Pos}
/-- two parts, then a value op -/
theorem two {f : PV → PV → MHp → Option PV} {σ : L2.St} {H : Hp} {Q : VK} (o : RdE C W (fun env h => (fa env h).bind fun x h1 => (fb env h1).bind fun y h2 => ofOpt (f x y h2) h2) σ H Q) :
    tOp (r2 C f) (RdE C W fa) (RdE C W fb) σ H Q := by
  obtain ⟨M, h, env, hr, er, o⟩ := o
  refine RdE.go hr er o fun v H1 M1 h1 p x1 hr1 er1 rv o1 => ?_
  refine RdE.go hr1 er1 o1 fun u H2 M2 h2 q x2 hr2 er2 ru o2 => ?_
  cases e : f p q h2 with
  | none => rw [e] at o2; exact o2.elim
  | some z =>
    rw [e] at o2
    exact ⟨M2, h2, p, q, z, hr2, rv.ext x2, ru, e, o2⟩
theorem one {f : PV → MHp → Option PV} {σ : L2.St} {H : Hp} {Q : VK} (o : RdE C W (fun env h => (fa env h).bind fun x h1 => ofOpt (f x h1) h1) σ H Q) :
    tUn (r1 C f) (RdE C W fa) σ H Q := by
  obtain ⟨M, h, env, hr, er, o⟩ := o
  refine RdE.go hr er o fun v H1 M1 h1 p x1 hr1 er1 rv o1 => ?_
  cases e : f p h1 with
  | none => rw [e] at o1; exact o1.elim
  | some z =>
    rw [e] at o1
    exact ⟨M1, h1, p, z, hr1, rv, e, o1⟩
end

/-! ### + - * // % ** -/
def oper : BO → Operator
  | .add => .Add | .sub => .Sub | .mul => .Mult | .fdv => .FloorDiv | .mod => .Mod | .pow => .Pow
theorem big_eq : big = sizeLine := by rw [sizeLine_eq]
section
variable {C : XC} {M : List Addr} {H : Hp} {h : MHp}
theorem rv_int {i : Int} {v : V} (r : RV C.K M H (.int i) v) : v = .int i := by rw [RV] at r; exact r
theorem rv_bl {i : Bool} {v : V} (r : RV C.K M H (.bl i) v) : v = .bl i := by rw [RV] at r; exact r
theorem rv_non {v : V} (r : RV C.K M H .non v) : v = .non := by rw [RV] at r; exact r
theorem rv_str {i : Str} {v : V} (r : RV C.K M H (.str i) v) : v = .str i ∧ i.length ≤ sizeLine := by rw [RV] at r; exact r
theorem rv_tup {xs : List PV} {v : V} (r : RV C.K M H (.tup xs) v) : ∃ a vs, v = .ref a ∧ TupAt C.K M H a vs ∧ RVs C.K M H xs vs := by rw [RV] at r; exact r
/-- a new tuple, a new list that nobody changes -/
theorem rv_newT {xs : List PV} {vs : List V} {p : Addr} (hr : HRel C.K M H h) (hp : H p = none) (z : vs.length ≤ sizeLine) (r : RVs C.K M H xs vs) : RV C.K M (upd H p (.tup vs)) (.tup xs) (.ref p) := by
  rw [RV]
  exact ⟨p, vs, rfl, .inl ⟨z, hr.off hp, upd_same⟩, r.ext (Ext.laid hp)⟩
theorem rv_newL {xs : List PV} {vs : List V} {p : Addr} (hr : HRel C.K M H h) (hp : H p = none) (z : vs.length ≤ sizeLine) (r : RVs C.K M H xs vs) : RV C.K M (upd H p (.lst vs)) (.lst xs) (.ref p) := by
  rw [RV]
  exact ⟨p, vs, rfl, z, hr.off hp, upd_same, r.ext (Ext.laid hp)⟩
/-- the end: a new list that nobody changes -/
theorem end_newL {xs : List PV} {vs : List V} {Q : VK} (hr : HRel C.K M H h) (z : vs.length ≤ sizeLine) (r : RVs C.K M H xs vs)
    (k : ∀ v H' M', Ext M H M' H' → HRel C.K M' H' h → RV C.K M' H' (.lst xs) v → Q v H') : ∀ p, H p = none → Q (.ref p) (upd H p (.lst vs)) :=
  fun p hp => k _ _ M (Ext.laid hp) (hr.laid hp) (rv_newL hr hp z r)
theorem end_newT {xs : List PV} {vs : List V} {Q : VK} (hr : HRel C.K M H h) (z : vs.length ≤ sizeLine) (r : RVs C.K M H xs vs)
    (k : ∀ v H' M', Ext M H M' H' → HRel C.K M' H' h → RV C.K M' H' (.tup xs) v → Q v H') : ∀ p, H p = none → Q (.ref p) (upd H p (.tup vs)) :=
  fun p hp => k _ _ M (Ext.laid hp) (hr.laid hp) (rv_newT hr hp z r)
theorem rv_i {i : Int} : RV C.K M H (.int i) (.int i) := by rw [RV]
theorem rv_b {i : Bool} : RV C.K M H (.bl i) (.bl i) := by rw [RV]
theorem rv_n : RV C.K M H .non .non := by rw [RV]
end
section
variable {X : Cx} {C : XC}
theorem bop_int {o : BO} {i j : Int} {z : PV} (e : bopI o i j = some z) : OpR X (binaryOp (oper o)) (fun x y H Q => x = .int i ∧ y = .int j ∧ ∃ k, z = .int k ∧ Q (.int k) H) := by
  intro pins s σ H x y v u Q I rx ry q
  obtain ⟨rfl, rfl, k, rfl, q⟩ := q
  cases o with
  | add =>
    simp only [bopI, Option.some.injEq, PV.int.injEq] at e
    subst e
    exact op_add pins s σ H _ _ v u Q I rx ry ⟨_, _, rfl, rfl, q⟩
  | sub =>
    simp only [bopI, Option.some.injEq, PV.int.injEq] at e
    subst e
    exact op_sub pins s σ H _ _ v u Q I rx ry ⟨_, _, rfl, rfl, q⟩
  | mul =>
    simp only [bopI] at e
    split at e
    · rename_i c
      simp only [Option.some.injEq, PV.int.injEq] at e
      subst e
      refine op_mul pins s σ H _ _ v u Q I rx ry ⟨_, _, rfl, rfl, ?_, q⟩
      rw [Bool.or_eq_true] at c
      rcases c with c | c
      · exact .inr (of_decide_eq_true c)
      · exact .inl (of_decide_eq_true c)
    · cases e
  | fdv =>
    simp only [bopI] at e
    split at e
    · rename_i c
      simp only [Option.some.injEq, PV.int.injEq] at e
      subst e
      rw [Bool.and_eq_true] at c
      exact op_fdiv pins s σ H _ _ v u Q I rx ry ⟨_, _, rfl, rfl, ⟨of_decide_eq_true c.1, of_decide_eq_true c.2⟩, q⟩
    · cases e
  | mod =>
    simp only [bopI] at e
    split at e
    · rename_i c
      simp only [Option.some.injEq, PV.int.injEq] at e
      subst e
      exact op_mod pins s σ H _ _ v u Q I rx ry ⟨_, _, rfl, rfl, of_decide_eq_true c, q⟩
    · cases e
  | pow =>
    simp only [bopI] at e
    split at e
    · rename_i c
      simp only [Option.some.injEq, PV.int.injEq] at e
      subst e
      rw [Bool.and_eq_true, Bool.and_eq_true] at c
      exact op_pow pins s σ H _ _ v u Q I rx ry ⟨_, _, rfl, rfl, ⟨of_decide_eq_true c.1.1, of_decide_eq_true c.1.2, of_decide_eq_true c.2⟩, q⟩
    · cases e
theorem bopI_int {o : BO} {i j : Int} {z : PV} (e : bopI o i j = some z) : ∃ k, z = .int k := by
  cases o <;> simp only [bopI] at e <;> first
    | (simp only [Option.some.injEq] at e; exact ⟨_, e.symm⟩)
    | (split at e
       · simp only [Option.some.injEq] at e; exact ⟨_, e.symm⟩
       · cases e)
theorem len_rep (xs : List PV) : ∀ n, (repN xs n).length = n * xs.length
  | 0 => by simp [repN]
  | n + 1 => by rw [repN, List.length_append, len_rep xs n, Nat.succ_mul, Nat.add_comm]
theorem txt_one (x : Str) : Txt.mul x 1 = x := by
  unfold Txt.mul
  rw [if_neg (by decide)]
  simp
theorem txt_more {x : Str} {n : Int} (h : 2 ≤ n) (hl : 0 < x.length) : Txt.mul x n = ⟨(List.replicate n.toNat x.cps).foldl (· ++ ·) #[]⟩ := by
  unfold Txt.mul
  have e : (n == 1 || x.length == 0) = false := by
    rw [Bool.or_eq_false_iff]
    exact ⟨by simp; omega, by simp; omega⟩
  rw [if_neg (by omega), e, if_neg (by decide)]
theorem mulStr_rv {K : KZ} {M : List Addr} {H : Hp} {x : Str} {n : Int} (h1 : 2 ≤ n) (h2 : n ≤ 1000) (h3 : 0 < x.length) (h4 : x.length ≤ 1000) : RV K M H (.str ⟨(List.replicate n.toNat x.cps).foldl (· ++ ·) #[]⟩) (.str (Txt.mul x n)) := by
  rw [RV, txt_more h1 h3]
  refine ⟨rfl, ?_⟩
  show ((List.replicate n.toNat x.cps).foldl (· ++ ·) #[]).size ≤ sizeLine
  rw [size_reps, sizeLine_eq]
  have e : x.cps.size = x.length := rfl
  rw [e]
  have : n.toNat * x.length ≤ 1000 * 1000 := Nat.mul_le_mul (by omega) h4
  simp
  omega
theorem op_mulS1 {X : Cx} : OpR X (binaryOp .Mult) (fun x y H Q => ∃ (z : Str) (n : Int), x = .str z ∧ y = .int n ∧ 1 ≤ n ∧ n ≤ 1000 ∧ (n = 1 ∨ (2 ≤ n ∧ 0 < z.length ∧ z.length ≤ 1000)) ∧ Q (.str (Txt.mul z n)) H) := by
  intro pins s σ H x y v u Q I rx ry h
  obtain ⟨z, n, rfl, rfl, h1, h2, h3, q⟩ := h
  obtain ⟨t, rfl⟩ : ∃ t, v = Value.str z t := rx
  obtain ⟨t2, rfl⟩ : ∃ t2, u = Value.int n t2 := ry
  refine SB.mul ⟨?_, fun _ e => ?_, fun _ e => ?_⟩ fun t' k => ⟨.str (Txt.mul z n), H, I.tok _, ⟨t', rfl⟩, q⟩
  · rw [decide_eq_false (by omega), decide_eq_false (by omega)]; rfl
  · rcases h3 with h3 | ⟨h3, h4, h5⟩
    · subst h3; simp at e
    · have : (2 ^ 63 - 1) / n ≥ 1000 := by
        have : (1000 : Int) * n ≤ 2 ^ 63 - 1 := by omega
        exact (Int.le_ediv_iff_mul_le (by omega)).mpr this
      omega
  · rcases h3 with h3 | ⟨h3, h4, h5⟩
    · subst h3; simp at e
    · have : z.length * n.toNat ≤ 1000 * 1000 := Nat.mul_le_mul h5 (by omega)
      unfold Builtin.Str.tooLong
      rw [sizeLine_eq]
      simp
      omega
theorem op_bop (hK : X.K = C.K.f) {o : BO} : OpR X (binaryOp (oper o)) (r2 C (bop o)) := by
  intro pins s σ H x y v u Q I rx ry q
  obtain ⟨M, h, p, q', z, hr, rp, rq, e, k⟩ := q
  have lists : ∀ {a b : List PV}, itemsL p h = some a → itemsL q' h = some b → (if decide (a.length + b.length ≤ big) = true then some (PV.lst (a ++ b)) else none) = some z →
      wpAny (model X.prog X.w) X.A (binaryOp .Add v u) (EP X pins σ Q) X.xe s := fun {a b} ha hb ez => by
    split at ez
    · rename_i c
      cases ez
      obtain ⟨l, vs, rfl, _, hl, rvs⟩ := itemsL_ok hr rp ha
      obtain ⟨l2, ws, rfl, _, hl2, rws⟩ := itemsL_ok hr rq hb
      have c' : vs.length + ws.length ≤ sizeLine := by rw [rvs.len, rws.len, ← big_eq]; exact of_decide_eq_true c
      exact op_cat pins s σ H _ _ v u Q I rx ry ⟨l, l2, vs, ws, rfl, rfl, hl, hl2, c', end_newL hr (by rw [List.length_append]; exact c') (rvs.append rws) k⟩
    · cases ez
  have reps : ∀ {j : Int} {a : List PV}, q' = .int j → itemsL p h = some a → smallR j = true → (if decide (a.length * j.toNat ≤ big) = true then some (PV.lst (repN a j.toNat)) else none) = some z →
      wpAny (model X.prog X.w) X.A (binaryOp .Mult v u) (EP X pins σ Q) X.xe s := fun {j a} hq ha sj ez => by
    split at ez
    · rename_i c
      cases ez
      subst hq
      obtain ⟨l, vs, rfl, _, hl, rvs⟩ := itemsL_ok hr rp ha
      have ey := rv_int rq
      subst ey
      have c' : vs.length * j.toNat ≤ sizeLine := by rw [rvs.len, ← big_eq]; exact of_decide_eq_true c
      have sj' := of_decide_eq_true sj
      exact op_rep pins s σ H _ _ v u Q I rx ry ⟨l, j, vs, rfl, rfl, hl, by omega, by omega, c', end_newL hr (by rw [PyProof.Rows.lm_len_rep_flat, Nat.mul_comm]; exact c') (rvs.rep _) k⟩
    · cases ez
  by_cases hi : ∃ i j, p = .int i ∧ q' = .int j
  · obtain ⟨i, j, rfl, rfl⟩ := hi
    have e' : bopI o i j = some z := e
    obtain ⟨n, rfl⟩ := bopI_int e'
    exact bop_int e' pins s σ H x y v u Q I rx ry ⟨rv_int rp, rv_int rq, n, rfl, k _ _ M Ext.refl hr rv_i⟩
  · have e2 : bopS o p q' h = some z := by
      unfold bop at e
      split at e
      · exact (hi ⟨_, _, rfl, rfl⟩).elim
      · exact e
    cases o with
    | add =>
      replace e2 : addS p q' h = some z := e2
      show wpAny _ _ (binaryOp .Add v u) _ _ _
      unfold addS at e2
      split at e2
      · rename_i a b
        split at e2
        · rename_i c
          cases e2
          obtain ⟨l, vs, rfl, tl, rvs⟩ := rv_tup rp
          obtain ⟨l2, ws, rfl, tl2, rws⟩ := rv_tup rq
          have c' : vs.length + ws.length ≤ sizeLine := by rw [rvs.len, rws.len, ← big_eq]; exact of_decide_eq_true c
          refine op_catA pins s σ H _ _ v u Q I rx ry ⟨l, l2, vs, ws, rfl, rfl, by rw [hK]; exact tl.seq, by rw [hK]; exact tl2.seq, c', fun z => ?_, fun z1 z2 => ?_, fun _ _ => end_newT hr (by rw [List.length_append]; exact c') (rvs.append rws) k⟩
          · subst z
            have ea : a = [] := by have := rvs.len; simp at this; exact List.eq_nil_of_length_eq_zero this.symm
            subst ea
            exact k _ _ M Ext.refl hr rq
          · subst z2
            have eb : b = [] := by have := rws.len; simp at this; exact List.eq_nil_of_length_eq_zero this.symm
            subst eb
            rw [List.append_nil] at k
            exact k _ _ M Ext.refl hr rp
        · cases e2
      · rename_i a b
        split at e2
        · rename_i c
          cases e2
          obtain ⟨rfl, z1⟩ := rv_str rp
          obtain ⟨rfl, z2⟩ := rv_str rq
          have c' : a.length + b.length ≤ sizeLine := by rw [← big_eq]; exact of_decide_eq_true c
          refine op_add_str pins s σ H _ _ v u Q I rx ry ⟨a, b, rfl, rfl, c', k _ _ M Ext.refl hr ?_⟩
          rw [RV]
          exact ⟨rfl, by rw [PySem.Str.length_append]; exact c'⟩
        · cases e2
      · split at e2
        · rename_i a b ha hb
          exact lists ha hb e2
        · cases e2
    | mul =>
      replace e2 : mulJ p q' h = some z := e2
      show wpAny _ _ (binaryOp .Mult v u) _ _ _
      unfold mulJ at e2
      split at e2
      · rename_i j
        unfold mulS at e2
        split at e2
        · rename_i sj
          split at e2
          · rename_i a
            split at e2
            · rename_i c
              cases e2
              have c := of_decide_eq_true c
              subst c
              have rp0 := rp
              obtain ⟨l, vs, rfl, tl, rvs⟩ := rv_tup rp
              have ey := rv_int rq
              subst ey
              exact op_repT1 pins s σ H _ _ v u Q I rx ry ⟨l, vs, rfl, rfl, by rw [hK]; exact tl.seq, k _ _ M Ext.refl hr rp0⟩
            split at e2
            · rename_i c
              cases e2
              rw [Bool.and_eq_true, Bool.and_eq_true, Bool.and_eq_true] at c
              have c1 := of_decide_eq_true c.1.1.1
              have c2 := of_decide_eq_true c.1.1.2
              have c3 := of_decide_eq_true c.1.2
              have c4 := of_decide_eq_true c.2
              obtain ⟨l, vs, rfl, tl, rvs⟩ := rv_tup rp
              have ey := rv_int rq
              subst ey
              have hne : vs ≠ [] := fun z => c3 (by subst z; have := rvs.len; simp at this; exact List.eq_nil_of_length_eq_zero this.symm)
              have hz : vs.length ≤ 1000 := by rw [rvs.len]; exact c4
              refine op_repT pins s σ H _ _ v u Q I rx ry ⟨l, j, vs, rfl, rfl, by rw [hK]; exact tl.seq, hne, c1, c2, hz, end_newT hr ?_ (rvs.rep _) k⟩
              rw [PyProof.Rows.lm_len_rep_flat, sizeLine_eq]
              have : j.toNat * vs.length ≤ 1000 * 1000 := Nat.mul_le_mul (by omega) hz
              omega
            · cases e2
          · split at e2
            · rename_i c
              cases e2
              have c := of_decide_eq_true c
              subst c
              obtain ⟨rfl, z1⟩ := rv_str rp
              have ey := rv_int rq
              subst ey
              exact op_mulS1 pins s σ H _ _ v u Q I rx ry ⟨_, 1, rfl, rfl, by decide, by decide, .inl rfl, by rw [txt_one]; exact k _ _ M Ext.refl hr rp⟩
            · split at e2
              · rename_i c1 c
                cases e2
                rw [Bool.and_eq_true, Bool.and_eq_true, Bool.and_eq_true] at c
                have c2 := of_decide_eq_true c.1.1.1
                have c3 := of_decide_eq_true c.1.1.2
                have c4 := of_decide_eq_true c.1.2
                have c5 := of_decide_eq_true c.2
                obtain ⟨rfl, z1⟩ := rv_str rp
                have ey := rv_int rq
                subst ey
                exact op_mulS1 pins s σ H _ _ v u Q I rx ry ⟨_, _, rfl, rfl, by omega, c3, .inr ⟨c2, c4, c5⟩, k _ _ M Ext.refl hr (mulStr_rv c2 c3 c4 c5)⟩
              · cases e2
          · split at e2
            · rename_i a ha
              exact reps rfl ha sj e2
            · cases e2
        · cases e2
      · cases e2
    | sub => cases e2
    | fdv => cases e2
    | mod => cases e2
    | pow => cases e2
end
end Qm

/-! S2: data, comparisons, truth, places, slices. -/
namespace Qm
open PySem PySem.Spec PyProof.Rows L2

mutual
def dat : PV → PyData
  | .non => .none
  | .bl b => .bool b
  | .int i => .int i
  | .str s => .str s
  | .tup xs => .tuple (dats xs)
  | .lst xs => .list (dats xs)
  | _ => .none
def dats : List PV → List PyData
  | [] => []
  | x :: xs => dat x :: dats xs
end
theorem dats_map : ∀ xs, dats xs = xs.map dat
  | [] => by simp [dats]
  | x :: xs => by simp [dats, dats_map xs]
mutual
theorem dat_ok : ∀ {x : PV} {n : Nat}, dep x = some n → (dat x).canLay0 = true ∧ (dat x).depth = n
  | .non, n, h => by simp [dep] at h; subst h; simp [dat, PyData.canLay0, PyData.depth]
  | .bl _, n, h => by simp [dep] at h; subst h; simp [dat, PyData.canLay0, PyData.depth]
  | .int _, n, h => by simp [dep] at h; subst h; simp [dat, PyData.canLay0, PyData.depth]
  | .str s, n, h => by
    simp only [dep] at h
    split at h
    · rename_i c; cases h; exact ⟨by simp only [dat, PyData.canLay0]; exact c, by simp [dat, PyData.depth]⟩
    · cases h
  | .tup xs, n, h => by
    simp only [dep, Option.map_eq_some_iff] at h
    obtain ⟨m, hm, rfl⟩ := h
    have := dats_ok hm
    simp [dat, PyData.canLay0, PyData.depth, this]
  | .lst xs, n, h => by
    simp only [dep, Option.map_eq_some_iff] at h
    obtain ⟨m, hm, rfl⟩ := h
    have := dats_ok hm
    simp [dat, PyData.canLay0, PyData.depth, this]
  | .dic _ _ _, n, h => by simp [dep] at h
  | .ref _, n, h => by simp [dep] at h
  | .scr _, n, h => by simp [dep] at h
theorem dats_ok : ∀ {x : List PV} {n : Nat}, deps x = some n → PyData.canLayAll0 (dats x) = true ∧ PyData.depthAll (dats x) = n
  | [], n, h => by simp [deps] at h; subst h; simp [dats, PyData.canLayAll0, PyData.depthAll]
  | x :: xs, n, h => by
    simp only [deps] at h
    split at h
    · rename_i a b ha hb
      cases h
      have h1 := dat_ok ha
      have h2 := dats_ok hb
      simp [dats, PyData.canLayAll0, PyData.depthAll, h1, h2]
    · cases h
end
mutual
theorem peq_eqv : ∀ {x y : PV} {n m : Nat}, dep x = some n → dep y = some m → peq x y = PyData.eqv (dat x) (dat y)
  | .non, y, _, _, _, hy => by cases y <;> simp [dep] at hy <;> simp [peq, dat, PyData.eqv]
  | .bl _, y, _, _, _, hy => by cases y <;> simp [dep] at hy <;> simp [peq, dat, PyData.eqv]
  | .int _, y, _, _, _, hy => by cases y <;> simp [dep] at hy <;> simp [peq, dat, PyData.eqv]
  | .str _, y, _, _, _, hy => by cases y <;> simp [dep] at hy <;> simp [peq, dat, PyData.eqv]
  | .tup xs, y, _, _, hx, hy => by
    cases y with
    | tup ys =>
      simp only [dep, Option.map_eq_some_iff] at hx hy
      obtain ⟨_, hx, _⟩ := hx
      obtain ⟨_, hy, _⟩ := hy
      simp only [peq, dat, PyData.eqv]
      exact peqs_eqv hx hy
    | dic _ _ _ => simp [dep] at hy
    | ref _ => simp [dep] at hy
    | scr _ => simp [dep] at hy
    | _ => simp [peq, dat, PyData.eqv]
  | .lst xs, y, _, _, hx, hy => by
    cases y with
    | lst ys =>
      simp only [dep, Option.map_eq_some_iff] at hx hy
      obtain ⟨_, hx, _⟩ := hx
      obtain ⟨_, hy, _⟩ := hy
      simp only [peq, dat, PyData.eqv]
      exact peqs_eqv hx hy
    | dic _ _ _ => simp [dep] at hy
    | ref _ => simp [dep] at hy
    | scr _ => simp [dep] at hy
    | _ => simp [peq, dat, PyData.eqv]
  | .dic _ _ _, _, _, _, h, _ => by simp [dep] at h
  | .ref _, _, _, _, h, _ => by simp [dep] at h
  | .scr _, _, _, _, h, _ => by simp [dep] at h
theorem peqs_eqv : ∀ {x y : List PV} {n m : Nat}, deps x = some n → deps y = some m → peqs x y = PyData.eqvAll (dats x) (dats y)
  | [], y, _, _, _, _ => by cases y <;> simp [peqs, dats, PyData.eqvAll]
  | x :: xs, y, _, _, hx, hy => by
    cases y with
    | nil => simp [peqs, dats, PyData.eqvAll]
    | cons y ys =>
      simp only [deps] at hx hy
      split at hx
      · rename_i a b ha hb
        split at hy
        · rename_i c d hc hd
          simp only [peqs, dats, PyData.eqvAll]
          rw [peq_eqv ha hc, peqs_eqv hb hd]
        · cases hy
      · cases hx
end
theorem flat_dep {x : PV} (h : flatD x = true) : ∃ n, dep x = some n ∧ n ≤ 60 := by
  unfold flatD at h
  split at h
  · rename_i n e; exact ⟨n, e, of_decide_eq_true h⟩
  · cases h
theorem flat_shaped {x : PV} (h : flatD x = true) : SeqAt.shaped (dat x) = true := by
  obtain ⟨n, e, z⟩ := flat_dep h
  have := dat_ok e
  unfold SeqAt.shaped
  rw [this.1, this.2]
  simp
  omega
section
variable {C : XC} {M : List Addr} {H : Hp} {h : MHp}
mutual
theorem dat_rv : ∀ {x : PV} {n : Nat} {v : V}, dep x = some n → RV C.K M H x v → Dp C.K.f H v (dat x)
  | .non, _, _, _, r => by rw [rv_non r, dat]; exact .non
  | .bl _, _, _, _, r => by rw [rv_bl r, dat]; exact .bl _
  | .int _, _, _, _, r => by rw [rv_int r, dat]; exact .int _
  | .str _, _, _, _, r => by rw [(rv_str r).1, dat]; exact .str _
  | .tup xs, _, _, e, r => by
    obtain ⟨a, vs, rfl, t, rs⟩ := rv_tup r
    simp only [dep, Option.map_eq_some_iff] at e
    obtain ⟨_, e, _⟩ := e
    rw [dat]
    exact .tup t.seq (dats_rv e rs)
  | .lst xs, _, _, e, r => by
    rw [RV] at r
    obtain ⟨a, vs, rfl, z, _, t, rs⟩ := r
    simp only [dep, Option.map_eq_some_iff] at e
    obtain ⟨_, e, _⟩ := e
    rw [dat]
    exact .lst (SqL.of t) (dats_rv e rs)
  | .dic _ _ _, _, _, h, _ => by simp [dep] at h
  | .ref _, _, _, h, _ => by simp [dep] at h
  | .scr _, _, _, h, _ => by simp [dep] at h
theorem dats_rv : ∀ {x : List PV} {n : Nat} {v : List V}, deps x = some n → RVs C.K M H x v → DpAll C.K.f H v (dats x)
  | [], _, _, _, r => by rw [RVs] at r; subst r; rw [dats]; exact .nil
  | x :: xs, _, _, e, r => by
    rw [RVs] at r
    obtain ⟨v, vs, rfl, r1, r2⟩ := r
    simp only [deps] at e
    split at e
    · rename_i a b ha hb
      rw [dats]
      exact .cons (dat_rv ha r1) (dats_rv hb r2)
    · cases e
end
/-- a list of the small heap as data, too -/
theorem dataOf_rv (hr : HRel C.K M H h) {x : PV} {v : V} (f : flatD (dataOf x h) = true) (r : RV C.K M H x v) : Dp C.K.f H v (dat (dataOf x h)) := by
  obtain ⟨n, e, _⟩ := flat_dep f
  cases x with
  | ref k =>
    rw [RV] at r
    obtain ⟨a, rfl, em⟩ := r
    unfold dataOf at e ⊢
    simp only at e ⊢
    split at e
    · rename_i xs eh
      obtain ⟨vs, e2, _, rs⟩ := hr.at_ k a _ em eh
      simp only [dep, Option.map_eq_some_iff] at e
      obtain ⟨_, e, _⟩ := e
      rw [dat]
      exact .lst (SqL.of e2) (dats_rv e rs)
    · simp [dep] at e
  | _ => exact dat_rv e r
end

/-! ### comparisons -/
def cmpO : CO → CmpOp
  | .eq => .Eq | .ne => .NotEq | .lt => .Lt | .le => .LtE | .gt => .Gt | .ge => .GtE | .isN => .Is | .notN => .IsNot | .isin => .In | .notin => .NotIn
section
variable {X : Cx} {C : XC}
theorem fin_b {M : List Addr} {H : Hp} {h : MHp} {b : Bool} {Q : VK} (hr : HRel C.K M H h) (k : ∀ v H' M', Ext M H M' H' → HRel C.K M' H' h → RV C.K M' H' (.bl b) v → Q v H') : Q (.bl b) H := k _ _ M Ext.refl hr rv_b
def copV (o : CO) (x y : PV) (h : MHp) : Option PV := (cop o x y h).map .bl
theorem canLayAll_of_all : ∀ {xs : List PV}, xs.all flatD = true → PyData.canLayAll0 (dats xs) = true ∧ PyData.depthAll (dats xs) ≤ 60 ∧ ∃ n, deps xs = some n
  | [], _ => by simp [dats, PyData.canLayAll0, PyData.depthAll, deps]
  | x :: xs, h => by
    simp only [List.all_cons, Bool.and_eq_true] at h
    obtain ⟨n, e, z⟩ := flat_dep h.1
    obtain ⟨h1, h2, m, em⟩ := canLayAll_of_all h.2
    have := dat_ok e
    simp [dats, PyData.canLayAll0, PyData.depthAll, this, h1, deps, e, em]
    omega
theorem any_eqv {x : PV} (fx : flatD x = true) : ∀ {xs : List PV}, xs.all flatD = true → (xs.any fun z => peq z x) = (dats xs).any fun z => PyData.eqv z (dat x)
  | [], _ => by simp [dats]
  | y :: xs, h => by
    simp only [List.all_cons, Bool.and_eq_true] at h
    obtain ⟨n, e, _⟩ := flat_dep fx
    obtain ⟨m, e2, _⟩ := flat_dep h.1
    simp only [List.any_cons, dats]
    rw [peq_eqv e2 e, any_eqv fx h.2]
theorem in_seq (hK : X.K = C.K.f) (hu : X.A.units + 70 < cLine) {M : List Addr} {H : Hp} {h : MHp} {x y : PV} {xs : List PV} {v w : V} {u u' : Value} {pins : List (Addr × Obj)} {s : Shared} {σ : L2.St} {Q : VK} (I : Inv X pins σ H s) (hr : HRel C.K M H h)
    (rx : RV C.K M H x v) (ry : RV C.K M H y w) (r1 : RelV v u) (r2 : RelV w u') (e : itemsT y h = some xs) (fx : flatD x = true) (fs : xs.all flatD = true) :
    (Q (.bl (xs.any fun z => peq z x)) H → wpAny (model X.prog X.w) X.A (compareOp .In u u') (EP X pins σ Q) X.xe s) ∧
    (Q (.bl (!(xs.any fun z => peq z x))) H → wpAny (model X.prog X.w) X.A (compareOp .NotIn u u') (EP X pins σ Q) X.xe s) := by
  obtain ⟨n, ex, zx⟩ := flat_dep fx
  obtain ⟨c1, c2, m, em⟩ := canLayAll_of_all fs
  obtain ⟨a, vs, ew, z, alt, rs⟩ := itemsT_ok hr ry e
  have dx : Dp X.K H v (dat x) := by rw [hK]; exact dat_rv ex rx
  have ds : DpAll X.K H vs (dats xs) := by rw [hK]; exact dats_rv em rs
  have cx : (dat x).canLay0 = true := (dat_ok ex).1
  have dd : (dat x).depth ≤ 60 := by rw [(dat_ok ex).2]; exact zx
  have hroom : X.A.units + 1 + min (PyData.depthAll (dats xs)) (dat x).depth < cLine := by
    have := Nat.min_le_right (PyData.depthAll (dats xs)) (dat x).depth
    omega
  rw [any_eqv fx fs]
  obtain ⟨as, q1⟩ := Dp.reads I (dat x) v u dx r1
  rcases alt with ⟨_, ht⟩ | ⟨_, hl⟩
  · have dy : Dp X.K H w (.tuple (dats xs)) := by rw [ew]; rw [← hK] at ht; exact .tup ht ds
    obtain ⟨bs, q2⟩ := Dp.reads I (.tuple (dats xs)) w u' dy r2
    exact ⟨fun q => SeqAt.in_tuple_reads q2 q1 c1 cx hroom ⟨.bl _, H, I, rfl, q⟩, fun q => SeqAt.notIn_tuple_reads q2 q1 c1 cx hroom ⟨.bl _, H, I, rfl, q⟩⟩
  · have dy : Dp X.K H w (.list (dats xs)) := by rw [ew]; exact .lst (SqL.of hl) ds
    obtain ⟨bs, q2⟩ := Dp.reads I (.list (dats xs)) w u' dy r2
    exact ⟨fun q => SeqAt.in_list_reads q2 q1 c1 cx hroom ⟨.bl _, H, I, rfl, q⟩, fun q => SeqAt.notIn_list_reads q2 q1 c1 cx hroom ⟨.bl _, H, I, rfl, q⟩⟩
end

/-! ### dicts by keys -/
section
variable {C : XC} {M : List Addr} {H : Hp} {h : MHp} {κ : Type} [DecidableEq κ]
theorem look_some {f : κ → PV} (inj : ∀ a b, peq (f a) (f b) = decide (a = b)) {k : κ} {z : PV} : ∀ {kvs : List (κ × V)} {ws : List PV}, RVs C.K M H ws (kvs.map (·.2)) → lookK (kvs.map fun p => f p.1) ws (f k) = some z → ∃ v, valV kvs k = some v ∧ RV C.K M H z v
  | [], ws, r, e => by simp [lookK] at e
  | (a, b) :: kvs, ws, r, e => by
    cases ws with
    | nil => simp [lookK] at e
    | cons w ws =>
      rw [List.map_cons, RVs] at r
      obtain ⟨v, vs, ev, r1, r2⟩ := r
      injection ev with e1 e2
      subst e1; subst e2
      simp only [List.map_cons, lookK] at e
      rw [inj] at e
      by_cases c : a = k
      · rw [if_pos (decide_eq_true c)] at e
        cases e
        exact ⟨b, valV_pos c, r1⟩
      · rw [if_neg (by simp [c])] at e
        obtain ⟨v', h1, h2⟩ := look_some inj r2 e
        exact ⟨v', by rw [valV_neg c]; exact h1, h2⟩
theorem look_none {f : κ → PV} (inj : ∀ a b, peq (f a) (f b) = decide (a = b)) {k : κ} : ∀ {kvs : List (κ × V)} {ws : List PV}, RVs C.K M H ws (kvs.map (·.2)) → lookK (kvs.map fun p => f p.1) ws (f k) = none → valV kvs k = none
  | [], ws, r, e => valV_nil
  | (a, b) :: kvs, ws, r, e => by
    cases ws with
    | nil => rw [RVs] at r; simp at r
    | cons w ws =>
      rw [List.map_cons, RVs] at r
      obtain ⟨v, vs, ev, r1, r2⟩ := r
      injection ev with e1 e2
      subst e1; subst e2
      simp only [List.map_cons, lookK] at e
      rw [inj] at e
      by_cases c : a = k
      · rw [if_pos (decide_eq_true c)] at e
        cases e
      · rw [if_neg (by simp [c])] at e
        rw [valV_neg c]
        exact look_none inj r2 e
theorem any_look {f : κ → PV} (inj : ∀ a b, peq (f a) (f b) = decide (a = b)) {k : κ} : ∀ {kvs : List (κ × V)}, ((kvs.map fun p => f p.1).any fun z => peq z (f k)) = (valV kvs k).isSome
  | [] => rfl
  | (a, b) :: kvs => by
    simp only [List.map_cons, List.any_cons]
    rw [inj, any_look inj]
    by_cases c : a = k
    · rw [valV_pos c]; simp [c]
    · rw [valV_neg c]; simp [c]
end
theorem str_beq {a b : Str} : (a == b) = decide (a = b) := by
  by_cases c : a = b
  · subst c; simp
  · rw [decide_eq_false c]; exact beq_false_of_ne c
theorem key_inj (a b : Key) : peq (keyP a) (keyP b) = decide (a = b) := by
  cases a <;> cases b <;> simp [keyP, peq, key_ll, key_rr, key_lr, key_rl, str_beq, Bool.beq_eq_decide_eq]
def kInt (l : List Int) : List Key := l.map .inl
theorem keys_inj : ∀ (a b : List Key), peqs (a.map keyP) (b.map keyP) = decide (a = b)
  | [], [] => by simp [peqs]
  | [], _ :: _ => by simp [peqs]
  | _ :: _, [] => by simp [peqs]
  | a :: as, b :: bs => by
    simp only [List.map_cons, peqs]
    rw [key_inj, keys_inj as bs]
    by_cases c : a = b
    · subst c; simp
    · simp [c]
theorem tkey_inj (a b : List Key) : peq (.tup (a.map keyP)) (.tup (b.map keyP)) = decide (a = b) := by rw [peq, keys_inj]
section
variable {C : XC} {M : List Addr} {H : Hp} {h : MHp}
theorem ints_all : ∀ {xs : List PV} {vs : List V}, (xs.all fun z => match z with | .int _ => true | _ => false) = true → RVs C.K M H xs vs → ∃ k : List Key, xs = k.map keyP ∧ vs = k.map kV
  | [], vs, _, r => by rw [RVs] at r; subst r; exact ⟨[], rfl, rfl⟩
  | x :: xs, vs, e, r => by
    rw [RVs] at r
    obtain ⟨v, vs', rfl, r1, r2⟩ := r
    simp only [List.all_cons, Bool.and_eq_true] at e
    obtain ⟨k, e1, e2⟩ := ints_all e.2 r2
    obtain ⟨e0, _⟩ := e
    cases x with
    | int i => exact ⟨.inl i :: k, by simp [keyP, e1], by rw [rv_int r1]; simp [kV, e2]⟩
    | _ => simp at e0
/-- a key by the abstract heap -/
theorem key_false {x : PV} {v : V} (e : keyOk false x = true) (r : RV C.K M H x v) : ∃ k : Key, x = keyP k ∧ v = kV k := by
  cases x with
  | int i => exact ⟨.inl i, rfl, rv_int r⟩
  | str s => exact ⟨.inr s, rfl, (rv_str r).1⟩
  | _ => simp [keyOk] at e
theorem key_true {x : PV} {v : V} (e : keyOk true x = true) (r : RV C.K M H x v) : ∃ (k : List Key) (b : Addr), x = .tup (k.map keyP) ∧ v = .ref b ∧ H b = some (.tup (k.map kV)) := by
  cases x with
  | tup xs =>
    obtain ⟨a, vs, rfl, t, rs⟩ := rv_tup r
    obtain ⟨k, e1, e2⟩ := ints_all e rs
    rcases t with ⟨_, _, t⟩ | ⟨_, _, _, _, _, _, _, _, s, es⟩
    · exact ⟨k, a, by rw [e1], rfl, by rw [← e2]; exact t⟩
    · rw [e2] at es
      exfalso
      have hk : (xs.all fun z => match z with | .int _ => true | _ => false) = true := e
      cases k with
      | nil => simp at es
      | cons k0 k =>
        simp at es
        cases k0 with
        | inl i => simp [kV] at es
        | inr z => rw [e1] at hk; simp [keyP] at hk
  | _ => simp [keyOk] at e
/-- what the dict at a gives for a key -/
theorem dget_ok {t : Bool} {ks ws : List PV} {us : List V} {u : HO} {a : Addr} {x : PV} {v : V} (ea : H a = some u) (d : DK t ks us u) (rw_ : RVs C.K M H ws us) (ek : keyOk t x = true) (r : RV C.K M H x v) :
    ∃ o, DGet H a v o ∧ o.isSome = (ks.any fun z => peq z x) ∧ (∀ z, lookK ks ws x = some z → ∃ y, o = some y ∧ RV C.K M H z y) ∧ (lookK ks ws x = none → o = none) := by
  cases t with
  | false =>
    obtain ⟨kvs, rfl, rfl, rfl⟩ := (show ∃ kvs : List (Key × V), u = .dK kvs ∧ ks = kvs.map (fun p => keyP p.1) ∧ us = kvs.map (·.2) from d)
    obtain ⟨k, rfl, rfl⟩ := key_false ek r
    exact ⟨_, DGet.k ea, (any_look key_inj).symm, fun z e => look_some key_inj rw_ e, fun e => look_none key_inj rw_ e⟩
  | true =>
    obtain ⟨kvs, rfl, rfl, rfl⟩ := (show ∃ kvs : List (List Key × V), u = .dT kvs ∧ ks = kvs.map (fun p => .tup (p.1.map keyP)) ∧ us = kvs.map (·.2) from d)
    obtain ⟨k, b, rfl, rfl, eb⟩ := key_true ek r
    exact ⟨_, DGet.t ea eb, (any_look (f := fun p : List Key => .tup (p.map keyP)) tkey_inj).symm, fun z e => look_some (f := fun p : List Key => .tup (p.map keyP)) tkey_inj rw_ e, fun e => look_none (f := fun p : List Key => .tup (p.map keyP)) tkey_inj rw_ e⟩
end
section
variable {X : Cx} {C : XC}
/-- x in y, x not in y -/
theorem in_any (hK : X.K = C.K.f) (hu : X.A.units + 70 < cLine) {M : List Addr} {H : Hp} {h : MHp} {x y : PV} {b : Bool} {v w : V} {u u' : Value} {pins : List (Addr × Obj)} {s : Shared} {σ : L2.St} {Q : VK} (I : Inv X pins σ H s) (hr : HRel C.K M H h)
    (rx : RV C.K M H x v) (ry : RV C.K M H y w) (r1 : RelV v u) (r2 : RelV w u') (e : isinS x y h = some b) :
    (Q (.bl b) H → wpAny (model X.prog X.w) X.A (compareOp .In u u') (EP X pins σ Q) X.xe s) ∧
    (Q (.bl (!b)) H → wpAny (model X.prog X.w) X.A (compareOp .NotIn u u') (EP X pins σ Q) X.xe s) := by
  have rest : isinR x y h = some b → (Q (.bl b) H → wpAny (model X.prog X.w) X.A (compareOp .In u u') (EP X pins σ Q) X.xe s) ∧
    (Q (.bl (!b)) H → wpAny (model X.prog X.w) X.A (compareOp .NotIn u u') (EP X pins σ Q) X.xe s) := fun e => by
    unfold isinR at e
    split at e
    · rename_i xs exs
      split at e
      · rename_i c
        cases e
        rw [Bool.and_eq_true] at c
        exact in_seq hK hu I hr rx ry r1 r2 exs c.1 c.2
      · cases e
    · split at e
      · rename_i t ks ws ed
        split at e
        · rename_i c
          cases e
          obtain ⟨a, us, uo, rfl, ea, d, rs⟩ := asDic_ok hr ry ed
          obtain ⟨o, g, eo, _, _⟩ := dget_ok ea d rs c rx
          obtain rfl : u' = Value.ref a := r2
          rw [← eo]
          exact ⟨fun q => d_in (by omega) I g r1 fun s' I' => ⟨.bl _, H, I', rfl, q⟩, fun q => d_notIn (by omega) I g r1 fun s' I' => ⟨.bl _, H, I', rfl, q⟩⟩
        · cases e
      · cases e
  cases y with
  | str z =>
    replace e : isinZ x z = some b := e
    unfold isinZ at e
    split at e
    · rename_i w'
      split at e
      · rename_i c
        cases e
        obtain ⟨rfl, _⟩ := rv_str rx
        obtain ⟨rfl, _⟩ := rv_str ry
        obtain ⟨arr⟩ := w'
        have hs : arr = #[arr.getD 0 0] := by
          have c' : arr.size = 1 := c
          obtain ⟨l⟩ := arr
          simp at c'
          match l, c' with
          | [n], _ => rfl
        have ec : (z.cps.toList.contains (arr.getD 0 0)) = decide (arr.getD 0 0 ∈ z.cps.toList) := by
          by_cases m : arr.getD 0 0 ∈ z.cps.toList
          · rw [decide_eq_true m]; exact List.contains_iff_mem.mpr m
          · rw [decide_eq_false m]; simpa using m
        show (Q (.bl (z.cps.toList.contains (arr.getD 0 0))) H → _) ∧ (Q (.bl (!(z.cps.toList.contains (arr.getD 0 0)))) H → _)
        rw [ec]
        exact ⟨fun q => op_in_sign pins s σ H _ _ u u' Q I r1 r2 ⟨_, _, by rw [← hs], rfl, q⟩, fun q => op_notIn_sign pins s σ H _ _ u u' Q I r1 r2 ⟨_, _, by rw [← hs], rfl, q⟩⟩
      · cases e
    · cases e
  | _ => exact rest e
end
end Qm

/-! S2a: the order of data; the least, the greatest; sums. -/
namespace Qm
open PySem PySem.Spec PyProof.Rows L2 PySem.W
theorem deps_cons {x : PV} {xs : List PV} {n : Nat} (h : deps (x :: xs) = some n) : ∃ a b, dep x = some a ∧ deps xs = some b := by
  rw [deps] at h
  split at h
  · rename_i a b ha hb; exact ⟨_, _, ha, hb⟩
  · cases h
mutual
theorem alike_dat : ∀ {x y : PV} {n m : Nat}, dep x = some n → dep y = some m → alike (dat x) (dat y) = alikeP x y
  | .non, y, n, m, hx, hy => by cases y <;> simp [dep] at hy <;> simp [dat, alike, alikeP]
  | .bl _, y, n, m, hx, hy => by cases y <;> simp [dep] at hy <;> simp [dat, alike, alikeP]
  | .int _, y, n, m, hx, hy => by cases y <;> simp [dep] at hy <;> simp [dat, alike, alikeP]
  | .str _, y, n, m, hx, hy => by cases y <;> simp [dep] at hy <;> simp [dat, alike, alikeP]
  | .tup a, y, n, m, hx, hy => by
    cases y with
    | tup b =>
      simp [dep] at hx hy
      obtain ⟨i, hi, _⟩ := hx
      obtain ⟨j, hj, _⟩ := hy
      simp [dat, alike, alikeP, alikes_dat hi hj]
    | _ => simp [dep] at hy <;> simp [dat, alike, alikeP]
  | .lst a, y, n, m, hx, hy => by
    cases y with
    | lst b =>
      simp [dep] at hx hy
      obtain ⟨i, hi, _⟩ := hx
      obtain ⟨j, hj, _⟩ := hy
      simp [dat, alike, alikeP, alikes_dat hi hj]
    | _ => simp [dep] at hy <;> simp [dat, alike, alikeP]
  | .dic _ _ _, _, _, _, hx, _ => by simp [dep] at hx
  | .ref _, _, _, _, hx, _ => by simp [dep] at hx
  | .scr _, _, _, _, hx, _ => by simp [dep] at hx
theorem alikes_dat : ∀ {x y : List PV} {n m : Nat}, deps x = some n → deps y = some m → alikeAll (dats x) (dats y) = alikePs x y
  | [], [], _, _, _, _ => by simp [dats, alikeAll, alikePs]
  | [], _ :: _, _, _, _, _ => by simp [dats, alikeAll, alikePs]
  | _ :: _, [], _, _, _, _ => by simp [dats, alikeAll, alikePs]
  | x :: xs, y :: ys, n, m, hx, hy => by
    obtain ⟨a, b, ha, hb⟩ := deps_cons hx
    obtain ⟨c, d, hc, hd⟩ := deps_cons hy
    simp [dats, alikeAll, alikePs, alike_dat ha hc, alikes_dat hb hd]
end
theorem dataLt_none : dataLt .none .none = false := rfl
mutual
theorem lt_dat : ∀ {x y : PV} {n m : Nat}, dep x = some n → dep y = some m → alikeP x y = true → dataLt (dat x) (dat y) = pLt x y
  | .non, y, n, m, hx, hy, h => by cases y <;> simp [alikeP] at h <;> simp [dat, pLt, dataLt_none]
  | .bl a, y, n, m, hx, hy, h => by
    cases y <;> simp [alikeP] at h
    rename_i b
    simp only [dat, pLt, dataLt_bool]
    cases a <;> cases b <;> rfl
  | .int a, y, n, m, hx, hy, h => by
    cases y <;> simp [alikeP] at h
    simp only [dat, pLt, dataLt_int]
  | .str a, y, n, m, hx, hy, h => by
    cases y <;> simp [alikeP] at h
    simp only [dat, pLt, dataLt_str]
  | .tup a, y, n, m, hx, hy, h => by
    cases y with
    | tup b =>
      simp [dep] at hx hy
      obtain ⟨i, hi, _⟩ := hx
      obtain ⟨j, hj, _⟩ := hy
      rw [alikeP] at h
      rw [dat, dat, dataLt_tuple, pLt]
      exact lts_dat hi hj h
    | _ => simp [alikeP] at h
  | .lst a, y, n, m, hx, hy, h => by
    cases y with
    | lst b =>
      simp [dep] at hx hy
      obtain ⟨i, hi, _⟩ := hx
      obtain ⟨j, hj, _⟩ := hy
      rw [alikeP] at h
      rw [dat, dat, dataLt_list, pLt]
      exact lts_dat hi hj h
    | _ => simp [alikeP] at h
  | .dic _ _ _, _, _, _, hx, _, _ => by simp [dep] at hx
  | .ref _, _, _, _, hx, _, _ => by simp [dep] at hx
  | .scr _, _, _, _, hx, _, _ => by simp [dep] at hx
theorem lts_dat : ∀ {x y : List PV} {n m : Nat}, deps x = some n → deps y = some m → alikePs x y = true → PyProof.Rows.lexLt itemOrd (keyToksAll (dats x)) (keyToksAll (dats y)) = pLts x y
  | [], [], _, _, _, _, _ => by simp only [dats, pLts]; rfl
  | [], y :: ys, _, _, _, _, _ => by simp only [dats, pLts]; rw [toks_all_cons]; rfl
  | x :: xs, [], _, _, _, _, _ => by simp only [dats, pLts]; rw [toks_all_cons]; rfl
  | x :: xs, y :: ys, n, m, hx, hy, h => by
    obtain ⟨a, b, ha, hb⟩ := deps_cons hx
    obtain ⟨c, d, hc, hd⟩ := deps_cons hy
    rw [alikePs, Bool.and_eq_true] at h
    have al : alike (dat x) (dat y) = true := by rw [alike_dat ha hc]; exact h.1
    have eq := peq_eqv ha hc
    rw [pLts]
    cases e : peq x y with
    | true =>
      rw [if_pos rfl]
      rw [e] at eq
      simp only [dats]
      rw [dataLt_all_yes al eq.symm]
      exact lts_dat hb hd h.2
    | false =>
      rw [if_neg (by decide)]
      rw [e] at eq
      simp only [dats]
      rw [dataLt_all_no al eq.symm]
      exact lt_dat ha hc h.1
end
mutual
theorem dat_inj : ∀ {x y : PV} {n m : Nat}, dep x = some n → dep y = some m → dat x = dat y → x = y
  | .non, y, n, m, hx, hy, h => by cases y <;> simp [dep] at hy <;> simp [dat] at h ⊢
  | .bl _, y, n, m, hx, hy, h => by cases y <;> simp [dep] at hy <;> simp [dat] at h ⊢ <;> exact h
  | .int _, y, n, m, hx, hy, h => by cases y <;> simp [dep] at hy <;> simp [dat] at h ⊢ <;> exact h
  | .str _, y, n, m, hx, hy, h => by cases y <;> simp [dep] at hy <;> simp [dat] at h ⊢ <;> exact h
  | .tup a, y, n, m, hx, hy, h => by
    cases y with
    | tup b =>
      simp [dep] at hx hy
      obtain ⟨i, hi, _⟩ := hx
      obtain ⟨j, hj, _⟩ := hy
      simp only [dat, PyData.tuple.injEq] at h
      rw [dats_inj hi hj h]
    | _ => simp [dep] at hy <;> simp [dat] at h
  | .lst a, y, n, m, hx, hy, h => by
    cases y with
    | lst b =>
      simp [dep] at hx hy
      obtain ⟨i, hi, _⟩ := hx
      obtain ⟨j, hj, _⟩ := hy
      simp only [dat, PyData.list.injEq] at h
      rw [dats_inj hi hj h]
    | _ => simp [dep] at hy <;> simp [dat] at h
  | .dic _ _ _, _, _, _, hx, _, _ => by simp [dep] at hx
  | .ref _, _, _, _, hx, _, _ => by simp [dep] at hx
  | .scr _, _, _, _, hx, _, _ => by simp [dep] at hx
theorem dats_inj : ∀ {x y : List PV} {n m : Nat}, deps x = some n → deps y = some m → dats x = dats y → x = y
  | [], [], _, _, _, _, _ => rfl
  | [], _ :: _, _, _, _, _, h => by simp [dats] at h
  | _ :: _, [], _, _, _, _, h => by simp [dats] at h
  | x :: xs, y :: ys, n, m, hx, hy, h => by
    obtain ⟨a, b, ha, hb⟩ := deps_cons hx
    obtain ⟨c, d, hc, hd⟩ := deps_cons hy
    simp only [dats, List.cons.injEq] at h
    rw [dat_inj ha hc h.1, dats_inj hb hd h.2]
end
theorem dat_none {x : PV} {n : Nat} (h : dep x = some n) (e : dat x = .none) : isNon x = true := by
  cases x <;> simp [dep] at h <;> simp [dat] at e <;> rfl
structure OkO (l : List PV) : Prop where
  fl : ∀ x ∈ l, ∃ n, dep x = some n ∧ n ≤ 60
  al : ∀ x ∈ l, ∀ y ∈ l, alikeP x y = true
  nn : ∀ x ∈ l, isNon x = false
theorem okO {l : List PV} (h : okOrd l = true) : OkO l := by
  unfold okOrd at h
  rw [Bool.and_eq_true, Bool.and_eq_true] at h
  refine ⟨fun x hx => flat_dep (List.all_eq_true.mp h.1.1 x hx), fun x hx y hy => List.all_eq_true.mp (List.all_eq_true.mp h.2 x hx) y hy, fun x hx => ?_⟩
  have := List.all_eq_true.mp h.1.2 x hx
  simpa using this
theorem OkO.alike {l : List PV} (h : OkO l) : AlikeAll (dats l) := by
  rw [dats_map]
  refine ⟨fun x hx y hy => ?_, fun x hx => ?_⟩
  · obtain ⟨a, ha, rfl⟩ := List.mem_map.mp hx
    obtain ⟨b, hb, rfl⟩ := List.mem_map.mp hy
    obtain ⟨_, d1, _⟩ := h.fl a ha
    obtain ⟨_, d2, _⟩ := h.fl b hb
    rw [alike_dat d1 d2]; exact h.al a ha b hb
  · obtain ⟨a, ha, rfl⟩ := List.mem_map.mp hx
    obtain ⟨_, d1, _⟩ := h.fl a ha
    intro e
    have := dat_none d1 e
    rw [h.nn a ha] at this; cases this
theorem OkO.depth : ∀ {l : List PV}, (∀ x ∈ l, ∃ n, dep x = some n ∧ n ≤ 60) → PyData.depthAll (dats l) ≤ 60 ∧ ∃ n, deps l = some n
  | [], _ => ⟨by simp [dats, PyData.depthAll], 0, rfl⟩
  | x :: r, h => by
    obtain ⟨n, e, hn⟩ := h x List.mem_cons_self
    obtain ⟨h2, m, em⟩ := OkO.depth (l := r) fun y hy => h y (List.mem_cons_of_mem _ hy)
    have := (dat_ok e).2
    exact ⟨by simp only [dats, PyData.depthAll]; omega, max n m, by rw [deps, e, em]⟩
theorem fold_mem {f : PV → PV → Bool} : ∀ (r : List PV) (x : PV), r.foldl (fun a y => if f a y then y else a) x ∈ x :: r
  | [], x => List.mem_cons_self
  | y :: r, x => by
    rw [List.foldl_cons]
    rcases List.mem_cons.mp (fold_mem (f := f) r (if f x y then y else x)) with h | h
    · rw [h]; split
      · exact List.mem_cons_of_mem _ List.mem_cons_self
      · exact List.mem_cons_self
    · exact List.mem_cons_of_mem _ (List.mem_cons_of_mem _ h)
theorem minV_mem (x : PV) (r : List PV) : minV x r ∈ x :: r := fold_mem (f := fun a y => pLt y a) r x
theorem maxV_mem (x : PV) (r : List PV) : maxV x r ∈ x :: r := fold_mem (f := fun a y => pLt a y) r x
theorem minD_dat : ∀ (r : List PV) (x : PV), OkO (x :: r) → minD (dat x) (dats r) = dat (minV x r)
  | [], x, _ => by simp [dats, minD, minV]
  | y :: r, x, h => by
    obtain ⟨_, d1, _⟩ := h.fl x List.mem_cons_self
    obtain ⟨_, d2, _⟩ := h.fl y (List.mem_cons_of_mem _ List.mem_cons_self)
    have e := lt_dat d2 d1 (h.al y (List.mem_cons_of_mem _ List.mem_cons_self) x List.mem_cons_self)
    have sub : ∀ z, z ∈ (if pLt y x then y else x) :: r → z ∈ x :: y :: r := fun z hz => by
      rcases List.mem_cons.mp hz with rfl | hz
      · split
        · exact List.mem_cons_of_mem _ List.mem_cons_self
        · exact List.mem_cons_self
      · exact List.mem_cons_of_mem _ (List.mem_cons_of_mem _ hz)
    have ih := minD_dat r (if pLt y x then y else x) ⟨fun z hz => h.fl z (sub z hz), fun z hz w hw => h.al z (sub z hz) w (sub w hw), fun z hz => h.nn z (sub z hz)⟩
    unfold minD minV at ih ⊢
    simp only [dats, List.foldl_cons]
    rw [e, ← ih]
    congr 1
    split <;> rfl
theorem maxD_dat : ∀ (r : List PV) (x : PV), OkO (x :: r) → maxD (dat x) (dats r) = dat (maxV x r)
  | [], x, _ => by simp [dats, maxD, maxV]
  | y :: r, x, h => by
    obtain ⟨_, d1, _⟩ := h.fl x List.mem_cons_self
    obtain ⟨_, d2, _⟩ := h.fl y (List.mem_cons_of_mem _ List.mem_cons_self)
    have e := lt_dat d1 d2 (h.al x List.mem_cons_self y (List.mem_cons_of_mem _ List.mem_cons_self))
    have sub : ∀ z, z ∈ (if pLt x y then y else x) :: r → z ∈ x :: y :: r := fun z hz => by
      rcases List.mem_cons.mp hz with rfl | hz
      · split
        · exact List.mem_cons_of_mem _ List.mem_cons_self
        · exact List.mem_cons_self
      · exact List.mem_cons_of_mem _ (List.mem_cons_of_mem _ hz)
    have ih := maxD_dat r (if pLt x y then y else x) ⟨fun z hz => h.fl z (sub z hz), fun z hz w hw => h.al z (sub z hz) w (sub w hw), fun z hz => h.nn z (sub z hz)⟩
    unfold maxD maxV at ih ⊢
    simp only [dats, List.foldl_cons]
    rw [e, ← ih]
    congr 1
    split <;> rfl
end Qm

/-! S2b: comparisons. -/
namespace Qm
open PySem PySem.Spec PyProof.Rows L2
section
variable {X : Cx} {C : XC}
theorem alikes_comm : ∀ {a c : List PV} {n m : Nat}, deps a = some n → deps c = some m → alikePs a c = true → alikePs c a = true := fun {a c n m} h1 h2 h => by
  rw [← alikes_dat h2 h1, PySem.W.alikeAll_comm, alikes_dat h1 h2]; exact h
theorem tup_data {pins : List (Addr × Obj)} {s : Shared} {σ : L2.St} {H : Hp} {M : List Addr} {a c : List PV} {x y : V} {v u : Value} (hK : X.K = C.K.f) (I : Inv X pins σ H s) (f1 : flatD (.tup a) = true) (f2 : flatD (.tup c) = true) (al : alikePs a c = true)
    (rp : RV C.K M H (.tup a) x) (rq : RV C.K M H (.tup c) y) (rx : RelV x v) (ry : RelV y u) : ∃ as bs, Reads s.heap v (dat (.tup a)) as ∧ Reads s.heap u (dat (.tup c)) bs ∧ PySem.W.alike (dat (.tup a)) (dat (.tup c)) = true ∧ dat (.tup a) ≠ .none ∧
      min (dat (.tup a)).depth (dat (.tup c)).depth ≤ 60 ∧ PySem.W.dataLt (dat (.tup a)) (dat (.tup c)) = pLts a c ∧ PySem.W.dataLt (dat (.tup c)) (dat (.tup a)) = pLts c a := by
  obtain ⟨n, e1, h1⟩ := flat_dep f1
  obtain ⟨m, e2, h2⟩ := flat_dep f2
  obtain ⟨as, r1⟩ := Dp.reads I (dat (.tup a)) x v (by rw [hK]; exact dat_rv e1 rp) rx
  obtain ⟨bs, r2⟩ := Dp.reads I (dat (.tup c)) y u (by rw [hK]; exact dat_rv e2 rq) ry
  have al1 : alikeP (.tup a) (.tup c) = true := by rw [alikeP]; exact al
  have al2 : alikeP (.tup c) (.tup a) = true := by
    rw [alikeP]
    obtain ⟨i, d1, _⟩ := Option.map_eq_some_iff.mp (show (deps a).map (· + 1) = some n from by rw [dep] at e1; exact e1)
    obtain ⟨j, d2, _⟩ := Option.map_eq_some_iff.mp (show (deps c).map (· + 1) = some m from by rw [dep] at e2; exact e2)
    exact alikes_comm d1 d2 al
  refine ⟨as, bs, r1, r2, by rw [alike_dat e1 e2]; exact al1, by rw [dat]; exact fun z => (nomatch z), ?_, ?_, ?_⟩
  · rw [(dat_ok e1).2, (dat_ok e2).2]; omega
  · rw [lt_dat e1 e2 al1, pLt]
  · rw [lt_dat e2 e1 al2, pLt]
theorem op_cop (hK : X.K = C.K.f) (hu : X.A.units + 70 < cLine) {o : CO} : OpR X (compareOp (cmpO o)) (r2 C (copV o)) := by
  intro pins s σ H x y v u Q I rx ry q
  obtain ⟨M, h, p, q', z, hr, rp, rq, e, k⟩ := q
  simp only [copV, Option.map_eq_some_iff] at e
  obtain ⟨b, e, rfl⟩ := e
  have fin : Q (.bl b) H := k _ _ M Ext.refl hr rv_b
  have ord : ∀ (oo : CO), ordS oo p q' = some b → (∃ i j, p = .int i ∧ q' = .int j ∧ ordI oo i j = some b) ∨ ∃ a c, p = .tup a ∧ q' = .tup c ∧ flatD (.tup a) = true ∧ flatD (.tup c) = true ∧ alikePs a c = true ∧ ordT oo a c = some b := fun oo e2 => by
    unfold ordS at e2
    split at e2
    · exact .inl ⟨_, _, rfl, rfl, e2⟩
    · split at e2
      · rename_i c
        rw [Bool.and_eq_true, Bool.and_eq_true] at c
        exact .inr ⟨_, _, rfl, rfl, c.1.1, c.1.2, c.2, e2⟩
      · cases e2
    · cases e2
  have eqs : ∀ {b' : Bool}, eqD (dataOf p h) (dataOf q' h) = some b' → Dp X.K H x (dat (dataOf p h)) ∧ Dp X.K H y (dat (dataOf q' h)) ∧ SeqAt.shaped (dat (dataOf p h)) = true ∧ SeqAt.shaped (dat (dataOf q' h)) = true ∧ PyData.eqv (dat (dataOf p h)) (dat (dataOf q' h)) = b' := fun {b'} e => by
    unfold eqD at e
    split at e
    · rename_i c
      cases e
      rw [Bool.and_eq_true] at c
      obtain ⟨n, e1, _⟩ := flat_dep c.1
      obtain ⟨m, e2, _⟩ := flat_dep c.2
      rw [hK]
      exact ⟨dataOf_rv hr c.1 rp, dataOf_rv hr c.2 rq, flat_shaped c.1, flat_shaped c.2, (peq_eqv e1 e2).symm⟩
    · cases e
  cases o with
  | eq =>
    obtain ⟨h1, h2, h3, h4, h5⟩ := eqs e
    exact op_eqD (by omega) pins s σ H x y v u Q I rx ry ⟨_, _, h1, h2, h3, h4, by rw [h5]; exact fin⟩
  | ne =>
    replace e : (eqD (dataOf p h) (dataOf q' h)).map not = some b := e
    obtain ⟨b', e3, rfl⟩ := Option.map_eq_some_iff.mp e
    clear e
    rename _ = some b' => e
    obtain ⟨h1, h2, h3, h4, h5⟩ := eqs e
    exact op_neD (by omega) pins s σ H x y v u Q I rx ry ⟨_, _, h1, h2, h3, h4, by rw [h5]; exact fin⟩
  | isN =>
    simp only [cop] at e
    split at e
    · cases e
      have := rv_non rq
      subst this
      refine op_isN pins s σ H x _ v u Q I rx ry ⟨rfl, ?_⟩
      have : decide (x = V.non) = decide (p = PV.non) := by
        cases p with
        | non => rw [rv_non rp]; simp
        | bl _ => rw [rv_bl rp]; simp
        | int _ => rw [rv_int rp]; simp
        | str _ => rw [(rv_str rp).1]; simp
        | _ => rw [RV] at rp; obtain ⟨_, rp⟩ := rp; first | (obtain ⟨_, rfl, _⟩ := rp; simp) | (obtain ⟨_, _, rfl, _⟩ := rp; simp) | (obtain ⟨rfl, _⟩ := rp; simp)
      rw [this]
      exact fin
    · rename_i bb
      split at e
      · cases e
        have h1 := rv_bl rp
        have h2 := rv_bl rq
        subst h1
        subst h2
        exact op_is_bl pins s σ H _ _ v u Q I rx ry ⟨_, _, rfl, rfl, fin⟩
      · cases e
    · cases e
  | notN =>
    simp only [cop] at e
    split at e
    · cases e
      have := rv_non rq
      subst this
      refine op_notN pins s σ H x _ v u Q I rx ry ⟨rfl, ?_⟩
      have : decide (x = V.non) = decide (p = PV.non) := by
        cases p with
        | non => rw [rv_non rp]; simp
        | bl _ => rw [rv_bl rp]; simp
        | int _ => rw [rv_int rp]; simp
        | str _ => rw [(rv_str rp).1]; simp
        | _ => rw [RV] at rp; obtain ⟨_, rp⟩ := rp; first | (obtain ⟨_, rfl, _⟩ := rp; simp) | (obtain ⟨_, _, rfl, _⟩ := rp; simp) | (obtain ⟨rfl, _⟩ := rp; simp)
      rw [this]
      exact fin
    · rename_i bb
      split at e
      · cases e
        have h1 := rv_bl rp
        have h2 := rv_bl rq
        subst h1
        subst h2
        exact op_isnot_bl pins s σ H _ _ v u Q I rx ry ⟨_, _, rfl, rfl, fin⟩
      · cases e
    · cases e
  | isin => exact (in_any hK hu I hr rp rq rx ry e).1 fin
  | notin =>
    replace e : (isinS p q' h).map not = some b := e
    obtain ⟨b', e3, rfl⟩ := Option.map_eq_some_iff.mp e
    clear e
    rename _ = some b' => e
    exact (in_any hK hu I hr rp rq rx ry e).2 fin
  | lt =>
    rcases ord .lt e with ⟨i, j, rfl, rfl, e⟩ | ⟨a, c, rfl, rfl, f1, f2, al, e⟩
    · rw [rv_int rp] at rx; rw [rv_int rq] at ry
      cases e
      exact op_lt pins s σ H _ _ v u Q I rx ry ⟨_, _, rfl, rfl, fin⟩
    · cases e
      obtain ⟨as, bs, r1, r2, ha, hn, hd, q1, q2⟩ := tup_data hK I f1 f2 al rp rq rx ry
      exact PySem.W.lt_data r1 r2 ha hn (by omega) ⟨.bl _, H, I, rfl, by rw [q1]; exact fin⟩
  | le =>
    rcases ord .le e with ⟨i, j, rfl, rfl, e⟩ | ⟨a, c, rfl, rfl, f1, f2, al, e⟩
    · rw [rv_int rp] at rx; rw [rv_int rq] at ry
      cases e
      exact op_le pins s σ H _ _ v u Q I rx ry ⟨_, _, rfl, rfl, fin⟩
    · cases e
      obtain ⟨as, bs, r1, r2, ha, hn, hd, q1, q2⟩ := tup_data hK I f1 f2 al rp rq rx ry
      exact PySem.W.le_data r1 r2 ha hn (by omega) ⟨.bl _, H, I, rfl, by rw [q2]; exact fin⟩
  | gt =>
    rcases ord .gt e with ⟨i, j, rfl, rfl, e⟩ | ⟨a, c, rfl, rfl, f1, f2, al, e⟩
    · rw [rv_int rp] at rx; rw [rv_int rq] at ry
      cases e
      exact op_gt pins s σ H _ _ v u Q I rx ry ⟨_, _, rfl, rfl, fin⟩
    · cases e
      obtain ⟨as, bs, r1, r2, ha, hn, hd, q1, q2⟩ := tup_data hK I f1 f2 al rp rq rx ry
      exact PySem.W.gt_data r1 r2 ha hn (by omega) ⟨.bl _, H, I, rfl, by rw [q2]; exact fin⟩
  | ge =>
    rcases ord .ge e with ⟨i, j, rfl, rfl, e⟩ | ⟨a, c, rfl, rfl, f1, f2, al, e⟩
    · rw [rv_int rp] at rx; rw [rv_int rq] at ry
      cases e
      exact op_ge pins s σ H _ _ v u Q I rx ry ⟨_, _, rfl, rfl, fin⟩
    · cases e
      obtain ⟨as, bs, r1, r2, ha, hn, hd, q1, q2⟩ := tup_data hK I f1 f2 al rp rq rx ry
      exact PySem.W.ge_data r1 r2 ha hn (by omega) ⟨.bl _, H, I, rfl, by rw [q1]; exact fin⟩
end
end Qm

/-! S3: truth, places, slices, a sequence from its end, isinstance. -/
namespace HT
open PySem PySem.Spec PyProof.Rows
section
variable {prog : Program} {w : World} {A : Around} {E : Value → Shared → Prop} {s : Shared}
theorem slicePlaces_rev (n : Nat) : Builtin.Slice.slicePlaces ((n : Int) - 1) (-1) (-1) = n := by
  unfold Builtin.Slice.slicePlaces
  rw [if_neg (by decide)]
  by_cases h : (n : Int) - 1 > -1
  · rw [if_pos h, show (- -1 : Int) = 1 by decide, Int.ediv_one]
    omega
  · rw [if_neg h]
    omega
theorem sliceApplied_rev {sl : Addr} {vl vu vs : Value} {n : Nat} {Q : Int × Int × Nat → Shared → Prop} (hs : s.heap.IsSliceOf sl vl vu vs) (pl : IsPart vl none) (pu : IsPart vu none) (ps : IsPart vs (some (-1)))
    (h : Q ((n : Int) - 1, -1, n) s) : wpAny (model prog w) A (Builtin.Slice.sliceApplied (.ref sl) (pure (n : Int))) Q E s := by
  obtain ⟨os, hos, hcs, hds⟩ := id hs
  unfold Builtin.Slice.sliceApplied Builtin.Slice.sliceFields
  refine wpAny_bind (wpAny_bind (wpAny_field hos hds (x := vl) rfl (wpAny_bind (wpAny_field hos hds (x := vu) rfl (wpAny_bind (wpAny_field hos hds (x := vs) rfl (wpAny_pure ?_)))))))
  refine wpAny_bind (slicePart_ ps ?_)
  show wpAny _ _ (if ((-1 : Int) == 0) = true then _ else _) _ _ s
  rw [if_neg (by decide)]
  refine wpAny_bind (slicePart_ pl (wpAny_bind (slicePart_ pu (wpAny_bind (wpAny_pure ?_)))))
  show wpAny _ _ (pure ((n : Int) - 1, (-1 : Int), Builtin.Slice.slicePlaces ((n : Int) - 1) (-1) (-1))) _ _ s
  rw [slicePlaces_rev]
  exact wpAny_pure h
theorem pick_rev (xs : Array Value) : ((List.range xs.size).filterMap fun (m : Nat) => xs[(((xs.size : Nat) : Int) - 1 + (m : Int) * (-1)).toNat]?).toArray = xs.toList.reverse.toArray := by
  have e : ((List.range xs.size).filterMap fun (m : Nat) => xs[(((xs.size : Nat) : Int) - 1 + (m : Int) * (-1)).toNat]?) = ((List.range xs.size).map fun k => xs.size - 1 - k).filterMap (xs[·]?) := by
    rw [List.filterMap_map]
    congr 1
    funext m
    have e2 : (((xs.size : Nat) : Int) - 1 + (m : Int) * (-1)).toNat = xs.size - 1 - m := by omega
    rw [e2]
    rfl
  rw [e, PySem.W.krv_range, List.filterMap_reverse, PySem.W.krv_all]
theorem getItem_tuple_rev {t sl : Addr} {items : Array Value} {vl vu vs : Value} {Q : Value → Shared → Prop} (ht : IsTup s.heap t items) (hs : s.heap.IsSliceOf sl vl vu vs) (pl : IsPart vl none) (pu : IsPart vu none) (ps : IsPart vs (some (-1)))
    (h : Q (.ref s.heap.objs.size) { s with heap := s.heap.push { cls := .type "tuple", data := .seq items.toList.reverse.toArray } })
    (hsz : items.size ≤ sizeLine) : wpAny (model prog w) A (getItem (.ref t) (.ref sl)) Q E s := by
  have htake : sizeOk (.seq items.toList.reverse.toArray) := by
    show items.toList.reverse.toArray.size ≤ sizeLine
    rw [List.size_toArray, List.length_reverse, Array.length_toList]
    exact hsz
  obtain ⟨os, hos, hcs, hds⟩ := id hs
  have hTs : s.TypeIs (.ref sl) "slice" := ⟨os, hos, hcs⟩
  unfold getItem
  try with_reducible refine wpAny_holding ?_
  first | refine wpAny_bind (wpAny_pure ?_) | skip
  refine wpAny_bind (wpAny_sequenceKey ht.typeIs (by decide) ?_)
  refine wpAny_bind (wpAny_callSpecial?_slot (name := Str.ofString "__getitem__") ht.typeIs PyProof.Rows.slot_tuple_getitem
    (wpAny_call_entry PyProof.Rows.slot_tuple_getitem ht.typeIs entry_tuple_getitem ?_ (args_tuple_getitem _ _)))
  show wpAny _ _ (Builtin.Tuple.tupleItemsOf (.ref t) >>= _) _ _ s
  refine wpAny_bind (tupleItemsOf_ ht ?_)
  refine wpAny_bind (wpAny_typeOf hTs ?_)
  rw [if_pos (by decide)]
  refine wpAny_bind (sliceApplied_rev hs pl pu ps ?_)
  show wpAny _ _ (if ((((items.size : Nat) : Int) - 1) == 0 && (-1 : Int) == 1 && items.size == items.size) = true then _ else _) _ _ s
  rw [if_neg (by simp), pick_rev]
  first
    | exact wpAny_bind (m := Builtin.Tuple.tupleExact _) (wpAny_newObj_type (wpAny_pure ⟨_, rfl, wpAny_pure h⟩) htake)
    | exact wpAny_bind (m := Builtin.Tuple.tupleExact _) (wpAny_newObj_type (wpAny_bind (wpAny_pure (wpAny_pure ⟨_, rfl, wpAny_pure h⟩))) htake)
    | exact wpAny_bind (wpAny_bind (m := Builtin.Tuple.tupleExact _) (wpAny_newObj_type (wpAny_pure (wpAny_pure ⟨_, rfl, wpAny_pure h⟩)) htake))
    | exact wpAny_bind (wpAny_bind (m := Builtin.Tuple.tupleExact _) (wpAny_newObj_type (wpAny_pure ⟨_, rfl, wpAny_pure h⟩) htake))
end
end HT
namespace Qm
open PySem PySem.Spec PyProof.Rows L2
section
variable {X : Cx} {C : XC}
/-! ### truth -/
theorem tru_rv (hK : X.K = C.K.f) {M : List Addr} {H : Hp} {h : MHp} {p : PV} {x : V} {b : Bool} (hr : HRel C.K M H h) (r : RV C.K M H p x) (e : truth p h = some b) : TruV X.K x H b := by
  have rest : truthR p h = some b → TruV X.K x H b := fun e => by
    unfold truthR at e
    split at e
    · rename_i xs ex
      cases e
      obtain ⟨a, vs, rfl, z, alt, rs⟩ := itemsT_ok hr r ex
      have eb : (!xs.isEmpty) = !vs.isEmpty := by
        have := rs.len
        cases xs <;> cases vs <;> simp at this <;> rfl
      rcases alt with ⟨_, ht⟩ | ⟨_, hl⟩
      · exact .inr (.inl ⟨vs, by rw [hK]; exact ht, eb⟩)
      · exact .inl ⟨vs, SqL.of hl, eb⟩
    · split at e
      · rename_i ks ws ed
        cases e
        obtain ⟨a, us, u, rfl, ea, d, rs⟩ := asDic_ok hr r ed
        obtain ⟨kvs, rfl, rfl, rfl⟩ := (show ∃ kvs : List (Key × V), u = .dK kvs ∧ ks = kvs.map (fun p => keyP p.1) ∧ us = kvs.map (·.2) from d)
        refine .inr (.inr ⟨kvs, ea, ?_⟩)
        cases kvs <;> rfl
      · cases e
  cases p with
  | non => rw [rv_non r]; simp [truth] at e; exact e
  | bl k => rw [rv_bl r]; simp [truth] at e; exact e.symm
  | int i => rw [rv_int r]; simp only [truth, Option.some.injEq] at e; exact e.symm
  | str s =>
    obtain ⟨rfl, z⟩ := rv_str r
    simp only [truth, Option.some.injEq] at e
    refine ⟨z, ?_⟩
    rw [← e]
    cases hs : s.length with
    | zero => rfl
    | succ n => simp <;> omega
  | _ => exact rest e
theorem pt_of (hK : X.K = C.K.f) {W : WX} {e : Expr} {f : Sem1} (he : PE X e (RdE C W f)) (hp : ∀ whole, isTrue e X.env whole = (do let v ← whole; standAt e.pos; holding [v] (truthy v))) : PT X e (RdT C W (tst f)) := by
  refine pt_weak (pt_truth he hp) fun σ H Q o => ?_
  obtain ⟨M, h, env, hr, er, o⟩ := o
  refine RdE.goB hr er o fun v H1 M1 h1 p x1 hr1 er1 rv o1 => ?_
  cases et : truth p h1 with
  | none => rw [et] at o1; exact o1.elim
  | some b =>
    rw [et] at o1
    exact ⟨b, tru_rv hK hr1 rv et, o1 H1 M1 Ext.refl hr1⟩
/-! ### places -/
theorem ixN_eq (n : Nat) (i : Int) : ixN n i = L2.ixN n i := rfl
theorem atI_ok {M : List Addr} {H : Hp} {xs : List PV} {vs : List V} {i : Int} {z : PV} (r : RVs C.K M H xs vs) (e : atI xs i = some z) : ∃ v, L2.atI vs i = some v ∧ RV C.K M H z v := by
  unfold atI at e
  obtain ⟨j, ej, e2⟩ := Option.bind_eq_some_iff.mp e
  obtain ⟨v, ev, rv⟩ := r.get e2
  refine ⟨v, ?_, rv⟩
  show (L2.ixN vs.length i).bind _ = _
  rw [r.len, ← ixN_eq, ej]
  exact ev
theorem ix_any (hK : X.K = C.K.f) (hu : X.A.units + 70 < cLine) : IxR X (r2 C index) := by
  intro value slc pins s σ H x y v u Q I rx ry q hs
  obtain ⟨M, h, p, q', z, hr, rp, rq, e, k⟩ := q
  have rest : indexR p q' h = some z → wpAny (model X.prog X.w) X.A (subscriptTail value slc v u) (EP X pins σ Q) X.xe s := fun e => by
    unfold indexR at e
    split at e
    · rename_i xs ex
      unfold indexI at e
      split at e
      · rename_i i _
        obtain ⟨a, vs, rfl, zz, alt, rs⟩ := itemsT_ok hr rp ex
        have ey := rv_int rq
        subst ey
        obtain ⟨w, ew, rw_⟩ := atI_ok rs e
        rcases alt with ⟨_, ht⟩ | ⟨_, hl⟩
        · exact ix_tup value slc pins s σ H _ _ v u Q I rx ry ⟨a, vs, i, w, rfl, rfl, by rw [hK]; exact ht, ew, k _ _ M Ext.refl hr rw_⟩ hs
        · exact ix_list value slc pins s σ H _ _ v u Q I rx ry ⟨a, vs, i, w, rfl, rfl, SqL.of hl, ew, k _ _ M Ext.refl hr rw_⟩ hs
      · cases e
    · split at e
      · rename_i t ks ws ed
        split at e
        · rename_i c
          obtain ⟨a, us, uo, rfl, ea, d, rs⟩ := asDic_ok hr rp ed
          obtain ⟨o, g, _, hsome, _⟩ := dget_ok ea d rs c rq
          obtain ⟨y', rfl, ry'⟩ := hsome z e
          obtain rfl : v = Value.ref a := rx
          exact tail_any (ops := [.ref a, u]) (dict_typeIs I g) PySem.F.slot_dict_getitem.lookup (d_getItem (by omega) I g ry fun w' s3 I3 rw' => ⟨y', H, I3, rw', k _ _ M Ext.refl hr ry'⟩) hs
        · cases e
      · cases e
  cases p with
  | str z' =>
    replace e : indexZ z' q' = some z := e
    unfold indexZ at e
    split at e
    · rename_i i
      obtain ⟨c, ec, rfl⟩ := Option.map_eq_some_iff.mp e
      obtain ⟨rfl, zz⟩ := rv_str rp
      have ey := rv_int rq
      subst ey
      refine ix_str value slc pins s σ H _ _ v u Q I rx ry ⟨z', i, c, rfl, rfl, zz, ec, k _ _ M Ext.refl hr ?_⟩ hs
      rw [RV]
      exact ⟨rfl, by rw [sizeLine_eq]; show (#[c] : Array Nat).size ≤ _; simp⟩
    · cases e
  | _ => exact rest e
/-! ### slices -/
theorem sIx_eq (n d : Nat) : ∀ o : Option Int, sIx n d o = HT.sIx n d o
  | none => rfl
  | some _ => rfl
theorem cut_eq {M : List Addr} {H : Hp} {xs : List PV} {vs : List V} {lo hi : Option Int} (r : RVs C.K M H xs vs) : RVs C.K M H (cut xs lo hi) (cutV vs lo hi) := by
  unfold cut cutV
  rw [sIx_eq, sIx_eq, r.len]
  exact (r.drop _).take _
def r3 (C : XC) (f : PV → Option Int → Option Int → MHp → Option PV) : V → Option Int → Option Int → Hp → VK → Prop := fun x lo hi H Q => ∃ M h p z, HRel C.K M H h ∧ RV C.K M H p x ∧ f p lo hi h = some z ∧
  ∀ v H' M', Ext M H M' H' → HRel C.K M' H' h → RV C.K M' H' z v → Q v H'
theorem sl_any (hK : X.K = C.K.f) : SlR X (r3 C slice) := by
  intro pins s σ H x v vl vu lo hi sl Q I rx hs pl pu q
  obtain ⟨M, h, p, z, hr, rp, e, k⟩ := q
  have lists : ∀ {xs : List PV}, itemsL p h = some xs → some (PV.lst (cut xs lo hi)) = some z → ∃ T id, typeLookup (.type T) "__getitem__" = pure (some (.builtin id)) ∧ s.TypeIs v T ∧ wpAny (model X.prog X.w) X.A (getItem v (.ref sl)) (EP X pins σ Q) X.xe s := fun {xs} ex ez => by
    cases ez
    obtain ⟨a, vs, rfl, zz, hl, rs⟩ := itemsL_ok hr rp ex
    exact sl_list pins s σ H _ v vl vu lo hi sl Q I rx hs pl pu ⟨a, vs, rfl, SqL.of hl, end_newL hr (Nat.le_trans (cutV_length vs lo hi) zz) (cut_eq rs) k⟩
  cases p with
  | str z' =>
    cases e
    obtain ⟨rfl, zz⟩ := rv_str rp
    refine sl_str pins s σ H _ v vl vu lo hi sl Q I rx hs pl pu ⟨z', rfl, zz, ?_⟩
    have e : (⟨(cut z'.cps.toList lo hi).toArray⟩ : Str) = cutS z' lo hi := by
      unfold cut cutS
      rw [sIx_eq, sIx_eq]
      have : z'.cps.toList.length = z'.length := by simp [PySem.Str.length]
      rw [this]
    refine k _ _ M Ext.refl hr ?_
    rw [RV, e]
    exact ⟨rfl, Nat.le_trans (cutS_length z' lo hi) zz⟩
  | tup xs =>
    cases e
    obtain ⟨a, vs, rfl, t, rs⟩ := rv_tup rp
    refine sl_tupA pins s σ H _ v vl vu lo hi sl Q I rx hs pl pu ⟨a, vs, rfl, by rw [hK]; exact t.seq, fun hw => ?_, fun _ => end_newT hr (Nat.le_trans (cutV_length vs lo hi) t.len) (cut_eq rs) k⟩
    have e1 : cut xs lo hi = xs := by
      unfold cut
      rw [rs.len] at hw
      rw [sIx_eq, sIx_eq, hw.1, hw.2]
      simp
    rw [e1] at k
    exact k _ _ M Ext.refl hr rp
  | lst xs => exact lists rfl e
  | ref n =>
    have e' : (match itemsL (.ref n) h with | some xs => some (PV.lst (cut xs lo hi)) | none => none) = some z := e
    split at e'
    · rename_i xs ex
      exact lists ex e'
    · cases e'
  | _ => cases e
/-- xs[::-1] -/
theorem pe_rev (hK : X.K = C.K.f) {W : WX} {a : Expr} {fa : Sem1} {k : Nat} {p1 p2 p3 pos : Pos} (he : PE X a (RdE C W fa)) :
    PE X (.Subscript a (.Slice none none (some (.UnaryOp .USub (.Constant (.int 1) k p1) p2)) p3) pos) (RdE C W fun env h => (fa env h).bind fun x h1 => ofOpt (revS x h1) h1) := by
  refine ⟨fun pins s σ H Q I o => ?_⟩
  have h1 := one o
  refine Subscript_ (thn (he.run pins s σ H _ I h1) fun v s1 ⟨x, H1, I1, r1, q1⟩ => ?_)
  obtain ⟨M, h, p, z, hr, rp, e, kk⟩ := q1
  have hst : PO X (some (.UnaryOp .USub (.Constant (.int 1) k p1) p2)) (tPart (tUn (rU fun i => .int (-i)) (tC (.int 1)))) := po_some (pe_un un_neg pe_int)
  refine wpAny_Slice (thn (po_none.run pins s1 σ H1 (fun o H2 => o = none ∧ H2 = H1) I1 ⟨rfl, rfl⟩) fun vl s2 ⟨l, H2, I2, pl, el, e2⟩ => ?_)
  subst el e2
  refine thn (po_none.run pins s2 σ H2 (fun o H3 => o = none ∧ H3 = H2) I2 ⟨rfl, rfl⟩) fun vu s3 ⟨u, H3, I3, pu, eu, e3⟩ => ?_
  subst eu e3
  refine thn (hst.run pins s3 σ H3 (fun o H4 => o = some (-1) ∧ H4 = H3) I3 ⟨1, rfl, -1, rfl, rfl, rfl⟩) fun vs s4 ⟨o, H4, I4, ps, eo, e4⟩ => ?_
  subst eo e4
  have I5 : Inv X pins σ H4 { s4 with heap := s4.heap.push { cls := .type "slice", data := .fields #[vl, vu, vs] } } := I4.kept (t' := s4.toks) fun b ob q => Heap.get?_push_of_some _ q
  have lists : ∀ {xs : List PV}, itemsL p h = some xs → some (PV.lst xs.reverse) = some z → wpAny (model X.prog X.w) X.A (subscriptTail a (.Slice none none (some (.UnaryOp .USub (.Constant (.int 1) k p1) p2)) p3) v (.ref s4.heap.objs.size)) (EP X pins σ Q) X.xe { s4 with heap := s4.heap.push { cls := .type "slice", data := .fields #[vl, vu, vs] } } := fun {xs} ex ez => by
    cases ez
    obtain ⟨aa, ws, rfl, zz, hl, rs⟩ := itemsL_ok hr rp ex
    obtain rfl : v = Value.ref aa := r1
    obtain ⟨its, r, ht, hz⟩ := I5.list (SqL.of hl)
    have hlen := r.length
    refine tail_any (ops := [.ref aa, .ref s4.heap.objs.size]) ht.isList.typeIs (PySem.slot_list_getitem.lookup) ?_ (by with_unfolding_all rfl)
    refine wpAny_getItem_list_slice ht.isList (Heap.IsSliceOf.new _ vl vu vs) pl pu ps (by decide) ?_ (by rw [List.size_toArray]; omega)
    rw [PySem.W.krv_pick]
    refine ⟨.ref _, _, I5.laid (t' := s4.toks) (o := .lst ws.reverse) (fun b ob q => Heap.get?_push_of_some _ q) (Nat.le_refl _) ?_, rfl, end_newL hr (by rw [List.length_reverse]; exact hz) rs.reverse kk _ (I5.hok.fresh (Nat.le_refl _))⟩
    exact ⟨by rw [List.length_reverse]; exact hz, _, 0, r.reverse, Heap.get?_push_size _ rfl⟩
  cases p with
  | tup xs =>
    cases e
    obtain ⟨aa, ws, rfl, t, rs⟩ := rv_tup rp
    obtain rfl : v = Value.ref aa := r1
    obtain ⟨its, r, ht, hz⟩ := I5.tuple (show SqT X.K H4 aa ws by rw [hK]; exact t.seq)
    have hlen := r.length
    show wpAny (model X.prog X.w) X.A (subscriptTail a (.Slice none none (some (.UnaryOp .USub (.Constant (.int 1) k p1) p2)) p3) (.ref aa) (.ref s4.heap.objs.size)) (EP X pins σ Q) X.xe { s4 with heap := s4.heap.push { cls := .type "slice", data := .fields #[vl, vu, vs] } }
    refine tail_any (ops := [.ref aa, .ref s4.heap.objs.size]) ht.typeIs PyProof.Rows.slot_tuple_getitem.lookup ?_ (by with_unfolding_all rfl)
    refine HT.getItem_tuple_rev ht (Heap.IsSliceOf.new _ vl vu vs) pl pu ps ?_ (by rw [List.size_toArray]; omega)
    refine ⟨.ref _, _, I5.laid (t' := s4.toks) (o := .tup ws.reverse) (fun b ob q => Heap.get?_push_of_some _ q) (Nat.le_refl _) ?_, rfl, end_newT hr (by rw [List.length_reverse]; exact hz) rs.reverse kk _ (I5.hok.fresh (Nat.le_refl _))⟩
    exact ⟨by rw [List.length_reverse]; exact hz, _, r.reverse, IsTup.new _ _⟩
  | lst xs => exact lists rfl e
  | ref n =>
    have e' : (match itemsL (.ref n) h with | some xs => some (PV.lst xs.reverse) | none => none) = some z := e
    split at e'
    · rename_i xs ex
      exact lists ex e'
    · cases e'
  | _ => cases e
end
end Qm

/-! T0: sorted of tuples of ints, of any lengths. -/
namespace Qm
open PySem PySem.Spec PyProof.Rows Srt SrtO
theorem lexL_self : ∀ x, lexL x x = false
  | [] => rfl
  | x :: xs => by rw [lexL, if_pos rfl, lexL_self xs]
theorem lexL_asym : ∀ x y, lexL x y = true → lexL y x = false
  | [], [], h => by cases h
  | [], _ :: _, _ => rfl
  | _ :: _, [], h => by cases h
  | x :: xs, y :: ys, h => by
    rw [lexL] at h ⊢
    by_cases e : x = y
    · rw [if_pos e] at h
      rw [if_pos e.symm]
      exact lexL_asym xs ys h
    · rw [if_neg e] at h
      rw [if_neg (fun z => e z.symm)]
      have := of_decide_eq_true h
      exact decide_eq_false (by omega)
theorem lexL_tr : ∀ x y z, lexL y x = false → lexL z y = false → lexL z x = false
  | [], _, [], _, _ => rfl
  | [], [], _ :: _, _, _ => rfl
  | [], _ :: _, _ :: _, _, _ => rfl
  | _ :: _, [], _, h, _ => by cases h
  | _ :: _, _ :: _, [], _, h => by cases h
  | x :: xs, y :: ys, z :: zs, h1, h2 => by
    rw [lexL] at h1 h2 ⊢
    by_cases e1 : y = x
    · subst e1
      rw [if_pos rfl] at h1
      by_cases e2 : z = y
      · subst e2
        rw [if_pos rfl] at h2 ⊢
        exact lexL_tr xs ys zs h1 h2
      · rw [if_neg e2] at h2 ⊢
        exact h2
    · rw [if_neg e1] at h1
      have h1 := of_decide_eq_false h1
      by_cases e2 : z = y
      · subst e2
        rw [if_neg e1]
        exact decide_eq_false h1
      · rw [if_neg e2] at h2
        have h2 := of_decide_eq_false h2
        rw [if_neg (by omega)]
        exact decide_eq_false (by omega)
theorem lexL_tot : ∀ x y, lexL x y = false → lexL y x = false → x = y
  | [], [], _, _ => rfl
  | [], _ :: _, h, _ => by cases h
  | _ :: _, [], _, h => by cases h
  | x :: xs, y :: ys, h1, h2 => by
    rw [lexL] at h1 h2
    by_cases e : x = y
    · subst e
      rw [if_pos rfl] at h1 h2
      rw [lexL_tot xs ys h1 h2]
    · rw [if_neg e] at h1
      rw [if_neg (fun z => e z.symm)] at h2
      have := of_decide_eq_false h1
      have := of_decide_eq_false h2
      omega
theorem lexL_swo {α : Type} (k : α → List Int) : Swo fun v u => lexL (k v) (k u) := ⟨fun x y h => lexL_asym _ _ h, fun x y z h1 h2 => lexL_tr _ _ _ h1 h2⟩
def ITup (h : Heap) (v : Value) (ns : List Int) : Prop := ∃ a o its n, v = .ref a ∧ h.get? a = some o ∧ o.cls = .type "tuple" ∧ o.data = .seq its n ∧ IntsAre its.toList ns
theorem ITup.keeps {h h' : Heap} {v : Value} {ns : List Int} (p : ITup h v ns) (k : ∀ b o, h.get? b = some o → o.cls = .type "tuple" → h'.get? b = some o) : ITup h' v ns := by
  obtain ⟨a, o, its, n, e, ho, hc, hd, hi⟩ := p
  exact ⟨a, o, its, n, e, k _ _ ho hc, hc, hd, hi⟩
theorem ints_len {xs : List Value} {ns : List Int} (h : IntsAre xs ns) : xs.length = ns.length := by
  induction h with
  | nil => rfl
  | cons n t _ ih => simp [ih]
section
variable {prog : Program} {w : World} {A : Around} {E : Value → Shared → Prop} {s : Shared}
theorem lexL_kat {b fin : Bool} {Q : Bool → Shared → Prop} {xs ys : List Value} {ns ms : List Int} (i : Nat) (hx : IntsAre xs ns) (hy : IntsAre ys ms) (hf : fin = decide (xs.length < ys.length)) (h : Q (lexL ns ms) s) : PySem.W.KatLex prog w A b fin Q (xs.zip ys) i s := by
  induction hx generalizing ys ms i with
  | nil =>
    cases hy with
    | nil =>
      subst hf
      exact PySem.W.kat_nil h
    | cons n t r =>
      subst hf
      exact PySem.W.kat_nil (by simpa [lexL] using h)
  | @cons n t vs ns' r ih =>
    cases hy with
    | nil =>
      subst hf
      exact PySem.W.kat_nil (by simpa [lexL] using h)
    | @cons m t' us ms' r' =>
      rw [List.zip_cons_cons]
      refine PySem.W.kat_cons (SeqAt.EqAt.int_int n t m t' prog w _ _ ?_)
      refine PySem.W.kat_go (fun e1 => ?_) (fun e1 => ?_)
      · have ex : n = m := by simpa using e1
        refine PySem.W.kat_yes (ih (i + 1) r' (by simpa using hf) ?_)
        rw [lexL, if_pos ex] at h
        exact h
      · have ex : ¬ n = m := by simpa using e1
        rw [lexL, if_neg ex] at h
        exact PySem.W.kat_no (TS.oneLt_ints _ h)
theorem lexL_cmp {vs : List Value} {k : Value → List Int} (hp : ∀ v ∈ vs, ITup s.heap v (k v)) : SrtO.Cmp prog w A s (tuples' true) (fun p => p.1 ∈ vs) (lt2 fun v u => lexL (k v) (k u)) := by
  intro p q hm hm'
  have h1 := hp _ hm
  have h2 := hp _ hm'
  show wpAny (model prog w) A (keyLt' (tuples' true) p.1 q.1) (fun r s' => s' = s ∧ r = lexL (k p.1) (k q.1)) (fun _ _ => False) s
  generalize k p.1 = x at h1 ⊢
  generalize k q.1 = y at h2 ⊢
  obtain ⟨a, o, its, n, e, ho, hc, hd, hi⟩ := h1
  obtain ⟨a', o', its', n', e', ho', hc', hd', hi'⟩ := h2
  rw [e, e']
  exact PySem.W.kat_lt ho hd ho' hd' (lexL_kat 0 hi hi' (by simp) ⟨rfl, rfl⟩)
theorem lexL_firsts {h : Heap} {k : Value → List Int} : ∀ {vs : List Value}, (∀ v ∈ vs, ITup h v (k v) ∧ k v ≠ []) → ∃ fs : List Value, PySem.W.KatTups h vs fs ∧ fs.length = vs.length ∧ ∀ f ∈ fs, ∃ x t, f = Value.int x t
  | [], _ => ⟨[], PySem.W.KatTups.nil, rfl, fun _ hm => by simp at hm⟩
  | v :: vs, hp => by
    obtain ⟨fs, h1, h2, h3⟩ := lexL_firsts (vs := vs) fun v' hm => hp v' (List.mem_cons_of_mem _ hm)
    obtain ⟨⟨a, o, its, n, e, ho, hc, hd, hi⟩, ne⟩ := hp v List.mem_cons_self
    generalize k v = kv at hi ne
    have : ∃ f, its[0]? = some f ∧ ∃ x t, f = Value.int x t := by
      rw [← Array.getElem?_toList]
      generalize its.toList = il at hi
      cases hi with
      | nil => exact absurd rfl ne
      | cons m t r => exact ⟨_, by rfl, m, t, rfl⟩
    obtain ⟨f, hf, x, t, ef⟩ := this
    subst e
    refine ⟨f :: fs, PySem.W.KatTups.cons ho hc hd hf h1, by rw [List.length_cons, List.length_cons, h2], fun g hm => ?_⟩
    rcases List.mem_cons.mp hm with rfl | hm
    · exact ⟨x, t, ef⟩
    · exact h3 g hm
theorem lexL_sortable {a : Addr} {vs : List Value} {k : Value → List Int} (h0 : 0 < vs.length) (hp : ∀ v ∈ vs, ITup s.heap v (k v) ∧ k v ≠ []) (ha : ∀ o, s.heap.get? a = some o → o.cls ≠ .type "tuple") : SortableO prog w A s a vs fun v u => lexL (k v) (k u) := by
  intro h' keep
  have hp' : ∀ v ∈ vs, ITup h' v (k v) ∧ k v ≠ [] := fun v hm => ⟨(hp v hm).1.keeps fun b o e c => keep b o (fun z => by subst z; exact ha o e c) e, (hp v hm).2⟩
  obtain ⟨fs, h1, h2, h3⟩ := lexL_firsts hp'
  refine ⟨tuples' true, fun Q E hq => ?_, lexL_cmp fun v hm => (hp' v hm).1⟩
  refine PySem.W.kat_kind (T := .type "int") h1 (by omega) (fun f hm => ?_) (by rfl) ?_
  · obtain ⟨x, t, rfl⟩ := h3 f hm
    exact PySem.W.Looks.now
  · have e : (Value.type "int" != Value.type "tuple") = true := by first | decide +kernel | rfl | decide
    rw [e]
    exact hq
/-- sorted(l) of tuples of ints -/
theorem sorted_lexL {l : Addr} {vs : List Value} {k : Value → List Int} {Q : Value → Shared → Prop} (hl : s.heap.IsList l vs.toArray) (hz : vs.length ≤ sizeLine) (hp : 2 ≤ vs.length → ∀ v ∈ vs, ITup s.heap v (k v) ∧ k v ≠ [])
    (h : ∀ (h' : Heap) (d : Addr) (out : List Value), Srtd (fun v u => lexL (k v) (k u)) out → Stb (fun v u => lexL (k v) (k u)) out vs → (∀ b o, s.heap.get? b = some o → h'.get? b = some o) → s.heap.objs.size ≤ d → (∃ n, h'.get? d = some (seqObj "list" out.toArray n)) → Q (.ref d) { s with heap := h' }) :
    wpAny (model prog w) A (call (.builtin "sorted") [.ref l]) Q E s := by
  refine sorted_ord (lexL_swo k) hl hz (fun h2 h₁ a ha kk => ?_) fun out hs hb => ?_
  · refine lexL_sortable (s := { s with heap := h₁ }) (by omega) (fun v hm => ⟨(hp h2 v hm).1.keeps fun b o e _ => (kk b o e).2, (hp h2 v hm).2⟩) fun o e => ?_
    have e' : some o = some (seqObj "list" vs.toArray 0) := e.symm.trans ha
    cases e'
    intro c
    exact absurd (Value.type.inj c) (by decide)
  · exact h _ _ out hs hb (fun b o e => sortedAll_old e) (Nat.le_succ _) (sortedAll_at s.heap vs out.toArray)
end
open L2 in
def rSortedL (K : PySem.W.Frag) : List V → Hp → VK → Prop := fun vs H Q => ∃ (a : Addr) (xs : List V) (k : V → List Int), vs = [V.ref a] ∧ SqL K H a xs ∧ (∀ x ∈ xs, ∃ t, x = V.ref t ∧ SqT K H t ((k x).map V.int)) ∧ (2 ≤ xs.length → ∀ x ∈ xs, k x ≠ []) ∧
  ∀ ys p, SrtO.Srtd (fun x y => lexL (k x) (k y)) ys → ys.Perm xs → H p = none → Q (.ref p) (upd H p (.lst ys))
section
open L2
variable {X : Cx}
theorem cr_sortedL : CallR X (.builtin "sorted") (rSortedL X.K) := by
  intro pins s σ H vs us Q I r h
  obtain ⟨a, xs, k, rfl, hs, hx, hne, q⟩ := h
  obtain ⟨its, rv, hl, hz⟩ := I.list hs
  obtain ⟨u, rfl, ru⟩ := vals1 r
  obtain rfl : u = Value.ref a := ru
  obtain ⟨e1, e2⟩ := refs_back rv fun x m => by
    obtain ⟨t, e, _⟩ := hx x m
    exact ⟨t, e⟩
  refine sorted_lexL (k := fun u => k (backV u)) hl.isList (by rw [← rv.length]; exact hz) (fun h2 v hv => ?_) fun h' d out h1 h2 kp hd hn => ?_
  · obtain ⟨t, rfl⟩ := e2 v hv
    have hm : V.ref t ∈ xs := by rw [e1]; exact List.mem_map.mpr ⟨_, hv, rfl⟩
    obtain ⟨t', e, ht⟩ := hx _ hm
    cases e
    obtain ⟨its2, r2, pl, _⟩ := I.tuple ht
    obtain ⟨o, ho, hc, n, hd⟩ := (show s.heap.IsTuple t its2.toArray from pl)
    exact ⟨⟨t, o, its2.toArray, n, rfl, ho, hc, hd, (show IntsAre its2.toArray.toList (k (V.ref t)) from by simpa using r2.ints)⟩, hne (by rw [rv.length]; exact h2) _ hm⟩
  · have h3 : ∀ u ∈ out, ∃ a, u = Value.ref a := fun u hu => e2 u (h2.perm.mem_iff.mp hu)
    obtain ⟨n, hn⟩ := hn
    have hb : (out.map backV).Perm xs := by
      rw [e1]
      exact h2.perm.map backV
    refine ⟨.ref d, upd H d (.lst (out.map backV)), I.laid (t' := s.toks) kp hd ⟨?_, out, n, vals_back h3, hn⟩, rfl, q _ d (SrtO.srtd_map h1) hb (I.hok.fresh hd)⟩
    rw [hb.length_eq]
    exact hz
end
end Qm

/-! S4: built-in functions, methods, isinstance by values. -/
namespace Qm
open PySem PySem.Spec PyProof.Rows L2
/-- a call by values: its answer, a tree -/
def rC (C : XC) (f : List PV → MHp → Option PV) : List V → Hp → VK → Prop := fun vs H Q => ∃ M h xs z, HRel C.K M H h ∧ RVs C.K M H xs vs ∧ f xs h = some z ∧
  ∀ v H' M', Ext M H M' H' → HRel C.K M' H' h → RV C.K M' H' z v → Q v H'
/-- .. its answer a new list -/
def rN (C : XC) (f : List PV → MHp → Option (List PV)) : List V → Hp → VK → Prop := fun vs H Q => ∃ M h xs ys, HRel C.K M H h ∧ RVs C.K M H xs vs ∧ f xs h = some ys ∧
  ∀ p ws, H p = none → ws.length ≤ sizeLine → RVs C.K M H ys ws → Q (.ref p) (upd H p (.lst ws))
section
variable {C : XC} {M : List Addr} {H : Hp} {h : MHp}
theorem rvs1 {x : PV} {vs : List V} (r : RVs C.K M H [x] vs) : ∃ v, vs = [v] ∧ RV C.K M H x v := by
  rw [RVs] at r
  obtain ⟨v, r, rfl, h1, h2⟩ := r
  rw [RVs] at h2
  subst h2
  exact ⟨v, rfl, h1⟩
theorem rvs2 {x y : PV} {vs : List V} (r : RVs C.K M H [x, y] vs) : ∃ v w, vs = [v, w] ∧ RV C.K M H x v ∧ RV C.K M H y w := by
  rw [RVs] at r
  obtain ⟨v, r, rfl, h1, h2⟩ := r
  obtain ⟨w, rfl, h3⟩ := rvs1 h2
  exact ⟨v, w, rfl, h1, h3⟩
theorem intsOf_eq : ∀ {xs : List PV} {ns : List Int}, intsOf xs = some ns → xs = ns.map .int
  | [], ns, e => by simp [intsOf] at e; subst e; rfl
  | x :: xs, ns, e => by
    cases x with
    | int i =>
      simp only [intsOf, Option.map_eq_some_iff] at e
      obtain ⟨r, e, rfl⟩ := e
      rw [List.map_cons, intsOf_eq e]
    | _ => simp [intsOf] at e
theorem rvs_ints : ∀ {ns : List Int} {vs : List V}, RVs C.K M H (ns.map .int) vs → vs = ns.map V.int
  | [], vs, r => by rw [List.map_nil, RVs] at r; exact r
  | n :: ns, vs, r => by
    rw [List.map_cons, RVs] at r
    obtain ⟨v, r, rfl, h1, h2⟩ := r
    rw [rv_int h1, rvs_ints h2]
    rfl
theorem bools_eq : ∀ {xs : List PV} {ns : List Bool}, bools xs = some ns → xs = ns.map .bl
  | [], ns, e => by simp [bools] at e; subst e; rfl
  | x :: xs, ns, e => by
    cases x with
    | bl i =>
      simp only [bools, Option.map_eq_some_iff] at e
      obtain ⟨r, e, rfl⟩ := e
      rw [List.map_cons, bools_eq e]
    | _ => simp [bools] at e
theorem rvs_bools : ∀ {ns : List Bool} {vs : List V}, RVs C.K M H (ns.map .bl) vs → vs = ns.map V.bl
  | [], vs, r => by rw [List.map_nil, RVs] at r; exact r
  | n :: ns, vs, r => by
    rw [List.map_cons, RVs] at r
    obtain ⟨v, r, rfl, h1, h2⟩ := r
    rw [rv_bl h1, rvs_bools h2]
    rfl
theorem minI_mem : ∀ (r : List Int) (x : Int), minI x r ∈ x :: r ∧ ∀ y ∈ x :: r, minI x r ≤ y
  | [], x => by simp [minI]
  | z :: r, x => by
    rw [minI]
    have key : ∀ w, (w = x ∨ w = z) → w ≤ x → w ≤ z → minI w r ∈ x :: z :: r ∧ ∀ y ∈ x :: z :: r, minI w r ≤ y := fun w hw h1 h2 => by
      obtain ⟨m1, m2⟩ := minI_mem r w
      have hx := m2 w List.mem_cons_self
      refine ⟨?_, fun y hy => ?_⟩
      · rcases List.mem_cons.mp m1 with e | e
        · rw [e]; rcases hw with e | e <;> simp [e]
        · exact List.mem_cons_of_mem _ (List.mem_cons_of_mem _ e)
      · rcases List.mem_cons.mp hy with rfl | hy
        · omega
        · rcases List.mem_cons.mp hy with rfl | hy
          · omega
          · exact m2 y (List.mem_cons_of_mem _ hy)
    by_cases c : z < x
    · rw [if_pos c]; exact key z (.inr rfl) (by omega) (by omega)
    · rw [if_neg c]; exact key x (.inl rfl) (by omega) (by omega)
theorem maxI_mem : ∀ (r : List Int) (x : Int), maxI x r ∈ x :: r ∧ ∀ y ∈ x :: r, y ≤ maxI x r
  | [], x => by simp [maxI]
  | z :: r, x => by
    rw [maxI]
    have key : ∀ w, (w = x ∨ w = z) → x ≤ w → z ≤ w → maxI w r ∈ x :: z :: r ∧ ∀ y ∈ x :: z :: r, y ≤ maxI w r := fun w hw h1 h2 => by
      obtain ⟨m1, m2⟩ := maxI_mem r w
      have hx := m2 w List.mem_cons_self
      refine ⟨?_, fun y hy => ?_⟩
      · rcases List.mem_cons.mp m1 with e | e
        · rw [e]; rcases hw with e | e <;> simp [e]
        · exact List.mem_cons_of_mem _ (List.mem_cons_of_mem _ e)
      · rcases List.mem_cons.mp hy with rfl | hy
        · omega
        · rcases List.mem_cons.mp hy with rfl | hy
          · omega
          · exact m2 y (List.mem_cons_of_mem _ hy)
    by_cases c : x < z
    · rw [if_pos c]; exact key z (.inr rfl) (by omega) (by omega)
    · rw [if_neg c]; exact key x (.inl rfl) (by omega) (by omega)
theorem insI_perm (x : Int) : ∀ l : List Int, (insI x l).Perm (x :: l)
  | [] => .refl _
  | y :: r => by
    rw [insI]
    split
    · exact .refl _
    · exact ((insI_perm x r).cons y).trans (List.Perm.swap x y r)
theorem sortI_perm : ∀ l : List Int, (sortI l).Perm l
  | [] => .refl _
  | x :: r => by rw [sortI]; exact (insI_perm x _).trans ((sortI_perm r).cons x)
theorem insI_up (x : Int) : ∀ l : List Int, l.Pairwise (· ≤ ·) → (insI x l).Pairwise (· ≤ ·)
  | [], _ => by simp [insI]
  | y :: r, h => by
    rw [insI]
    have h' := List.pairwise_cons.mp h
    split
    · rename_i c
      refine List.pairwise_cons.mpr ⟨fun z hz => ?_, h⟩
      rcases List.mem_cons.mp hz with rfl | hz
      · exact c
      · exact Int.le_trans c (h'.1 z hz)
    · rename_i c
      refine List.pairwise_cons.mpr ⟨fun z hz => ?_, insI_up x r h'.2⟩
      rcases List.mem_cons.mp ((insI_perm x r).mem_iff.mp hz) with rfl | hz
      · omega
      · exact h'.1 z hz
theorem sortI_up : ∀ l : List Int, (sortI l).Pairwise (· ≤ ·)
  | [] => by simp [sortI]
  | x :: r => by rw [sortI]; exact insI_up x _ (sortI_up r)
theorem sort_uniq : ∀ {l m : List Int}, l.Perm m → l.Pairwise (· ≤ ·) → m.Pairwise (· ≤ ·) → l = m
  | [], m, p, _, _ => by have := p.length_eq; simp at this; exact (List.eq_nil_of_length_eq_zero this.symm).symm
  | x :: l, [], p, _, _ => by have := p.length_eq; simp at this
  | x :: l, y :: m, p, h1, h2 => by
    have a1 := List.pairwise_cons.mp h1
    have a2 := List.pairwise_cons.mp h2
    have e : x = y := by
      have hx : x ∈ y :: m := p.mem_iff.mp List.mem_cons_self
      have hy : y ∈ x :: l := p.mem_iff.mpr List.mem_cons_self
      rcases List.mem_cons.mp hx with e | hx
      · exact e
      · rcases List.mem_cons.mp hy with e | hy
        · exact e.symm
        · exact Int.le_antisymm (a1.1 y hy) (a2.1 x hx)
    subst e
    rw [sort_uniq (List.Perm.cons_inv p) a1.2 a2.2]
end
def biN : Bi → Str
  | .len => "len" | .abs => "abs" | .int => "int" | .sum => "sum" | .min1 => "min" | .max1 => "max" | .min2 => "min" | .max2 => "max" | .all => "all" | .any => "any" | .tuple => "tuple" | .str => "str"
def biV : Bi → Value
  | .len => .builtin "len" | .abs => .builtin "abs" | .int => .type "int" | .sum => .builtin "sum" | .min1 => .builtin "min" | .max1 => .builtin "max" | .min2 => .builtin "min" | .max2 => .builtin "max"
  | .all => .builtin "all" | .any => .builtin "any" | .tuple => .type "tuple" | .str => .type "str"
def blN : Bl → Str
  | .list => "list" | .sorted => "sorted"
def blV : Bl → Value
  | .list => .type "list" | .sorted => .builtin "sorted"
section
variable {X : Cx} {C : XC}
theorem sum_tup {prog : Program} {w : World} {A : Around} {E : Value → Shared → Prop} {s : Shared} {t : Addr} {its : List Value} {ns : List Int} {Q : Value → Shared → Prop} (hh : A.handled = none) (hl : s.heap.IsTuple t its.toArray) (hi : IntsAre its ns)
    (h : ∀ h' tk t', (∀ b o, s.heap.get? b = some o → h'.get? b = some o) → Q (.int ns.sum t') { s with heap := h', toks := tk }) : wpAny (model prog w) A (call (.builtin "sum") [.ref t]) Q E s := by
  obtain ⟨xs, e⟩ := hi.allInts.items
  have hn : numsOf (intItems xs).toList = ns := by rw [← e]; exact hi.numsOf
  rw [nums_intItems] at hn
  rw [e] at hl
  refine PySem.W.ktm_sumG hh hl fun h' tk t' hk => ?_
  have := h h' tk t' hk
  rw [preSum_eq, List.take_of_length_le (by simp), hn]; exact this
theorem pick_ok {M : List Addr} {H : Hp} {hp h' : Heap} {ys : List PV} {ws : List V} {its : List Value} {as bs : List Addr} {m : PV} {i : Nat} {v : Value} (O : OkO ys) (rv : Vals ws its) (rws : RVs C.K M H ys ws) (rd : ReadsAll hp its (dats ys) as) (hm : m ∈ ys)
    (hv : its[i]? = some v) (r2 : Reads h' v (dat m) bs) (hk : ∀ b o, hp.get? b = some o → h'.get? b = some o) : ∃ w, RelV w v ∧ RV C.K M H m w := by
  have hi : i < its.length := (List.getElem?_eq_some_iff.mp hv).1
  have hl := rv.length
  have hl2 := rws.len
  have hw : ws[i]? = some (ws[i]'(by omega)) := List.getElem?_eq_getElem (by omega)
  obtain ⟨u, hu, ru⟩ := rv.get hw
  rw [hv] at hu
  cases hu
  refine ⟨_, ru, ?_⟩
  have hy : ys[i]? = some (ys[i]'(by omega)) := List.getElem?_eq_getElem (by omega)
  obtain ⟨w', hw', rw'⟩ := rws.get hy
  rw [hw] at hw'
  cases hw'
  obtain ⟨bs', r1, _⟩ := PySem.W.readsAll_at rd i v hv
  have hd : (dats ys).getD i .none = dat (ys[i]'(by omega)) := by
    rw [dats_map, List.getD_eq_getElem?_getD, List.getElem?_map, hy]; rfl
  rw [hd] at r1
  have r1' := PySem.W.reads_keeps hk r1
  obtain ⟨_, d1, _⟩ := O.fl _ (List.getElem_mem (by omega : i < ys.length))
  obtain ⟨_, d2, _⟩ := O.fl m hm
  have al : PySem.W.alike (dat (ys[i]'(by omega))) (dat m) = true := by rw [alike_dat d1 d2]; exact O.al _ (List.getElem_mem _) m hm
  have e := dat_inj d1 d2 (PySem.W.alike_unique _ _ v _ _ al r1' r2)
  rw [← e]
  exact rw'
open PySem.W in
theorem call_bif (hK : X.K = C.K.f) (hc : X.calm = true) (hu : X.A.units + 70 < cLine) {b : Bi} : CallR X (biV b) (rC C (biS b)) := by
  intro pins s σ H vs us Q I rs q
  obtain ⟨M, h, xs, z, hr, rv, e, k⟩ := q
  have k' : ∀ {w : V}, RV C.K M H z w → Q w H := fun {w} r => k w H M Ext.refl hr r
  match xs, rv, e with
  | [x], rv, e =>
    obtain ⟨v, rfl, r⟩ := rvs1 rv
    replace e : bi1 b x h = some z := e
    cases b with
    | len =>
      cases ed : asDic x h with
      | some d3 =>
        obtain ⟨t, ks, ws⟩ := d3
        have e : some (PV.int ks.length) = some z := by
          have it : itemsT x h = none := by
            cases x with
            | dic _ _ _ => rfl
            | ref n =>
              simp only [asDic] at ed
              split at ed
              · rename_i eh; simp only [itemsT, eh]
              · cases ed
            | _ => cases ed
          have : lenP x h = lenR x h := by cases x <;> first | rfl | cases ed
          rw [← e]
          show _ = lenP x h
          rw [this, lenR, it, ed]
        cases e
        obtain ⟨a, uv, u, rfl, eH, d, rws⟩ := asDic_ok hr r ed
        cases t with
        | false =>
          obtain ⟨kvs, rfl, rfl, rfl⟩ := (show ∃ kvs : List (Key × V), u = .dK kvs ∧ ks = kvs.map (fun p => keyP p.1) ∧ uv = kvs.map (·.2) from d)
          obtain ⟨w, rfl, rw_⟩ := vals1 rs
          obtain rfl : w = Value.ref a := rw_
          rw [List.length_map] at k'
          exact d_len I (.inl eH) fun tk s' I' => ⟨.int ((kvs.length : Nat) : Int), H, I', ⟨tk, rfl⟩, k' rv_i⟩
        | true =>
          obtain ⟨kvs, rfl, rfl, rfl⟩ := (show ∃ kvs : List (List Key × V), u = .dT kvs ∧ ks = kvs.map (fun p => .tup (p.1.map keyP)) ∧ uv = kvs.map (·.2) from d)
          rw [List.length_map] at k'
          exact call_len_dT pins s σ H _ us Q I rs ⟨a, kvs, rfl, eH, k' rv_i⟩
      | none =>
      have hl : ∃ n, LenV X.K v H n ∧ z = .int n := by
        have rest : lenR x h = some z → ∃ n, LenV X.K v H n ∧ z = .int n := fun e => by
          unfold lenR at e
          split at e
          · rename_i ys ey
            cases e
            obtain ⟨a, ws, rfl, zz, alt, rws⟩ := itemsT_ok hr r ey
            refine ⟨ws.length, ?_, by rw [rws.len]⟩
            rcases alt with ⟨_, ht⟩ | ⟨_, hl⟩
            · exact .inr ⟨ws, by rw [hK]; exact ht, rfl⟩
            · exact .inl ⟨ws, SqL.of hl, rfl⟩
          · rw [ed] at e; cases e
        cases x with
        | str s' =>
          cases e
          obtain ⟨rfl, zz⟩ := rv_str r
          exact ⟨s'.length, ⟨zz, rfl⟩, rfl⟩
        | _ => exact rest e
      obtain ⟨n, hl, rfl⟩ := hl
      exact call_len pins s σ H _ us Q I rs ⟨v, n, rfl, hl, k' rv_i⟩
    | abs =>
      replace e : absP x = some z := e
      unfold absP at e
      split at e
      · rename_i i
        cases e
        have := rv_int r; subst this
        exact call_abs pins s σ H _ us Q I rs ⟨i, rfl, k' rv_i⟩
      · cases e
    | int =>
      replace e : intP x = some z := e
      unfold intP at e
      split at e
      · rename_i i
        cases e
        have := rv_int r; subst this
        exact call_int1 pins s σ H _ us Q I rs (.inl ⟨i, rfl, k' rv_i⟩)
      · rename_i i
        cases e
        have := rv_bl r; subst this
        exact call_int1 pins s σ H _ us Q I rs (.inr ⟨i, rfl, k' rv_i⟩)
      · cases e
    | sum =>
      obtain ⟨ys, ey, e⟩ := Option.bind_eq_some_iff.mp (show (itemsT x h).bind sumP = some z from e)
      obtain ⟨ns, en, rfl⟩ := Option.map_eq_some_iff.mp (show (intsOf ys).map (fun ns => PV.int ns.sum) = some z from e)
      obtain ⟨a, ws, rfl, zz, alt, rws⟩ := itemsT_ok hr r ey
      rw [intsOf_eq en] at rws
      have := rvs_ints rws; subst this
      rcases alt with ⟨_, ht⟩ | ⟨_, hl⟩
      · obtain ⟨its, rv, p, _⟩ := I.tuple (by rw [hK]; exact ht)
        rw [Vals.ref1 rs]
        exact sum_tup (I.ok.hd hc) p rv.ints fun h' tk t' hk => ⟨.int _, H, I.kept hk, ⟨_, rfl⟩, k' rv_i⟩
      · exact cr_sum hc pins s σ H _ us Q I rs ⟨a, ns, rfl, SqL.of hl, k' rv_i⟩
    | min1 =>
      obtain ⟨ys, ey, e⟩ := Option.bind_eq_some_iff.mp (show (itemsT x h).bind minP = some z from e)
      obtain ⟨a, ws, rfl, zz, alt, rws⟩ := itemsT_ok hr r ey
      cases ys with
      | nil => cases e
      | cons y r' =>
        replace e : (if okOrd (y :: r') = true then some (minV y r') else none) = some z := e
        by_cases ok : okOrd (y :: r') = true
        · rw [if_pos ok] at e
          cases e
          have O := okO ok
          rw [Vals.ref1 rs]
          obtain ⟨dz, n, en⟩ := OkO.depth O.fl
          rcases alt with ⟨_, ht⟩ | ⟨_, hl⟩
          · obtain ⟨its, rv, p, _⟩ := I.tuple (by rw [hK]; exact ht)
            obtain ⟨as, h4⟩ := Dp.readsAll I (dats (y :: r')) _ its (by rw [hK]; exact dats_rv en rws) rv
            refine min_tuple_data (I.ok.hd hc) (show s.heap.IsTuple a its.toArray from p) h4 O.alike (by rw [show dat y :: dats r' = dats (y :: r') from by simp only [dats]]; omega) fun i v h' tk bs hv rd hk => ?_
            rw [minD_dat r' y O] at rd
            obtain ⟨w, rw1, rw2⟩ := pick_ok (C := C) O rv rws h4 (minV_mem y r') (by simpa using hv) rd hk
            exact ⟨w, H, I.kept hk, rw1, k' rw2⟩
          · obtain ⟨its, rv, p, _⟩ := I.list (SqL.of hl)
            obtain ⟨as, h4⟩ := Dp.readsAll I (dats (y :: r')) _ its (by rw [hK]; exact dats_rv en rws) rv
            refine min_list_data (I.ok.hd hc) p.isList h4 O.alike (by rw [show dat y :: dats r' = dats (y :: r') from by simp only [dats]]; omega) fun i v h' tk bs hv rd hk => ?_
            rw [minD_dat r' y O] at rd
            obtain ⟨w, rw1, rw2⟩ := pick_ok (C := C) O rv rws h4 (minV_mem y r') (by simpa using hv) rd hk
            exact ⟨w, H, I.kept hk, rw1, k' rw2⟩
        · rw [if_neg ok] at e; cases e
    | max1 =>
      obtain ⟨ys, ey, e⟩ := Option.bind_eq_some_iff.mp (show (itemsT x h).bind maxP = some z from e)
      obtain ⟨a, ws, rfl, zz, alt, rws⟩ := itemsT_ok hr r ey
      cases ys with
      | nil => cases e
      | cons y r' =>
        replace e : (if okOrd (y :: r') = true then some (maxV y r') else none) = some z := e
        by_cases ok : okOrd (y :: r') = true
        · rw [if_pos ok] at e
          cases e
          have O := okO ok
          rw [Vals.ref1 rs]
          obtain ⟨dz, n, en⟩ := OkO.depth O.fl
          rcases alt with ⟨_, ht⟩ | ⟨_, hl⟩
          · obtain ⟨its, rv, p, _⟩ := I.tuple (by rw [hK]; exact ht)
            obtain ⟨as, h4⟩ := Dp.readsAll I (dats (y :: r')) _ its (by rw [hK]; exact dats_rv en rws) rv
            refine max_tuple_data (I.ok.hd hc) (show s.heap.IsTuple a its.toArray from p) h4 O.alike (by rw [show dat y :: dats r' = dats (y :: r') from by simp only [dats]]; omega) fun i v h' tk bs hv rd hk => ?_
            rw [maxD_dat r' y O] at rd
            obtain ⟨w, rw1, rw2⟩ := pick_ok (C := C) O rv rws h4 (maxV_mem y r') (by simpa using hv) rd hk
            exact ⟨w, H, I.kept hk, rw1, k' rw2⟩
          · obtain ⟨its, rv, p, _⟩ := I.list (SqL.of hl)
            obtain ⟨as, h4⟩ := Dp.readsAll I (dats (y :: r')) _ its (by rw [hK]; exact dats_rv en rws) rv
            refine max_list_data (I.ok.hd hc) p.isList h4 O.alike (by rw [show dat y :: dats r' = dats (y :: r') from by simp only [dats]]; omega) fun i v h' tk bs hv rd hk => ?_
            rw [maxD_dat r' y O] at rd
            obtain ⟨w, rw1, rw2⟩ := pick_ok (C := C) O rv rws h4 (maxV_mem y r') (by simpa using hv) rd hk
            exact ⟨w, H, I.kept hk, rw1, k' rw2⟩
        · rw [if_neg ok] at e; cases e
    | all =>
      obtain ⟨ys, ey, e⟩ := Option.bind_eq_some_iff.mp (show (itemsL x h).bind (fun xs => (bools xs).map fun bs => PV.bl (bs.all id)) = some z from e)
      obtain ⟨ns, en, rfl⟩ := Option.map_eq_some_iff.mp e
      obtain ⟨a, ws, rfl, zz, hl, rws⟩ := itemsL_ok hr r ey
      rw [bools_eq en] at rws
      have := rvs_bools rws; subst this
      exact cr_all hc pins s σ H _ us Q I rs ⟨a, ns, rfl, SqL.of hl, k' rv_b⟩
    | any =>
      obtain ⟨ys, ey, e⟩ := Option.bind_eq_some_iff.mp (show (itemsL x h).bind (fun xs => (bools xs).map fun bs => PV.bl (bs.any id)) = some z from e)
      obtain ⟨ns, en, rfl⟩ := Option.map_eq_some_iff.mp e
      obtain ⟨a, ws, rfl, zz, hl, rws⟩ := itemsL_ok hr r ey
      rw [bools_eq en] at rws
      have := rvs_bools rws; subst this
      exact cr_any hc pins s σ H _ us Q I rs ⟨a, ns, rfl, SqL.of hl, k' rv_b⟩
    | tuple =>
      obtain ⟨ys, ey, rfl⟩ := Option.map_eq_some_iff.mp (show (itemsT x h).map PV.tup = some z from e)
      obtain ⟨a, ws, rfl, zz, alt, rws⟩ := itemsT_ok hr r ey
      rcases alt with ⟨⟨ys', rfl⟩, ht⟩ | ⟨_, hl⟩
      · cases ey
        exact call_tuple_of pins s σ H _ us Q I rs ⟨a, ws, rfl, .inr ⟨by rw [hK]; exact ht, k' r⟩⟩
      · exact call_tuple_of pins s σ H _ us Q I rs ⟨a, ws, rfl, .inl ⟨SqL.of hl, end_newT hr zz rws k⟩⟩
    | str => cases e
    | min2 => cases e
    | max2 => cases e
  | [x, y], rv, e =>
    obtain ⟨v, w, rfl, r, r'⟩ := rvs2 rv
    replace e : bi2 b x y = some z := e
    unfold bi2 at e
    split at e
    · rename_i i j _
      cases e
      have := rv_int r; subst this
      have := rv_int r'; subst this
      exact call_min2 hc pins s σ H _ us Q I rs ⟨i, j, rfl, k' rv_i⟩
    · rename_i i j _
      cases e
      have := rv_int r; subst this
      have := rv_int r'; subst this
      exact call_max2 hc pins s σ H _ us Q I rs ⟨i, j, rfl, k' rv_i⟩
    · cases e
  | [], rv, e => cases e
  | _ :: _ :: _ :: _, rv, e => cases e
end
theorem intsL_eq : ∀ {xs : List PV} {ls : List (List Int)}, intsL xs = some ls → xs = ls.map fun ns => .tup (ns.map .int)
  | [], ls, e => by simp [intsL] at e; subst e; rfl
  | x :: xs, ls, e => by
    cases x with
    | tup ys =>
      rw [intsL] at e
      split at e
      · rename_i a b ea eb
        cases e
        rw [List.map_cons, ← intsL_eq eb, ← intsOf_eq ea]
      · cases e
    | _ => simp [intsL] at e
theorem insL_perm (x : List Int) : ∀ l, (insL x l).Perm (x :: l)
  | [] => .refl _
  | y :: r => by
    rw [insL]
    split
    · exact ((insL_perm x r).cons y).trans (List.Perm.swap x y r)
    · exact .refl _
theorem sortL_perm : ∀ l, (sortL l).Perm l
  | [] => .refl _
  | x :: r => by rw [sortL]; exact (insL_perm x _).trans ((sortL_perm r).cons x)
theorem lexL_trans {x y z : List Int} (h1 : lexL y x = false) (h2 : lexL z y = false) : lexL z x = false := lexL_tr x y z h1 h2
theorem insL_up (x : List Int) : ∀ l : List (List Int), l.Pairwise (fun a b => lexL b a = false) → (insL x l).Pairwise (fun a b => lexL b a = false)
  | [], _ => by simp [insL]
  | y :: r, h => by
    rw [insL]
    have h' := List.pairwise_cons.mp h
    split
    · rename_i c
      refine List.pairwise_cons.mpr ⟨fun z hz => ?_, insL_up x r h'.2⟩
      rcases List.mem_cons.mp ((insL_perm x r).mem_iff.mp hz) with e | hz
      · rw [e]; exact lexL_asym _ _ c
      · exact h'.1 z hz
    · rename_i c
      have c : lexL y x = false := by simpa using c
      refine List.pairwise_cons.mpr ⟨fun z hz => ?_, h⟩
      rcases List.mem_cons.mp hz with e | hz
      · rw [e]; exact c
      · exact lexL_trans c (h'.1 z hz)
theorem sortL_up : ∀ l, (sortL l).Pairwise (fun a b => lexL b a = false)
  | [] => .nil
  | x :: r => by rw [sortL]; exact insL_up x _ (sortL_up r)
theorem sortL_uniq : ∀ {l m : List (List Int)}, l.Perm m → l.Pairwise (fun a b => lexL b a = false) → m.Pairwise (fun a b => lexL b a = false) → l = m
  | [], m, p, _, _ => by rw [List.nil_perm.mp p]
  | x :: l, [], p, _, _ => absurd p.symm (by simp)
  | x :: l, y :: m, p, h1, h2 => by
    have a1 := List.pairwise_cons.mp h1
    have a2 := List.pairwise_cons.mp h2
    have e : x = y := by
      have hx : x ∈ y :: m := p.mem_iff.mp List.mem_cons_self
      have hy : y ∈ x :: l := p.mem_iff.mpr List.mem_cons_self
      rcases List.mem_cons.mp hx with e | hx
      · exact e
      · rcases List.mem_cons.mp hy with e | hy
        · exact e.symm
        · exact lexL_tot _ _ (a2.1 x hx) (a1.1 y hy)
    subst e
    rw [sortL_uniq (List.Perm.cons_inv p) a1.2 a2.2]
section
variable {C : XC} {M : List Addr} {H : Hp}
theorem tup_ints {ns : List Int} {v : V} (r : RV C.K M H (.tup (ns.map .int)) v) : ∃ t, v = .ref t ∧ SqT C.K.f H t (ns.map V.int) ∧ (ns ≠ [] ∨ True) ∧ (∀ ms, RV C.K M H (.tup (ms.map .int)) v → ms = ns) := by
  have get : ∀ {ms : List Int}, RV C.K M H (.tup (ms.map .int)) v → ∃ t, v = .ref t ∧ SqT C.K.f H t (ms.map V.int) ∧ H t = some (.tup (ms.map V.int)) := fun {ms} r => by
    obtain ⟨t, vs, rfl, ta, rs⟩ := rv_tup r
    have := rvs_ints rs
    subst this
    refine ⟨t, rfl, ta.seq, ?_⟩
    rcases ta with ⟨_, _, e⟩ | ⟨_, _, _, _, _, _, _, _, s, e⟩
    · exact e
    · exfalso
      cases ms with
      | nil => simp at e
      | cons m r => simp at e
  obtain ⟨t, rfl, sq, e⟩ := get r
  refine ⟨t, rfl, sq, .inr trivial, fun ms rm => ?_⟩
  obtain ⟨t', et, _, e'⟩ := get rm
  cases et
  rw [e] at e'
  have := HO.tup.inj (Option.some.inj e')
  have inj : ∀ {a b : List Int}, a.map V.int = b.map V.int → b = a := by
    intro a
    induction a with
    | nil => intro b e; cases b with | nil => rfl | cons _ _ => cases e
    | cons x xs ih => 
      intro b e
      cases b with
      | nil => cases e
      | cons y ys =>
        rw [List.map_cons, List.map_cons] at e
        injection e with e1 e2
        rw [ih e2]
        injection e1 with e1
        rw [e1]
  exact inj this
end
section
variable {X : Cx} {C : XC}
theorem map_inj' {α β : Type} {f : α → β} (hf : ∀ a b, f a = f b → a = b) : ∀ l m : List α, l.map f = m.map f → l = m
  | [], [], _ => rfl
  | [], _ :: _, h => by cases h
  | _ :: _, [], h => by cases h
  | a :: l, b :: m, h => by
    rw [List.map_cons, List.map_cons] at h
    injection h with h1 h2
    rw [hf _ _ h1, map_inj' hf l m h2]
theorem call_bil (hK : X.K = C.K.f) (hc : X.calm = true) {b : Bl} : CallR X (blV b) (rN C (blS b)) := by
  intro pins s σ H vs us Q I rs q
  obtain ⟨M, h, xs, ys, hr, rv, e, k⟩ := q
  match xs, rv, e with
  | [x], rv, e =>
    obtain ⟨v, rfl, r⟩ := rvs1 rv
    replace e : bl1 b x h = some ys := e
    cases b with
    | list =>
      have fromT : itemsT x h = some ys → wpAny (model X.prog X.w) X.A (call (.type "list") us) (EP X pins σ Q) X.xe s := fun e => by
        obtain ⟨a, ws, rfl, zz, alt, rws⟩ := itemsT_ok hr r e
        refine call_list_of pins s σ H _ us Q I rs ⟨a, ws, rfl, ?_, fun l hl => k l ws hl zz rws⟩
        rcases alt with ⟨_, ht⟩ | ⟨_, hl⟩
        · exact .inr (by rw [hK]; exact ht)
        · exact .inl (SqL.of hl)
      cases x with
      | scr ns =>
        cases e
        rw [RV] at r
        obtain ⟨a, rfl, zz, alt⟩ := r
        have hz : (ns.map V.int).length ≤ sizeLine := by rw [List.length_map, sizeLine_eq]; omega
        refine call_list_of pins s σ H _ us Q I rs ⟨a, ns.map V.int, rfl, .inl ?_, fun l hl => k l _ hl hz RVs.ints⟩
        rcases alt with ⟨_, ho⟩ | ⟨o, its, n, h1, h2, h3, h4, h5, h6⟩
        · exact .inl ho
        · exact .inr ⟨o, its, n, by rw [hK]; exact h1, h2, h3, h4, h5, h6⟩
      | _ => exact fromT e
    | sorted =>
      replace e : sortV x h = some ys := e
      unfold sortV at e
      cases ew : itemsL x h with
      | none =>
        rw [ew] at e
        replace e : sortD x h = some ys := e
        unfold sortD at e
        split at e
        · rename_i ks ws ed
          split at e
          · rename_i ns en
            split at e
            · rename_i cc
              cases e
              obtain ⟨a, uv, u, rfl, eH, d, rws⟩ := asDic_ok hr r ed
              obtain ⟨kvs, rfl, ek, rfl⟩ := (show ∃ kvs : List (Key × V), u = .dK kvs ∧ ks = kvs.map (fun p => keyP p.1) ∧ uv = kvs.map (·.2) from d)
              have hk : kvs.map (·.1) = ns.map Sum.inl := by
                have e2 : (kvs.map (·.1)).map keyP = (ns.map Sum.inl).map keyP := by
                  rw [List.map_map, List.map_map, show (keyP ∘ fun x : Key × V => x.1) = fun p => keyP p.1 from rfl, ← ek, intsOf_eq en]
                  exact List.map_congr_left fun _ _ => rfl
                exact map_inj' (fun p q z => by cases p <;> cases q <;> cases z <;> rfl) _ _ e2
              have lt : ns.length < 64 := of_decide_eq_true cc
              refine call_sortedDI hc pins s σ H _ us Q I rs ⟨a, kvs, ns, rfl, .inl eH, hk, lt, fun ns' p hp hup hn => ?_⟩
              have : ns' = sortI ns := sort_uniq (hp.trans (sortI_perm ns).symm) hup (sortI_up ns)
              subst this
              refine k p _ hn ?_ RVs.ints
              rw [List.length_map, (sortI_perm ns).length_eq, sizeLine_eq]
              omega
            · cases e
          · cases e
        · cases e
      | some ws =>
      rw [ew] at e
      replace e : sortedP ws = some ys := e
      obtain ⟨a, vs, rfl, zz, hl, rws⟩ := itemsL_ok hr r ew
      unfold sortedP at e
      split at e
      · rename_i ns en
        cases e
        rw [intsOf_eq en] at rws
        have := rvs_ints rws; subst this
        refine cr_sortedI pins s σ H _ us Q I rs ⟨a, ns, rfl, SqL.of hl, fun ns' p hp hup hn => ?_⟩
        have : ns' = sortI ns := sort_uniq (hp.trans (sortI_perm ns).symm) hup (sortI_up ns)
        subst this
        refine k p _ hn ?_ RVs.ints
        rw [List.length_map] at zz ⊢
        rw [(sortI_perm ns).length_eq]
        exact zz
      · split at e
        · rename_i ls en
          split at e
          · rename_i cnd
            cases e
            rw [intsL_eq en] at rws
            let kf : V → List Int := fun v => open Classical in if q : ∃ ns : List Int, RV C.K M H (.tup (ns.map .int)) v then q.choose else []
            have kfs : ∀ {v : V} {ns : List Int}, RV C.K M H (.tup (ns.map .int)) v → kf v = ns := fun {v ns} r => by
              have q : ∃ ns : List Int, RV C.K M H (.tup (ns.map .int)) v := ⟨ns, r⟩
              have e1 : kf v = q.choose := dif_pos q
              obtain ⟨_, _, _, _, u⟩ := tup_ints r
              rw [e1]
              exact u _ q.choose_spec
            have all : ∀ {ls : List (List Int)} {vs : List V}, RVs C.K M H (ls.map fun ns => .tup (ns.map .int)) vs → vs.map kf = ls ∧ ∀ v ∈ vs, RV C.K M H (.tup ((kf v).map .int)) v := by
              intro ls
              induction ls with
              | nil => intro vs r; rw [List.map_nil, RVs] at r; subst r; exact ⟨rfl, fun v hv => by cases hv⟩
              | cons l ls ih =>
                intro vs r
                rw [List.map_cons, RVs] at r
                obtain ⟨v, r', rfl, h1, h2⟩ := r
                obtain ⟨i1, i2⟩ := ih h2
                have e1 := kfs h1
                refine ⟨by rw [List.map_cons, e1, i1], fun u hu => ?_⟩
                rcases List.mem_cons.mp hu with rfl | hu
                · rw [e1]; exact h1
                · exact i2 u hu
            obtain ⟨a1, a2⟩ := all rws
            refine cr_sortedL pins s σ H _ us Q I rs ⟨a, vs, kf, rfl, SqL.of hl, fun v hv => ?_, fun h2 v hv => ?_, fun zs p hup hpm hn => ?_⟩
            · obtain ⟨t, et, sq, _⟩ := tup_ints (a2 v hv)
              exact ⟨t, et, by rw [hK]; exact sq⟩
            · rw [Bool.or_eq_true] at cnd
              have hl2 : ls.length = vs.length := by rw [← a1, List.length_map]
              rcases cnd with c | c
              · have := of_decide_eq_true c; omega
              · have := List.all_eq_true.mp c (kf v) (by rw [← a1]; exact List.mem_map.mpr ⟨v, hv, rfl⟩)
                intro z
                rw [z] at this
                cases this
            · have e1 : zs.map kf = sortL ls := by
                refine sortL_uniq ?_ ?_ (sortL_up ls)
                · refine ((hpm.map kf).trans ?_).trans (sortL_perm ls).symm
                  rw [a1]
                · exact List.pairwise_map.mpr hup
              refine k p zs hn (by rw [hpm.length_eq]; exact zz) ?_
              rw [← e1, List.map_map]
              have fin : ∀ {zs : List V}, (∀ v ∈ zs, RV C.K M H (.tup ((kf v).map .int)) v) → RVs C.K M H (zs.map ((fun ns => PV.tup (ns.map .int)) ∘ kf)) zs := by
                intro zs
                induction zs with
                | nil => intro _; exact .nil
                | cons z zs ih => intro h; exact .cons (h z List.mem_cons_self) (ih fun v hv => h v (List.mem_cons_of_mem _ hv))
              exact fin fun v hv => a2 v (hpm.mem_iff.mp hv)
          · cases e
        · cases e
  | [], rv, e => cases e
  | [_, _], rv, e => cases e
  | _ :: _ :: _ :: _, rv, e => cases e
/-- the end: a new list, in the small heap or a tree -/
theorem end_newM {E : XK} {Q : VK} {M : List Addr} {H : Hp} {h : MHp} {m : Bool} {xs : List PV} {vs : List V} (hr : HRel C.K M H h) (z : vs.length ≤ sizeLine) (r : RVs C.K M H xs vs) (o : Out C E Q M H (newL m xs h)) :
    ∀ p, H p = none → Q (.ref p) (upd H p (.lst vs)) := by
  cases m with
  | false => exact end_newL hr z r o
  | true =>
    intro p hp
    refine o _ _ (M ++ [p]) (Ext.push hp) (hr.push hp ⟨vs, rfl, z, r⟩) ?_
    rw [RV]
    exact ⟨p, rfl, by rw [← hr.len, List.getElem?_append_right (Nat.le_refl _)]; simp⟩
/-! ### isinstance -/
def tyN : Ty → String
  | .int => "int" | .bool => "bool" | .str => "str" | .tuple => "tuple" | .list => "list"
def tyS (t : Ty) : Str := Str.ofString (tyN t)
theorem call_isiR (hK : X.K = C.K.f) {t : Ty} : CallR X (.builtin "isinstance") (fun vs H Q => ∃ M h x v b, HRel C.K M H h ∧ RV C.K M H x v ∧ vs = [v, .ty (tyN t)] ∧ isTy t x h = some b ∧ Q (.bl b) H) := by
  intro pins s σ H vs us Q I rs q
  obtain ⟨M, h, x, v, b, hr, r, rfl, e, q⟩ := q
  have go : ∀ (n : String), TyX X.K H v (.type n) → kitB n (tyN t) = some b → wpAny (model X.prog X.w) X.A (call (.builtin "isinstance") us) (EP X pins σ Q) X.xe s := fun n tx kb =>
    call_isi pins s σ H _ us Q I rs ⟨v, .ty (tyN t), .type n, .type (tyN t), b, rfl, .ty _, tx, kit_ty kb, q⟩
  cases x with
  | non => cases e; rw [rv_non r] at go; exact go "NoneType" (.base .non) (by cases t <;> decide +kernel)
  | bl k => cases e; rw [rv_bl r] at go; exact go "bool" (.base (.bl _)) (by cases t <;> decide +kernel)
  | int k => cases e; rw [rv_int r] at go; exact go "int" (.base (.int _)) (by cases t <;> decide +kernel)
  | str k => cases e; rw [(rv_str r).1] at go; exact go "str" (.base (.str _)) (by cases t <;> decide +kernel)
  | tup xs =>
    cases e
    obtain ⟨a, ws, rfl, ta, rws⟩ := rv_tup r
    rcases ta with ⟨_, _, ha⟩ | ⟨o, its, n, h1, h2, h3, _⟩
    · exact go "tuple" (.base (.tup ha)) (by cases t <;> decide +kernel)
    · exact go "tuple" (.kTuple (by rw [hK]; exact h1) h2) (by cases t <;> decide +kernel)
  | lst xs =>
    cases e
    rw [RV] at r
    obtain ⟨a, ws, rfl, _, _, ha, _⟩ := r
    exact go "list" (.base (.lst ha)) (by cases t <;> decide +kernel)
  | dic t' ks ws =>
    cases e
    rw [RV] at r
    obtain ⟨a, us', u, rfl, _, ha, d, _⟩ := r
    cases t' with
    | false =>
      obtain ⟨kvs, rfl, _, _⟩ := (show ∃ kvs : List (Key × V), u = .dK kvs ∧ ks = kvs.map (fun p => keyP p.1) ∧ us' = kvs.map (·.2) from d)
      exact go "dict" (.base (.dK ha)) (by cases t <;> decide +kernel)
    | true =>
      obtain ⟨kvs, rfl, _, _⟩ := (show ∃ kvs : List (List Key × V), u = .dT kvs ∧ ks = kvs.map (fun p => .tup (p.1.map keyP)) ∧ us' = kvs.map (·.2) from d)
      exact go "dict" (.base (.dT ha)) (by cases t <;> decide +kernel)
  | ref n =>
    rw [RV] at r
    obtain ⟨a, rfl, em⟩ := r
    simp only [isTy] at e
    split at e
    · rename_i xs eh
      cases e
      obtain ⟨ws, ha, _⟩ := hr.at_ n a _ em eh
      exact go "list" (.base (.lst ha)) (by cases t <;> decide +kernel)
    · rename_i t' ks ws eh
      cases e
      obtain ⟨us', u, ha, d, _⟩ := hr.at_ n a _ em eh
      cases t' with
      | false =>
        obtain ⟨kvs, rfl, _, _⟩ := (show ∃ kvs : List (Key × V), u = .dK kvs ∧ ks = kvs.map (fun p => keyP p.1) ∧ us' = kvs.map (·.2) from d)
        exact go "dict" (.base (.dK ha)) (by cases t <;> decide +kernel)
      | true =>
        obtain ⟨kvs, rfl, _, _⟩ := (show ∃ kvs : List (List Key × V), u = .dT kvs ∧ ks = kvs.map (fun p => .tup (p.1.map keyP)) ∧ us' = kvs.map (·.2) from d)
        exact go "dict" (.base (.dT ha)) (by cases t <;> decide +kernel)
    · cases e
  | scr _ => cases e
end
end Qm

/-! S5: the syntax: a Qm term read against the program's own term; what a context must tell. -/
namespace Qm
open PySem PySem.Spec PyProof.Rows L2

def dE : Expr := .Constant .none 0 ⟨0, 0, 0, 0⟩
def nm : Expr → Str
  | .Name x _ => x
  | .Attribute _ x _ => x
  | _ => ⟨#[]⟩
def kn : Expr → Nat
  | .Constant _ k _ => k
  | .Tuple _ k _ => k
  | _ => 0
def kids : Expr → List Expr
  | .BinOp a _ b _ => [a, b]
  | .UnaryOp _ a _ => [a]
  | .Compare a _ bs _ => a :: bs
  | .BoolOp _ vs _ => vs
  | .IfExp a b c _ => [a, b, c]
  | .Subscript a b _ => [a, b]
  | .Tuple es _ _ => es
  | .List es _ => es
  | .Call _ es _ _ => es
  | .Attribute a _ _ => [a]
  | .ListComp e _ _ _ => [e]
  | .DictComp k v _ _ _ => [k, v]
  | .Slice a b c _ => [a.getD dE, b.getD dE, c.getD dE]
  | _ => []
def kid (e : Expr) (i : Nat) : Expr := (kids e).getD i dE
def fnE : Expr → Expr
  | .Call f _ _ _ => f
  | _ => dE
def scE : Expr → Scope
  | .ListComp _ _ s _ => s
  | .DictComp _ _ _ s _ => s
  | _ => { kind := .function, names := [], isGenerator := false, isCoroutine := false }
/-- the first key, the first value of a dict display -/
def dkE : Expr → Expr
  | .Dict (some k :: _) _ _ => k
  | _ => dE
def dvE : Expr → Expr
  | .Dict _ (v :: _) _ => v
  | _ => dE
def gnE : Expr → Comprehension
  | .ListComp _ (g :: _) _ _ => g
  | .DictComp _ _ (g :: _) _ _ => g
  | _ => ⟨dE, dE, [], 0⟩
def kOf : PV → Const
  | .non => .none
  | .bl b => .bool b
  | .int i => .int i
  | .str s => .str s
  | _ => .ellipsis
def mtN : Mt → Str
  | .append => "append" | .extend => "extend" | .pop => "pop" | .popAt => "pop" | .get => "get" | .index => "index" | .count => "count" | .join => "join" | .values => "values"
mutual
def toT : MT → Expr → Expr
  | .nm _, e0 => .Name (nm e0) e0.pos
  | .tp ts, e0 => .Tuple (toTs ts (kids e0)) (kn e0) e0.pos
def toTs : MTs → List Expr → List Expr
  | .nil, _ => []
  | .cons t r, l => toT t (l.headD dE) :: toTs r l.tail
end
/-- the names of fields by their numbers -/
def fldS : Nat → Str
  | 0 => "name" | 1 => "what" | 2 => "why" | 3 => "column" | 4 => "words" | 5 => "options" | _ => ⟨#[]⟩
mutual
def toE : ME → Expr → Expr
  | .var _, e0 => .Name (nm e0) e0.pos
  | .cst c, e0 => .Constant (kOf c) (kn e0) e0.pos
  | .glb _, e0 => .Name (nm e0) e0.pos
  | .bin o a b, e0 => .BinOp (toE a (kid e0 0)) (oper o) (toE b (kid e0 1)) e0.pos
  | .bnm o a b, e0 => .BinOp (toE a (kid e0 0)) (oper o) (toE b (kid e0 1)) e0.pos
  | .neg a, e0 => .UnaryOp .USub (toE a (kid e0 0)) e0.pos
  | .not a, e0 => .UnaryOp .Not (toE a (kid e0 0)) e0.pos
  | .cmp o a b, e0 => .Compare (toE a (kid e0 0)) [cmpO o] [toE b (kid e0 1)] e0.pos
  | .chn o p a b c, e0 => .Compare (toE a (kid e0 0)) [cmpO o, cmpO p] [toE b (kid e0 1), toE c (kid e0 2)] e0.pos
  | .and es, e0 => .BoolOp .And (toEs es (kids e0)) e0.pos
  | .or es, e0 => .BoolOp .Or (toEs es (kids e0)) e0.pos
  | .ife c a b, e0 => .IfExp (toE c (kid e0 0)) (toE a (kid e0 1)) (toE b (kid e0 2)) e0.pos
  | .ix a i, e0 => .Subscript (toE a (kid e0 0)) (toE i (kid e0 1)) e0.pos
  | .sl a lo hi, e0 => .Subscript (toE a (kid e0 0)) (.Slice (toO lo (kid (kid e0 1) 0)) (toO hi (kid (kid e0 1) 1)) none (kid e0 1).pos) e0.pos
  | .rev a, e0 => .Subscript (toE a (kid e0 0)) (.Slice none none (some (.UnaryOp .USub (.Constant (.int 1) (kn (kid (kid (kid e0 1) 2) 0)) (kid (kid (kid e0 1) 2) 0).pos) (kid (kid e0 1) 2).pos)) (kid e0 1).pos) e0.pos
  | .tup es, e0 => .Tuple (toEs es (kids e0)) (kn e0) e0.pos
  | .lst _ es, e0 => .List (toEs es (kids e0)) e0.pos
  | .dc0 _ _, e0 => .Dict [] [] e0.pos
  | .dc1 _ k v, e0 => .Dict [some (toE k (dkE e0))] [toE v (dvE e0)] e0.pos
  | .call _ es, e0 => .Call (.Name (nm (fnE e0)) (fnE e0).pos) (toEs es (kids e0)) [] e0.pos
  | .bif b es, e0 => .Call (.Name (biN b) (fnE e0).pos) (toEs es (kids e0)) [] e0.pos
  | .bil b _ es, e0 => .Call (.Name (blN b) (fnE e0).pos) (toEs es (kids e0)) [] e0.pos
  | .lrg _ es, e0 => .Call (.Name "list" (fnE e0).pos) [.Call (.Name "range" (fnE (kid e0 0)).pos) (toEs es (kids (kid e0 0))) [] (kid e0 0).pos] [] e0.pos
  | .isi t a, e0 => .Call (.Name "isinstance" (fnE e0).pos) [toE a (kid e0 0), .Name (tyS t) (kid e0 1).pos] [] e0.pos
  | .mth m o es, e0 => .Call (.Attribute (toE o (kid (fnE e0) 0)) (mtN m) (fnE e0).pos) (toEs es (kids e0)) [] e0.pos
  | .lc _ elt tg it ifs, e0 => .ListComp (toE elt (kid e0 0)) [⟨toT tg (gnE e0).target, toI it (gnE e0).iter, toEs ifs (gnE e0).ifs, 0⟩] (scE e0) e0.pos
  | .lcm _ elt tg it ifs, e0 => .ListComp (toE elt (kid e0 0)) [⟨toT tg (gnE e0).target, toI it (gnE e0).iter, toEs ifs (gnE e0).ifs, 0⟩] (scE e0) e0.pos
  | .dcc _ _ k v tg it ifs, e0 => .DictComp (toE k (kid e0 0)) (toE v (kid e0 1)) [⟨toT tg (gnE e0).target, toI it (gnE e0).iter, toEs ifs (gnE e0).ifs, 0⟩] (scE e0) e0.pos
  | .xfl _ f, e0 => .Attribute (.Name (nm (kid e0 0)) (kid e0 0).pos) (fldS f) e0.pos
  | .xis _ _, e0 => .Call (.Name "isinstance" (fnE e0).pos) [.Name (nm (kid e0 0)) (kid e0 0).pos, .Name (nm (kid e0 1)) (kid e0 1).pos] [] e0.pos
def toEs : MEs → List Expr → List Expr
  | .nil, _ => []
  | .cons e r, l => toE e (l.headD dE) :: toEs r l.tail
def toO : MOp → Expr → Option Expr
  | .no, _ => none
  | .some e, e0 => some (toE e e0)
def toI : MI → Expr → Expr
  | .seq e, e0 => toE e e0
  | .rng es, e0 => .Call (.Name "range" (fnE e0).pos) (toEs es (kids e0)) [] e0.pos
  | .enu e, e0 => .Call (.Name "enumerate" (fnE e0).pos) [toE e (kid e0 0)] [] e0.pos
  | .zip a b, e0 => .Call (.Name "zip" (fnE e0).pos) [toE a (kid e0 0), toE b (kid e0 1)] [] e0.pos
  | .rvd e, e0 => .Call (.Name "reversed" (fnE e0).pos) [toE e (kid e0 0)] [] e0.pos
  | .itm e, e0 => .Call (.Attribute (toE e (kid (fnE e0) 0)) "items" (fnE e0).pos) [] [] e0.pos
end

/-! ### what a context must tell -/
inductive GK where
  | con (k : Nat) | fn (f : Nat) | cls (c : Nat) | bi
structure Sc where
  N : List Str
  sc : Scope
  gl : List (Str × GK)
  hot : Bool
  tr : Bool
  xj : Nat
def glO (S : Sc) (x : Str) : Bool := decide (S.sc.names.lookup x = some .globalImplicit) && decide (x ≠ "__name__") && !(x == ("__debug__" : Str))
def visO (S : Sc) (x : Str) : Bool := (decide (S.sc.names.lookup x = some .local) || decide (S.sc.names.lookup x = some .cell) || decide (S.sc.names.lookup x = some .free)) && !(x == ("__debug__" : Str)) && !(x == ("__classdict__" : Str))
def locO (S : Sc) (fl : Str → Bool) (x : Str) : Bool := decide (S.sc.names.lookup x = some .local) || (decide (S.sc.names.lookup x = some .cell) && fl x)
def gkO (S : Sc) (x : Str) : Option GK := S.gl.lookup x
def isBi (S : Sc) (x : Str) : Bool := glO S x && (match gkO S x with | some .bi => true | _ => false)
def isCon (S : Sc) (x : Str) (k : Nat) : Bool := glO S x && (match gkO S x with | some (.con j) => decide (j = k) | _ => false)
def isFn (S : Sc) (x : Str) (k : Nat) : Bool := glO S x && (match gkO S x with | some (.fn j) => decide (j = k) | _ => false)
def isCls (S : Sc) (x : Str) (k : Nat) : Bool := glO S x && (match gkO S x with | some (.cls j) => decide (j = k) | _ => false)
def ownP (S : Sc) (own : List Nat) : List (Str × Nat) := own.map fun i => (S.N.getD i ⟨#[]⟩, i)
def inner (S : Sc) (scope : Scope) : Sc := { S with sc := relS scope S.sc }
def conOk : PV → Bool
  | .non => true
  | .bl _ => true
  | .int _ => true
  | .str s => decide (s.length ≤ 1000)
  | _ => false
def isTp : MT → Bool
  | .tp _ => true
  | _ => false
mutual
def wfT (S : Sc) (fl : Str → Bool) : MT → Expr → Bool
  | .nm i, e0 => decide (S.N[i]? = some (nm e0)) && locO S fl (nm e0)
  | .tp ts, e0 => !S.hot && wfTs S fl ts (kids e0)
def wfTs (S : Sc) (fl : Str → Bool) : MTs → List Expr → Bool
  | .nil, _ => true
  | .cons t r, l => wfT S fl t (l.headD dE) && wfTs S fl r l.tail
end
def mtsLen : MTs → Nat
  | .nil => 0
  | .cons _ r => mtsLen r + 1
def mesLen : MEs → Nat
  | .nil => 0
  | .cons _ r => mesLen r + 1
/-- the methods that are carried, by the number of their arguments -/
def mtOk : Mt → Nat → Bool
  | .append, 1 => true
  | .extend, 1 => true
  | .pop, 0 => true
  | .popAt, 1 => true
  | .index, 1 => true
  | _, _ => false
mutual
def wfE (S : Sc) : ME → Expr → Bool
  | .var i, e0 => decide (S.N[i]? = some (nm e0)) && visO S (nm e0)
  | .cst c, _ => conOk c
  | .glb k, e0 => isCon S (nm e0) k
  | .bin _ a b, e0 => wfE S a (kid e0 0) && wfE S b (kid e0 1)
  | .bnm o a b, e0 => wfE S a (kid e0 0) && wfE S b (kid e0 1) && (decide (o = .add) || decide (o = .mul))
  | .neg a, e0 => wfE S a (kid e0 0)
  | .not a, e0 => wfE S a (kid e0 0)
  | .cmp _ a b, e0 => wfE S a (kid e0 0) && wfE S b (kid e0 1)
  | .chn o p a b c, e0 => wfE S a (kid e0 0) && wfE S b (kid e0 1) && wfE S c (kid e0 2) && decide (o ≠ .isin) && decide (o ≠ .notin) && decide (p ≠ .isin) && decide (p ≠ .notin)
  | .and es, e0 => wfEs S es (kids e0) && decide (0 < mesLen es)
  | .or es, e0 => wfEs S es (kids e0) && decide (0 < mesLen es)
  | .ife c a b, e0 => wfE S c (kid e0 0) && wfE S a (kid e0 1) && wfE S b (kid e0 2)
  | .ix a i, e0 => wfE S a (kid e0 0) && wfE S i (kid e0 1)
  | .sl a lo hi, e0 => wfE S a (kid e0 0) && wfO S lo (kid (kid e0 1) 0) && wfO S hi (kid (kid e0 1) 1)
  | .rev a, e0 => wfE S a (kid e0 0)
  | .tup es, e0 => wfEs S es (kids e0)
  | .lst _ es, e0 => wfEs S es (kids e0)
  | .dc0 _ _, _ => true
  | .dc1 _ k v, e0 => !S.hot && wfE S k (dkE e0) && wfE S v (dvE e0)
  | .call f es, e0 => !S.hot && isFn S (nm (fnE e0)) f && wfEs S es (kids e0) && decide (0 < mesLen es)
  | .bif b es, e0 => !S.hot && isBi S (biN b) && wfEs S es (kids e0) && decide (0 < mesLen es)
  | .bil b _ es, e0 => !S.hot && isBi S (blN b) && wfEs S es (kids e0) && decide (0 < mesLen es)
  | .lrg _ es, e0 => !S.hot && isBi S "list" && isBi S "range" && wfEs S es (kids (kid e0 0)) && (decide (mesLen es = 1) || decide (mesLen es = 2))
  | .isi t a, e0 => isBi S "isinstance" && isBi S (tyS t) && wfE S a (kid e0 0)
  | .mth m o es, e0 => wfE S o (kid (fnE e0) 0) && wfEs S es (kids e0) && (mtOk m (mesLen es) || (decide (m = .get) && decide (mesLen es = 2))) && decide ((fnE e0).pos.endLine = e0.pos.line)
  | .lc own elt tg it ifs, e0 => !S.hot && wfI S it (gnE e0).iter tg && blkC S.N S.sc (scE e0) (ownP S own) &&
      wfT (inner S (scE e0)) (fun x => (scE e0).names.lookup x == some .cell) tg (gnE e0).target && wfE (inner S (scE e0)) elt (kid e0 0) && wfEs (inner S (scE e0)) ifs (gnE e0).ifs &&
      decide (mesLen ifs ≤ 1) && tgIn tg own
  | .lcm own elt tg it ifs, e0 => !S.hot && wfI S it (gnE e0).iter tg && blkC S.N S.sc (scE e0) (ownP S own) &&
      wfT (inner S (scE e0)) (fun x => (scE e0).names.lookup x == some .cell) tg (gnE e0).target && wfE (inner S (scE e0)) elt (kid e0 0) && wfEs (inner S (scE e0)) ifs (gnE e0).ifs &&
      decide (mesLen ifs ≤ 1) && tgIn tg own
  | .dcc _ own k v tg it ifs, e0 => !S.hot && wfI S it (gnE e0).iter tg && blkC S.N S.sc (scE e0) (ownP S own) &&
      wfT (inner S (scE e0)) (fun x => (scE e0).names.lookup x == some .cell) tg (gnE e0).target && wfE (inner S (scE e0)) k (kid e0 0) && wfE (inner S (scE e0)) v (kid e0 1) && wfEs (inner S (scE e0)) ifs (gnE e0).ifs &&
      decide (mesLen ifs ≤ 1) && tgIn tg own
  | .xfl j _, e0 => S.hot && S.tr && decide (S.xj = j) && decide (S.N[j]? = some (nm (kid e0 0))) && visO S (nm (kid e0 0))
  | .xis j c, e0 => S.hot && S.tr && decide (S.xj = j) && decide (S.N[j]? = some (nm (kid e0 0))) && visO S (nm (kid e0 0)) && isBi S "isinstance" && (isCls S (nm (kid e0 1)) c || (decide (c = 6) && decide (nm (kid e0 1) = "ValueError") && isBi S "ValueError"))
def wfEs (S : Sc) : MEs → List Expr → Bool
  | .nil, _ => true
  | .cons e r, l => wfE S e (l.headD dE) && wfEs S r l.tail
def wfO (S : Sc) : MOp → Expr → Bool
  | .no, _ => true
  | .some e, e0 => wfE S e e0
def wfI (S : Sc) : MI → Expr → MT → Bool
  | .seq e, e0, _ => wfE S e e0
  | .rng es, e0, _ => isBi S "range" && wfEs S es (kids e0) && decide (0 < mesLen es) && decide (mesLen es ≤ 3)
  | .enu e, e0, tg => isBi S "enumerate" && isTp tg && wfE S e (kid e0 0)
  | .zip a b, e0, tg => isBi S "zip" && isTp tg && wfE S a (kid e0 0) && wfE S b (kid e0 1)
  | .rvd e, e0, _ => isBi S "reversed" && wfE S e (kid e0 0)
  | .itm _, _, _ => false
/-- the targets are the comprehension's own -/
def tgIn : MT → List Nat → Bool
  | .nm i, own => own.contains i
  | .tp ts, own => tgsIn ts own
def tgsIn : MTs → List Nat → Bool
  | .nil, _ => true
  | .cons t r, own => tgIn t own && tgsIn r own
end
/-- other places hidden -/
def XC.zz (C : XC) (z : List Addr) : XC := { C with K := ⟨C.K.f, z, C.K.x⟩ }
theorem XC.zz_zz (C : XC) (z z' : List Addr) : (C.zz z).zz z' = C.zz z' := rfl
/-- a def called: its promise by an evaluation f -/
def spF (C : XC) (f : List PV → MHp → Res PV) : Sp := fun vs H Q E => ∃ z M h args, HRel (C.zz z).K M H h ∧ RVs (C.zz z).K M H args vs ∧ Out (C.zz z) E Q M H (f args h)
/-- a def __init__ of an own exception: self.f = .. -/
def spI (a : Addr) (fl : List Str) : Sp := fun vs H Q _ => vs.length = fl.length + 1 ∧ ∃ s ws, vs = .ref s :: ws ∧ H s = some (exo s a none) ∧
  ∀ d, H d = none → d ≠ s → ∀ fs, (∀ (i : Nat) (v : V) (n : Str), ws[i]? = some v → fl[i]? = some n → fs.lookup n = some v) → Q .non (upd (upd H d (exd d fs)) s (exo s a (some d)))
def GF (X : Cx) (P : Prog) (F : Fn) (C : XC) (hot : Bool) : GK → Str → Prop
  | .con k, x => ∃ u v p, X.mg x = some u ∧ RelV v u ∧ P.con k = some p ∧ ∀ z M H, RV (C.zz z).K M H p v
  | .fn f, x => hot = false → ∃ (lv : Nat) (fa : Addr) (fd : FuncData) (ps : List Str), X.mg x = some (.ref fa) ∧ PySem.W.keepIn X.K (.ref fa) = true ∧ Binds X.K fd ps [] ∧
      FnOk X.prog X.w X.K X.mg X.base (L2.CX X.prog X.w) lv fa fd ps (spF C (F f)) ∧ Room lv X.A
  | .cls c, x => ∃ a, C.ca c = some a ∧ X.mg x = some (.ref a) ∧ (hot = false → C.fld c ≠ [] → ∃ (lv : Nat) (fI : Addr) (fd : FuncData) (ps : List Str), OexC X.K a ∧ PySem.W.findIn X.K (.ref a) "__init__" = some (some (.ref fI)) ∧ PySem.W.typeIn X.K (.ref fI) = some (.type "function") ∧
      FnOk X.prog X.w X.K X.mg X.base (L2.CX X.prog X.w) lv fI fd ps (spI a (C.fld c)) ∧ Room (lv + 1) X.A ∧ Binds X.K fd ps [])
  | .bi, x => X.mg x = none
/-- what an own exception class must tell, so that its instances are caught, read -/
structure ClsK (K : PySem.W.Frag) (a : Addr) (fl : List Str) : Prop where
  ga : PySem.W.findIn K (.ref a) "__getattribute__" = some (some (.builtin "BaseException.__getattribute__"))
  gg : PySem.W.findIn K (.ref a) "__getattr__" = some none
  sb : PySem.W.subIn K (.ref a) (.type "BaseException") = some true
  hd : PySem.W.hasDictIn K a = true
  ha : PySem.W.findIn K (.ref a) "__class__" = some (some (.builtin "object.__class__"))
  hm : PySem.W.mroIn K a (.type "object") = some true
  nf : ∀ n ∈ fl, PySem.W.findIn K (.ref a) n = some none
structure ClsF (K : PySem.W.Frag) (ca : Nat → Option Addr) (P : Prog) : Prop where
  cls : ∀ k a, ca k = some a → ClsK K a (fldC k)
  hn : PySem.W.specialIn K (.builtin "object.__class__") "__get__" = some (some (.builtin "getset_descriptor.__get__"))
  ht : PySem.W.takesIn K (.builtin "object.__class__") = some true
  exm : ∀ k a k' a', ca k = some a → ca k' = some a' → PySem.W.exmOne K (.ref a) (.ref a') = some (P.sub k k')
  kit : ∀ k a k' a', ca k = some a → ca k' = some a' → PySem.W.kitOne K (.ref a) (.ref a') = some (P.sub k k')
  ve : ∀ k a, ca k = some a → PySem.W.kitOne K (.ref a) (.type "ValueError") = some (P.sub k 6)
  pf : ∀ k, (P.fld k).map fldS = fldC k
/-- the except suite that we are in, if we are in one -/
abbrev XQ (X : Cx) (S : Sc) (C : XC) : Prop := (S.hot = false ∧ C.K.x = none ∧ C.cx = none) ∨ (S.hot = true ∧ ∃ q, C.K.x = some q ∧ C.cx = some q.m ∧ S.xj = q.j ∧ C.ca q.m.cls = some q.c ∧
  ∃ (X0 : Cx) (oe : Obj) (pn : List (Addr × Obj)), X = X0.suite q.a ((q.a, oe) :: pn) ∧ Zc (.ref q.c) (some q.d) oe ∧ ∃ vs, oe.data = .fields vs)
structure Cok (X : Cx) (S : Sc) (P : Prog) (F : Fn) (C : XC) (W : WX) : Prop where
  hK : X.K = C.K.f
  hN : X.N = S.N
  nd : S.N.Nodup
  hsc : X.env.scope = S.sc
  calm : S.hot = false → X.calm = true
  hun : X.A.units + 70 < cLine
  glb : ∀ x g, S.gl.lookup x = some g → GF X P F C S.hot g x
  tk : Takes X W
  hf : C.fld = fldC
  xq : XQ X S C
  cf : S.tr = true → ClsF X.K C.ca P
section
variable {X : Cx} {S : Sc} {P : Prog} {F : Fn} {C : XC} {W : WX}
theorem Cok.gl (c : Cok X S P F C W) {x : Str} (h : glO S x = true) : Gl X x ∧ x ≠ "__name__" ∧ (x == ("__debug__" : Str)) = false := by
  unfold glO at h
  rw [Bool.and_eq_true, Bool.and_eq_true] at h
  refine ⟨?_, of_decide_eq_true h.1.2, by simpa using h.2⟩
  show X.env.scope.names.lookup x = _
  rw [c.hsc]
  exact of_decide_eq_true h.1.1
theorem Cok.bi (c : Cok X S P F C W) {x : Str} (h : isBi S x = true) : Gl X x ∧ X.mg x = none ∧ x ≠ "__name__" ∧ (x == ("__debug__" : Str)) = false := by
  unfold isBi at h
  rw [Bool.and_eq_true] at h
  obtain ⟨g, n, d⟩ := c.gl h.1
  have h2 := h.2
  split at h2
  · rename_i e
    exact ⟨g, c.glb x _ e, n, d⟩
  · cases h2
theorem Cok.con (c : Cok X S P F C W) {x : Str} {k : Nat} (h : isCon S x k = true) : Gl X x ∧ (x == ("__debug__" : Str)) = false ∧ ∃ u v p, X.mg x = some u ∧ RelV v u ∧ P.con k = some p ∧ ∀ z M H, RV (C.zz z).K M H p v := by
  unfold isCon at h
  rw [Bool.and_eq_true] at h
  obtain ⟨g, n, d⟩ := c.gl h.1
  have h2 := h.2
  split at h2
  · rename_i j e
    have := of_decide_eq_true h2
    subst this
    exact ⟨g, d, c.glb x _ e⟩
  · cases h2
theorem Cok.fn (c : Cok X S P F C W) {x : Str} {k : Nat} (h : isFn S x k = true) (hh : S.hot = false) : Gl X x ∧ (x == ("__debug__" : Str)) = false ∧ ∃ (lv : Nat) (fa : Addr) (fd : FuncData) (ps : List Str), X.mg x = some (.ref fa) ∧ PySem.W.keepIn X.K (.ref fa) = true ∧ Binds X.K fd ps [] ∧
      FnOk X.prog X.w X.K X.mg X.base (L2.CX X.prog X.w) lv fa fd ps (spF C (F k)) ∧ Room lv X.A := by
  unfold isFn at h
  rw [Bool.and_eq_true] at h
  obtain ⟨g, n, d⟩ := c.gl h.1
  have h2 := h.2
  split at h2
  · rename_i j e
    have := of_decide_eq_true h2
    subst this
    exact ⟨g, d, c.glb x _ e hh⟩
  · cases h2
theorem Cok.vis (c : Cok X S P F C W) {x : Str} (h : visO S x = true) : Vis X.env.scope x ∧ (x == ("__debug__" : Str)) = false ∧ (x == ("__classdict__" : Str)) = false := by
  unfold visO at h
  rw [Bool.and_eq_true, Bool.and_eq_true, Bool.or_eq_true, Bool.or_eq_true] at h
  refine ⟨?_, by simpa using h.1.2, by simpa using h.2⟩
  rw [c.hsc]
  rcases h.1.1 with (e | e) | e
  · exact .inl (of_decide_eq_true e)
  · exact .inr (.inl (of_decide_eq_true e))
  · exact .inr (.inr (of_decide_eq_true e))
theorem XE.false {u : Value} {s' : Shared} (x : XE X (fun _ _ _ _ => False) u s') : False := by
  obtain ⟨_, _, _, _, _, _, _, _, _, _, _, _, _, _, _, _, w⟩ := x
  exact w
theorem Takes.none : Takes X (fun _ _ _ _ => False) := fun _ _ x => (XE.false x).elim
/-- the context of a comprehension's block -/
theorem Cok.hx (c : Cok X S P F C W) (hh : S.hot = false) : C.K.x = none ∧ C.cx = none := by
  rcases c.xq with ⟨_, h⟩ | ⟨h, _⟩
  · exact h
  · rw [hh] at h; cases h
theorem Cok.blk (c : Cok X S P F C W) (hh : S.hot = false) (s : Shared) (H : Hp) (scope : Scope) (cl : List (Str × Addr)) (D : Addr) (fp : List Addr) : Cok (X.blk s H scope (compEnvC scope cl D X.env) fp) (inner S scope) P F C (fun _ _ _ _ => False) where
  hK := c.hK
  hN := c.hN
  nd := c.nd
  hsc := by
    show relabel scope X.env = relS scope S.sc
    rw [← c.hsc]
    rfl
  calm := c.calm
  hun := c.hun
  glb := c.glb
  tk := Takes.none
  hf := c.hf
  xq := Or.inl ⟨hh, c.hx hh⟩
  cf := c.cf
theorem Cok.zz (c : Cok X S P F C W) (z : List Addr) : Cok X S P F (C.zz z) W := ⟨c.hK, c.hN, c.nd, c.hsc, c.calm, c.hun, c.glb, c.tk, c.hf, c.xq, c.cf⟩
theorem XC.zz_self (C : XC) : C.zz C.K.z = C := rfl
end
end Qm

/-! S6: targets; what a loop walks; a comprehension. -/
namespace Qm
open PySem PySem.Spec PyProof.Rows L2

/-! ### targets -/
/-- (a, b, ..) = a tuple or a list of that length -/
def gSq (K : PySem.W.Frag) (n : Nat) (t : TGs) : TG := fun v σ H Q => ∃ a xs, v = .ref a ∧ (SqT K H a xs ∨ SqL K H a xs) ∧ xs.length = n ∧ t xs σ H Q
theorem pg_sq {X : Cx} {es : List Expr} {k : Nat} {t : TGs} {n : Nat} {pos : Pos} (hc : X.calm = true) (h : PGs X es t) (hn : (assignEach es X.env).length = n) (hst : (assignEach es X.env).findIdx? (·.1) = none) : PG X (.Tuple es k pos) (gSq X.K n t) := by
  refine ⟨fun pins s σ H v u Q I r hw => ?_⟩
  obtain ⟨a, xs, e1, hq, hl, hw⟩ := hw
  rcases hq with hq | hq
  · exact (pg_tup (k := k) (pos := pos) hc h hn hst).run pins s σ H v u Q I r ⟨a, xs, e1, hq, hl, hw⟩
  · exact (pg_lst (k := k) (pos := pos) hc h hn hst).run pins s σ H v u Q I r ⟨a, xs, e1, hq, hl, hw⟩
mutual
def gT (K : PySem.W.Frag) : MT → TG
  | .nm i => gName i
  | .tp ts => gSq K (mtsLen ts) (gTs K ts)
def gTs (K : PySem.W.Frag) : MTs → TGs
  | .nil => gNil
  | .cons t r => gCons (gT K t) (gTs K r)
end
section
variable {X : Cx} {S : Sc} {P : Prog} {F : Fn} {C : XC} {W : WX} {fl : Str → Bool}
theorem toTs_len : ∀ (ts : MTs) (l : List Expr), (toTs ts l).length = mtsLen ts
  | .nil, _ => by rw [toTs]; rfl
  | .cons t r, l => by rw [toTs, List.length_cons, toTs_len r, mtsLen]
theorem assignEach_toT (env : PySem.Env) (t : MT) (e0 : Expr) (es : List Expr) : assignEach (toT t e0 :: es) env = (false, assign (toT t e0) env) :: assignEach es env := by
  cases t <;> rw [toT] <;> rfl
theorem assignEach_len (env : PySem.Env) : ∀ (ts : MTs) (l : List Expr), (assignEach (toTs ts l) env).length = mtsLen ts
  | .nil, _ => by rw [toTs]; rfl
  | .cons t r, l => by rw [toTs, assignEach_toT, List.length_cons, assignEach_len env r, mtsLen]
theorem assignEach_star (env : PySem.Env) : ∀ (ts : MTs) (l : List Expr), (assignEach (toTs ts l) env).findIdx? (·.1) = none
  | .nil, _ => by rw [toTs]; rfl
  | .cons t r, l => by
    rw [toTs, assignEach_toT, List.findIdx?_cons]
    simp [assignEach_star env r]
mutual
theorem pg_sound (hN : X.N = S.N) (nd : S.N.Nodup) (hsc : X.env.scope = S.sc) (hK : X.K = C.K.f) (calm : S.hot = false → X.calm = true) (hfl : ∀ x, fl x = true → X.fn x = true) :
    ∀ (t : MT) (e0 : Expr), wfT S fl t e0 = true → PG X (toT t e0) (gT C.K.f t)
  | .nm i, e0, h => by
    rw [wfT, Bool.and_eq_true] at h
    have h1 := of_decide_eq_true h.1
    have h2 := h.2
    unfold locO at h2
    rw [toT, gT]
    have hl : Loc X.env.scope (nm e0) ∧ (X.fn (nm e0) = true ∨ X.env.scope.names.lookup (nm e0) = some .local) := by
      rw [hsc]
      rw [Bool.or_eq_true, Bool.and_eq_true] at h2
      rcases h2 with e | ⟨e, f⟩
      · exact ⟨.inl (of_decide_eq_true e), .inr (of_decide_eq_true e)⟩
      · exact ⟨.inr (of_decide_eq_true e), .inl (hfl _ f)⟩
    exact pg_name (by rw [hN]; exact nd) (by rw [hN]; exact h1) hl.1 hl.2
  | .tp ts, e0, h => by
    rw [wfT, Bool.and_eq_true] at h
    rw [toT, gT]
    have h1 : S.hot = false := by simpa using h.1
    have := pg_sq (X := X) (k := kn e0) (pos := e0.pos) (n := mtsLen ts) (calm h1) (pgs_sound hN nd hsc hK calm hfl ts (kids e0) h.2) (assignEach_len _ ts _) (assignEach_star _ ts _)
    rw [hK] at this
    exact this
theorem pgs_sound (hN : X.N = S.N) (nd : S.N.Nodup) (hsc : X.env.scope = S.sc) (hK : X.K = C.K.f) (calm : S.hot = false → X.calm = true) (hfl : ∀ x, fl x = true → X.fn x = true) :
    ∀ (ts : MTs) (l : List Expr), wfTs S fl ts l = true → PGs X (toTs ts l) (gTs C.K.f ts)
  | .nil, l, _ => by rw [toTs, gTs]; exact pgs_nil
  | .cons t r, l, h => by
    rw [wfTs, Bool.and_eq_true] at h
    rw [toTs, gTs]
    exact pgs_cons (pg_sound hN nd hsc hK calm hfl t _ h.1) (pgs_sound hN nd hsc hK calm hfl r _ h.2) (by rw [assignEach_toT]; rfl)
end
/-- a store, by the environment -/
theorem ERel.set {K : KZ} {M : List Addr} {H : Hp} {σ : L2.St} {env : Env} {i : Nat} {p : PV} {v : V} (r : ERel K M H σ env) (rv : RV K M H p v) : ERel K M H (σ.set i (some v)) (env.set i (some p)) := by
  refine ⟨by simp [r.1], fun j q e => ?_, fun q hq he => ?_⟩
  rotate_left
  · have hne : i ≠ q.j := fun z => by
      rw [← z] at he
      by_cases hl : i < env.length
      · rw [List.getElem?_set_self hl] at he; cases he
      · rw [List.getElem?_eq_none (by simpa using hl)] at he; cases he
    rw [List.getElem?_set_ne hne] at he ⊢
    exact r.xs q hq he
  by_cases h : i = j
  · subst h
    have hl : i < env.length := by
      have := (List.getElem?_eq_some_iff.mp e).1
      simpa using this
    rw [List.getElem?_set_self hl] at e
    cases e
    exact ⟨v, by rw [List.getElem?_set_self (by rw [← r.1]; exact hl)], rv⟩
  · rw [List.getElem?_set_ne h] at e
    obtain ⟨w, e1, r1⟩ := r.2 j q e
    exact ⟨w, by rw [List.getElem?_set_ne h]; exact e1, r1⟩
mutual
theorem gT_ok {M : List Addr} {H : Hp} {Q : L2.St → Hp → Prop} : ∀ {t : MT} {σ : L2.St} {env env' : Env} {p : PV} {v : V}, ERel C.K M H σ env → RV C.K M H p v → asgT t p env = some env' → (∀ σ', ERel C.K M H σ' env' → Q σ' H) → gT C.K.f t v σ H Q
  | .nm i, σ, env, env', p, v, er, rv, e, k => by
    rw [asgT] at e
    cases e
    rw [gT]
    exact k _ (er.set rv)
  | .tp ts, σ, env, env', p, v, er, rv, e, k => by
    cases p with
    | tup xs =>
      rw [asgT] at e
      rw [gT]
      obtain ⟨a, vs, rfl, ta, rvs⟩ := rv_tup rv
      obtain ⟨h1, h2⟩ := gTs_ok er rvs e k
      exact ⟨a, vs, rfl, .inl ta.seq, by rw [rvs.len]; exact h1, h2⟩
    | lst xs =>
      rw [asgT] at e
      rw [gT]
      rw [RV] at rv
      obtain ⟨a, vs, rfl, _, _, hl, rvs⟩ := rv
      obtain ⟨h1, h2⟩ := gTs_ok er rvs e k
      exact ⟨a, vs, rfl, .inr (SqL.of hl), by rw [rvs.len]; exact h1, h2⟩
    | _ => simp [asgT] at e
theorem gTs_ok {M : List Addr} {H : Hp} {Q : L2.St → Hp → Prop} : ∀ {ts : MTs} {σ : L2.St} {env env' : Env} {xs : List PV} {vs : List V}, ERel C.K M H σ env → RVs C.K M H xs vs → asgTs ts xs env = some env' → (∀ σ', ERel C.K M H σ' env' → Q σ' H) →
    xs.length = mtsLen ts ∧ gTs C.K.f ts vs σ H Q
  | .nil, σ, env, env', xs, vs, er, rvs, e, k => by
    cases xs with
    | nil =>
      rw [asgTs] at e
      cases e
      rw [RVs] at rvs
      rw [gTs]
      exact ⟨rfl, rvs, k _ er⟩
    | cons _ _ => simp [asgTs] at e
  | .cons t r, σ, env, env', xs, vs, er, rvs, e, k => by
    cases xs with
    | nil => simp [asgTs] at e
    | cons x xs =>
      rw [asgTs] at e
      obtain ⟨env1, e1, e2⟩ := Option.bind_eq_some_iff.mp e
      rw [RVs] at rvs
      obtain ⟨v, vr, rfl, r1, r2⟩ := rvs
      have hl : xs.length = mtsLen r := asgTs_len e2
      refine ⟨by simp [hl, mtsLen], ?_⟩
      rw [gTs]
      refine ⟨v, vr, rfl, gT_ok er r1 e1 fun σ1 er1 => ?_⟩
      exact (gTs_ok er1 r2 e2 k).2
theorem asgTs_len : ∀ {ts : MTs} {xs : List PV} {env env' : Env}, asgTs ts xs env = some env' → xs.length = mtsLen ts
  | .nil, xs, _, _, e => by cases xs with | nil => rfl | cons _ _ => simp [asgTs] at e
  | .cons t r, xs, _, _, e => by
    cases xs with
    | nil => simp [asgTs] at e
    | cons x xs =>
      rw [asgTs] at e
      obtain ⟨_, _, e2⟩ := Option.bind_eq_some_iff.mp e
      simp [asgTs_len e2, mtsLen]
end

/-! ### what a loop walks -/
/-- J walks the items of r, from the heap H on, as long as what it walks stands -/
def ItOk (C : XC) (M0 : List Addr) (H0 : Hp) (r : Wk) (J : It) : Prop :=
  ∀ z, (∀ a ∈ z, a ∈ C.K.z ∨ H0 a = none) → ∀ M H h, Ext M0 H0 M H → HRel (C.zz z).K M H h → srcOk r.src h = true → ∀ i : Nat,
    (∀ x, r.items[i]? = some x → J.go i H ∧ ∀ v H', J.yld i H v H' → Ext M H M H' ∧ HRel (C.zz z).K M H' h ∧ RV (C.zz z).K M H' x v) ∧ (r.items.length ≤ i → J.stop i H)
def OutI (C : XC) (E : XK) (R : It → Hp → Prop) (M : List Addr) (H : Hp) (r : Res Wk) : Prop :=
  match r with
  | .ok it h' => it.items.length ≤ sizeLine → ∀ H' M' J, Ext M H M' H' → HRel C.K M' H' h' → ItOk C M' H' it J → R J H'
  | .exn x h' => ∀ cls d H' M', Ext M H M' H' → HRel C.K M' H' h' → XRel C M' H' x cls d → E cls d H'
  | .stuck => False
theorem OutI.shift {E : XK} {R : It → Hp → Prop} {M M1 : List Addr} {H H1 : Hp} {r : Res Wk} (o : OutI C E R M H r) (x : Ext M H M1 H1) : OutI C E R M1 H1 r := by
  cases r with
  | ok p h' => exact fun z H' M' J y => o z H' M' J (x.trans y)
  | exn e h' => exact fun c d H' M' y => o c d H' M' (x.trans y)
  | stuck => exact o
def RdI (C : XC) (W : WX) (f : Env → MHp → Res Wk) : TI := fun σ H R => ∃ M h env, HRel C.K M H h ∧ ERel C.K M H σ env ∧ OutI C (WE W σ) R M H (f env h)
theorem pi_weak {tg e : Expr} {t t' : TI} (a : PI X tg e t) (w : ∀ σ H R, t' σ H R → t σ H R) : PI X tg e t' := ⟨fun pins s σ H R I q => a.run pins s σ H R I (w σ H R q)⟩
theorem RdE.goI {σ : L2.St} {M : List Addr} {H : Hp} {h : MHp} {env : Env} {f : Sem1} {g : PV → MHp → Res Wk} {R : It → Hp → Prop} {Q : VK} (hr : HRel C.K M H h) (er : ERel C.K M H σ env) (o : OutI C (WE W σ) R M H ((f env h).bind g))
    (k : ∀ v H1 M1 h1 p, Ext M H M1 H1 → HRel C.K M1 H1 h1 → ERel C.K M1 H1 σ env → RV C.K M1 H1 p v → OutI C (WE W σ) R M1 H1 (g p h1) → Q v H1) : RdE C W f σ H Q :=
  RdE.step (O := fun M H r => OutI C (WE W σ) R M H r) hr er o (fun _ _ _ x o => o.shift x) (fun _ _ o => o) (fun z => z) k
theorem RdA.goI {σ : L2.St} {M : List Addr} {H : Hp} {h : MHp} {env : Env} {f : SemA} {g : List PV → MHp → Res Wk} {R : It → Hp → Prop} {Q : List V → Hp → Prop} (hr : HRel C.K M H h) (er : ERel C.K M H σ env) (o : OutI C (WE W σ) R M H ((f env h).bind g))
    (k : ∀ v H1 M1 h1 p, Ext M H M1 H1 → HRel C.K M1 H1 h1 → ERel C.K M1 H1 σ env → RVs C.K M1 H1 p v → OutI C (WE W σ) R M1 H1 (g p h1) → Q v H1) : RdA C W f σ H Q := by
  refine ⟨M, h, env, hr, er, ?_⟩
  cases e : f env h with
  | ok p h1 =>
    rw [e] at o
    exact fun v H1 M1 x hr1 rv => k v H1 M1 h1 p x hr1 (er.ext x) rv (o.shift x)
  | exn x h1 =>
    rw [e] at o
    exact o
  | stuck =>
    rw [e] at o
    exact o.elim
/-- a tuple, a list walked -/
theorem srcOk_ref {n : Nat} {o : MO} {h : MHp} {r : List (Nat × MO)} (e : srcOk ((n, o) :: r) h = true) : h[n]? = some o ∧ srcOk r h = true := by
  rw [srcOk, Bool.and_eq_true] at e
  exact ⟨of_decide_eq_true e.1, e.2⟩
/-- the items of a list, at every later heap -/
theorem list_stays {M0 M : List Addr} {H0 H : Hp} {h0 h : MHp} {x : PV} {v : V} {xs : List PV} (r : RV C.K M0 H0 x v) (e : itemsL x h0 = some xs) (ex : Ext M0 H0 M H) (hr : HRel C.K M H h) (src : srcOk (srcOf x xs) h = true) :
    ∃ a vs, v = .ref a ∧ vs.length ≤ sizeLine ∧ H a = some (.lst vs) ∧ RVs C.K M H xs vs := by
  cases x with
  | lst ys => exact itemsL_ok hr (r.ext ex) (by exact e)
  | ref n =>
    have := srcOk_ref (o := .lst xs) (r := []) src
    exact itemsL_ok (x := .ref n) hr (r.ext ex) (by simp [itemsL, this.1])
  | _ => simp [itemsL] at e
theorem itok_list {K : PySem.W.Frag} (hK : K = C.K.f) {M0 : List Addr} {H0 : Hp} {h0 : MHp} {x : PV} {a : Addr} {xs : List PV} (hr0 : HRel C.K M0 H0 h0) (r : RV C.K M0 H0 x (.ref a)) (e : itemsL x h0 = some xs) : ItOk C M0 H0 ⟨xs, srcOf x xs⟩ (Itl K a) := by
  intro z hz M H h ex hr src i
  obtain ⟨a', vs, ea, zz, hl, rvs⟩ := list_stays (C := C.zz z) (r.hids hz) e ex hr src
  cases ea
  refine ⟨fun y hy => ?_, fun hi => ?_⟩
  · obtain ⟨w, ew, rw_⟩ := rvs.get (show xs[i]? = some y from hy)
    refine ⟨⟨vs, w, SqL.of hl, ew⟩, fun v H' hyld => ?_⟩
    obtain ⟨rfl, hv⟩ := hyld
    have := hv vs (SqL.of hl)
    rw [ew] at this
    cases this
    exact ⟨Ext.refl, hr, rw_⟩
  · exact ⟨vs, SqL.of hl, by rw [rvs.len]; exact hi⟩
theorem itok_tup {K : PySem.W.Frag} (hK : K = C.K.f) {M0 : List Addr} {H0 : Hp} {a : Addr} {xs : List PV} (r : RV C.K M0 H0 (.tup xs) (.ref a)) : ItOk C M0 H0 ⟨xs, []⟩ (Itt K a) := by
  intro z hz M H h ex hr src i
  obtain ⟨a', vs, ea, ta, rvs⟩ := rv_tup (C := C.zz z) ((r.hids hz).ext ex)
  cases ea
  have hs : SqT K H a vs := by rw [hK]; exact ta.seq
  refine ⟨fun y hy => ?_, fun hi => ?_⟩
  · obtain ⟨w, ew, rw_⟩ := rvs.get (show xs[i]? = some y from hy)
    refine ⟨⟨vs, w, hs, ew⟩, fun v H' hyld => ?_⟩
    obtain ⟨rfl, hv⟩ := hyld
    have := hv vs hs
    rw [ew] at this
    cases this
    exact ⟨Ext.refl, hr, rw_⟩
  · exact ⟨vs, hs, by rw [rvs.len]; exact hi⟩
theorem len_rngI (lo : Int) (n : Nat) : (rngI lo n).length = n := by simp [rngI]
theorem itok_rng {M0 : List Addr} {H0 : Hp} {lo : Int} {n : Nat} : ItOk C M0 H0 ⟨rngI lo n, []⟩ (Itr lo n) := by
  intro z hz M H h ex hr src i
  refine ⟨fun y hy => ?_, fun hi => by rw [len_rngI] at hi; exact hi⟩
  have hy : (rngI lo n)[i]? = some y := hy
  have hi : i < n := by have := (List.getElem?_eq_some_iff.mp hy).1; rwa [len_rngI] at this
  simp only [rngI, List.getElem?_map, List.getElem?_range hi, Option.map_some, Option.some.injEq] at hy
  subst hy
  exact ⟨hi, fun v H' hyld => by obtain ⟨rfl, rfl⟩ := hyld; exact ⟨Ext.refl, hr, rv_i⟩⟩
theorem itok_rngC {M0 : List Addr} {H0 : Hp} {lo c : Int} {n : Nat} : ItOk C M0 H0 ⟨rngC lo c n, []⟩ (Itc lo c n) := by
  intro z hz M H h ex hr src i
  have hl : (rngC lo c n).length = n := by simp [rngC]
  refine ⟨fun y hy => ?_, fun hi => by rw [hl] at hi; exact hi⟩
  have hy : (rngC lo c n)[i]? = some y := hy
  have hi : i < n := by have := (List.getElem?_eq_some_iff.mp hy).1; rwa [hl] at this
  simp only [rngC, List.getElem?_map, List.getElem?_range hi, Option.map_some, Option.some.injEq] at hy
  subst hy
  exact ⟨hi, fun v H' hyld => by obtain ⟨rfl, rfl⟩ := hyld; exact ⟨Ext.refl, hr, rv_i⟩⟩
/-- what a for walks: a list or a tuple -/
theorem pi_seq (hK : X.K = C.K.f) {tg e : Expr} {f : Sem1} (he : PE X e (RdE C W f)) :
    PI X tg e (RdI C W fun env h => (f env h).bind fun x h1 => (ofOpt (itemsT x h1) h1).bind fun xs h2 => .ok ⟨xs, srcOf x xs⟩ h2) := by
  refine ⟨fun pins s σ H R I o => ?_⟩
  obtain ⟨M, h, env, hr, er, o⟩ := o
  have h1 : RdE C W f σ H (fun x H1 => ∃ a, x = .ref a ∧ ((∃ xs, SqL X.K H1 a xs) ∧ R (Itl X.K a) H1 ∨ (∃ xs, SqT X.K H1 a xs) ∧ R (Itt X.K a) H1)) := by
    refine RdE.goI hr er o fun v H1 M1 h1 p x1 hr1 er1 rv o1 => ?_
    cases ei : itemsT p h1 with
    | none => rw [ei] at o1; exact o1.elim
    | some xs =>
      rw [ei] at o1
      obtain ⟨a, vs, rfl, zz, alt, rvs⟩ := itemsT_ok hr1 rv ei
      have hz : xs.length ≤ sizeLine := by rw [← rvs.len]; exact zz
      refine ⟨a, rfl, ?_⟩
      rcases alt with ⟨⟨ys, rfl⟩, ht⟩ | ⟨el, hl⟩
      · cases ei
        exact .inr ⟨⟨vs, by rw [hK]; exact ht⟩, o1 hz H1 M1 _ Ext.refl hr1 (itok_tup hK rv)⟩
      · exact .inl ⟨⟨vs, SqL.of hl⟩, o1 hz H1 M1 _ Ext.refl hr1 (itok_list hK hr1 rv el)⟩
  refine thn (he.run pins s σ H _ I h1) fun v s1 ⟨x, H1, I1, r1, a, ex, alt⟩ => ?_
  subst ex
  cases r1
  rcases alt with ⟨⟨xs, hq⟩, q⟩ | ⟨⟨xs, hq⟩, q⟩
  · obtain ⟨its, rv, p, hz⟩ := I1.list hq
    refine wpAny_pyIter_list p.isList ?_
    refine ⟨s1.heap.objs.size, [s1.heap.objs.size], _, _, H1, rfl, I1.kept (t' := s1.toks) fun b o e => Heap.get?_push_of_some _ e, turn_list a _, ⟨_, Heap.get?_push_size _ rfl, rfl, rfl⟩, fun b hb => ?_, q⟩
    have e : b = s1.heap.objs.size := by simpa using hb
    subst e
    exact I1.fpOk (Nat.le_refl _) (I1.hok.fresh (Nat.le_refl _))
  · obtain ⟨its, rv, p, hz⟩ := I1.tuple hq
    refine wpAny_pyIter_tuple (show s1.heap.IsTuple a its.toArray from p) ?_
    refine ⟨s1.heap.objs.size, [s1.heap.objs.size], _, _, H1, rfl, I1.kept (t' := s1.toks) fun b o e => Heap.get?_push_of_some _ e, turn_tuple a _, ⟨_, Heap.get?_push_size _ rfl, rfl, rfl⟩, fun b hb => ?_, q⟩
    have e : b = s1.heap.objs.size := by simpa using hb
    subst e
    exact I1.fpOk (Nat.le_refl _) (I1.hok.fresh (Nat.le_refl _))
end
end Qm

/-! S7: ranges; comprehensions. -/
namespace Qm
open PySem PySem.Spec PyProof.Rows L2
section
variable {X : Cx} {S : Sc} {P : Prog} {F : Fn} {C : XC} {W : WX}
theorem big_line : (big : Nat) = sizeLine := big_eq
/-! ### range -/
theorem smallR_ok {i : Int} (h : smallR i = true) : -(2 ^ 62) ≤ i ∧ i < 2 ^ 62 := of_decide_eq_true h
theorem fromR {ys : List PV} {R : It → Hp → Prop} {E : XK} {σ : L2.St} {M : List Addr} {H : Hp} {h : MHp} {J : It} (hr : HRel C.K M H h) (z : ys.length ≤ sizeLine) (ok : ItOk C M H ⟨ys, []⟩ J) (o : OutI C E R M H (.ok ⟨ys, []⟩ h)) : R J H :=
  o z H M J Ext.refl hr ok
theorem rangeSize_up {i j c : Int} (hc : 0 < c) : Builtin.Range.rangeSize i j c = (((j - i + c - 1) / c).toNat : Nat) := by
  unfold Builtin.Range.rangeSize
  simp only [hc, if_true]
  by_cases h : i < j
  · rw [if_pos h]
    have e : (j - i + c - 1) / c = (j - i - 1) / c + 1 := by
      have : j - i + c - 1 = (j - i - 1) + 1 * c := by omega
      rw [this, Int.add_mul_ediv_right _ _ (by omega)]
    have h0 : 0 ≤ (j - i - 1) / c := Int.ediv_nonneg (by omega) (by omega)
    omega
  · rw [if_neg h]
    have : (j - i + c - 1) / c ≤ 0 := by
      have h1 : j - i + c - 1 < c := by omega
      have := Int.ediv_lt_of_lt_mul (c := c) (a := j - i + c - 1) (b := 1) hc (by omega)
      omega
    omega
theorem small_up {i j c : Int} (hi : smallR i = true) (hj : smallR j = true) (hc : 0 < c) (hc2 : c < 1000) (hs : (j - i).toNat ≤ big) : Builtin.Range.small i j c = true := by
  have h1 := smallR_ok hi
  have h2 := smallR_ok hj
  have hz : (((j - i + c - 1) / c).toNat : Int) ≤ 16777216 + 1000 ∧ (0 : Int) ≤ ((j - i + c - 1) / c).toNat := by
    refine ⟨?_, by omega⟩
    have : (j - i + c - 1) / c ≤ (16777216 + 1000 : Int) := by
      have h3 : j - i + c - 1 ≤ 16777216 + 1000 := by
        have : (j - i).toNat ≤ 16777216 := hs
        omega
      by_cases hn : 0 ≤ j - i + c - 1
      · exact Int.le_trans (Int.ediv_le_self _ hn) h3
      · have := Int.ediv_neg_of_neg_of_pos (a := j - i + c - 1) (b := c) (by omega) hc
        omega
    omega
  unfold Builtin.Range.small
  rw [rangeSize_up hc]
  generalize (((j - i + c - 1) / c).toNat : Int) = z at hz
  simp only [Builtin.Range.rangeFitsLong, Bool.and_eq_true, Bool.or_eq_true, decide_eq_true_eq, beq_iff_eq, show (c > 0) = True from eq_true hc, if_true]
  omega
theorem toE_star (e : ME) (e0 : Expr) (es : List Expr) (env : PySem.Env) : starEach (toE e e0 :: es) env = (false, eval (toE e e0) env) :: starEach es env := by
  cases e <;> rw [toE] <;> rfl
theorem toEs_star : ∀ (es : MEs) (l : List Expr) (pos : Pos) (env : PySem.Env), (backTo pos (starEach (toEs es l) env)).any (·.1) = false
  | .nil, l, pos, env => by rw [toEs]; rfl
  | .cons e r, l, pos, env => by
    rw [toEs, toE_star]
    have := toEs_star r l.tail pos env
    unfold backTo at this ⊢
    rw [List.map_cons, List.any_cons, this]
    rfl
theorem toEs_len : ∀ (es : MEs) (l : List Expr), (toEs es l).length = mesLen es
  | .nil, l => by rw [toEs]; rfl
  | .cons e r, l => by rw [toEs, List.length_cons, toEs_len r, mesLen]
theorem pi_rng (c : Cok X S P F C W) {tg : Expr} {es : MEs} {l : List Expr} {pf pos : Pos} (hl : mesLen es ≤ 3) (h0 : 0 < mesLen es) (hb : isBi S "range" = true) {f : SemA} (hlen : ∀ env h xs h', f env h = .ok xs h' → xs.length = mesLen es)
    (ha : PA X (toEs es l) (RdA C W f)) :
    PI X tg (.Call (.Name "range" pf) (toEs es l) [] pos) (RdI C W fun env h => (f env h).bind fun xs h1 => (ofOpt (rangeOf xs) h1).bind fun ys h2 => .ok ⟨ys, []⟩ h2) := by
  obtain ⟨g, m, _, _⟩ := c.bi hb
  have go : ∀ {σ : L2.St} {H : Hp} {R : It → Hp → Prop} {T : List V → Hp → Prop}, RdI C W (fun env h => (f env h).bind fun xs h1 => (ofOpt (rangeOf xs) h1).bind fun ys h2 => .ok ⟨ys, []⟩ h2) σ H R →
      (∀ (vs : List V) (H1 : Hp) (M1 : List Addr) (xs ys : List PV), RVs C.K M1 H1 xs vs → xs.length = mesLen es → rangeOf xs = some ys → (∀ J, ys.length ≤ sizeLine → (∀ (M : List Addr) (H : Hp), ItOk C M H ⟨ys, []⟩ J) → R J H1) → T vs H1) → RdA C W f σ H T := fun {σ H R T} o k => by
    obtain ⟨M, h, env, hr, er, o⟩ := o
    refine ⟨M, h, env, hr, er, ?_⟩
    dsimp only at o
    cases ef : f env h with
    | ok xs h1 =>
      rw [ef] at o
      intro vs H1 M1 x1 hr1 rv
      have o := o.shift x1
      cases e : rangeOf xs with
      | none => rw [Res.bind_ok, e] at o; exact o.elim
      | some ys =>
        rw [Res.bind_ok, e] at o
        exact k vs H1 M1 xs ys rv (hlen _ _ _ _ ef) e fun J z ok => o z H1 M1 J Ext.refl hr1 (ok _ _)
    | exn x h1 => rw [ef] at o; exact o
    | stuck => rw [ef] at o; exact o
  match es, h0, hl with
  | .cons a .nil, _, _ =>
    rw [toEs, toEs] at ha ⊢
    refine pi_weak (pi_range1 g m ha (by rw [toE_star]; rfl)) fun σ H R o => go o fun vs H1 M1 xs ys rv hx e k => ?_
    match xs, hx with
    | [x], _ =>
      obtain ⟨v, rfl, r⟩ := rvs1 rv
      unfold rangeOf at e
      split at e
      · rename_i j ex
        cases ex
        split at e
        · rename_i cc
          cases e
          rw [Bool.and_eq_true] at cc
          have := rv_int r; subst this
          have hs := smallR_ok cc.1
          exact ⟨j, rfl, hs.1, hs.2, k _ (by rw [len_rngI, ← big_line]; exact of_decide_eq_true cc.2) fun _ _ => itok_rng⟩
        · cases e
      · rename_i ex; cases ex
      · rename_i ex; cases ex
      · cases e
  | .cons a (.cons b .nil), _, _ =>
    rw [toEs, toEs, toEs] at ha ⊢
    refine pi_weak (pi_range2 g m ha (by rw [toE_star, toE_star]; rfl) (by rw [toE_star]; rfl)) fun σ H R o => go o fun vs H1 M1 xs ys rv hx e k => ?_
    match xs, hx with
    | [x, y], _ =>
      obtain ⟨v, w, rfl, r, r'⟩ := rvs2 rv
      unfold rangeOf at e
      split at e
      · rename_i ex; cases ex
      · rename_i i j ex
        cases ex
        split at e
        · rename_i cc
          cases e
          rw [Bool.and_eq_true, Bool.and_eq_true] at cc
          have := rv_int r; subst this
          have := rv_int r'; subst this
          have h1 := smallR_ok cc.1.1
          have h2 := smallR_ok cc.1.2
          exact ⟨i, j, rfl, ⟨h1.1, h1.2, h2.1, h2.2⟩, k _ (by rw [len_rngI, ← big_line]; exact of_decide_eq_true cc.2) fun _ _ => itok_rng⟩
        · cases e
      · rename_i ex; cases ex
      · cases e
  | .cons a (.cons b (.cons d .nil)), _, _ =>
    rw [toEs, toEs, toEs, toEs] at ha ⊢
    refine pi_weak (pi_range3 g m ha (by rw [toE_star]) (by rw [toE_star, toE_star]; rfl)) fun σ H R o => go o fun vs H1 M1 xs ys rv hx e k => ?_
    match xs, hx with
    | [x, y, z], _ =>
      rw [RVs] at rv
      obtain ⟨v, vr, rfl, r, rv⟩ := rv
      obtain ⟨w, u, rfl, r', r''⟩ := rvs2 rv
      unfold rangeOf at e
      split at e
      · rename_i ex; cases ex
      · rename_i ex; cases ex
      · rename_i i j cc ex
        cases ex
        have := rv_int r; subst this
        have := rv_int r'; subst this
        have := rv_int r''; subst this
        split at e
        · rename_i q
          cases e
          rw [Bool.and_eq_true, Bool.and_eq_true, Bool.and_eq_true, Bool.and_eq_true] at q
          have c1 : 0 < cc := of_decide_eq_true q.1.1.2
          have c2 : cc < 1000 := of_decide_eq_true q.1.2
          have c3 : (j - i).toNat ≤ big := of_decide_eq_true q.2
          refine ⟨i, j, cc, _, rfl, ⟨by omega, by omega, small_up q.1.1.1.1 q.1.1.1.2 c1 c2 c3, rangeSize_up c1⟩, k _ ?_ fun _ _ => itok_rngC⟩
          rw [show (rngC i cc ((j - i + cc - 1) / cc).toNat).length = ((j - i + cc - 1) / cc).toNat by simp [rngC], sizeLine_eq]
          have c3' : (j - i).toNat ≤ 16777216 := c3
          by_cases hn : 0 < j - i
          · have : (j - i + cc - 1) / cc ≤ j - i := by
              have e1 : j - i + cc - 1 = (j - i - 1) + 1 * cc := by omega
              rw [e1, Int.add_mul_ediv_right _ _ (by omega)]
              have := Int.ediv_le_self (a := j - i - 1) cc (by omega)
              omega
            omega
          · have : (j - i + cc - 1) / cc ≤ 0 := by
              have := Int.ediv_lt_of_lt_mul (c := cc) (a := j - i + cc - 1) (b := 1) c1 (by omega)
              omega
            omega
        · split at e
          · rename_i q
            cases e
            rw [Bool.and_eq_true, Bool.and_eq_true, Bool.and_eq_true] at q
            have h1 := smallR_ok q.1.1.1
            have h2 := smallR_ok q.1.1.2
            have c1 : cc = -1 := of_decide_eq_true q.1.2
            have c3 : (i - j).toNat ≤ big := of_decide_eq_true q.2
            subst c1
            refine ⟨i, j, -1, _, rfl, RgC.neg h1.1 h1.2 h2.1 h2.2, k _ ?_ fun _ _ => itok_rngC⟩
            rw [show (rngC i (-1) (i - j).toNat).length = (i - j).toNat by simp [rngC], ← big_line]
            exact c3
          · cases e
      · cases e
  | .nil, h0, _ => exact absurd h0 (by simp [mesLen])
  | .cons _ (.cons _ (.cons _ (.cons _ _))), _, hl => simp [mesLen] at hl
/-! ### comprehensions -/
theorem wipe_erel {K : KZ} {M : List Addr} {H : Hp} {σ : L2.St} {env : Env} (hx : K.x = none) (r : ERel K M H σ env) : ∀ own : List Nat, ERel K M H (wipe σ own) (wipeE env own)
  | [] => r
  | v :: vs => by
    have h := wipe_erel hx r vs
    rw [wipe, wipeE]
    refine ⟨by simp [h.1], fun i p e => ?_, fun q hq => by rw [hx] at hq; cases hq⟩
    by_cases hv : v = i
    · subst hv
      by_cases hl : v < (wipeE env vs).length
      · rw [List.getElem?_set_self hl] at e; cases e
      · rw [List.getElem?_eq_none (by simpa using hl)] at e; cases e
    · rw [List.getElem?_set_ne hv] at e
      obtain ⟨w, e1, r1⟩ := h.2 i p e
      exact ⟨w, by rw [List.getElem?_set_ne hv]; exact e1, r1⟩
theorem wipe_get {σ : L2.St} : ∀ (own : List Nat) (i : Nat), (wipe σ own)[i]? = if i ∈ own then (if i < σ.length then some none else none) else σ[i]?
  | [], i => by simp [wipe]
  | v :: vs, i => by
    rw [wipe]
    by_cases hv : v = i
    · subst hv
      simp only [List.mem_cons, true_or, if_true]
      by_cases hl : v < σ.length
      · rw [List.getElem?_set_self (by rw [wipe_length]; exact hl), if_pos hl]
      · rw [if_neg hl, List.getElem?_eq_none (by rw [List.length_set, wipe_length]; omega)]
    · rw [List.getElem?_set_ne hv, wipe_get vs i]
      have : i ∈ v :: vs ↔ i ∈ vs := by simp [Ne.symm hv]
      simp only [this]
theorem wipe_wipe {σ σ2 : L2.St} {own : List Nat} (h : ∀ i, i ∉ own → σ2[i]? = σ[i]?) (hl : σ2.length = σ.length) : wipe σ2 own = wipe σ own := by
  apply List.ext_getElem?
  intro i
  rw [wipe_get, wipe_get, hl]
  by_cases c : i ∈ own
  · rw [if_pos c, if_pos c]
  · rw [if_neg c, if_neg c, h i c]
mutual
/-- a target changes its own slots alone -/
theorem gT_own {K : PySem.W.Frag} {Q : L2.St → Hp → Prop} {own : List Nat} : ∀ {t : MT} {v : V} {σ : L2.St} {H : Hp}, tgIn t own = true → gT K t v σ H Q → gT K t v σ H (fun σ2 H2 => ((∀ i, i ∉ own → σ2[i]? = σ[i]?) ∧ σ2.length = σ.length) ∧ Q σ2 H2)
  | .nm i, v, σ, H, h, g => by
    rw [gT] at g ⊢
    have hi : i ∈ own := by
      rw [tgIn] at h
      exact List.contains_iff_mem.mp h
    refine ⟨⟨fun j hj => ?_, by simp⟩, g⟩
    rw [List.getElem?_set_ne]
    intro e
    exact hj (e ▸ hi)
  | .tp ts, v, σ, H, h, g => by
    rw [gT] at g ⊢
    rw [tgIn] at h
    obtain ⟨a, xs, e, q, l, g⟩ := g
    exact ⟨a, xs, e, q, l, gTs_own h g⟩
theorem gTs_own {K : PySem.W.Frag} {Q : L2.St → Hp → Prop} {own : List Nat} : ∀ {ts : MTs} {vs : List V} {σ : L2.St} {H : Hp}, tgsIn ts own = true → gTs K ts vs σ H Q → gTs K ts vs σ H (fun σ2 H2 => ((∀ i, i ∉ own → σ2[i]? = σ[i]?) ∧ σ2.length = σ.length) ∧ Q σ2 H2)
  | .nil, vs, σ, H, h, g => by
    rw [gTs] at g ⊢
    exact ⟨g.1, ⟨fun _ _ => rfl, rfl⟩, g.2⟩
  | .cons t r, vs, σ, H, h, g => by
    rw [gTs] at g ⊢
    rw [tgsIn, Bool.and_eq_true] at h
    obtain ⟨v, vr, e, g⟩ := g
    refine ⟨v, vr, e, ?_⟩
    have g1 := gT_own h.1 g
    refine gT_mono g1 fun σ1 H1 ⟨⟨k1, l1⟩, g2⟩ => ?_
    refine gTs_mono (gTs_own h.2 g2) fun σ2 H2 ⟨⟨k2, l2⟩, q⟩ => ⟨⟨fun i hi => (k2 i hi).trans (k1 i hi), l2.trans l1⟩, q⟩
theorem gT_mono {K : PySem.W.Frag} {Q Q' : L2.St → Hp → Prop} : ∀ {t : MT} {v : V} {σ : L2.St} {H : Hp}, gT K t v σ H Q → (∀ σ H, Q σ H → Q' σ H) → gT K t v σ H Q'
  | .nm i, v, σ, H, g, k => by rw [gT] at g ⊢; exact k _ _ g
  | .tp ts, v, σ, H, g, k => by
    rw [gT] at g ⊢
    obtain ⟨a, xs, e, q, l, g⟩ := g
    exact ⟨a, xs, e, q, l, gTs_mono g k⟩
theorem gTs_mono {K : PySem.W.Frag} {Q Q' : L2.St → Hp → Prop} : ∀ {ts : MTs} {vs : List V} {σ : L2.St} {H : Hp}, gTs K ts vs σ H Q → (∀ σ H, Q σ H → Q' σ H) → gTs K ts vs σ H Q'
  | .nil, vs, σ, H, g, k => by rw [gTs] at g ⊢; exact ⟨g.1, k _ _ g.2⟩
  | .cons t r, vs, σ, H, g, k => by
    rw [gTs] at g ⊢
    obtain ⟨v, vr, e, g⟩ := g
    exact ⟨v, vr, e, gT_mono g fun σ1 H1 g1 => gTs_mono g1 k⟩
end
/-- no exception in a block -/
abbrev W0 : WX := fun _ _ _ _ => False
/-- the readings, whatever is hidden -/
def RdEz (C : XC) (W : WX) (f : Sem1) : TE := fun σ H Q => ∃ z, RdE (C.zz z) W f σ H Q
def RdTz (C : XC) (W : WX) (f : Env → MHp → Res Bool) : TT := fun σ H Q => ∃ z, RdT (C.zz z) W f σ H Q
theorem ownP_snd (S : Sc) (own : List Nat) : (ownP S own).map (·.2) = own := by
  unfold ownP
  rw [List.map_map]
  exact List.map_id own
theorem lc_gen {fe : Sem1} {ft : Env → MHp → Res Bool} {fi : Env → MHp → Res Wk} {tg : MT} {own : List Nat} (hx : C.K.x = none) (hin : tgIn tg own = true) {σ : L2.St} {H : Hp} {Q : VK} (g : List PV → MHp → Res PV)
    (fin : ∀ {M1 M' : List Addr} {H1 H' : Hp} {h1 h' : MHp} {D : Addr} {acc : List V} {ys : List PV}, HRel C.K M1 H1 h1 → H1 D = none → Ext M1 H1 M' H' → HRel (C.K.hide D) M' H' h' → H' D = some (.lst acc) → acc.length ≤ sizeLine → RVs (C.K.hide D) M' H' ys acc → Out C (WE W σ) Q M1 H1 (g ys h') → Q (.ref D) H')
    (o : RdE C W (fun env h => (fi env h).bind fun r h1 => match loopC fe ft tg r.src r.items (wipeE env own) h1 with | .ok ys h2 => g ys h2 | _ => .stuck) σ H Q) :
    tLc (RdI C W fi) (gT C.K.f tg) (RdTz C W0 ft) (RdEz C W0 fe) own σ H Q := by
  obtain ⟨M, h, env, hr, er, o⟩ := o
  refine ⟨M, h, env, hr, er, ?_⟩
  dsimp only at o
  cases ef : fi env h with
  | stuck => rw [ef] at o; exact o
  | exn x h1 => rw [ef] at o; exact o
  | ok it h1 =>
    rw [ef] at o
    intro hz H1 M1 J x1 hr1 ok D hD
    have er1 := er.ext x1
    have o := o.shift x1
    rw [Res.bind_ok] at o
    cases eL : loopC fe ft tg it.src it.items (wipeE env own) h1 with
    | stuck => rw [eL] at o; exact o.elim
    | exn x h2 => rw [eL] at o; exact o.elim
    | ok ys hend =>
      rw [eL] at o
      -- D hidden
      have hd : D ∈ (C.K.hide D).z := List.mem_cons_self
      have w1 : ERel (C.K.hide D) M1 (upd H1 D (.lst [])) (wipe σ own) (wipeE env own) := (wipe_erel hx er1 own).hide hD
      refine ⟨fun i m H' => i ≤ it.items.length ∧ m = it.items.length - i ∧ ∃ (M' : List Addr) (h' : MHp) (acc : List V) (yacc rest : List PV), Ext M1 H1 M' H' ∧ HRel (C.K.hide D) M' H' h' ∧ ERel (C.K.hide D) M' H' (wipe σ own) (wipeE env own) ∧ H' D = some (.lst acc) ∧ acc.length ≤ i ∧
        RVs (C.K.hide D) M' H' yacc acc ∧ ys = yacc ++ rest ∧ loopC fe ft tg it.src (it.items.drop i) (wipeE env own) h' = .ok rest hend,
        ⟨it.items.length, Nat.zero_le _, rfl, M1, h1, [], [], ys, Ext.laid hD, hr1.hide hD, w1, upd_same, Nat.le_refl _, .nil, rfl, by simpa using eL⟩, ?_⟩
      rintro i m H' ⟨hi, rfl, M', h', acc, yacc, rest, xE, hr', w', eD, la, racc, ey, eLL⟩
      by_cases hlt : i < it.items.length
      · -- a turn
        refine .inr ?_
        have ei : it.items[i]? = some it.items[i] := List.getElem?_eq_getElem hlt
        have ed : it.items.drop i = it.items[i] :: it.items.drop (i + 1) := List.drop_eq_getElem_cons hlt
        rw [ed, loopC] at eLL
        split at eLL
        · rename_i src
          have hzz : ∀ a ∈ (C.K.hide D).z, a ∈ C.K.z ∨ H1 a = none := fun a ha => by
            rcases List.mem_cons.mp ha with rfl | ha
            · exact .inr hD
            · exact .inl ha
          obtain ⟨go, yld⟩ := (ok _ hzz M' H' h' xE hr' src i).1 _ ei
          refine ⟨go, fun H'' => i + 1 ≤ it.items.length ∧ ∃ (M' : List Addr) (h' : MHp) (acc : List V) (yacc rest : List PV), Ext M1 H1 M' H'' ∧ HRel (C.K.hide D) M' H'' h' ∧ ERel (C.K.hide D) M' H'' (wipe σ own) (wipeE env own) ∧ H'' D = some (.lst acc) ∧ acc.length ≤ i + 1 ∧
            RVs (C.K.hide D) M' H'' yacc acc ∧ ys = yacc ++ rest ∧ loopC fe ft tg it.src (it.items.drop (i + 1)) (wipeE env own) h' = .ok rest hend,
            fun H'' ⟨l, z⟩ => ⟨it.items.length - (i + 1), by omega, l, rfl, z⟩, fun v Hy hy => ?_⟩
          obtain ⟨xy, hry, rvy⟩ := yld v Hy hy
          have nD : D ∉ M' := (hr'.zs D hd).1
          have eDy := xy.keep D _ nD eD
          have erw := w'.ext xy
          split at eLL
          · cases eLL
          · rename_i env' ea
            refine gT_mono (gT_own hin (gT_ok (C := C.zz (C.K.hide D).z) (Q := fun σ2 H2 => ERel (C.K.hide D) M' Hy σ2 env' ∧ H2 = Hy) erw rvy ea fun σ' er' => ⟨er', rfl⟩)) fun σ2 H2 ⟨⟨k1, k2⟩, er2, eH⟩ => ?_
            subst eH
            refine ⟨?_, ?_⟩
            · rw [wipe_wipe k1 k2]
              refine wipe_wipe (fun i hi => ?_) (wipe_length _ _)
              rw [wipe_get, if_neg hi]
            · refine ⟨(C.K.hide D).z, M', h', env', hry, er2, ?_⟩
              cases et : ft env' h' with
              | stuck => rw [et] at eLL; cases eLL
              | exn x h2 => rw [et] at eLL; cases eLL
              | ok b h2 =>
                rw [et, Res.bind_ok] at eLL
                intro H3 M3 x3 hr3
                have eD3 := x3.keep D _ nD eDy
                have nD3 := x3.out nD eDy
                have hr3 : HRel (C.K.hide D) M3 H3 h2 := hr3
                cases b with
                | false =>
                  simp only [Bool.false_eq_true, if_false] at eLL ⊢
                  exact ⟨hlt, M3, h2, acc, yacc, rest, (xE.trans xy).trans x3, hr3, erw.ext x3, eD3, by omega, (racc.ext xy).ext x3, ey, eLL⟩
                | true =>
                  simp only [if_true] at eLL ⊢
                  refine ⟨(C.K.hide D).z, M3, h2, env', hr3, er2.ext x3, ?_⟩
                  cases ee : fe env' h2 with
                  | stuck => rw [ee] at eLL; cases eLL
                  | exn x h3 => rw [ee] at eLL; cases eLL
                  | ok y h3 =>
                    rw [ee, Res.bind_ok] at eLL
                    intro w H4 M4 x4 hr4 rv4
                    have hr4 : HRel (C.K.hide D) M4 H4 h3 := hr4
                    have rv4 : RV (C.K.hide D) M4 H4 y w := rv4
                    have eD4 := x4.keep D _ nD3 eD3
                    have nD4 := x4.out nD3 eD3
                    cases er_ : loopC fe ft tg it.src (it.items.drop (i + 1)) (wipeE env own) h3 with
                    | stuck => rw [er_] at eLL; cases eLL
                    | exn x h5 => rw [er_] at eLL; cases eLL
                    | ok rest' h5 =>
                      rw [er_, Res.bind_ok] at eLL
                      injection eLL with e1 e2
                      subst e1 e2
                      have x5 : Ext M1 H1 M4 H4 := ((xE.trans xy).trans x3).trans x4
                      have x6 : Ext M1 H1 M4 (upd H4 D (.lst (acc ++ [w]))) := ⟨x5.pre, fun a o n e => by
                        have c : a ≠ D := fun z => by rw [z, hD] at e; cases e
                        rw [upd_ne c]; exact x5.keep a o n e, x5.new⟩
                      refine ⟨acc, eD4, by omega, hlt, M4, h3, acc ++ [w], yacc ++ [y], rest', x6, hr4.hwr hd, ((erw.ext x3).ext x4).hwr hd, upd_same, by simp; omega, ?_, by rw [ey, List.append_assoc]; rfl, er_⟩
                      exact ((((racc.ext xy).ext x3).ext x4).append (.one rv4)).hwr hd
        · cases eLL
      · have e : i = it.items.length := by omega
        subst e
        rw [List.drop_length, loopC] at eLL
        split at eLL
        · rename_i src
          injection eLL with e1 e2
          subst e1 e2
          refine .inl ⟨(ok C.K.z (fun a ha => .inl ha) M' H' h' xE hr'.unhide src _).2 (Nat.le_refl _), ?_⟩
          rw [List.append_nil] at ey
          subst ey
          exact fin hr1 hD xE hr' eD (by omega) racc o
        · cases eLL
theorem lc_ok {fe : Sem1} {ft : Env → MHp → Res Bool} {fi : Env → MHp → Res Wk} {tg : MT} {own : List Nat} (hx : C.K.x = none) (hin : tgIn tg own = true) {σ : L2.St} {H : Hp} {Q : VK}
    (o : RdE C W (fun env h => (fi env h).bind fun r h1 => match loopC fe ft tg r.src r.items (wipeE env own) h1 with | .ok ys h2 => .ok (.lst ys) h2 | _ => .stuck) σ H Q) :
    tLc (RdI C W fi) (gT C.K.f tg) (RdTz C W0 ft) (RdEz C W0 fe) own σ H Q :=
  lc_gen hx hin (fun ys h2 => .ok (.lst ys) h2) (fun {M1 M' H1 H' h1 h' D acc ys} hr1 hD xE hr' eD la racc o => by
    refine o (.ref D) H' M' xE hr'.unhide ?_
    rw [RV]
    exact ⟨D, acc, rfl, la, ⟨(hr'.zs D List.mem_cons_self).1, fun z => (hr1.zs D z).2 hD⟩, eD, racc.unhide⟩) o
theorem lcm_ok {fe : Sem1} {ft : Env → MHp → Res Bool} {fi : Env → MHp → Res Wk} {tg : MT} {own : List Nat} (hx : C.K.x = none) (hin : tgIn tg own = true) {σ : L2.St} {H : Hp} {Q : VK}
    (o : RdE C W (fun env h => (fi env h).bind fun r h1 => match loopC fe ft tg r.src r.items (wipeE env own) h1 with | .ok ys h2 => .ok (.ref h2.length) (h2 ++ [.lst ys]) | _ => .stuck) σ H Q) :
    tLc (RdI C W fi) (gT C.K.f tg) (RdTz C W0 ft) (RdEz C W0 fe) own σ H Q :=
  lc_gen hx hin (fun ys h2 => .ok (.ref h2.length) (h2 ++ [.lst ys])) (fun {M1 M' H1 H' h1 h' D acc ys} hr1 hD xE hr' eD la racc o => by
    have nz : D ∉ C.K.z := fun z => (hr1.zs D z).2 hD
    refine o (.ref D) H' (M' ++ [D]) (xE.more hD) (hr'.tr nz eD la racc) ?_
    rw [RV]
    refine ⟨D, rfl, ?_⟩
    rw [← hr'.len]
    simp) o
end
end Qm

/-! S8: an expression does what its evaluation says. -/
namespace Qm
open PySem PySem.Spec PyProof.Rows L2
section
variable {X : Cx} {S : Sc} {P : Prog} {F : Fn} {C : XC} {W : WX}
theorem pe_z {e : Expr} {f : Sem1} (h : ∀ z, PE X e (RdE (C.zz z) W f)) : PE X e (RdEz C W f) := ⟨fun pins s σ H Q I ⟨z, o⟩ => (h z).run pins s σ H Q I o⟩
theorem pts_z {l : List Expr} {f : Env → MHp → Res Bool} (h : ∀ z, PTs X l (RdT (C.zz z) W f)) : PTs X l (RdTz C W f) := ⟨fun pins s σ H Q I ⟨z, o⟩ => (h z).run pins s σ H Q I o⟩
theorem pts_weak {l : List Expr} {t t' : TT} (a : PTs X l t) (w : ∀ σ H Q, t' σ H Q → t σ H Q) : PTs X l t' := ⟨fun pins s σ H Q I q => a.run pins s σ H Q I (w σ H Q q)⟩
theorem po_weak {l : Option Expr} {t t' : TO} (a : PO X l t) (w : ∀ σ H Q, t' σ H Q → t σ H Q) : PO X l t' := ⟨fun pins s σ H Q I q => a.run pins s σ H Q I (w σ H Q q)⟩
theorem toE_ix (b : ME) (e0 : Expr) : PlainIx (toE b e0) := by
  intro o i
  cases b <;> rw [toE] <;> rfl
theorem toE_marks (o : CO) (b : ME) (e0 : Expr) : behindInMarks (cmpO o) (toE b e0) = false := by
  cases b <;> rw [toE] <;> rfl
theorem toE_last (o p : CO) (b c : ME) (e0 e1 : Expr) : lastMarks [cmpO o, cmpO p] [toE b e0, toE c e1] = false := by
  show behindInMarks (cmpO p) (toE c e1) = false
  exact toE_marks p c e1
theorem toE_folded (e : ME) (e0 : Expr) (env : PySem.Env) (x : Value) : foldedSetIterable (toE e e0) env x = pure x := by
  cases e <;> rw [toE] <;> rfl
theorem toI_folded (i : MI) (e0 : Expr) (env : PySem.Env) (x : Value) : foldedSetIterable (toI i e0) env x = pure x := by
  cases i <;> rw [toI]
  · exact toE_folded _ _ _ _
  all_goals rfl
theorem toE_attr (o : ME) (e0 : Expr) (n : Str) (env : PySem.Env) (ho : ∀ f es, o = .call f es → 0 < mesLen es) (ho2 : ∀ f es, o = .bif f es → 0 < mesLen es) (ho3 : ∀ f m es, o = .bil f m es → 0 < mesLen es) :
    attributeBase (toE o e0) n env (eval (toE o e0) env) = eval (toE o e0) env := by
  cases o with
  | call f es =>
    have := ho f es rfl
    cases es with
    | nil => simp [mesLen] at this
    | cons e r => rw [toE, toEs]; rfl
  | «bif» f es =>
    have := ho2 f es rfl
    cases es with
    | nil => simp [mesLen] at this
    | cons e r => rw [toE, toEs]; rfl
  | bil f m es =>
    have := ho3 f m es rfl
    cases es with
    | nil => simp [mesLen] at this
    | cons e r => rw [toE, toEs]; rfl
  | _ => rw [toE] <;> rfl
/-- the readings of the optional parts of a slice -/
def OutO (C : XC) (E : XK) (Q : Option Int → Hp → Prop) (M : List Addr) (H : Hp) (r : Res (Option Int)) : Prop :=
  match r with
  | .ok p h' => ∀ H' M', Ext M H M' H' → HRel C.K M' H' h' → Q p H'
  | .exn x h' => ∀ cls d H' M', Ext M H M' H' → HRel C.K M' H' h' → XRel C M' H' x cls d → E cls d H'
  | .stuck => False
def RdO (C : XC) (W : WX) (f : Env → MHp → Res (Option Int)) : TO := fun σ H Q => ∃ M h env, HRel C.K M H h ∧ ERel C.K M H σ env ∧ OutO C (WE W σ) Q M H (f env h)
theorem RdO.go {σ : L2.St} {M : List Addr} {H : Hp} {h : MHp} {env : Env} {f : Env → MHp → Res (Option Int)} {g : Option Int → MHp → Res PV} {Q : VK} {R : Option Int → Hp → Prop} (hr : HRel C.K M H h) (er : ERel C.K M H σ env) (o : Out C (WE W σ) Q M H ((f env h).bind g))
    (k : ∀ v H1 M1 h1, Ext M H M1 H1 → HRel C.K M1 H1 h1 → ERel C.K M1 H1 σ env → Out C (WE W σ) Q M1 H1 (g v h1) → R v H1) : RdO C W f σ H R := by
  refine ⟨M, h, env, hr, er, ?_⟩
  cases e : f env h with
  | ok p h1 =>
    rw [e] at o
    exact fun H1 M1 x hr1 => k p H1 M1 h1 x hr1 (er.ext x) (o.shift x)
  | exn x h1 => rw [e] at o; exact o
  | stuck => rw [e] at o; exact o.elim
/-- a test first, then the rest -/
theorem RdT.go {σ : L2.St} {M : List Addr} {H : Hp} {h : MHp} {env : Env} {f : Sem1} {g : Bool → MHp → Res PV} {Q : VK} {R : Bool → Hp → Prop} (hr : HRel C.K M H h) (er : ERel C.K M H σ env)
    (o : Out C (WE W σ) Q M H ((f env h).bind fun x h1 => (ofOpt (truth x h1) h1).bind g))
    (k : ∀ v H1 M1 h1, Ext M H M1 H1 → HRel C.K M1 H1 h1 → ERel C.K M1 H1 σ env → Out C (WE W σ) Q M1 H1 (g v h1) → R v H1) : RdT C W (tst f) σ H R := by
  refine ⟨M, h, env, hr, er, ?_⟩
  unfold tst
  cases e : f env h with
  | ok p h1 =>
    rw [e, Res.bind_ok] at o
    rw [Res.bind_ok]
    cases et : truth p h1 with
    | none => rw [et] at o; exact o.elim
    | some b =>
      rw [et] at o
      exact fun H1 M1 x hr1 => k b H1 M1 h1 x hr1 (er.ext x) (o.shift x)
  | exn x h1 => rw [e] at o; exact o
  | stuck => rw [e] at o; exact o.elim
theorem RdT.goB {σ : L2.St} {M : List Addr} {H : Hp} {h : MHp} {env : Env} {f : Sem1} {g : Bool → MHp → Res Bool} {Q : Bool → Hp → Prop} {R : Bool → Hp → Prop} (hr : HRel C.K M H h) (er : ERel C.K M H σ env)
    (o : OutB C (WE W σ) Q M H ((f env h).bind fun x h1 => (ofOpt (truth x h1) h1).bind g))
    (k : ∀ v H1 M1 h1, Ext M H M1 H1 → HRel C.K M1 H1 h1 → ERel C.K M1 H1 σ env → OutB C (WE W σ) Q M1 H1 (g v h1) → R v H1) : RdT C W (tst f) σ H R := by
  refine ⟨M, h, env, hr, er, ?_⟩
  unfold tst
  cases e : f env h with
  | ok p h1 =>
    rw [e, Res.bind_ok] at o
    rw [Res.bind_ok]
    cases et : truth p h1 with
    | none => rw [et] at o; exact o.elim
    | some b =>
      rw [et] at o
      exact fun H1 M1 x hr1 => k b H1 M1 h1 x hr1 (er.ext x) (o.shift x)
  | exn x h1 => rw [e] at o; exact o
  | stuck => rw [e] at o; exact o.elim
/-- a bool op as a test -/
theorem tst_bl {f : Sem1} {g : Env → MHp → Res Bool} (h : ∀ env hp, f env hp = (g env hp).bind fun b h1 => .ok (.bl b) h1) : tst f = g := by
  funext env hp
  unfold tst
  rw [h]
  cases g env hp <;> rfl
/-! ### parts of the cases -/
theorem two_b {fa fb : Sem1} {o : CO} {σ : L2.St} {H : Hp} {Q : VK} (q : RdE C W (fun env h => (fa env h).bind fun x h1 => (fb env h1).bind fun y h2 => (ofOpt (cop o x y h2) h2).bind fun k h3 => .ok (.bl k) h3) σ H Q) :
    tOp (r2 C (copV o)) (RdE C W fa) (RdE C W fb) σ H Q := by
  refine two ?_
  have e : (fun env h => (fa env h).bind fun x h1 => (fb env h1).bind fun y h2 => (ofOpt (cop o x y h2) h2).bind fun k h3 => Res.ok (PV.bl k) h3) =
      fun env h => (fa env h).bind fun x h1 => (fb env h1).bind fun y h2 => ofOpt (copV o x y h2) h2 := by
    funext env h
    congr 1
    funext x h1
    congr 1
    funext y h2
    unfold copV
    cases cop o x y h2 <;> rfl
  rw [← e]
  exact q
theorem bopL_ok (hK : X.K = C.K.f) {o : BO} (ho : o = .add ∨ o = .mul) : OpR X (binaryOp (oper o)) (fun x y H Q => ∃ M h p q ys, HRel C.K M H h ∧ RV C.K M H p x ∧ RV C.K M H q y ∧ bopL o p q h = some ys ∧
    ∀ a ws, H a = none → ws.length ≤ sizeLine → RVs C.K M H ys ws → Q (.ref a) (upd H a (.lst ws))) := by
  intro pins s σ H x y v u Q I rx ry q
  obtain ⟨M, h, p, q', z, hr, rp, rq, e, k⟩ := q
  rcases ho with rfl | rfl
  · unfold bopL at e
    simp only at e
    split at e
    · rename_i a b ha hb
      split at e
      · rename_i c
        cases e
        obtain ⟨l, vs, rfl, _, hl, rvs⟩ := itemsL_ok hr rp ha
        obtain ⟨l2, ws, rfl, _, hl2, rws⟩ := itemsL_ok hr rq hb
        have c' : vs.length + ws.length ≤ sizeLine := by rw [rvs.len, rws.len, ← big_eq]; exact of_decide_eq_true c
        exact op_cat pins s σ H _ _ v u Q I rx ry ⟨l, l2, vs, ws, rfl, rfl, hl, hl2, c', fun p hp => k p _ hp (by rw [List.length_append]; exact c') (rvs.append rws)⟩
      · cases e
    · cases e
  · unfold bopL at e
    simp only at e
    split at e
    · rename_i a j ha
      split at e
      · rename_i c
        cases e
        rw [Bool.and_eq_true] at c
        obtain ⟨l, vs, rfl, _, hl, rvs⟩ := itemsL_ok hr rp ha
        have ey := rv_int rq
        subst ey
        have c' : vs.length * j.toNat ≤ sizeLine := by rw [rvs.len, ← big_eq]; exact of_decide_eq_true c.2
        have sj' := smallR_ok c.1
        exact op_rep pins s σ H _ _ v u Q I rx ry ⟨l, j, vs, rfl, rfl, hl, by omega, by omega, c', fun p hp => k p _ hp (by rw [PyProof.Rows.lm_len_rep_flat, Nat.mul_comm]; exact c') (rvs.rep _)⟩
      · cases e
    · cases e
end
/-! ### methods -/
def mtI : Mt → String
  | .append => "list.append" | .extend => "list.extend" | .pop => "list.pop" | .popAt => "list.pop" | .index => "list.index" | _ => ""
section
variable {X : Cx} {C : XC}
def rM (C : XC) (m : Mt) : V → List V → Hp → VK → Prop := fun x vs H Q => ∃ M h p xs z h', HRel C.K M H h ∧ RV C.K M H p x ∧ RVs C.K M H xs vs ∧ mth m p xs h = some (z, h') ∧
  ∀ v H' M', Ext M H M' H' → HRel C.K M' H' h' → RV C.K M' H' z v → Q v H'
theorem find_ok {x : PV} (fx : flatD x = true) : ∀ {xs : List PV} {n k : Nat}, xs.all flatD = true → findP x xs n = some k → ∃ j, k = n + j ∧ ∃ z, (dats xs)[j]? = some z ∧ PyData.eqv z (dat x) = true ∧ ∀ (m : Nat) (z' : PyData), m < j → (dats xs)[m]? = some z' → PyData.eqv z' (dat x) = false
  | [], n, k, _, e => by simp [findP] at e
  | y :: ys, n, k, f, e => by
    rw [List.all_cons, Bool.and_eq_true] at f
    obtain ⟨a, ea, _⟩ := flat_dep fx
    obtain ⟨b, eb, _⟩ := flat_dep f.1
    have epq := peq_eqv eb ea
    rw [findP] at e
    split at e
    · rename_i c
      cases e
      refine ⟨0, rfl, dat y, by simp [dats], by rw [← epq]; exact c, fun m z' hm => by omega⟩
    · rename_i c
      obtain ⟨j, rfl, z, hz, h1, h2⟩ := find_ok fx f.2 e
      refine ⟨j + 1, by omega, z, by simpa [dats] using hz, h1, fun m z' hm hz' => ?_⟩
      cases m with
      | zero =>
        simp [dats] at hz'
        subst hz'
        rw [← epq]
        simpa using c
      | succ m => exact h2 m z' (by omega) (by simpa [dats] using hz')
theorem seqIx {i : Int} {n k : Nat} (e : ixN n i = some k) : seqIndex? i n = some k ∧ k < n ∧ -(n : Int) ≤ i ∧ i < n := by
  have : L2.ixN n i = some k := e
  exact ixN_seq this
theorem rv_ref {M : List Addr} {H : Hp} {n : Nat} {v : V} (r : RV C.K M H (.ref n) v) : ∃ a, v = .ref a ∧ M[n]? = some a := by rw [RV] at r; exact r
/-- a list of the small heap -/
theorem hlst {M : List Addr} {H : Hp} {h : MHp} {n : Nat} {v : V} {xs : List PV} (hr : HRel C.K M H h) (r : RV C.K M H (.ref n) v) (e : h[n]? = some (.lst xs)) :
    ∃ a vs, v = .ref a ∧ M[n]? = some a ∧ H a = some (.lst vs) ∧ vs.length ≤ sizeLine ∧ RVs C.K M H xs vs := by
  obtain ⟨a, rfl, em⟩ := rv_ref r
  obtain ⟨ws, ea, zz, rws⟩ := hr.at_ n a _ em e
  exact ⟨a, ws, rfl, em, ea, zz, rws⟩
theorem mt_any (hK : X.K = C.K.f) (hu : X.A.units + 70 < cLine) {m : Mt} {k : Nat} (hm : mtOk m k = true) : MtR X (mtI m) (rM C m) := by
  intro pins s σ H x vs v us Q I rx rs q
  obtain ⟨M, h, p, xs, z, h', hr, rp, rv, e, kk⟩ := q
  cases m with
  | append =>
    unfold mth at e
    split at e
    any_goals (rename_i hh; cases hh)
    · rename_i y _
      obtain ⟨w, rfl, r⟩ := rvs1 rv
      split at e
      · rename_i n
        split at e
        · rename_i ys eh
          split at e
          · rename_i c
            cases e
            obtain ⟨a, ws, rfl, em, ea, zz, rws⟩ := hlst hr rp eh
            have c' : ws.length < sizeLine := by rw [rws.len, ← big_eq]; exact of_decide_eq_true c
            exact mt_append pins s σ H _ _ v us Q I rx rs ⟨a, ws, w, rfl, rfl, ea, c', kk _ _ M (Ext.chg (List.mem_of_getElem? em)) (hr.chg em ⟨_, rfl, by simp; omega, rws.append (.one r)⟩) rv_n⟩
          · cases e
        · cases e
      · cases e
    · cases e
  | extend =>
    unfold mth at e
    split at e
    any_goals (rename_i hh; cases hh)
    · rename_i y _
      obtain ⟨w, rfl, r⟩ := rvs1 rv
      split at e
      · rename_i n
        split at e
        · rename_i ys eh
          obtain ⟨zs, ez, e⟩ := Option.bind_eq_some_iff.mp e
          split at e
          · rename_i c
            cases e
            obtain ⟨a, ws, rfl, em, ea, zz, rws⟩ := hlst hr rp eh
            obtain ⟨b, us', rfl, _, eb, rus⟩ := itemsL_ok hr r ez
            have c' : ws.length + us'.length ≤ sizeLine := by rw [rws.len, rus.len, ← big_eq]; exact of_decide_eq_true c
            exact mt_extend pins s σ H _ _ v us Q I rx rs ⟨a, b, ws, us', rfl, rfl, ea, eb, c', kk _ _ M (Ext.chg (List.mem_of_getElem? em)) (hr.chg em ⟨_, rfl, by simp; omega, rws.append rus⟩) rv_n⟩
          · cases e
        · cases e
      · cases e
    · cases e
  | pop =>
    unfold mth at e
    split at e
    any_goals (rename_i hh; cases hh)
    · rw [RVs] at rv
      subst rv
      split at e
      · rename_i n
        split at e
        · rename_i ys eh
          obtain ⟨y, ey, e⟩ := Option.map_eq_some_iff.mp e
          cases e
          obtain ⟨a, ws, rfl, em, ea, zz, rws⟩ := hlst hr rp eh
          obtain ⟨w, ew, rw_⟩ := rws.get ey
          have x1 : Ext M H M (upd H a (.lst ws.dropLast)) := Ext.chg (List.mem_of_getElem? em)
          exact mt_pop pins s σ H _ _ v us Q I rx rs ⟨a, ws, w, rfl, rfl, ea, by rw [rws.len]; exact ew, kk _ _ M x1 (hr.chg em ⟨_, rfl, by simp; omega, rws.dropLast⟩) (rw_.ext x1)⟩
        · cases e
      · cases e
    · cases e
  | popAt =>
    unfold mth at e
    split at e
    any_goals (rename_i hh; cases hh)
    · rename_i i
      obtain ⟨w0, rfl, r⟩ := rvs1 rv
      have := rv_int r; subst this
      split at e
      · rename_i n
        split at e
        · rename_i ys eh
          obtain ⟨j, ej, e⟩ := Option.bind_eq_some_iff.mp e
          obtain ⟨y, ey, e⟩ := Option.map_eq_some_iff.mp e
          cases e
          obtain ⟨a, ws, rfl, em, ea, zz, rws⟩ := hlst hr rp eh
          obtain ⟨w, ew, rw_⟩ := rws.get ey
          obtain ⟨s1, s2, s3, s4⟩ := seqIx ej
          rw [sizeLine_eq] at zz
          have zl := rws.len
          have x1 : Ext M H M (upd H a (.lst (ws.eraseIdx j))) := Ext.chg (List.mem_of_getElem? em)
          refine mt_popAt pins s σ H _ _ v us Q I rx rs ⟨a, ws, i, j, w, rfl, rfl, ea, by omega, by omega, by rw [zl]; exact s1, ew, kk _ _ M x1 (hr.chg em ⟨_, rfl, ?_, rws.eraseIdx j⟩) (rw_.ext x1)⟩
          have := len_erase ws j
          rw [sizeLine_eq]
          omega
        · cases e
      · cases e
    · cases e
  | index =>
    unfold mth at e
    split at e
    any_goals (rename_i hh; cases hh)
    · rename_i y
      obtain ⟨w, rfl, r⟩ := rvs1 rv
      obtain ⟨ys, ey, e⟩ := Option.bind_eq_some_iff.mp e
      split at e
      · rename_i c
        obtain ⟨j, ej, e⟩ := Option.map_eq_some_iff.mp e
        cases e
        rw [Bool.and_eq_true] at c
        obtain ⟨c1, c2, nn, en⟩ := canLayAll_of_all c.2
        obtain ⟨n, ex, _⟩ := flat_dep c.1
        obtain ⟨a, ws, rfl, zz, ea, rws⟩ := itemsL_ok hr rp ey
        obtain ⟨j', rfl, z, hz, h1, h2⟩ := find_ok c.1 c.2 ej
        refine mt_indexD (by omega) pins s σ H _ _ v us Q I rx rs ⟨a, w, dat y, dats ys, j', z, rfl, rfl, .lst (SqL.of ea) (by rw [hK]; exact dats_rv en rws), by rw [hK]; exact dat_rv ex r, ?_, flat_shaped c.1, hz, h1, h2, ?_⟩
        · unfold SeqAt.shaped
          simp [PyData.canLay0, PyData.depth, c1]
          omega
        · rw [Nat.zero_add] at kk
          exact kk _ _ M Ext.refl hr rv_i
      · cases e
    · cases e
  | _ => cases hm
end
end Qm

/-! S9: an expression does what its evaluation says: the joining. -/
namespace Qm
open PySem PySem.Spec PyProof.Rows L2
section
variable {X : Cx} {S : Sc} {P : Prog} {F : Fn} {C : XC} {W : WX} {cx : Option MX}
/-- what is open of an evaluation -/
theorem RdE.open {f : Sem1} {σ : L2.St} {H : Hp} {Q : VK} (o : RdE C W f σ H Q) : ∃ M h env, HRel C.K M H h ∧ ERel C.K M H σ env ∧ Out C (WE W σ) Q M H (f env h) := o
theorem pe_var' (c : Cok X S P F C W) {i : Nat} {x : Str} {pos : Pos} (h : S.N[i]? = some x) (v : visO S x = true) :
    PE X (.Name x pos) (RdE C W fun env h => match env[i]? with | some (some v) => .ok v h | _ => .stuck) := by
  obtain ⟨v1, v2, v3⟩ := c.vis v
  refine pe_weak (pe_var (by rw [c.hN]; exact h) v1 v2 v3) fun σ H Q o => ?_
  obtain ⟨M, hp, env, hr, er, o⟩ := o
  dsimp only at o
  cases e : env[i]? with
  | none => rw [e] at o; exact o.elim
  | some q =>
    cases q with
    | none => rw [e] at o; exact o.elim
    | some p =>
      rw [e] at o
      obtain ⟨w, ew, rw_⟩ := er.2 i p e
      exact ⟨w, ew, o w H M Ext.refl hr rw_⟩
theorem pe_cst' {p : PV} {k : Nat} {pos : Pos} (h : conOk p = true) : PE X (.Constant (kOf p) k pos) (RdE C W fun _ h => .ok p h) := by
  have fin : ∀ {v : V} {σ : L2.St} {H : Hp} {Q : VK}, (∀ M, RV C.K M H p v) → RdE C W (fun _ h => .ok p h) σ H Q → tC v σ H Q := fun {v σ H Q} r o => by
    obtain ⟨M, hp, env, hr, er, o⟩ := o
    exact o v H M Ext.refl hr (r M)
  cases p with
  | non => exact pe_weak pe_non fun σ H Q o => fin (fun _ => rv_n) o
  | bl b => exact pe_weak pe_bl fun σ H Q o => fin (fun _ => rv_b) o
  | int i => exact pe_weak pe_int fun σ H Q o => fin (fun _ => rv_i) o
  | str s =>
    refine pe_weak pe_str fun σ H Q o => fin (fun _ => ?_) o
    rw [RV]
    have : s.length ≤ 1000 := of_decide_eq_true h
    exact ⟨rfl, by rw [sizeLine_eq]; omega⟩
  | _ => cases h
theorem pe_glb' (c : Cok X S P F C W) {k : Nat} {x : Str} {pos : Pos} (h : isCon S x k = true) : PE X (.Name x pos) (RdE C W fun _ h => ofOpt (P.con k) h) := by
  obtain ⟨g, d, u, v, p, m, r, e, rv⟩ := c.con h
  refine pe_weak (pe_glob g m r d) fun σ H Q o => ?_
  obtain ⟨M, hp, env, hr, er, o⟩ := o
  rw [e] at o
  exact o v H M Ext.refl hr (rv C.K.z M H)
theorem pe_bin' (c : Cok X S P F C W) {o : BO} {a b : Expr} {fa fb : Sem1} {pos : Pos} (ha : PE X a (RdE C W fa)) (hb : PE X b (RdE C W fb)) :
    PE X (.BinOp a (oper o) b pos) (RdE C W fun env h => (fa env h).bind fun x h1 => (fb env h1).bind fun y h2 => ofOpt (bop o x y h2) h2) :=
  pe_weak (pe_op (op_bop c.hK) ha hb) fun _ _ _ o => two o
theorem pe_bnm' (c : Cok X S P F C W) {o : BO} (ho2 : o = .add ∨ o = .mul) {a b : Expr} {fa fb : Sem1} {pos : Pos} (ha : PE X a (RdE C W fa)) (hb : PE X b (RdE C W fb)) :
    PE X (.BinOp a (oper o) b pos) (RdE C W fun env h => (fa env h).bind fun x h1 => (fb env h1).bind fun y h2 => (ofOpt (bopL o x y h2) h2).bind fun xs h3 => newL true xs h3) := by
  refine pe_weak (pe_op (bopL_ok c.hK ho2) ha hb) fun σ H Q q => ?_
  obtain ⟨M, h, env, hr, er, o⟩ := q
  refine RdE.go hr er o fun v H1 M1 h1 p x1 hr1 er1 rv o1 => ?_
  refine RdE.go hr1 er1 o1 fun u H2 M2 h2 q x2 hr2 er2 ru o2 => ?_
  cases e : bopL _ p q h2 with
  | none => rw [e] at o2; exact o2.elim
  | some ys =>
    rw [e] at o2
    exact ⟨M2, h2, p, q, ys, hr2, rv.ext x2, ru, e, fun a ws ha hz hw => end_newM hr2 hz hw o2 a ha⟩
theorem pe_neg' {a : Expr} {fa : Sem1} {pos : Pos} (ha : PE X a (RdE C W fa)) :
    PE X (.UnaryOp .USub a pos) (RdE C W fun env h => (fa env h).bind fun x h1 => match x with | .int i => .ok (.int (-i)) h1 | _ => .stuck) := by
  refine pe_weak (pe_un un_neg ha) fun σ H Q q => ?_
  obtain ⟨M, h, env, hr, er, o⟩ := q
  refine RdE.go hr er o fun v H1 M1 h1 p x1 hr1 er1 rv o1 => ?_
  cases p with
  | int i =>
    have := rv_int rv
    subst this
    exact ⟨i, rfl, o1 _ H1 M1 Ext.refl hr1 rv_i⟩
  | _ => exact o1.elim
theorem pe_not' (c : Cok X S P F C W) {a : Expr} {fa : Sem1} {pos : Pos} (ha : PE X a (RdE C W fa)) :
    PE X (.UnaryOp .Not a pos) (RdE C W fun env h => (fa env h).bind fun x h1 => (ofOpt (truth x h1) h1).bind fun b h2 => .ok (.bl (!b)) h2) := by
  refine pe_weak (pe_notT ha) fun σ H Q q => ?_
  obtain ⟨M, h, env, hr, er, o⟩ := q
  refine RdE.go hr er o fun v H1 M1 h1 p x1 hr1 er1 rv o1 => ?_
  cases e : truth p h1 with
  | none => rw [e] at o1; exact o1.elim
  | some b =>
    rw [e] at o1
    exact ⟨b, tru_rv c.hK hr1 rv e, o1 _ H1 M1 Ext.refl hr1 rv_b⟩
theorem pe_cmp' (c : Cok X S P F C W) {o : CO} {a b : Expr} {fa fb : Sem1} {pos : Pos} (ha : PE X a (RdE C W fa)) (hb : PE X b (RdE C W fb)) (hm : behindInMarks (cmpO o) b = false) :
    PE X (.Compare a [cmpO o] [b] pos) (RdE C W fun env h => (fa env h).bind fun x h1 => (fb env h1).bind fun y h2 => (ofOpt (cop o x y h2) h2).bind fun k h3 => .ok (.bl k) h3) :=
  pe_weak (pe_cmpR (op_cop c.hK c.hun) ha hb hm) fun _ _ _ o => two_b o
/-- a test by a bool op -/
theorem tst_cmp {fa fb : Sem1} {o : CO} : tst (fun env h => (fa env h).bind fun x h1 => (fb env h1).bind fun y h2 => (ofOpt (cop o x y h2) h2).bind fun k h3 => Res.ok (PV.bl k) h3) =
    fun env h => (fa env h).bind fun x h1 => (fb env h1).bind fun y h2 => ofOpt (cop o x y h2) h2 := by
  funext env h
  unfold tst
  dsimp only
  cases fa env h with
  | ok x h1 =>
    simp only [Res.bind_ok]
    cases fb env h1 with
    | ok y h2 =>
      simp only [Res.bind_ok]
      cases cop o x y h2 <;> rfl
    | _ => rfl
  | _ => rfl
/-- a value reading that ends in a bool, as a test's reading -/
theorem tTest_of {t : TE} {f : Sem1} (k : ∀ σ H Q, RdE C W f σ H Q → t σ H Q) (hb : ∀ env h p h', f env h = .ok p h' → ∃ b, p = .bl b) {σ : L2.St} {H : Hp} {Q : Bool → Hp → Prop} (o : RdT C W (tst f) σ H Q) : tTest t σ H Q := by
  refine k σ H _ ?_
  obtain ⟨M, h, env, hr, er, o⟩ := o
  refine ⟨M, h, env, hr, er, ?_⟩
  unfold tst at o
  cases e : f env h with
  | ok p h1 =>
    rw [e, Res.bind_ok] at o
    obtain ⟨b, rfl⟩ := hb _ _ _ _ e
    intro v H' M' x hr' rv
    exact ⟨b, rv_bl rv, o H' M' x hr'⟩
  | exn x h1 => rw [e] at o; exact o
  | stuck => rw [e] at o; exact o
theorem bind_bl {α : Type} {r : Res α} {g : α → MHp → Res PV} (hg : ∀ a h p h', g a h = .ok p h' → ∃ b, p = .bl b) {p : PV} {h' : MHp} (e : r.bind g = .ok p h') : ∃ b, p = .bl b := by
  cases r with
  | ok a h => exact hg a h p h' e
  | exn x h => cases e
  | stuck => cases e
theorem pt_cmp' (c : Cok X S P F C W) {o : CO} {a b : Expr} {fa fb : Sem1} {pos : Pos} (ha : PE X a (RdE C W fa)) (hb : PE X b (RdE C W fb)) (hm : behindInMarks (cmpO o) b = false) :
    PT X (.Compare a [cmpO o] [b] pos) (RdT C W (tst fun env h => (fa env h).bind fun x h1 => (fb env h1).bind fun y h2 => (ofOpt (cop o x y h2) h2).bind fun k h3 => .ok (.bl k) h3)) :=
  pt_weak (pt_cmpR (op_cop c.hK c.hun) ha hb hm) fun σ H Q q => tTest_of (fun _ _ _ o => two_b o) (fun env h p h' e => bind_bl (fun _ _ _ _ e => bind_bl (fun _ _ _ _ e => bind_bl (fun _ _ _ _ e => ⟨_, by injection e with e _; exact e.symm⟩) e) e) e) q
/-- a op b op' c -/
def sChn (o p : CO) (fa fb fc : Sem1) : Sem1 := fun env h => (fa env h).bind fun x h1 => (fb env h1).bind fun y h2 => (ofOpt (cop o x y h2) h2).bind fun k h3 =>
    if k then (fc env h3).bind fun z h4 => (ofOpt (cop p y z h4) h4).bind fun k h5 => .ok (.bl k) h5 else .ok (.bl false) h3
theorem chn_read {o p : CO} {fa fb fc : Sem1} {σ : L2.St} {H : Hp} {Q : VK} (q : RdE C W (sChn o p fa fb fc) σ H Q) : tChain (r2 C (copV o)) (r2 C (copV p)) (RdE C W fa) (RdE C W fb) (RdE C W fc) σ H Q := by
  obtain ⟨M, h, env, hr, er, q⟩ := q
  refine RdE.go hr er q fun v H1 M1 h1 x x1 hr1 er1 rv o1 => ?_
  refine RdE.go hr1 er1 o1 fun u H2 M2 h2 y x2 hr2 er2 ru o2 => ?_
  cases e : cop o x y h2 with
  | none => rw [e] at o2; exact o2.elim
  | some k =>
    rw [e] at o2
    refine ⟨M2, h2, x, y, .bl k, hr2, rv.ext x2, ru, by unfold copV; rw [e]; rfl, fun w H3 M3 x3 hr3 rw_ => ?_⟩
    refine ⟨k, rv_bl rw_, ?_⟩
    have o3 := o2.shift x3
    cases k with
    | false =>
      simp only [ofOpt_some, Res.bind_ok, Bool.false_eq_true, if_false] at o3 ⊢
      exact o3 _ H3 M3 Ext.refl hr3 rv_b
    | true =>
      simp only [ofOpt_some, Res.bind_ok, if_true] at o3 ⊢
      refine RdE.go hr3 (er2.ext x3) o3 fun w' H4 M4 h4 z x4 hr4 er4 rz o4 => ?_
      cases e2 : cop p y z h4 with
      | none => rw [e2] at o4; exact o4.elim
      | some k2 =>
        rw [e2] at o4
        exact ⟨M4, h4, y, z, .bl k2, hr4, (ru.ext x3).ext x4, rz, by unfold copV; rw [e2]; rfl, o4⟩
theorem pe_chn' (c : Cok X S P F C W) {o p : CO} {a b d : Expr} {fa fb fc : Sem1} {pos : Pos} (ha : PE X a (RdE C W fa)) (hb : PE X b (RdE C W fb)) (hc : PE X d (RdE C W fc)) (hm : lastMarks [cmpO o, cmpO p] [b, d] = false) :
    PE X (.Compare a [cmpO o, cmpO p] [b, d] pos) (RdE C W (sChn o p fa fb fc)) :=
  pe_weak (pe_chain (op_cop c.hK c.hun) (op_cop c.hK c.hun) ha hb hc hm) fun _ _ _ o => chn_read o
theorem pt_chn' (c : Cok X S P F C W) {o p : CO} {a b d : Expr} {fa fb fc : Sem1} {pos : Pos} (ha : PE X a (RdE C W fa)) (hb : PE X b (RdE C W fb)) (hc : PE X d (RdE C W fc)) (hm : lastMarks [cmpO o, cmpO p] [b, d] = false) :
    PT X (.Compare a [cmpO o, cmpO p] [b, d] pos) (RdT C W (tst (sChn o p fa fb fc))) :=
  pt_weak (pt_chain (op_cop c.hK c.hun) (op_cop c.hK c.hun) ha hb hc hm) fun σ H Q q => tTest_of (fun _ _ _ o => chn_read o) (fun env h r h' e => bind_bl (fun _ _ _ _ e => bind_bl (fun _ _ _ _ e => bind_bl (fun k _ _ _ e => by
    cases k with
    | false => simp only [Bool.false_eq_true, if_false] at e; exact ⟨_, by injection e with e _; exact e.symm⟩
    | true => simp only [if_true] at e; exact bind_bl (fun _ _ _ _ e => bind_bl (fun _ _ _ _ e => ⟨_, by injection e with e _; exact e.symm⟩) e) e) e) e) e) q
/-- a if t else b -/
def sIfe (fc fa fb : Sem1) : Sem1 := fun env h => (fc env h).bind fun x h1 => (ofOpt (truth x h1) h1).bind fun k h2 => if k then fa env h2 else fb env h2
theorem pe_ife' {a b d : Expr} {fa fb fc : Sem1} {pos : Pos} (hc : PT X d (RdT C W (tst fc))) (ha : PE X a (RdE C W fa)) (hb : PE X b (RdE C W fb)) : PE X (.IfExp d a b pos) (RdE C W (sIfe fc fa fb)) := by
  refine pe_weak (pe_ifExp hc ha hb) fun σ H Q q => ?_
  obtain ⟨M, h, env, hr, er, q⟩ := q
  refine RdT.go hr er q fun k H1 M1 h1 x1 hr1 er1 o1 => ?_
  cases k with
  | true => exact ⟨M1, h1, env, hr1, er1, o1⟩
  | false => exact ⟨M1, h1, env, hr1, er1, o1⟩
theorem isTrue_ife {x a b : Expr} {pos : Pos} {whole : Sem Value} {env : PySem.Env} {M : Model} {A : Around} {E : Value → Shared → Prop} {s : Shared} {Q : Bool → Shared → Prop}
    (h : wpAny M A (isTrue x env (eval x env)) (fun c s' => if c then wpAny M A (isTrue a env (eval a env)) Q E s' else wpAny M A (isTrue b env (eval b env)) Q E s') E s) : wpAny M A (isTrue (.IfExp x a b pos) env whole) Q E s := by
  show wpAny M A (do if ← isTrue x env (eval x env) then isTrue a env (eval a env) else isTrue b env (eval b env)) Q E s
  refine wpAny_bind (wpAny_mono h (fun c s' h' => ?_) fun _ _ x => x)
  cases c <;> exact h'
theorem pt_ife' {a b d : Expr} {fa fb fc : Sem1} {pos : Pos} (hc : PT X d (RdT C W (tst fc))) (ha : PT X a (RdT C W (tst fa))) (hb : PT X b (RdT C W (tst fb))) : PT X (.IfExp d a b pos) (RdT C W (tst (sIfe fc fa fb))) := by
  refine ⟨fun pins s σ H Q I q => ?_⟩
  refine isTrue_ife (thn (hc.run pins s σ H (fun k H1 => if k = true then RdT C W (tst fa) σ H1 Q else RdT C W (tst fb) σ H1 Q) I ?_) fun k s1 ⟨H1, I1, q1⟩ => ?_)
  · obtain ⟨M, h, env, hr, er, q⟩ := q
    have e : tst (sIfe fc fa fb) env h = (fc env h).bind fun x h1 => (ofOpt (truth x h1) h1).bind fun k h2 => if k then tst fa env h2 else tst fb env h2 := by
      unfold tst sIfe
      cases fc env h with
      | ok x h1 =>
        simp only [Res.bind_ok]
        cases truth x h1 with
        | none => rfl
        | some k => cases k <;> rfl
      | _ => rfl
    rw [e] at q
    refine RdT.goB hr er q fun k H1 M1 h1 x1 hr1 er1 o1 => ?_
    cases k with
    | true => exact ⟨M1, h1, env, hr1, er1, o1⟩
    | false => exact ⟨M1, h1, env, hr1, er1, o1⟩
  · cases k with
    | true => exact ha.run pins s1 σ H1 Q I1 q1
    | false => exact hb.run pins s1 σ H1 Q I1 q1
theorem pt_not' {a : Expr} {fa : Sem1} {pos : Pos} (ha : PT X a (RdT C W (tst fa))) : PT X (.UnaryOp .Not a pos) (RdT C W (tst fun env h => (fa env h).bind fun x h1 => (ofOpt (truth x h1) h1).bind fun b h2 => .ok (.bl (!b)) h2)) := by
  refine pt_weak (pt_not ha) fun σ H Q q => ?_
  obtain ⟨M, h, env, hr, er, q⟩ := q
  have e : tst (fun env h => (fa env h).bind fun x h1 => (ofOpt (truth x h1) h1).bind fun b h2 => Res.ok (PV.bl (!b)) h2) env h = (fa env h).bind fun x h1 => (ofOpt (truth x h1) h1).bind fun b h2 => .ok (!b) h2 := by
    unfold tst
    dsimp only
    cases fa env h with
    | ok x h1 =>
      simp only [Res.bind_ok]
      cases truth x h1 <;> rfl
    | _ => rfl
  rw [e] at q
  exact RdT.goB hr er q fun k H1 M1 h1 x1 hr1 er1 o1 => o1 H1 M1 Ext.refl hr1
theorem pe_ix' (c : Cok X S P F C W) {a b : Expr} {fa fb : Sem1} {pos : Pos} (ha : PE X a (RdE C W fa)) (hb : PE X b (RdE C W fb)) (hp : PlainIx b) :
    PE X (.Subscript a b pos) (RdE C W fun env h => (fa env h).bind fun x h1 => (fb env h1).bind fun y h2 => ofOpt (index x y h2) h2) :=
  pe_weak (pe_ix (ix_any c.hK c.hun) ha hb hp) fun _ _ _ o => two o
theorem pe_sl' (c : Cok X S P F C W) {a : Expr} {lo hi : Option Expr} {fa : Sem1} {fl fh : Env → MHp → Res (Option Int)} {pos p2 : Pos} (ha : PE X a (RdE C W fa)) (hl : PO X lo (RdO C W fl)) (hh : PO X hi (RdO C W fh)) :
    PE X (.Subscript a (.Slice lo hi none p2) pos) (RdE C W fun env h => (fa env h).bind fun x h1 => (fl env h1).bind fun l h2 => (fh env h2).bind fun u h3 => ofOpt (slice x l u h3) h3) := by
  refine pe_weak (pe_slice (sl_any c.hK) ha hl hh) fun σ H Q q => ?_
  obtain ⟨M, h, env, hr, er, o⟩ := q
  refine RdE.go hr er o fun v H1 M1 h1 p x1 hr1 er1 rv o1 => ?_
  refine RdO.go hr1 er1 o1 fun l H2 M2 h2 x2 hr2 er2 o2 => ?_
  refine RdO.go hr2 er2 o2 fun u H3 M3 h3 x3 hr3 er3 o3 => ?_
  cases e : slice p l u h3 with
  | none => rw [e] at o3; exact o3.elim
  | some z =>
    rw [e] at o3
    exact ⟨M3, h3, p, z, hr3, (rv.ext x2).ext x3, e, o3⟩
theorem po_none' : PO X none (RdO C W fun _ h => .ok none h) := by
  refine po_weak po_none fun σ H Q q => ?_
  obtain ⟨M, h, env, hr, er, o⟩ := q
  exact o H M Ext.refl hr
theorem po_some' {e : Expr} {f : Sem1} (he : PE X e (RdE C W f)) : PO X (some e) (RdO C W fun env h => (f env h).bind fun x h1 => match x with | .int i => .ok (some i) h1 | _ => .stuck) := by
  refine po_weak (po_some he) fun σ H Q q => ?_
  obtain ⟨M, h, env, hr, er, o⟩ := q
  refine ⟨M, h, env, hr, er, ?_⟩
  dsimp only at o
  cases e : f env h with
  | ok p h1 =>
    rw [e, Res.bind_ok] at o
    intro v H1 M1 x1 hr1 rv
    cases p with
    | int i => exact ⟨i, rv_int rv, o H1 M1 x1 hr1⟩
    | _ => exact o.elim
  | exn x h1 => rw [e] at o; exact o
  | stuck => rw [e] at o; exact o.elim
theorem pa_nil' : PA X [] (RdA C W fun _ h => .ok [] h) := by
  refine pa_weak pa_nil fun σ H Q q => ?_
  obtain ⟨M, h, env, hr, er, o⟩ := q
  exact o [] H M Ext.refl hr .nil
theorem pa_cons' {e : Expr} {es : List Expr} {f : Sem1} {g : SemA} (he : PE X e (RdE C W f)) (hg : PA X es (RdA C W g)) (hs : starEach (e :: es) X.env = (false, eval e X.env) :: starEach es X.env) :
    PA X (e :: es) (RdA C W fun env h => (f env h).bind fun x h1 => (g env h1).bind fun xs h2 => .ok (x :: xs) h2) := by
  refine pa_weak (pa_cons he hg hs) fun σ H Q q => ?_
  obtain ⟨M, h, env, hr, er, o⟩ := q
  refine RdE.goA hr er o fun v H1 M1 h1 p x1 hr1 er1 rv o1 => ?_
  refine RdA.goA hr1 er1 o1 fun vs H2 M2 h2 ps x2 hr2 er2 rvs o2 => ?_
  exact o2 _ H2 M2 Ext.refl hr2 (.cons (rv.ext x2) rvs)
theorem pe_tup' {es : List Expr} {g : SemA} {k : Nat} {pos : Pos} (hg : PA X es (RdA C W g)) : PE X (.Tuple es k pos) (RdE C W fun env h => (g env h).bind fun xs h1 => if decide (xs.length ≤ big) then .ok (.tup xs) h1 else .stuck) := by
  refine pe_weak (pe_tup hg) fun σ H Q q => ?_
  obtain ⟨M, h, env, hr, er, o⟩ := q
  refine RdA.go hr er o fun vs H1 M1 h1 ps x1 hr1 er1 rvs o1 => ?_
  by_cases c : ps.length ≤ big
  · rw [if_pos (decide_eq_true c)] at o1
    have z : vs.length ≤ sizeLine := by rw [rvs.len, ← big_eq]; exact c
    exact ⟨z, end_newT hr1 z rvs o1⟩
  · rw [if_neg (by simpa using c)] at o1
    exact o1.elim
theorem pe_lst' {m : Bool} {es : List Expr} {g : SemA} {pos : Pos} (hg : PA X es (RdA C W g)) : PE X (.List es pos) (RdE C W fun env h => (g env h).bind fun xs h1 => if decide (xs.length ≤ big) then newL m xs h1 else .stuck) := by
  refine pe_weak (pe_lst hg) fun σ H Q q => ?_
  obtain ⟨M, h, env, hr, er, o⟩ := q
  refine RdA.go hr er o fun vs H1 M1 h1 ps x1 hr1 er1 rvs o1 => ?_
  by_cases c : ps.length ≤ big
  · rw [if_pos (decide_eq_true c)] at o1
    have z : vs.length ≤ sizeLine := by rw [rvs.len, ← big_eq]; exact c
    exact ⟨z, end_newM hr1 z rvs o1⟩
  · rw [if_neg (by simpa using c)] at o1
    exact o1.elim
theorem pe_dc0' {m t : Bool} {pos : Pos} : PE X (.Dict [] [] pos) (RdE C W fun _ h => if m then .ok (.ref h.length) (h ++ [.dic t [] []]) else .ok (.dic t [] []) h) := by
  have fin : ∀ {u : HO} {σ : L2.St} {H : Hp} {Q : VK}, DK t [] [] u → RdE C W (fun _ h => if m then .ok (.ref h.length) (h ++ [.dic t [] []]) else .ok (.dic t [] []) h) σ H Q → ∀ p, H p = none → Q (.ref p) (upd H p u) := fun {u σ H Q} d q p hp => by
    obtain ⟨M, h, env, hr, er, o⟩ := q
    cases m with
    | true =>
      simp only [if_true] at o
      refine o _ _ (M ++ [p]) (Ext.push hp) (hr.push hp ⟨[], u, rfl, d, .nil⟩) ?_
      rw [RV]
      exact ⟨p, rfl, by rw [← hr.len, List.getElem?_append_right (Nat.le_refl _)]; simp⟩
    | false =>
      simp only [Bool.false_eq_true, if_false] at o
      refine o _ _ M (Ext.laid hp) (hr.laid hp) ?_
      rw [RV]
      exact ⟨p, [], u, rfl, hr.off hp, upd_same, d, .nil⟩
  cases t with
  | true => exact pe_weak pe_dnewT fun σ H Q q => fin ⟨[], rfl, rfl, rfl⟩ q
  | false => exact pe_weak pe_dnewK fun σ H Q q => fin ⟨[], rfl, rfl, rfl⟩ q
end
end Qm

/-! SD: dict comprehensions, keyed by ints and texts or by tuples of these. -/
namespace Qm
open PySem PySem.Spec PyProof.Rows L2
/-- an empty dict of either kind -/
def emp (t : Bool) : HO := if t = true then .dT [] else .dK []
/-- a comprehension stores an entry -/
theorem dput_set {X : Cx} {pins : List (Addr × Obj)} {σ : L2.St} {H H' : Hp} {s : Shared} {E : Value → Shared → Prop} {D : Addr} {y v : V} {u r : Value} {Q : Unit → Shared → Prop} (hu : X.A.units + 1 < cLine) (I : Inv X pins σ H s) (g : DPut H D y v H') (ry : RelV y u) (rv : RelV v r)
    (k : ∀ s', Inv X pins σ H' s' → Q () s') : wpAny (model X.prog X.w) X.A (dictSet D u r) Q E s := by
  rcases g with ⟨kvs, q, eD, rfl, lt, rfl⟩ | ⟨kvs, q, b, eD, rfl, eb, lt, rfl⟩
  · exact d_dictSet I eD lt ry rv k
  · obtain rfl : u = Value.ref b := ry
    obtain ⟨bound, nosys, ents, rel, keyed⟩ := dt_of I.hok eD
    have grows := length_putK kvs q v
    refine wpAny_dictSet_heap (hsz := by rw [← Paired.length rel]; exact bound) (show X.A.units < cLine by omega) (key_of I.hok eb) keyed fun hp keyed' same => k _ ?_
    obtain ⟨ob, es, ep, got, exact_, dat, ord, _, nod⟩ := keyed'
    refine d_write I (by rw [eD]; exact True.intro) same ⟨ob, got⟩ ⟨by omega, nosys, _, (rel.put q eb rv).keeps fun c ys ec => ?_, ob, es, ep, got, exact_, dat, ord, nod⟩
    rw [upd_ne (ne_of ec eD fun z => nomatch z)]
    exact ec
section
variable {X : Cx}
/-- {key: value for target in iter if ..}: D is the dict under way -/
def tDg (t : Bool) (wi : TI) (g : TG) (tt : TT) (tk tv : TE) (vs : List Nat) : TE := fun σ H Q => wi σ H fun J Ha => ∀ D, Ha D = none →
  ∃ W : Nat → Nat → Hp → Prop, (∃ m, W 0 m (upd Ha D (emp t))) ∧ ∀ i m Hb, W i m Hb →
    (J.stop i Hb ∧ Q (.ref D) Hb) ∨ (J.go i Hb ∧ ∃ Nx : Hp → Prop, (∀ Hc, Nx Hc → ∃ m', m' < m ∧ W (i + 1) m' Hc) ∧ ∀ x Hc, J.yld i Hb x Hc →
      g x (wipe σ vs) Hc fun σ2 Hd => wipe σ2 vs = wipe σ vs ∧ tt σ2 Hd fun b He =>
        if b = true then tk σ2 He fun y Hf => tv σ2 Hf fun z Hg => ∃ Hh, DPut Hg D y z Hh ∧ Nx Hh else Nx He)
theorem emp_ok {P : Program} {w : World} {H : Hp} (h : Heap) (hb : sysModules < h.objs.size) (t : Bool) : ObjOk P w H (h.push { cls := .type "dict", data := .dict #[] }) h.objs.size (emp t) := by
  cases t with
  | false => exact dk_empty h hb
  | true => exact dt_empty h hb
theorem dg_core {pins : List (Addr × Obj)} {s : Shared} {σ : L2.St} {H : Hp} {Q : VK} {kx vx tg iter : Expr} {ifs : List Expr} {scope : Scope} {own : List (Str × Nat)} {pos pos' : Pos} {wi : TI} {g : TG} {tt : TT} {tk tv : TE} {use : Option (Value → Sem Unit)} {Qf : Value → Shared → Prop} (t : Bool) (hu : X.A.units + 1 < cLine)
    (calm : X.calm = true) (nod : X.N.Nodup) (I : Inv X pins σ H s) (pi : PI X tg iter wi) (bo : BlkOk X.N X.env.scope scope own)
    (pg : ∀ (s : Shared) (H : Hp) (C : Addr) (cl : List (Str × Addr)) (fp : List Addr), PG (X.blk s H scope (compEnvC scope cl C X.env) fp) tg g)
    (pt : ∀ (s : Shared) (H : Hp) (C : Addr) (cl : List (Str × Addr)) (fp : List Addr), PTs (X.blk s H scope (compEnvC scope cl C X.env) fp) ifs tt)
    (pk : ∀ (s : Shared) (H : Hp) (C : Addr) (cl : List (Str × Addr)) (fp : List Addr), PE (X.blk s H scope (compEnvC scope cl C X.env) fp) kx tk)
    (pv : ∀ (s : Shared) (H : Hp) (C : Addr) (cl : List (Str × Addr)) (fp : List Addr), PE (X.blk s H scope (compEnvC scope cl C X.env) fp) vx tv) (fold : ∀ x, foldedSetIterable iter X.env x = pure x)
    (h : tDg t wi g tt tk tv (own.map (·.2)) σ H Q)
    (post : ∀ D C s' m H', Inv X pins σ H' s' → Q (.ref D) H' → s'.heap.Ns C m → FpOk X pins H' C → compPost (model X.prog X.w) X.A X.xe use Qf (.ref D) C (.ok .next) s') :
    wpAny (model X.prog X.w) X.A (comprehension (.DictComp kx vx [⟨tg, iter, ifs, 0⟩] scope pos) scope X.env pos' newDict false (eval iter X.env) use) Qf X.xe s := by
  refine wpAny_comprehension_free (use := use) rfl fold (closure_ok fun y hy e => (bo.free y hy e).elim (fun k => I.ok.has _ (.inl k)) fun k => I.ok.has _ (.inr k)) bo.kind (fun y hy e => by rw [bo.uniq y hy, e]) ?_
  refine thn (pi.run pins s σ H _ I h) fun xv sa first => thn first fun itv sb second => ?_
  obtain ⟨it, fp, tn, J, Hb, rfl, Ib, T, stb, frb, q⟩ := second
  refine wpAny_newObj_type (newEnv_comp ?_)
  -- the dict's place
  obtain ⟨D, eD⟩ : ∃ D, D = sb.heap.objs.size := ⟨_, rfl⟩
  rw [← eD]
  have free : Hb D = none := Ib.hok.fresh (Nat.le_of_eq eD.symm)
  obtain ⟨W, ⟨m0, w0⟩, turn⟩ := q D free
  obtain ⟨sc, esc⟩ : ∃ z : Shared, z = { sb with heap := sb.heap.push { cls := .type "dict", data := .dict #[] } } := ⟨_, rfl⟩
  have Ic : Inv X pins σ (upd Hb D (emp t)) sc := by
    subst esc
    refine Ib.laid (t' := sb.toks) (fun b o e => Heap.get?_push_of_some _ e) (Nat.le_of_eq eD.symm) ?_
    rw [eD]
    exact emp_ok sb.heap Ib.big t
  have hsc : sc.heap = sb.heap.push { cls := .type "dict", data := .dict #[] } := by rw [esc]
  have frc : ∀ b ∈ fp, FpOk X pins (upd Hb D (emp t)) b ∧ b < sc.heap.objs.size := fun b hb => by
    obtain ⟨ob, eb, _⟩ := T.obj _ _ stb b hb
    have lt := Heap.lt_size eb
    have ne : b ≠ D := by rw [eD]; exact Nat.ne_of_lt lt
    exact ⟨⟨by rw [upd_ne ne]; exact (frb b hb).1, (frb b hb).2⟩, by rw [hsc, Heap.size_push]; exact Nat.lt_succ_of_lt lt⟩
  have stc : tn 0 sc.heap := T.keep _ _ _ stb fun b _ o e => by rw [hsc]; exact Heap.get?_push_of_some _ e
  have Id := block_start Ic bo nod frc
  have qg := pg sc (upd Hb D (emp t)) sc.heap.objs.size (cellsFrom (sc.heap.objs.size + 1) scope.names (cloFrom X.env.cells scope.names [])) fp
  have qt := pt sc (upd Hb D (emp t)) sc.heap.objs.size (cellsFrom (sc.heap.objs.size + 1) scope.names (cloFrom X.env.cells scope.names [])) fp
  have qk := pk sc (upd Hb D (emp t)) sc.heap.objs.size (cellsFrom (sc.heap.objs.size + 1) scope.names (cloFrom X.env.cells scope.names [])) fp
  have qv := pv sc (upd Hb D (emp t)) sc.heap.objs.size (cellsFrom (sc.heap.objs.size + 1) scope.names (cloFrom X.env.cells scope.names [])) fp
  have cl : (compEnvC scope (cellsFrom (sc.heap.objs.size + 1) scope.names (cloFrom X.env.cells scope.names [])) sc.heap.objs.size X.env).locals = sc.heap.objs.size := rfl
  have entry : codeAny (model X.prog X.w) X.A (.compStart (.DictComp kx vx [⟨tg, iter, ifs, 0⟩] scope pos) 0 (.ref it) (.ref D) (compEnvC scope (cellsFrom (sc.heap.objs.size + 1) scope.names (cloFrom X.env.cells scope.names [])) sc.heap.objs.size X.env)) (compPost (model X.prog X.w) X.A X.xe use Qf (.ref D) sc.heap.objs.size) { sc with heap := pushCells (sc.heap.push { cls := .type "dict", data := .dict #[] }) scope.names } := by
    generalize compEnvC scope (cellsFrom (sc.heap.objs.size + 1) scope.names (cloFrom X.env.cells scope.names [])) sc.heap.objs.size X.env = ce at Id qg qt qk qv cl ⊢
    have none3 : ∀ b ∈ fp, upd Hb D (emp t) b = none := fun b hb => (frc b hb).1.1
    generalize upd Hb D (emp t) = Hc at Ic Id qg qt qk qv w0 none3 frc
    have std : tn 0 (pushCells (sc.heap.push { cls := .type "dict", data := .dict #[] }) scope.names) := T.keep _ _ _ stc fun b _ o e => pushCells_keeps _ _ _ _ (Heap.get?_push_of_some _ e)
    have fpn : ∀ {σ' : L2.St} {H' : Hp} {s' : Shared}, Inv (X.blk sc Hc scope ce fp) [] σ' H' s' → (∀ b ∈ fp, H' b = none) → ∀ b ∈ fp, FpOk (X.blk sc Hc scope ce fp) [] H' b := fun {σ' H' s'} Iq nq b hb =>
      ⟨nq b hb, (Iq.ok.exf b hb).1, Iq.ok.exfs b hb, .inl hb, fun x c e => (Iq.ok.exf b hb).2 x c e, fun p hp => nomatch (show p ∈ ([] : List (Addr × Obj)) from hp)⟩
    have around : codeAny (model X.prog X.w) X.A (.compLoop (.DictComp kx vx [⟨tg, iter, ifs, 0⟩] scope pos) 0 (.ref it) (.ref D) ce) (compPost (model X.prog X.w) X.A X.xe use Qf (.ref D) sc.heap.objs.size) { sc with heap := pushCells (sc.heap.push { cls := .type "dict", data := .dict #[] }) scope.names } := by
      refine compLoop_anyD (fun n s' => ∃ i H', Inv (X.blk sc Hc scope ce fp) [] (wipe σ (own.map (·.2))) H' s' ∧ tn i s'.heap ∧ (∀ b ∈ fp, H' b = none) ∧ W i n H') ?_ m0 ⟨0, Hc, Id, std, none3, w0⟩
      rintro n s5 ⟨i, H5, I5, st5, n5, w5⟩
      rcases turn i n H5 w5 with ⟨halt, done⟩ | ⟨go, Nx, back, body⟩
      · refine thnF (T.done (X.blk sc Hc scope ce fp) rfl rfl rfl calm i [] s5 _ H5 (fun _ _ => False) I5 (fpn I5 n5) st5 halt) fun r s6 ⟨er, I6⟩ => ?_
        subst er
        have out : H5 sc.heap.objs.size = none := by rw [← cl]; exact I6.free
        obtain ⟨m, names, _⟩ := I6.loc
        have names : s6.heap.Ns sc.heap.objs.size m := by rw [← cl]; exact names
        exact post D _ s6 m H5 (Ic.call' (ch := fp) I6.os I6.base I6.hok I6.bare fun b hb => let z := (frc b hb).1.2; ⟨z.2.2.1, z.1, z.2.2.2.1, z.2.2.2.2⟩) done names (Ic.fpOk (Nat.le_refl _) out)
      · refine thnF (T.item (X.blk sc Hc scope ce fp) rfl rfl rfl calm i [] s5 _ H5 (fun _ _ => False) I5 (fpn I5 n5) st5 go) fun r s6 ⟨u, er, next⟩ => ?_
        subst er
        refine thnF next fun _ s7 ⟨x, H7, I7, r7, y7, st7, n7⟩ => ?_
        refine thnF (qg.run _ s7 _ H7 x u _ (I7.pinned (fpn I7 n7) (T.obj _ _ st7)) r7 (body x H7 y7)) fun _ s8 ⟨σ8, H8, I8, same, q8⟩ => ?_
        refine thnF (qt.run _ s8 σ8 H8 _ I8 q8) fun b s9 ⟨H9, I9, q9⟩ => ?_
        have close : ∀ {s' : Shared} {H' : Hp}, Inv (X.blk sc Hc scope ce fp) ([] ++ pinsAt fp s7.heap) σ8 H' s' → Nx H' →
            ∃ m, m < n ∧ ∃ i H', Inv (X.blk sc Hc scope ce fp) [] (wipe σ (own.map (·.2))) H' s' ∧ tn i s'.heap ∧ (∀ b ∈ fp, H' b = none) ∧ W i m H' := fun {s' H'} Iq nx => by
          obtain ⟨m', less, w'⟩ := back H' nx
          have pin : ∀ b ∈ fp, ∀ o, s7.heap.get? b = some o → s'.heap.get? b = some o ∧ H' b = none := fun b hb o e => by
            have z := Iq.pin (b, o) (List.mem_append_right _ (List.mem_append_right _ (mem_pinsAt hb e)))
            exact ⟨z.1, z.2.1⟩
          refine ⟨m', less, i + 1, H', (Iq.unpinned (pins := [])).weak (by rw [← same, wipe_length]) (fun j v e => ?_), T.keep _ _ _ st7 fun b hb o e => (pin b hb o e).1, fun b hb => ?_, w'⟩
          · rw [← same] at e
            exact (wipe_some e).1
          · obtain ⟨o, e, _⟩ := T.obj _ _ st7 b hb
            exact (pin b hb o e).2
        cases b with
        | false =>
          rw [if_neg (by decide)] at q9 ⊢
          exact close I9 q9
        | true =>
          rw [if_pos rfl] at q9 ⊢
          refine thnF (qk.run _ s9 σ8 H9 _ I9 q9) fun kv s10 ⟨yk, H10, I10, r10, q10⟩ => ?_
          refine thnF (qv.run _ s10 σ8 H10 _ I10 q10) fun vv s11 ⟨yv, H11, I11, r11, Hh, put, nx⟩ => ?_
          exact dput_set (X := X.blk sc Hc scope ce fp) hu I11 put r10 r11 fun s12 I12 => close I12 nx
    exact codeAny_compStart_dict around (T.self X.A 0 _ _ _ std around)
  rw [esc] at entry
  exact entry
theorem pe_dg {kx vx tg iter : Expr} {ifs : List Expr} {scope : Scope} {own : List (Str × Nat)} {pos : Pos} {wi : TI} {g : TG} {tt : TT} {tk tv : TE} (t : Bool) (hu : X.A.units + 1 < cLine) (calm : X.calm = true) (nod : X.N.Nodup) (pi : PI X tg iter wi) (bo : BlkOk X.N X.env.scope scope own)
    (pg : ∀ (s : Shared) (H : Hp) (C : Addr) (cl : List (Str × Addr)) (fp : List Addr), PG (X.blk s H scope (compEnvC scope cl C X.env) fp) tg g)
    (pt : ∀ (s : Shared) (H : Hp) (C : Addr) (cl : List (Str × Addr)) (fp : List Addr), PTs (X.blk s H scope (compEnvC scope cl C X.env) fp) ifs tt)
    (pk : ∀ (s : Shared) (H : Hp) (C : Addr) (cl : List (Str × Addr)) (fp : List Addr), PE (X.blk s H scope (compEnvC scope cl C X.env) fp) kx tk)
    (pv : ∀ (s : Shared) (H : Hp) (C : Addr) (cl : List (Str × Addr)) (fp : List Addr), PE (X.blk s H scope (compEnvC scope cl C X.env) fp) vx tv) (fold : ∀ x, foldedSetIterable iter X.env x = pure x) :
    PE X (.DictComp kx vx [⟨tg, iter, ifs, 0⟩] scope pos) (tDg t wi g tt tk tv (own.map (·.2))) := ⟨fun pins s σ H Q I h => by
  rw [arm_eval_DictComp]
  exact dg_core t hu calm nod I pi bo pg pt pk pv fold h fun D C s' m H' Iq q names ⟨f0, f1, _, f3, f4, f5⟩ =>
    ⟨m, names, fun hq sb => ⟨.ref D, H', Iq.turned (t' := s'.toks) (fun b o ne e => (sb.2 b ne).trans e) f0 f1 f3 f4 f5, rfl, q⟩⟩⟩
/-- a name's assignment, the comprehension on the name's line -/
theorem ps_setDg {i : Nat} {y : Str} {py : Pos} {kx vx tg iter : Expr} {ifs : List Expr} {scope : Scope} {own : List (Str × Nat)} {pos spos : Pos} {wi : TI} {g : TG} {tt : TT} {tk tv : TE} (t : Bool) (hu : X.A.units + 1 < cLine) (calm : X.calm = true) (nod : X.N.Nodup) (hy : X.N[i]? = some y) (loc : X.env.scope.names.lookup y = some .local)
    (sw : swapsWith (.DictComp kx vx [⟨tg, iter, ifs, 0⟩] scope pos) (some (.Name y py)) spos.line X.env = pure true) (pi : PI X tg iter wi) (bo : BlkOk X.N X.env.scope scope own)
    (pg : ∀ (s : Shared) (H : Hp) (C : Addr) (cl : List (Str × Addr)) (fp : List Addr), PG (X.blk s H scope (compEnvC scope cl C X.env) fp) tg g)
    (pt : ∀ (s : Shared) (H : Hp) (C : Addr) (cl : List (Str × Addr)) (fp : List Addr), PTs (X.blk s H scope (compEnvC scope cl C X.env) fp) ifs tt)
    (pk : ∀ (s : Shared) (H : Hp) (C : Addr) (cl : List (Str × Addr)) (fp : List Addr), PE (X.blk s H scope (compEnvC scope cl C X.env) fp) kx tk)
    (pv : ∀ (s : Shared) (H : Hp) (C : Addr) (cl : List (Str × Addr)) (fp : List Addr), PE (X.blk s H scope (compEnvC scope cl C X.env) fp) vx tv) (fold : ∀ x, foldedSetIterable iter X.env x = pure x) :
    PS X (.Assign [.Name y py] (.DictComp kx vx [⟨tg, iter, ifs, 0⟩] scope pos) spos) (tAsg (tDg t wi g tt tk tv (own.map (·.2))) (gName i)) := ⟨fun pins s σ H D I h => by
  rw [exec_Assign_Name_used _ _ _ _ sw]
  refine wpAny_bind (wpAny_standAt (wpAny_bind ?_))
  show wpAny _ X.A (comprehension (.DictComp kx vx [⟨tg, iter, ifs, 0⟩] scope pos) scope X.env (firstIterPos [⟨tg, iter, ifs, 0⟩] pos) newDict false (eval iter X.env) (some (assign (.Name y py) X.env)) >>= fun _ => pure ()) _ _ s
  refine wpAny_bind (thn (dg_core (Qf := fun _ z => SP X pins D .next z) t hu calm nod I pi bo pg pt pk pv fold (show tDg t wi g tt tk tv (own.map (·.2)) σ H (fun x H1 => gName i x σ H1 D.nx) from h) fun L C s' m H' Iq q names ⟨f0, f1, _, f3, f4, f5⟩ => ?_) fun _ z hz => wpAny_pure (wpAny_pure hz))
  show wpAny _ _ (assign (.Name y py) X.env (.ref L)) _ _ _
  refine wpAny_assign_Name (store_ok2 (v := V.ref L) Iq nod hy (.inl loc) rfl (fun s2 I2 ⟨a, sb, ha⟩ => ?_) (.inr loc))
  refine ⟨m, names.sameBut sb (ha.elim (fun z => z ▸ f1) fun z e => f4 y a z e.symm), fun hq sb3 => ⟨_, H', I2.turned (t' := s2.toks) (fun b o ne e => (sb3.2 b ne).trans e) f0 f1 f3 f4 f5, q⟩⟩⟩
theorem swd_true {kx vx : Expr} {gs : List Comprehension} {scope : Scope} {pos py : Pos} {y : Str} {l : Nat} {env : PySem.Env} (hk : env.scope.kind = .function) (hy : env.scope.names.lookup y = some .local) (hl : (py.line == pos.line) = true)
    (ha : (scope.names.any fun (n, k) => n == y && (k == .local || k == .cell)) = false) : swapsWith (.DictComp kx vx gs scope pos) (some (.Name y py)) l env = pure true := by
  have a : env.kindOf y = some .local := hy
  have b : env.blockKind = .function := by unfold Env.blockKind; rw [hk]; rfl
  unfold swapsWith
  simp only [a, b, Expr.pos, hl, ha]
  rfl
end
section
variable {C : XC} {M : List Addr} {H : Hp} {h : MHp} {κ : Type} [DecidableEq κ]
theorem rep_ok {f : κ → PV} (inj : ∀ a b, peq (f a) (f b) = decide (a = b)) {k : κ} {z : PV} {v : V} (rz : RV C.K M H z v) : ∀ {kvs : List (κ × V)} {ws : List PV}, RVs C.K M H ws (kvs.map (·.2)) →
    RVs C.K M H (repV (kvs.map fun p => f p.1) ws (f k) z) ((kvs.map fun kv => if kv.1 = k then (kv.1, v) else kv).map (·.2))
  | [], ws, r => by
    rw [List.map_nil] at r
    cases ws with
    | nil => exact .nil
    | cons _ _ => rw [RVs] at r; obtain ⟨_, _, e, _⟩ := r; cases e
  | p :: kvs, ws, r => by
    cases ws with
    | nil => rw [List.map_cons, RVs] at r; cases r
    | cons w ws =>
      rw [List.map_cons, RVs] at r
      obtain ⟨y, ys, e, r1, r2⟩ := r
      cases e
      simp only [List.map_cons, repV, inj]
      refine .cons ?_ (rep_ok inj rz r2)
      by_cases c : p.1 = k
      · simp only [c, decide_true, if_true]; exact rz
      · simp only [c, decide_false, if_false, Bool.false_eq_true]; exact r1
theorem setK_ok {f : κ → PV} (inj : ∀ a b, peq (f a) (f b) = decide (a = b)) {k : κ} {z : PV} {v : V} (rz : RV C.K M H z v) {kvs : List (κ × V)} {ws : List PV} (r : RVs C.K M H ws (kvs.map (·.2))) :
    (setK (kvs.map fun p => f p.1) ws (f k) z).1 = (putK kvs k v).map (fun p => f p.1) ∧ RVs C.K M H (setK (kvs.map fun p => f p.1) ws (f k) z).2 ((putK kvs k v).map (·.2)) := by
  have ea : ((kvs.map fun p => f p.1).any fun y => peq y (f k)) = kvs.any fun kv => decide (kv.1 = k) := by
    rw [List.any_map]
    congr 1
    funext p
    simp [inj]
  unfold setK putK
  rw [ea]
  cases c : kvs.any fun kv => decide (kv.1 = k) with
  | true =>
    simp only [if_true]
    refine ⟨?_, rep_ok inj rz r⟩
    rw [List.map_map]
    congr 1
    funext p
    by_cases c2 : p.1 = k <;> simp [c2]
  | false =>
    simp only [Bool.false_eq_true, if_false]
    refine ⟨by simp, ?_⟩
    rw [List.map_append]
    exact r.append (.one rz)
theorem setK_len {ks ws : List PV} {x z : PV} : (setK ks ws x z).1.length ≤ ks.length + 1 := by
  unfold setK
  split <;> simp
end
section
variable {X : Cx} {S : Sc} {P : Prog} {F : Fn} {C : XC} {W : WX}
theorem dk_emp (t : Bool) : DK t [] [] (emp t) := by
  cases t with
  | false => exact ⟨[], rfl, rfl, rfl⟩
  | true => exact ⟨[], rfl, rfl, rfl⟩
/-- an entry stored, in both worlds -/
theorem dk_put {M : List Addr} {H : Hp} {t : Bool} {ks ws : List PV} {us : List V} {u : HO} {D : Addr} {x z : PV} {y v : V} (eD : H D = some u) (d : DK t ks us u) (rw_ : RVs C.K M H ws us) (ek : keyOk t x = true) (lt : ks.length < big) (rx : RV C.K M H x y) (rz : RV C.K M H z v) :
    ∃ us' u', DPut H D y v (upd H D u') ∧ DK t (setK ks ws x z).1 us' u' ∧ RVs C.K M H (setK ks ws x z).2 us' := by
  rw [big_eq] at lt
  cases t with
  | false =>
    obtain ⟨kvs, rfl, rfl, rfl⟩ := (show ∃ kvs : List (Key × V), u = .dK kvs ∧ ks = kvs.map (fun p => keyP p.1) ∧ us = kvs.map (·.2) from d)
    obtain ⟨kk, rfl, rfl⟩ := key_false ek rx
    obtain ⟨e1, e2⟩ := setK_ok (v := v) key_inj (k := kk) rz rw_
    exact ⟨_, _, DPut.k eD (by simpa using lt), ⟨_, rfl, e1, rfl⟩, e2⟩
  | true =>
    obtain ⟨kvs, rfl, rfl, rfl⟩ := (show ∃ kvs : List (List Key × V), u = .dT kvs ∧ ks = kvs.map (fun p => .tup (p.1.map keyP)) ∧ us = kvs.map (·.2) from d)
    obtain ⟨kk, b, rfl, rfl, eb⟩ := key_true ek rx
    obtain ⟨e1, e2⟩ := setK_ok (v := v) (f := fun p : List Key => .tup (p.map keyP)) tkey_inj (k := kk) rz rw_
    exact ⟨_, _, DPut.t eD eb (by simpa using lt), ⟨_, rfl, e1, rfl⟩, e2⟩
theorem dc_ok {fk fv : Sem1} {ft : Env → MHp → Res Bool} {fi : Env → MHp → Res Wk} {t : Bool} {tg : MT} {own : List Nat} (hx : C.K.x = none) (hin : tgIn tg own = true) {σ : L2.St} {H : Hp} {Q : VK}
    (o : RdE C W (fun env h => (fi env h).bind fun r h1 => match loopD fk fv ft t tg r.src r.items (wipeE env own) [] [] h1 with | .ok kv h2 => .ok (.dic t kv.1 kv.2) h2 | _ => .stuck) σ H Q) :
    tDg t (RdI C W fi) (gT C.K.f tg) (RdTz C W0 ft) (RdEz C W0 fk) (RdEz C W0 fv) own σ H Q := by
  obtain ⟨M, h, env, hr, er, o⟩ := o
  refine ⟨M, h, env, hr, er, ?_⟩
  dsimp only at o
  cases ef : fi env h with
  | stuck => rw [ef] at o; exact o
  | exn x h1 => rw [ef] at o; exact o
  | ok it h1 =>
    rw [ef] at o
    intro hz H1 M1 J x1 hr1 ok D hD
    have er1 := er.ext x1
    have o := o.shift x1
    rw [Res.bind_ok] at o
    cases eL : loopD fk fv ft t tg it.src it.items (wipeE env own) [] [] h1 with
    | stuck => rw [eL] at o; exact o.elim
    | exn x h2 => rw [eL] at o; exact o.elim
    | ok kv hend =>
      rw [eL] at o
      -- D hidden
      have hd : D ∈ (C.K.hide D).z := List.mem_cons_self
      have w1 : ERel (C.K.hide D) M1 (upd H1 D (emp t)) (wipe σ own) (wipeE env own) := (wipe_erel hx er1 own).hide hD
      refine ⟨fun i m H' => i ≤ it.items.length ∧ m = it.items.length - i ∧ ∃ (M' : List Addr) (h' : MHp) (ks vs : List PV) (us : List V) (u : HO), Ext M1 H1 M' H' ∧ HRel (C.K.hide D) M' H' h' ∧ ERel (C.K.hide D) M' H' (wipe σ own) (wipeE env own) ∧ H' D = some u ∧ DK t ks us u ∧
        RVs (C.K.hide D) M' H' vs us ∧ loopD fk fv ft t tg it.src (it.items.drop i) (wipeE env own) ks vs h' = .ok kv hend,
        ⟨it.items.length, Nat.zero_le _, rfl, M1, h1, [], [], [], emp t, Ext.laid hD, hr1.hide hD, w1, upd_same, dk_emp t, .nil, by simpa using eL⟩, ?_⟩
      rintro i m H' ⟨hi, rfl, M', h', ks, vs, us, u, xE, hr', w', eD, dk, rus, eLL⟩
      by_cases hlt : i < it.items.length
      · -- a turn
        refine .inr ?_
        have ei : it.items[i]? = some it.items[i] := List.getElem?_eq_getElem hlt
        have ed : it.items.drop i = it.items[i] :: it.items.drop (i + 1) := List.drop_eq_getElem_cons hlt
        rw [ed, loopD] at eLL
        split at eLL
        · rename_i src
          have hzz : ∀ a ∈ (C.K.hide D).z, a ∈ C.K.z ∨ H1 a = none := fun a ha => by
            rcases List.mem_cons.mp ha with rfl | ha
            · exact .inr hD
            · exact .inl ha
          obtain ⟨go, yld⟩ := (ok _ hzz M' H' h' xE hr' src i).1 _ ei
          refine ⟨go, fun H'' => i + 1 ≤ it.items.length ∧ ∃ (M' : List Addr) (h' : MHp) (ks vs : List PV) (us : List V) (u : HO), Ext M1 H1 M' H'' ∧ HRel (C.K.hide D) M' H'' h' ∧ ERel (C.K.hide D) M' H'' (wipe σ own) (wipeE env own) ∧ H'' D = some u ∧ DK t ks us u ∧
            RVs (C.K.hide D) M' H'' vs us ∧ loopD fk fv ft t tg it.src (it.items.drop (i + 1)) (wipeE env own) ks vs h' = .ok kv hend,
            fun H'' ⟨l, z⟩ => ⟨it.items.length - (i + 1), by omega, l, rfl, z⟩, fun v Hy hy => ?_⟩
          obtain ⟨xy, hry, rvy⟩ := yld v Hy hy
          have nD : D ∉ M' := (hr'.zs D hd).1
          have eDy := xy.keep D _ nD eD
          have erw := w'.ext xy
          split at eLL
          · cases eLL
          · rename_i env' ea
            refine gT_mono (gT_own hin (gT_ok (C := C.zz (C.K.hide D).z) (Q := fun σ2 H2 => ERel (C.K.hide D) M' Hy σ2 env' ∧ H2 = Hy) erw rvy ea fun σ' er' => ⟨er', rfl⟩)) fun σ2 H2 ⟨⟨k1, k2⟩, er2, eH⟩ => ?_
            subst eH
            refine ⟨?_, ?_⟩
            · rw [wipe_wipe k1 k2]
              refine wipe_wipe (fun i hi => ?_) (wipe_length _ _)
              rw [wipe_get, if_neg hi]
            · refine ⟨(C.K.hide D).z, M', h', env', hry, er2, ?_⟩
              cases et : ft env' h' with
              | stuck => rw [et] at eLL; cases eLL
              | exn x h2 => rw [et] at eLL; cases eLL
              | ok b h2 =>
                rw [et, Res.bind_ok] at eLL
                intro H3 M3 x3 hr3
                have eD3 := x3.keep D _ nD eDy
                have nD3 := x3.out nD eDy
                have hr3 : HRel (C.K.hide D) M3 H3 h2 := hr3
                cases b with
                | false =>
                  simp only [Bool.false_eq_true, if_false] at eLL ⊢
                  exact ⟨hlt, M3, h2, ks, vs, us, u, (xE.trans xy).trans x3, hr3, erw.ext x3, eD3, dk, (rus.ext xy).ext x3, eLL⟩
                | true =>
                  simp only [if_true] at eLL ⊢
                  refine ⟨(C.K.hide D).z, M3, h2, env', hr3, er2.ext x3, ?_⟩
                  cases ee : fk env' h2 with
                  | stuck => rw [ee] at eLL; cases eLL
                  | exn x h3 => rw [ee] at eLL; cases eLL
                  | ok k h3 =>
                    rw [ee, Res.bind_ok] at eLL
                    intro wk H4 M4 x4 hr4 rvk
                    have hr4 : HRel (C.K.hide D) M4 H4 h3 := hr4
                    have rvk : RV (C.K.hide D) M4 H4 k wk := rvk
                    have eD4 := x4.keep D _ nD3 eD3
                    have nD4 := x4.out nD3 eD3
                    refine ⟨(C.K.hide D).z, M4, h3, env', hr4, (er2.ext x3).ext x4, ?_⟩
                    cases eg : fv env' h3 with
                    | stuck => rw [eg] at eLL; cases eLL
                    | exn x h4 => rw [eg] at eLL; cases eLL
                    | ok y h4 =>
                      rw [eg, Res.bind_ok] at eLL
                      intro wv H5 M5 x5 hr5 rv5
                      have hr5 : HRel (C.K.hide D) M5 H5 h4 := hr5
                      have rv5 : RV (C.K.hide D) M5 H5 y wv := rv5
                      have eD5 := x5.keep D _ nD4 eD4
                      split at eLL
                      · rename_i cc
                        obtain ⟨c1, c2⟩ := (Bool.and_eq_true _ _ ▸ cc : _ ∧ _)
                        have x6 : Ext M1 H1 M5 H5 := (((xE.trans xy).trans x3).trans x4).trans x5
                        obtain ⟨us', u', put, dk', rus'⟩ := dk_put (C := { C with K := C.K.hide D }) eD5 dk ((((rus.ext xy).ext x3).ext x4).ext x5) c1 (of_decide_eq_true c2) (rvk.ext x5) rv5
                        have x7 : Ext M1 H1 M5 (upd H5 D u') := ⟨x6.pre, fun a o n e => by
                          have c : a ≠ D := fun z => by rw [z, hD] at e; cases e
                          rw [upd_ne c]; exact x6.keep a o n e, x6.new⟩
                        exact ⟨_, put, hlt, M5, h4, _, _, us', u', x7, hr5.hwr hd, (((erw.ext x3).ext x4).ext x5).hwr hd, upd_same, dk', rus'.hwr hd, eLL⟩
                      · cases eLL
        · cases eLL
      · have e : i = it.items.length := by omega
        subst e
        rw [List.drop_length, loopD] at eLL
        split at eLL
        · rename_i src
          injection eLL with e1 e2
          subst e1 e2
          refine .inl ⟨(ok C.K.z (fun a ha => .inl ha) M' H' h' xE hr'.unhide src _).2 (Nat.le_refl _), ?_⟩
          refine o (.ref D) H' M' xE hr'.unhide ?_
          rw [RV]
          exact ⟨D, us, u, rfl, ⟨(hr'.zs D hd).1, fun z => (hr1.zs D z).2 hD⟩, eD, dk, rus.unhide⟩
        · cases eLL
end
end Qm

/-! S10: and, or; calls; methods; comprehensions; every expression. -/
namespace Qm
open PySem PySem.Spec PyProof.Rows L2
section
variable {X : Cx} {S : Sc} {P : Prog} {F : Fn} {C : XC} {W : WX} {cx : Option MX}
/-! ### and, or -/
def sAnd (f g : Sem1) : Sem1 := fun env h => (f env h).bind fun x h1 => (ofOpt (truth x h1) h1).bind fun k h2 => if k then g env h2 else .ok x h2
def sOr (f g : Sem1) : Sem1 := fun env h => (f env h).bind fun x h1 => (ofOpt (truth x h1) h1).bind fun k h2 => if k then .ok x h2 else g env h2
theorem pe_and' (c : Cok X S P F C W) {a b : Expr} {rest : List Expr} {fa g : Sem1} {pos : Pos} (ha : PE X a (RdE C W fa)) (hb : PE X (.BoolOp .And (b :: rest) pos) (RdE C W g)) : PE X (.BoolOp .And (a :: b :: rest) pos) (RdE C W (sAnd fa g)) := by
  refine pe_weak (pe_andT ha hb) fun σ H Q q => ?_
  obtain ⟨M, h, env, hr, er, o⟩ := q
  refine RdE.go hr er o fun v H1 M1 h1 p x1 hr1 er1 rv o1 => ?_
  cases e : truth p h1 with
  | none => rw [e] at o1; exact o1.elim
  | some k =>
    rw [e] at o1
    refine ⟨k, tru_rv c.hK hr1 rv e, ?_⟩
    cases k with
    | true => exact ⟨M1, h1, env, hr1, er1, o1⟩
    | false => exact o1 v H1 M1 Ext.refl hr1 rv
theorem pe_or' (c : Cok X S P F C W) {a b : Expr} {rest : List Expr} {fa g : Sem1} {pos : Pos} (ha : PE X a (RdE C W fa)) (hb : PE X (.BoolOp .Or (b :: rest) pos) (RdE C W g)) : PE X (.BoolOp .Or (a :: b :: rest) pos) (RdE C W (sOr fa g)) := by
  refine pe_weak (pe_orT ha hb) fun σ H Q q => ?_
  obtain ⟨M, h, env, hr, er, o⟩ := q
  refine RdE.go hr er o fun v H1 M1 h1 p x1 hr1 er1 rv o1 => ?_
  cases e : truth p h1 with
  | none => rw [e] at o1; exact o1.elim
  | some k =>
    rw [e] at o1
    refine ⟨k, tru_rv c.hK hr1 rv e, ?_⟩
    cases k with
    | false => exact ⟨M1, h1, env, hr1, er1, o1⟩
    | true => exact o1 v H1 M1 Ext.refl hr1 rv
theorem tst_and {f g : Sem1} {env : Env} {h : MHp} : tst (sAnd f g) env h = (f env h).bind fun x h1 => (ofOpt (truth x h1) h1).bind fun k h2 => if k then tst g env h2 else .ok false h2 := by
  unfold tst sAnd
  cases f env h with
  | ok x h1 =>
    simp only [Res.bind_ok]
    cases e : truth x h1 with
    | none => rfl
    | some k =>
      cases k with
      | true => rfl
      | false => simp [e]
  | _ => rfl
theorem tst_or {f g : Sem1} {env : Env} {h : MHp} : tst (sOr f g) env h = (f env h).bind fun x h1 => (ofOpt (truth x h1) h1).bind fun k h2 => if k then .ok true h2 else tst g env h2 := by
  unfold tst sOr
  cases f env h with
  | ok x h1 =>
    simp only [Res.bind_ok]
    cases e : truth x h1 with
    | none => rfl
    | some k =>
      cases k with
      | false => rfl
      | true => simp [e]
  | _ => rfl
theorem pw_and' {a b : Expr} {rest : List Expr} {fa g : Sem1} {pos : Pos} (ha : PT X a (RdT C W (tst fa))) (hb : PW X (.BoolOp .And (b :: rest) pos) (RdT C W (tst g))) : PW X (.BoolOp .And (a :: b :: rest) pos) (RdT C W (tst (sAnd fa g))) := by
  refine pw_weak (pw_and ha hb) fun σ H Q q => ?_
  obtain ⟨M, h, env, hr, er, q⟩ := q
  rw [tst_and] at q
  refine RdT.goB hr er q fun k H1 M1 h1 x1 hr1 er1 o1 => ?_
  cases k with
  | true => exact ⟨M1, h1, env, hr1, er1, o1⟩
  | false => exact o1 H1 M1 Ext.refl hr1
theorem pw_or' {a b : Expr} {rest : List Expr} {fa g : Sem1} {pos : Pos} (ha : PT X a (RdT C W (tst fa))) (hb : PW X (.BoolOp .Or (b :: rest) pos) (RdT C W (tst g))) : PW X (.BoolOp .Or (a :: b :: rest) pos) (RdT C W (tst (sOr fa g))) := by
  refine pw_weak (pw_or ha hb) fun σ H Q q => ?_
  obtain ⟨M, h, env, hr, er, q⟩ := q
  rw [tst_or] at q
  refine RdT.goB hr er q fun k H1 M1 h1 x1 hr1 er1 o1 => ?_
  cases k with
  | false => exact ⟨M1, h1, env, hr1, er1, o1⟩
  | true => exact o1 H1 M1 Ext.refl hr1
theorem bind_id {α : Type} (r : Res α) : (r.bind fun x h => .ok x h) = r := by cases r <;> rfl
/-! ### calls -/
theorem toEs_star0 (e : ME) (r : MEs) (l : List Expr) (env : PySem.Env) : starEach (toEs (.cons e r) l) env = (false, eval (toE e (l.headD dE)) env) :: starEach (toEs r l.tail) env := by
  rw [toEs, toE_star]
theorem pe_call' (c : Cok X S P F C W) {x : Str} {f : Nat} {e : ME} {r : MEs} {l : List Expr} {g : SemA} {p pos : Pos} (hh : S.hot = false) (h : isFn S x f = true) (ha : PA X (toEs (.cons e r) l) (RdA C W g)) :
    PE X (.Call (.Name x p) (toEs (.cons e r) l) [] pos) (RdE C W fun env h => (g env h).bind fun xs h1 => F f xs h1) := by
  obtain ⟨gl, hd, lv, fa, fd, ps, hm, hk, hb, ok, room⟩ := c.fn h hh
  have hs := toEs_star0 e r l X.env
  rw [toEs] at ha hs ⊢
  refine pe_weak (pe_callS (E := WE W) ok room gl hm hk hb (fun σ => passAt c.tk σ) ha hd hs (toEs_star _ _ _ _)) fun σ H Q q => ?_
  obtain ⟨M, h, env, hr, er, o⟩ := q
  refine RdA.go hr er o fun vs H1 M1 h1 as x1 hr1 er1 rv o1 => ?_
  exact ⟨C.K.z, M1, h1, as, hr1, rv, o1⟩
theorem pe_bif' (c : Cok X S P F C W) {b : Bi} {e : ME} {r : MEs} {l : List Expr} {g : SemA} {p pos : Pos} (hh : S.hot = false) (h : isBi S (biN b) = true) (ha : PA X (toEs (.cons e r) l) (RdA C W g)) :
    PE X (.Call (.Name (biN b) p) (toEs (.cons e r) l) [] pos) (RdE C W fun env h => (g env h).bind fun xs h1 => ofOpt (biS b xs h1) h1) := by
  obtain ⟨gl, hm, n1, n2⟩ := c.bi h
  have hs := toEs_star0 e r l X.env
  have hc := call_bif (C := C) c.hK (c.calm hh) c.hun (b := b)
  rw [toEs] at ha hs ⊢
  have fin : ∀ {σ : L2.St} {H : Hp} {Q : VK}, RdE C W (fun env h => (g env h).bind fun xs h1 => ofOpt (biS b xs h1) h1) σ H Q → tCB (rC C (biS b)) (RdA C W g) σ H Q := fun {σ H Q} q => by
    obtain ⟨M, h, env, hr, er, o⟩ := q
    refine RdA.go hr er o fun vs H1 M1 h1 as x1 hr1 er1 rv o1 => ?_
    cases e : biS b as h1 with
    | none => rw [e] at o1; exact o1.elim
    | some z =>
      rw [e] at o1
      exact ⟨M1, h1, as, z, hr1, rv, e, o1⟩
  cases b with
  | int => exact pe_weak (pe_callTy hc gl hm (by decide +kernel) ha n1 n2 hs (toEs_star _ _ _ _)) fun _ _ _ q => fin q
  | tuple => exact pe_weak (pe_callTy hc gl hm (by decide +kernel) ha n1 n2 hs (toEs_star _ _ _ _)) fun _ _ _ q => fin q
  | str => exact pe_weak (pe_callTy hc gl hm (by decide +kernel) ha n1 n2 hs (toEs_star _ _ _ _)) fun _ _ _ q => fin q
  | _ => exact pe_weak (pe_callB hc gl hm (by decide +kernel) ha n1 n2 hs (toEs_star _ _ _ _)) fun _ _ _ q => fin q
theorem pe_bil' (c : Cok X S P F C W) {b : Bl} {m : Bool} {e : ME} {r : MEs} {l : List Expr} {g : SemA} {p pos : Pos} (hh : S.hot = false) (h : isBi S (blN b) = true) (ha : PA X (toEs (.cons e r) l) (RdA C W g)) :
    PE X (.Call (.Name (blN b) p) (toEs (.cons e r) l) [] pos) (RdE C W fun env h => (g env h).bind fun xs h1 => (ofOpt (blS b xs h1) h1).bind fun ys h2 => newL m ys h2) := by
  obtain ⟨gl, hm, n1, n2⟩ := c.bi h
  have hs := toEs_star0 e r l X.env
  have hc := call_bil (X := X) (C := C) c.hK (c.calm hh) (b := b)
  rw [toEs] at ha hs ⊢
  have fin : ∀ {σ : L2.St} {H : Hp} {Q : VK}, RdE C W (fun env h => (g env h).bind fun xs h1 => (ofOpt (blS b xs h1) h1).bind fun ys h2 => newL m ys h2) σ H Q → tCB (rN C (blS b)) (RdA C W g) σ H Q := fun {σ H Q} q => by
    obtain ⟨M, h, env, hr, er, o⟩ := q
    refine RdA.go hr er o fun vs H1 M1 h1 as x1 hr1 er1 rv o1 => ?_
    cases e : blS b as h1 with
    | none => rw [e] at o1; exact o1.elim
    | some ys =>
      rw [e] at o1
      exact ⟨M1, h1, as, ys, hr1, rv, e, fun p ws hp hz hw => end_newM hr1 hz hw o1 p hp⟩
  cases b with
  | list => exact pe_weak (pe_callTy hc gl hm (by decide +kernel) ha n1 n2 hs (toEs_star _ _ _ _)) fun _ _ _ q => fin q
  | sorted => exact pe_weak (pe_callB hc gl hm (by decide +kernel) ha n1 n2 hs (toEs_star _ _ _ _)) fun _ _ _ q => fin q
theorem boot_ty (t : Ty) : bootBuiltins (tyS t) = some (.type (tyN t)) := by cases t <;> decide +kernel
theorem pe_isi' (c : Cok X S P F C W) {t : Ty} {a : ME} {e0 : Expr} {f : Sem1} {p p2 pos : Pos} (h : isBi S "isinstance" = true) (h2 : isBi S (tyS t) = true) (ha : PE X (toE a e0) (RdE C W f)) :
    PE X (.Call (.Name "isinstance" p) [toE a e0, .Name (tyS t) p2] [] pos) (RdE C W fun env h => (f env h).bind fun x h1 => (ofOpt (isTy t x h1) h1).bind fun k h2 => .ok (.bl k) h2) := by
  obtain ⟨gl, hm, n1, n2⟩ := c.bi h
  obtain ⟨gl2, hm2, n3, n4⟩ := c.bi h2
  have pt := pe_bltn (X := X) (x := tyS t) (v := .ty (tyN t)) (u := .type (tyN t)) (pos := p2) gl2 hm2 (boot_ty t) rfl n3 n4
  have pa := pa_cons ha (pa_cons pt pa_nil (by rfl)) (toE_star a e0 _ _)
  refine pe_weak (pe_callB (call_isiR (C := C) c.hK (t := t)) gl hm (by decide +kernel) pa n1 n2 (toE_star a e0 _ _) (by rfl)) fun σ H Q q => ?_
  obtain ⟨M, h, env, hr, er, o⟩ := q
  refine RdE.go hr er o fun v H1 M1 h1 x x1 hr1 er1 rv o1 => ?_
  cases e : isTy t x h1 with
  | none => rw [e] at o1; exact o1.elim
  | some b =>
    rw [e] at o1
    exact ⟨M1, h1, x, v, b, hr1, rv, rfl, e, o1 _ H1 M1 Ext.refl hr1 rv_b⟩
/-! ### list(range(..)) -/
theorem rvs_rg {M : List Addr} {H : Hp} (a b : Int) : RVs C.K M H (rngI a (b - a).toNat) (rgV a b) := by
  unfold rngI rgV
  generalize List.range (b - a).toNat = l
  induction l with
  | nil => exact .nil
  | cons k r ih => exact .cons rv_i ih
theorem lrg_end {m : Bool} {i j : Int} {Q : VK} {M : List Addr} {H : Hp} {h : MHp} (hr : HRel C.K M H h) (hi : smallR i = true) (hj : smallR j = true) (z : (j - i).toNat ≤ big) {E : XK} (o : Out C E Q M H (newL m (rngI i (j - i).toNat) h)) :
    RgOk i j ∧ ∀ q, H q = none → Q (.ref q) (upd H q (.lst (rgV i j))) := by
  have h1 := smallR_ok hi
  have h2 := smallR_ok hj
  refine ⟨⟨h1.1, h1.2, h2.1, h2.2, z⟩, fun q hq => end_newM hr ?_ (rvs_rg i j) o q hq⟩
  rw [rgV_length, ← big_eq]
  exact z
theorem pe_lrg' (c : Cok X S P F C W) {m : Bool} {es : MEs} {l : List Expr} {g : SemA} {p p2 pos2 pos : Pos} (hh : S.hot = false) (h : isBi S "list" = true) (h2 : isBi S "range" = true) (hl : mesLen es = 1 ∨ mesLen es = 2)
    (hg2 : ∀ a a2 b, es = .cons a (.cons a2 b) → ∃ f, PE X (toE a (l.headD dE)) (RdE C W f) ∧ ∃ f2, PE X (toE a2 (l.tail.headD dE)) (RdE C W f2) ∧ (b = .nil → g = fun env h => (f env h).bind fun x h1 => (f2 env h1).bind fun y h2 => .ok [x, y] h2))
    (hg1 : ∀ a, es = .cons a .nil → ∃ f, PE X (toE a (l.headD dE)) (RdE C W f) ∧ g = fun env h => (f env h).bind fun x h1 => .ok [x] h1) :
    PE X (.Call (.Name "list" p) [.Call (.Name "range" p2) (toEs es l) [] pos2] [] pos) (RdE C W fun env h => (g env h).bind fun xs h1 => (ofOpt (rangeOf xs) h1).bind fun ys h2 => newL m ys h2) := by
  obtain ⟨gl, hm, n1, n2⟩ := c.bi h
  obtain ⟨gl2, hm2, n3, n4⟩ := c.bi h2
  match es, hl with
  | .cons a .nil, _ =>
    obtain ⟨f, hf, rfl⟩ := hg1 a rfl
    rw [toEs, toEs]
    refine pe_weak (pe_listRg (c.calm hh) gl hm (prg_1 gl2 hm2 hf (toE_star _ _ _ _)) (by rfl)) fun σ H Q q => ?_
    obtain ⟨M, h, env, hr, er, o⟩ := q
    dsimp only at o
    have o : Out C (WE W σ) Q M H ((f env h).bind fun x h1 => (ofOpt (rangeOf [x]) h1).bind fun ys h2 => newL m ys h2) := by
      cases e : f env h <;> rw [e] at o <;> exact o
    refine RdE.go hr er o fun v H1 M1 h1 x x1 hr1 er1 rv o1 => ?_
    unfold rangeOf at o1
    split at o1
    · rename_i j ex
      cases ex
      split at o1
      · rename_i cc
        rw [Bool.and_eq_true] at cc
        have := rv_int rv; subst this
        refine ⟨j, rfl, lrg_end (m := m) (E := WE W σ) hr1 (by decide) cc.1 (by rw [Int.sub_zero]; exact of_decide_eq_true cc.2) (by rw [Int.sub_zero]; exact o1)⟩
      · exact o1.elim
    · rename_i ex; cases ex
    · rename_i ex; cases ex
    · exact o1.elim
  | .cons a (.cons b .nil), _ =>
    obtain ⟨f, hf, f2, hf2, e⟩ := hg2 a b .nil rfl
    have e := e rfl
    subst e
    rw [toEs, toEs, toEs]
    refine pe_weak (pe_listRg (c.calm hh) gl hm (prg_2 gl2 hm2 hf hf2 (toE_star _ _ _ _) (toE_star _ _ _ _) (by rw [toE_star]; rfl)) (by rfl)) fun σ H Q q => ?_
    obtain ⟨M, h, env, hr, er, o⟩ := q
    dsimp only at o
    have o : Out C (WE W σ) Q M H ((f env h).bind fun x h1 => (f2 env h1).bind fun y h2 => (ofOpt (rangeOf [x, y]) h2).bind fun ys h3 => newL m ys h3) := by
      cases e : f env h with
      | ok x h1 =>
        rw [e] at o
        simp only [Res.bind_ok] at o ⊢
        cases e2 : f2 env h1 <;> rw [e2] at o <;> exact o
      | exn x h1 => rw [e] at o; exact o
      | stuck => rw [e] at o; exact o
    refine RdE.go hr er o fun v H1 M1 h1 x x1 hr1 er1 rv o1 => ?_
    refine RdE.go hr1 er1 o1 fun u H2 M2 h2 y x2 hr2 er2 ru o2 => ?_
    unfold rangeOf at o2
    split at o2
    · rename_i ex; cases ex
    · rename_i i j ex
      cases ex
      split at o2
      · rename_i cc
        rw [Bool.and_eq_true, Bool.and_eq_true] at cc
        have := rv_int rv; subst this
        have := rv_int ru; subst this
        exact ⟨i, j, rfl, rfl, lrg_end (m := m) (E := WE W σ) hr2 cc.1.1 cc.1.2 (of_decide_eq_true cc.2) o2⟩
      · exact o2.elim
    · rename_i ex; cases ex
    · exact o2.elim
  | .nil, hl => exact absurd hl (by simp [mesLen])
  | .cons _ (.cons _ (.cons _ _)), hl => exact absurd hl (by simp [mesLen])
/-! ### methods -/
theorem rcv_list {m : Mt} {k : Nat} (hm : mtOk m k = true) {M : List Addr} {H : Hp} {h : MHp} {x : PV} {v : V} (hr : HRel C.K M H h) (r : RV C.K M H x v) (e : rcv m x h = true) : ∃ a vs, v = .ref a ∧ H a = some (.lst vs) := by
  have e : (itemsL x h).isSome = true := by
    cases m with
    | get => cases hm
    | count => cases hm
    | join => cases hm
    | values => cases hm
    | _ => exact e
  obtain ⟨ys, ey⟩ := Option.isSome_iff_exists.mp e
  obtain ⟨a, vs, rfl, _, ea, _⟩ := itemsL_ok hr r ey
  exact ⟨a, vs, rfl, ea⟩
theorem slot_mt {m : Mt} {k : Nat} (hm : mtOk m k = true) : Slot "list" (mtN m) (mtI m) ∧ typeOf (.builtin (mtI m)) = pure (.type "method_descriptor") := by
  cases m with
  | append => exact ⟨PySem.F.slot_list_append, PySem.F.type_list_append⟩
  | extend => exact ⟨PySem.F.slot_list_extend, PySem.F.type_list_extend⟩
  | pop => exact ⟨PySem.F.slot_list_pop, PySem.F.type_list_pop⟩
  | popAt => exact ⟨PySem.F.slot_list_pop, PySem.F.type_list_pop⟩
  | index => exact ⟨PySem.F.slot_list_index, PySem.F.type_list_index⟩
  | _ => cases hm
theorem pe_mth' (c : Cok X S P F C W) {m : Mt} {o : ME} {eo : Expr} {es : MEs} {l : List Expr} {f : Sem1} {g : SemA} {ap pos : Pos} (hm : mtOk m (mesLen es) = true) (hl : ap.endLine = pos.line) (hb : attributeBase (toE o eo) (mtN m) X.env (eval (toE o eo) X.env) = eval (toE o eo) X.env)
    (ho : PE X (toE o eo) (RdE C W f)) (hg : PA X (toEs es l) (RdA C W g)) (h0 : es = .nil → g = fun _ h => .ok [] h) :
    PE X (.Call (.Attribute (toE o eo) (mtN m) ap) (toEs es l) [] pos) (RdE C W fun env h => (f env h).bind fun x h1 => if rcv m x h1 then (g env h1).bind fun xs h2 => (match mth m x xs h2 with | some (v, h3) => .ok v h3 | none => .stuck) else .stuck) := by
  have hline : (ap.endLine == pos.line) = true := by rw [hl]; simp
  obtain ⟨sl, ty⟩ := slot_mt hm
  match es, hm, hg, h0 with
  | .nil, hm, hg, h0 =>
    have := h0 rfl
    subst this
    rw [toEs]
    refine pe_weak (pe_bm0 PySem.F.plainAttrs_list sl ty (mt_any (C := C) c.hK c.hun hm) ho hb hline) fun σ H Q q => ?_
    obtain ⟨M, h, env, hr, er, o⟩ := q
    refine RdE.go hr er o fun v H1 M1 h1 x x1 hr1 er1 rv o1 => ?_
    simp only [Res.bind_ok] at o1
    cases er' : rcv m x h1 with
    | false => rw [er'] at o1; exact o1.elim
    | true =>
      rw [er', if_pos rfl] at o1
      obtain ⟨a, vs, ea, eh⟩ := rcv_list hm hr1 rv er'
      cases e : mth m x [] h1 with
      | none => rw [e] at o1; exact o1.elim
      | some z =>
        rw [e] at o1
        refine ⟨?_, M1, h1, x, [], z.1, z.2, hr1, rv, .nil, e, o1⟩
        rw [ea]
        exact .inl ⟨rfl, vs, SqL.of eh⟩
  | .cons e1 .nil, hm, hg, _ =>
    have hs := toEs_star0 e1 .nil l X.env
    rw [toEs] at hg hs ⊢
    refine pe_weak (pe_bm PySem.F.plainAttrs_list sl ty (mt_any (C := C) c.hK c.hun hm) ho hg hb (by rw [toEs, toE_star]; rfl) hline hs (toEs_star _ _ _ _)) fun σ H Q q => ?_
    obtain ⟨M, h, env, hr, er, o⟩ := q
    refine RdE.go hr er o fun v H1 M1 h1 x x1 hr1 er1 rv o1 => ?_
    cases er' : rcv m x h1 with
    | false => rw [er'] at o1; exact o1.elim
    | true =>
      rw [er', if_pos rfl] at o1
      obtain ⟨a, vs, ea, eh⟩ := rcv_list hm hr1 rv er'
      refine ⟨by rw [ea]; exact .inl ⟨rfl, vs, SqL.of eh⟩, ?_⟩
      refine RdA.go hr1 er1 o1 fun ws H2 M2 h2 as x2 hr2 er2 rws o2 => ?_
      cases e : mth m x as h2 with
      | none => rw [e] at o2; exact o2.elim
      | some z =>
        rw [e] at o2
        exact ⟨M2, h2, x, as, z.1, z.2, hr2, rv.ext x2, rws, e, o2⟩
  | .cons _ (.cons _ _), hm, _, _ => cases m <;> simp [mtOk, mesLen] at hm
/-- d.get(k, v) -/
theorem pe_get' (c : Cok X S P F C W) {o e1 e2 : ME} {eo k1 k2 : Expr} {f g1 g2 : Sem1} {ap pos : Pos} (hl : ap.endLine = pos.line) (hb : attributeBase (toE o eo) "get" X.env (eval (toE o eo) X.env) = eval (toE o eo) X.env)
    (ho : PE X (toE o eo) (RdE C W f)) (h1 : PE X (toE e1 k1) (RdE C W g1)) (h2 : PE X (toE e2 k2) (RdE C W g2)) :
    PE X (.Call (.Attribute (toE o eo) "get" ap) [toE e1 k1, toE e2 k2] [] pos) (RdE C W fun env h => (f env h).bind fun x h1 => if rcv .get x h1 then (g1 env h1).bind fun y h2 => (g2 env h2).bind fun z h3 => (match mth .get x [y, z] h3 with | some (v, h4) => .ok v h4 | none => .stuck) else .stuck) := by
  have hline : (ap.endLine == pos.line) = true := by rw [hl]; simp
  have hs : starEach [toE e1 k1, toE e2 k2] X.env = [(false, eval (toE e1 k1) X.env), (false, eval (toE e2 k2) X.env)] := by
    rw [toE_star, toE_star]; rfl
  have hu : X.A.units + 1 < cLine := by have := c.hun; omega
  refine pe_weak (pe_dget2 hu ho h1 h2 ⟨hb, by rw [hs]; rfl, hline, by rw [hs]; rfl⟩) fun σ H Q q => ?_
  obtain ⟨M, h, env, hr, er, o⟩ := q
  refine RdE.go hr er o fun v H1 M1 h1 x x1 hr1 er1 rv o1 => ?_
  cases er' : rcv .get x h1 with
  | false => rw [er'] at o1; exact o1.elim
  | true =>
    rw [er', if_pos rfl] at o1
    obtain ⟨⟨t, ks, ws⟩, ed⟩ := Option.isSome_iff_exists.mp (show (asDic x h1).isSome = true from er')
    obtain ⟨a, us, u, rfl, ea, d, rs⟩ := asDic_ok hr1 rv ed
    refine ⟨a, rfl, ?_, ?_⟩
    · cases t with
      | false =>
        obtain ⟨kvs, rfl, _, _⟩ := (show ∃ kvs : List (Key × V), u = .dK kvs ∧ ks = kvs.map (fun p => keyP p.1) ∧ us = kvs.map (·.2) from d)
        exact .inl ⟨kvs, .inl ea⟩
      | true =>
        obtain ⟨kvs, rfl, _, _⟩ := (show ∃ kvs : List (List Key × V), u = .dT kvs ∧ ks = kvs.map (fun p => .tup (p.1.map keyP)) ∧ us = kvs.map (·.2) from d)
        exact .inr ⟨kvs, .inl ea⟩
    · refine RdE.go hr1 er1 o1 fun y H2 M2 h2 p x2 hr2 er2 rp o2 => ?_
      refine RdE.go hr2 er2 o2 fun z H3 M3 h3 q x3 hr3 er3 rq o3 => ?_
      simp only [mth] at o3
      cases ed3 : asDic x h3 with
      | none => rw [ed3] at o3; exact o3.elim
      | some w =>
        obtain ⟨t', ks', ws'⟩ := w
        rw [ed3] at o3
        simp only [Option.bind_some] at o3
        by_cases kk : keyOk t' p = true
        · rw [if_pos kk] at o3
          obtain ⟨a', us', u', ee, ea', d', rs'⟩ := asDic_ok hr3 ((rv.ext x2).ext x3) ed3
          cases ee
          obtain ⟨r, g, _, hsome, hnone⟩ := dget_ok ea' d' rs' kk (rp.ext x3)
          refine ⟨r, g, ?_⟩
          cases el : lookK ks' ws' p with
          | none =>
            rw [hnone el]
            rw [el] at o3
            exact o3 z H3 M3 Ext.refl hr3 rq
          | some y' =>
            obtain ⟨w', rfl, rw'⟩ := hsome y' el
            rw [el] at o3
            exact o3 w' H3 M3 Ext.refl hr3 rw'
        · rw [if_neg kk] at o3; exact o3.elim
/-! ### comprehensions -/
theorem pe_lc' (c : Cok X S P F C W) (hh : S.hot = false) {elt iter tg0 : Expr} {ifs : List Expr} {sc : Scope} {own : List Nat} {tg : MT} {pos : Pos} {fe : Sem1} {ft : Env → MHp → Res Bool} {fi : Env → MHp → Res Wk}
    (hin : tgIn tg own = true) (hb : blkC S.N S.sc sc (ownP S own) = true) (ht : wfT (inner S sc) (fun x => sc.names.lookup x == some .cell) tg tg0 = true) (hfold : ∀ x, foldedSetIterable iter X.env x = pure x)
    (hi : PI X (toT tg tg0) iter (RdI C W fi))
    (he : ∀ {X' : Cx} (z : List Addr), Cok X' (inner S sc) P F (C.zz z) W0 → PE X' elt (RdE (C.zz z) W0 fe)) (hf : ∀ {X' : Cx} (z : List Addr), Cok X' (inner S sc) P F (C.zz z) W0 → PTs X' ifs (RdT (C.zz z) W0 ft)) :
    PE X (.ListComp elt [⟨toT tg tg0, iter, ifs, 0⟩] sc pos) (RdE C W fun env h => (fi env h).bind fun r h1 => match loopC fe ft tg r.src r.items (wipeE env own) h1 with | .ok ys h2 => .ok (.lst ys) h2 | _ => .stuck) := by
  have hblk : ∀ (s : Shared) (H : Hp) (D : Addr) (cl : List (Str × Addr)) (fp : List Addr), Cok (X.blk s H sc (compEnvC sc cl D X.env) fp) (inner S sc) P F C W0 := fun s H D cl fp => c.blk hh s H sc cl D fp
  refine pe_weak (pe_lc (own := ownP S own) (c.calm hh) (by rw [c.hN]; exact c.nd) hi (blkOk_by (by rw [c.hN, c.hsc]; exact hb)) (g := gT C.K.f tg) (tt := RdTz C W0 ft) (te := RdEz C W0 fe) ?_ ?_ ?_ hfold) fun σ H Q q => ?_
  · intro s H D cl fp
    have cb := hblk s H D cl fp
    refine pg_sound cb.hN cb.nd cb.hsc cb.hK cb.calm (fun x hx => hx) tg tg0 ht
  · intro s H D cl fp
    exact pts_z fun z => hf z ((hblk s H D cl fp).zz z)
  · intro s H D cl fp
    exact pe_z fun z => he z ((hblk s H D cl fp).zz z)
  · have := lc_ok (c.hx hh).1 hin q
    rw [ownP_snd]
    exact this
theorem pe_lcm' (c : Cok X S P F C W) (hh : S.hot = false) {elt iter tg0 : Expr} {ifs : List Expr} {sc : Scope} {own : List Nat} {tg : MT} {pos : Pos} {fe : Sem1} {ft : Env → MHp → Res Bool} {fi : Env → MHp → Res Wk}
    (hin : tgIn tg own = true) (hb : blkC S.N S.sc sc (ownP S own) = true) (ht : wfT (inner S sc) (fun x => sc.names.lookup x == some .cell) tg tg0 = true) (hfold : ∀ x, foldedSetIterable iter X.env x = pure x)
    (hi : PI X (toT tg tg0) iter (RdI C W fi))
    (he : ∀ {X' : Cx} (z : List Addr), Cok X' (inner S sc) P F (C.zz z) W0 → PE X' elt (RdE (C.zz z) W0 fe)) (hf : ∀ {X' : Cx} (z : List Addr), Cok X' (inner S sc) P F (C.zz z) W0 → PTs X' ifs (RdT (C.zz z) W0 ft)) :
    PE X (.ListComp elt [⟨toT tg tg0, iter, ifs, 0⟩] sc pos) (RdE C W fun env h => (fi env h).bind fun r h1 => match loopC fe ft tg r.src r.items (wipeE env own) h1 with | .ok ys h2 => .ok (.ref h2.length) (h2 ++ [.lst ys]) | _ => .stuck) := by
  have hblk : ∀ (s : Shared) (H : Hp) (D : Addr) (cl : List (Str × Addr)) (fp : List Addr), Cok (X.blk s H sc (compEnvC sc cl D X.env) fp) (inner S sc) P F C W0 := fun s H D cl fp => c.blk hh s H sc cl D fp
  refine pe_weak (pe_lc (own := ownP S own) (c.calm hh) (by rw [c.hN]; exact c.nd) hi (blkOk_by (by rw [c.hN, c.hsc]; exact hb)) (g := gT C.K.f tg) (tt := RdTz C W0 ft) (te := RdEz C W0 fe) ?_ ?_ ?_ hfold) fun σ H Q q => ?_
  · intro s H D cl fp
    have cb := hblk s H D cl fp
    refine pg_sound cb.hN cb.nd cb.hsc cb.hK cb.calm (fun x hx => hx) tg tg0 ht
  · intro s H D cl fp
    exact pts_z fun z => hf z ((hblk s H D cl fp).zz z)
  · intro s H D cl fp
    exact pe_z fun z => he z ((hblk s H D cl fp).zz z)
  · have := lcm_ok (c.hx hh).1 hin q
    rw [ownP_snd]
    exact this
theorem pe_dcc' (c : Cok X S P F C W) (hh : S.hot = false) {kx vx iter tg0 : Expr} {ifs : List Expr} {sc : Scope} {own : List Nat} {t : Bool} {tg : MT} {pos : Pos} {fk fv : Sem1} {ft : Env → MHp → Res Bool} {fi : Env → MHp → Res Wk}
    (hin : tgIn tg own = true) (hb : blkC S.N S.sc sc (ownP S own) = true) (ht : wfT (inner S sc) (fun x => sc.names.lookup x == some .cell) tg tg0 = true) (hfold : ∀ x, foldedSetIterable iter X.env x = pure x)
    (hi : PI X (toT tg tg0) iter (RdI C W fi))
    (hk : ∀ {X' : Cx} (z : List Addr), Cok X' (inner S sc) P F (C.zz z) W0 → PE X' kx (RdE (C.zz z) W0 fk)) (hv : ∀ {X' : Cx} (z : List Addr), Cok X' (inner S sc) P F (C.zz z) W0 → PE X' vx (RdE (C.zz z) W0 fv)) (hf : ∀ {X' : Cx} (z : List Addr), Cok X' (inner S sc) P F (C.zz z) W0 → PTs X' ifs (RdT (C.zz z) W0 ft)) :
    PE X (.DictComp kx vx [⟨toT tg tg0, iter, ifs, 0⟩] sc pos) (RdE C W fun env h => (fi env h).bind fun r h1 => match loopD fk fv ft t tg r.src r.items (wipeE env own) [] [] h1 with | .ok kv h2 => .ok (.dic t kv.1 kv.2) h2 | _ => .stuck) := by
  have hblk : ∀ (s : Shared) (H : Hp) (D : Addr) (cl : List (Str × Addr)) (fp : List Addr), Cok (X.blk s H sc (compEnvC sc cl D X.env) fp) (inner S sc) P F C W0 := fun s H D cl fp => c.blk hh s H sc cl D fp
  refine pe_weak (pe_dg (own := ownP S own) t (by have := c.hun; omega) (c.calm hh) (by rw [c.hN]; exact c.nd) hi (blkOk_by (by rw [c.hN, c.hsc]; exact hb)) (g := gT C.K.f tg) (tt := RdTz C W0 ft) (tk := RdEz C W0 fk) (tv := RdEz C W0 fv) ?_ ?_ ?_ ?_ hfold) fun σ H Q q => ?_
  · intro s H D cl fp
    have cb := hblk s H D cl fp
    refine pg_sound cb.hN cb.nd cb.hsc cb.hK cb.calm (fun x hx => hx) tg tg0 ht
  · intro s H D cl fp
    exact pts_z fun z => hf z ((hblk s H D cl fp).zz z)
  · intro s H D cl fp
    exact pe_z fun z => hk z ((hblk s H D cl fp).zz z)
  · intro s H D cl fp
    exact pe_z fun z => hv z ((hblk s H D cl fp).zz z)
  · have := dc_ok (c.hx hh).1 hin q
    rw [ownP_snd]
    exact this
end
end Qm

/-! SZ: zip of a list and a tuple: a step of zip over any two iterators. -/
namespace Qm
open PySem PySem.Spec PyProof.Rows L2 RT RZ
section
variable {prog : Program} {w : World} {A : Around}
/-- an iterator it over the items xs of l -/
structure Itr (prog : Program) (w : World) (it l : Addr) (xs : Array Value) (St : Nat → Heap → Prop) : Prop where
  keep : ∀ {k : Nat} {h g : Heap} {b : Addr}, St k h → Heap.ExtBut b h g → it ≠ b → l ≠ b → St k g
  item : ∀ {A : Around} {s : Shared} {k : Nat} {x : Value} {Q E : Value → Shared → Prop}, St k s.heap → xs[k]? = some x → (∀ g, St (k + 1) g → Heap.SameBut it s.heap g → Q x { s with heap := g }) → wpAny (model prog w) A (Builtin.SmallTypes.nextOf (.ref it)) Q E s
  stop : ∀ {A : Around} {s : Shared} {k : Nat} {Q E : Value → Shared → Prop}, A.handled = none → St k s.heap → xs[k]? = none → (∀ g e, Heap.ExtBut it s.heap g → (∃ o, g.get? e = some o ∧ o.cls = .type "StopIteration") → E (.ref e) { s with heap := g }) → wpAny (model prog w) A (Builtin.SmallTypes.nextOf (.ref it)) Q E s
theorem itrL {it l : Addr} (hn : l ≠ it) (xs : Array Value) : Itr prog w it l xs (fun k h => h.IsListIter it l k ∧ h.IsList l xs) where
  keep := fun ⟨a, b⟩ e n1 n2 => ⟨a.extBut e n1, b.extBut e n2⟩
  item := fun ⟨a, b⟩ hx q => wpAny_nextOf_list_item a b hx fun g i u => q g ⟨i, b.extBut u.extBut hn⟩ u
  stop := fun hh ⟨a, b⟩ hx q => wpAny_nextOf_list_end hh a b hx q
theorem itrT {it l : Addr} (hn : l ≠ it) (xs : Array Value) : Itr prog w it l xs (fun k h => h.IsTupleIter it l k ∧ h.IsTuple l xs) where
  keep := fun ⟨a, b⟩ e n1 n2 => ⟨a.extBut e n1, b.extBut e n2⟩
  item := fun ⟨a, b⟩ hx q => nextOf_tuple_item a b hx fun g i u => q g ⟨i, b.extBut u.extBut hn⟩ u
  stop := fun hh ⟨a, b⟩ hx q => nextOf_tuple_end hh a b hx q
variable {E : Value → Shared → Prop} {s : Shared} {z TI TO i1 i2 l1 l2 : Addr} {k1 k2 : Nat} {xs ys : Array Value} {S1 S2 : Nat → Heap → Prop} {a b : Value}
/-- a pair -/
theorem zipG_item {x y : Value} {Q : Value → Shared → Prop} (I1 : Itr prog w i1 l1 xs S1) (I2 : Itr prog w i2 l2 ys S2) (D : ZipApart z TI TO i1 i2 l1 l2)
    (pz : IsZip s.heap z TI TO .none) (pI : IsPair s.heap TI (.ref i1) (.ref i2)) (pO : IsPair s.heap TO a b) (st1 : S1 k1 s.heap) (st2 : S2 k2 s.heap) (ex : xs[k1]? = some x) (ey : ys[k2]? = some y)
    (q : ∀ g, IsZip g z TI TO (rawInt s.heap.objs.size) → IsPair g TO x y → S1 (k1 + 1) g → S2 (k2 + 1) g → IsPair g s.heap.objs.size x y → g.objs.size = s.heap.objs.size + 1 →
      (∀ c o, c ≠ z → c ≠ TO → c ≠ i1 → c ≠ i2 → s.heap.get? c = some o → g.get? c = some o) → Q (.ref s.heap.objs.size) { s with heap := g }) :
    wpAny (model prog w) A (Builtin.«zip.__next__» ⟨[.ref z], []⟩) (fun fin t => ∃ v, fin = .done (.ret v) ∧ Q v t) E s := by
  show wpAny _ _ (field (.ref z) 2 >>= _) _ _ _; refine wpAny_bind (wpAny_field pz rfl (x := .bool false) rfl ?_)
  show wpAny _ _ (field (.ref z) 3 >>= _) _ _ _; refine wpAny_bind (wpAny_field pz rfl (x := .ref TI) rfl ?_)
  refine wpAny_bind (wpAny_seqItems pI rfl ?_); show wpAny _ _ (Builtin.SmallTypes.ownedTupleIsFree (.ref z) >>= _) _ _ _
  refine wpAny_bind ?_; unfold Builtin.SmallTypes.ownedTupleIsFree
  refine wpAny_bind (wpAny_field pz rfl (x := .none) rfl (wpAny_pure ?_)); simp only [if_true]
  refine wpAny_bind (wpAny_rule ?_); refine wpAny_bind (wpAny_field pz rfl (x := .ref TO) rfl ?_)
  refine wpAny_bind (wpAny_setField_rec pz (by simp) fun g1 p1 u1 => ?_)
  have pz1 : IsZip g1 z TI TO .ellipsis := p1
  refine wpAny_bind ?_; simp only [List.zipIdx_cons, List.zipIdx_nil, List.forIn_cons, List.forIn_nil]
  -- the first item
  refine wpAny_bind (wpAny_bind (wpAny_onRaise ?_)); show wpAny _ _ (Builtin.SmallTypes.nextOf (.ref i1) >>= _) _ _ _
  refine wpAny_bind (I1.item (I1.keep st1 u1.extBut D.i1z D.l1z) ex fun g2 t1 u2 => wpAny_pure ?_)
  have pO2 : IsPair g2 TO a b := u2.extBut _ _ D.TOi1 (u1.extBut _ _ D.TOz pO)
  refine wpAny_bind (wpAny_seqItems pO2 rfl ?_); refine wpAny_bind (wpAny_updateSeq_pair pO2 fun g3 p3 u3 => ?_)
  have pO3 : IsPair g3 TO x b := p3
  refine wpAny_bind (wpAny_letGo (wpAny_pure ?_))
  -- the second one
  refine wpAny_bind (wpAny_bind (wpAny_onRaise ?_)); show wpAny _ _ (Builtin.SmallTypes.nextOf (.ref i2) >>= _) _ _ _
  refine wpAny_bind (I2.item (I2.keep (I2.keep (I2.keep st2 u1.extBut D.i2z D.l2z) u2.extBut D.i12.symm D.l2i1) u3.extBut D.TOi2.symm D.l2TO) ey fun g4 t2 u4 => wpAny_pure ?_)
  have pO4 : IsPair g4 TO x b := u4.extBut _ _ D.TOi2 pO3
  refine wpAny_bind (wpAny_seqItems pO4 rfl ?_); refine wpAny_bind (wpAny_updateSeq_pair pO4 fun g5 p5 u5 => ?_)
  have pO5 : IsPair g5 TO x y := p5
  refine wpAny_bind (wpAny_letGo (wpAny_pure (wpAny_pure ?_))); refine wpAny_bind (wpAny_seqItems pO5 rfl ?_)
  refine wpAny_bind (wpAny_newTuple ?_)
  have sz : g5.objs.size = s.heap.objs.size := by rw [u5.1, u4.1, u3.1, u2.1, u1.1]
  have pz5 : IsZip g5 z TI TO .ellipsis := u5.extBut _ _ D.TOz.symm (u4.extBut _ _ D.i2z.symm (u3.extBut _ _ D.TOz.symm (u2.extBut _ _ D.i1z.symm pz1)))
  have all5 : ∀ c o, c ≠ z → c ≠ TO → c ≠ i1 → c ≠ i2 → s.heap.get? c = some o → g5.get? c = some o := fun c o n1 n2 n3 n4 e =>
    u5.extBut c o n2 (u4.extBut c o n4 (u3.extBut c o n2 (u2.extBut c o n3 (u1.extBut c o n1 e))))
  have t15 : S1 (k1 + 1) g5 := I1.keep (I1.keep (I1.keep t1 u3.extBut D.TOi1.symm D.l1TO) u4.extBut D.i12 D.l1i2) u5.extBut D.TOi1.symm D.l1TO
  have t25 : S2 (k2 + 1) g5 := I2.keep t2 u5.extBut D.TOi2.symm D.l2TO
  have zlt : z < g5.objs.size := Heap.lt_size pz5
  show wpAny _ _ (Builtin.SmallTypes.ownedTupleHandOut (.ref z) (.ref g5.objs.size) >>= _) _ _ _
  refine wpAny_bind ?_; unfold Builtin.SmallTypes.ownedTupleHandOut
  generalize hg6 : g5.push { cls := .type "tuple", data := .seq #[x, y] } = g6
  have pz6 : IsZip g6 z TI TO .ellipsis := by rw [← hg6]; exact Heap.get?_push_of_some _ pz5
  have up6 : ∀ c o, g5.get? c = some o → g6.get? c = some o := fun c o e => by rw [← hg6]; exact Heap.get?_push_of_some _ e
  have new6 : IsPair g6 g5.objs.size x y := by rw [← hg6]; exact Heap.get?_push_size _ rfl
  have sz6 : g6.objs.size = g5.objs.size + 1 := by rw [← hg6]; exact Heap.size_push ..
  refine wpAny_bind (wpAny_setField_rec (s := { s with heap := g6 }) pz6 (by simp) fun g7 p7 u7 => ?_)
  have pz7 : IsZip g7 z TI TO (rawInt g5.objs.size) := p7
  refine wpAny_setField_rec pz7 (by simp) fun g8 p8 u8 => ?_
  have pz8 : IsZip g8 z TI TO (rawInt g5.objs.size) := p8
  have up8 : ∀ c o, c ≠ z → g6.get? c = some o → g8.get? c = some o := fun c o n e => u8.extBut _ _ n (u7.extBut _ _ n e)
  have e6 : Heap.ExtBut z g5 g8 := fun c o n e => up8 c o n (up6 c o e)
  have sz8 : g8.objs.size = s.heap.objs.size + 1 := by rw [u8.1, u7.1, sz6, sz]
  refine wpAny_pure ⟨_, rfl, ?_⟩
  have new8 := up8 _ _ (Nat.ne_of_gt zlt) new6
  rw [sz] at pz8 new8
  show Q (.ref g5.objs.size) _
  rw [sz]
  exact q g8 pz8 (e6 _ _ D.TOz pO5) (I1.keep t15 e6 D.i1z D.l1z) (I2.keep t25 e6 D.i2z D.l2z) new8 sz8 fun c o n1 n2 n3 n4 e => e6 _ _ n1 (all5 c o n1 n2 n3 n4 e)
/-- no pair -/
theorem zipG_stop {Q : PySem.Fin → Shared → Prop} (hh : A.handled = none) (I1 : Itr prog w i1 l1 xs S1) (I2 : Itr prog w i2 l2 ys S2) (D : ZipApart z TI TO i1 i2 l1 l2)
    (pz : IsZip s.heap z TI TO .none) (pI : IsPair s.heap TI (.ref i1) (.ref i2)) (pO : IsPair s.heap TO a b) (st1 : S1 k1 s.heap) (st2 : S2 k2 s.heap) (hend : xs[k1]? = none ∨ ys[k2]? = none)
    (q : ∀ g e, (∀ c o, c ≠ z → c ≠ TO → c ≠ i1 → c ≠ i2 → s.heap.get? c = some o → g.get? c = some o) → (∃ o, g.get? e = some o ∧ o.cls = .type "StopIteration") → E (.ref e) { s with heap := g }) :
    wpAny (model prog w) A (Builtin.«zip.__next__» ⟨[.ref z], []⟩) Q E s := by
  show wpAny _ _ (field (.ref z) 2 >>= _) _ _ _; refine wpAny_bind (wpAny_field pz rfl (x := .bool false) rfl ?_)
  show wpAny _ _ (field (.ref z) 3 >>= _) _ _ _; refine wpAny_bind (wpAny_field pz rfl (x := .ref TI) rfl ?_)
  refine wpAny_bind (wpAny_seqItems pI rfl ?_); show wpAny _ _ (Builtin.SmallTypes.ownedTupleIsFree (.ref z) >>= _) _ _ _
  refine wpAny_bind ?_; unfold Builtin.SmallTypes.ownedTupleIsFree
  refine wpAny_bind (wpAny_field pz rfl (x := .none) rfl (wpAny_pure ?_)); simp only [if_true]
  refine wpAny_bind (wpAny_rule ?_); refine wpAny_bind (wpAny_field pz rfl (x := .ref TO) rfl ?_)
  refine wpAny_bind (wpAny_setField_rec pz (by simp) fun g1 p1 u1 => ?_)
  have pz1 : IsZip g1 z TI TO .ellipsis := p1
  refine wpAny_bind ?_; simp only [List.zipIdx_cons, List.zipIdx_nil, List.forIn_cons, List.forIn_nil]
  refine wpAny_bind (wpAny_bind (wpAny_onRaise ?_)); show wpAny _ _ (Builtin.SmallTypes.nextOf (.ref i1) >>= _) _ _ _
  have st11 := I1.keep st1 u1.extBut D.i1z D.l1z
  cases ex : xs[k1]? with
  | none =>
    refine wpAny_bind (I1.stop hh st11 ex fun g2 e u2 ⟨oe, he, hc⟩ => ?_)
    have pz2 : IsZip g2 z TI TO .ellipsis := u2 _ _ D.i1z.symm pz1
    have ez : e ≠ z := fun x => by rw [x, pz2] at he; cases he; simp at hc
    refine wpAny_setField_rec pz2 (by simp) fun g3 _ u3 => q g3 e (fun c o n1 _ n3 _ e => u3.extBut c o n1 (u2 c o n3 (u1.extBut c o n1 e))) ⟨oe, u3.extBut _ _ ez he, hc⟩
  | some x =>
    have ey : ys[k2]? = none := by
      rcases hend with h | h
      · rw [ex] at h; cases h
      · exact h
    refine wpAny_bind (I1.item st11 ex fun g2 t1 u2 => wpAny_pure ?_)
    have pO2 : IsPair g2 TO a b := u2.extBut _ _ D.TOi1 (u1.extBut _ _ D.TOz pO)
    refine wpAny_bind (wpAny_seqItems pO2 rfl ?_); refine wpAny_bind (wpAny_updateSeq_pair pO2 fun g3 p3 u3 => ?_)
    refine wpAny_bind (wpAny_letGo (wpAny_pure ?_))
    refine wpAny_bind (wpAny_bind (wpAny_onRaise ?_)); show wpAny _ _ (Builtin.SmallTypes.nextOf (.ref i2) >>= _) _ _ _
    refine wpAny_bind (I2.stop hh (I2.keep (I2.keep (I2.keep st2 u1.extBut D.i2z D.l2z) u2.extBut D.i12.symm D.l2i1) u3.extBut D.TOi2.symm D.l2TO) ey fun g4 e u4 ⟨oe, he, hc⟩ => ?_)
    have pz4 : IsZip g4 z TI TO .ellipsis := u4 _ _ D.i2z.symm (u3.extBut _ _ D.TOz.symm (u2.extBut _ _ D.i1z.symm pz1))
    have ez : e ≠ z := fun x => by rw [x, pz4] at he; cases he; simp at hc
    refine wpAny_setField_rec pz4 (by simp) fun g5 _ u5 => q g5 e (fun c o n1 n2 n3 n4 e => u5.extBut c o n1 (u4 c o n4 (u3.extBut c o n2 (u2.extBut c o n3 (u1.extBut c o n1 e))))) ⟨oe, u5.extBut _ _ ez he, hc⟩
/-- next(zip), a pair -/
theorem nextG_item {x y : Value} {Q : Option Value → Shared → Prop} (I1 : Itr prog w i1 l1 xs S1) (I2 : Itr prog w i2 l2 ys S2) (D : ZipApart z TI TO i1 i2 l1 l2)
    (pz : IsZip s.heap z TI TO .none) (pI : IsPair s.heap TI (.ref i1) (.ref i2)) (pO : IsPair s.heap TO a b) (st1 : S1 k1 s.heap) (st2 : S2 k2 s.heap) (ex : xs[k1]? = some x) (ey : ys[k2]? = some y)
    (q : ∀ g, IsZip g z TI TO (rawInt s.heap.objs.size) → IsPair g TO x y → S1 (k1 + 1) g → S2 (k2 + 1) g → IsPair g s.heap.objs.size x y → g.objs.size = s.heap.objs.size + 1 →
      (∀ c o, c ≠ z → c ≠ TO → c ≠ i1 → c ≠ i2 → s.heap.get? c = some o → g.get? c = some o) → Q (some (.ref s.heap.objs.size)) { s with heap := g }) :
    wpAny (model prog w) A (pyNext (.ref z)) Q E s := by
  have ty : s.TypeIs (.ref z) "zip" := ⟨_, pz, rfl⟩
  unfold pyNext
  exact wpAny_bind (wpAny_attempt (wpAny_callSpecial?_slot (name := Str.ofString "__next__") ty PySem.F.slot_zip_next (wpAny_call_entry PySem.F.slot_zip_next ty PySem.F.entry_zip_next
    (zipG_item I1 I2 D pz pI pO st1 st2 ex ey fun g c1 c2 c3 c4 c5 c6 c7 => wpAny_pure (q g c1 c2 c3 c4 c5 c6 c7)) (PySem.F.args_zip_next_1 _))))
/-- .. the end -/
theorem nextG_stop {Q : Option Value → Shared → Prop} (hh : A.handled = none) (I1 : Itr prog w i1 l1 xs S1) (I2 : Itr prog w i2 l2 ys S2) (D : ZipApart z TI TO i1 i2 l1 l2)
    (pz : IsZip s.heap z TI TO .none) (pI : IsPair s.heap TI (.ref i1) (.ref i2)) (pO : IsPair s.heap TO a b) (st1 : S1 k1 s.heap) (st2 : S2 k2 s.heap) (hend : xs[k1]? = none ∨ ys[k2]? = none)
    (q : ∀ g, (∀ c o, c ≠ z → c ≠ TO → c ≠ i1 → c ≠ i2 → s.heap.get? c = some o → g.get? c = some o) → Q none { s with heap := g }) : wpAny (model prog w) A (pyNext (.ref z)) Q E s := by
  have ty : s.TypeIs (.ref z) "zip" := ⟨_, pz, rfl⟩
  unfold pyNext
  refine wpAny_bind (wpAny_attempt (wpAny_callSpecial?_slot (name := Str.ofString "__next__") ty PySem.F.slot_zip_next (wpAny_call_entry PySem.F.slot_zip_next ty PySem.F.entry_zip_next
    (zipG_stop hh I1 I2 D pz pI pO st1 st2 hend fun g e k ⟨o, ho, hc⟩ => ?_) (PySem.F.args_zip_next_1 _))))
  exact wpAny_bind (wpAny_isInstance (T := "StopIteration") (b := true) ⟨o, ho, hc⟩ isSubtype_stop (wpAny_pure (q _ k)))
end
/-! ### a list and a tuple -/
/-- the list at a, the tuple at b -/
def ItzM (K : PySem.W.Frag) (a b : Addr) : It where
  go := fun i H => ∃ (xs ys : List V) (x y : V), SqL K H a xs ∧ SqT K H b ys ∧ xs[i]? = some x ∧ ys[i]? = some y
  yld := fun i H v H' => ∃ T x y, v = .ref T ∧ H T = none ∧ H' = upd H T (.tup [x, y]) ∧ (∀ xs, SqL K H a xs → xs[i]? = some x) ∧ ∀ ys, SqT K H b ys → ys[i]? = some y
  stop := fun i H => ∃ xs ys : List V, SqL K H a xs ∧ SqT K H b ys ∧ (xs.length ≤ i ∨ ys.length ≤ i)
/-- five addresses -/
theorem of5 {z TI TO i1 i2 c : Addr} (h : c ∈ [z, TI, TO, i1, i2]) : c = z ∨ c = TI ∨ c = TO ∨ c = i1 ∨ c = i2 := by simpa using h
abbrev ZStM (a b z TI TO i1 i2 : Addr) (i : Nat) (h : Heap) : Prop := IsZip h z TI TO .none ∧ IsPair h TI (.ref i1) (.ref i2) ∧ (∃ x y, IsPair h TO x y) ∧ h.IsListIter i1 a i ∧ h.IsTupleIter i2 b i
theorem not5 {z TI TO i1 i2 c : Addr} (h : c ∉ [z, TI, TO, i1, i2]) : c ≠ z ∧ c ≠ TI ∧ c ≠ TO ∧ c ≠ i1 ∧ c ≠ i2 := by
  simp only [List.mem_cons, List.not_mem_nil, or_false, not_or] at h
  exact h
theorem turn_zipM {P : Program} {w : World} {K : PySem.W.Frag} {elts : List Expr} {kk : Nat} {tpos : Pos} {a b z TI TO i1 i2 : Addr} (D : ZipApart z TI TO i1 i2 a b) :
    Turn P w K (.Tuple elts kk tpos) (ItzM K a b) [z, TI, TO, i1, i2] z (ZStM a b z TI TO i1 i2) where
  mem := List.mem_cons_self
  obj := fun i h ⟨pz, pI, ⟨x, y, pO⟩, ⟨o1, e1, _, d1⟩, ⟨o2, e2, _, d2⟩⟩ c hc => by
    rcases of5 hc with r | r | r | r | r <;> rw [r]
    · exact ⟨_, pz, fun v q => nomatch q⟩
    · exact ⟨_, pI, fun v q => nomatch q⟩
    · exact ⟨_, pO, fun v q => nomatch q⟩
    · exact ⟨o1, e1, fun v q => by rw [d1] at q; cases q⟩
    · exact ⟨o2, e2, fun v q => by rw [d2] at q; cases q⟩
  keep := fun i h g ⟨pz, pI, ⟨x, y, pO⟩, t1, t2⟩ k => ⟨k z (by simp) _ pz, k TI (by simp) _ pI, ⟨x, y, k TO (by simp) _ pO⟩, t1.at fun o q => k i1 (by simp) o q, t2.at fun o q => k i2 (by simp) o q⟩
  item := by
    intro X eP ew eK _ i pins s σ H E I free ⟨pz, pI, ⟨x0, y0, pO⟩, t1, t2⟩ ⟨xs, ys, x, y, qx, qy, ex, ey⟩
    subst eP ew eK
    obtain ⟨as, ra, pa, _⟩ := I.list qx
    obtain ⟨bs, rb, pb, _⟩ := I.tuple qy
    obtain ⟨u, eu, ru⟩ := ra.get ex
    obtain ⟨v, ev, rv⟩ := rb.get ey
    have zlt : z < s.heap.objs.size := Heap.lt_size pz
    have lb : s.heap.IsTuple b bs.toArray := pb
    refine nextG_item (itrL D.l1i1 as.toArray) (itrT D.l2i2 bs.toArray) D pz pI pO ⟨t1, pa.isList⟩ ⟨t2, lb⟩ (x := u) (y := v) (by simpa using eu) (by simpa using ev) fun g z' O' j1 j2 hT _ k => ?_
    refine ⟨_, rfl, wpAny_letOwnedTupleGo_zip (s := { s with heap := g }) z' fun g' z'' sb => ?_⟩
    have old : ∀ c o, c ∉ [z, TI, TO, i1, i2] → s.heap.get? c = some o → g'.get? c = some o := fun c o n e =>
      let ⟨n1, _, n3, n4, n5⟩ := not5 n
      (sb.2 c n1).trans (k c o n1 n3 n4 n5 e)
    have new : ObjOk X.prog X.w (upd H s.heap.objs.size (.tup [x, y])) g' s.heap.objs.size (.tup [x, y]) :=
      ⟨by show 2 ≤ sizeLine; decide, [u, v], .cons ru (.cons rv .nil), _, (sb.2 _ (Nat.ne_of_gt zlt)).trans hT, rfl, _, rfl⟩
    refine ⟨.ref s.heap.objs.size, _, I.turnedNew (t' := s.toks) old free (Nat.le_refl _) new, rfl, ⟨_, x, y, rfl, I.hok.fresh (Nat.le_refl _), rfl, fun l hl => ?_, fun l hl => ?_⟩, ⟨z'', ?_, ⟨u, v, ?_⟩, ?_, ?_⟩, fun c hc => ?_⟩
    · rw [I.list_inj hl qx]; exact ex
    · rw [I.tuple_inj hl qy]; exact ey
    · exact (sb.2 _ D.TIz).trans (k _ _ D.TIz D.TITO D.TIi1 D.TIi2 pI)
    · exact (sb.2 _ D.TOz).trans O'
    · exact j1.1.at fun o q => (sb.2 _ D.i1z).trans q
    · exact j2.1.at fun o q => (sb.2 _ D.i2z).trans q
    · have lt : c < s.heap.objs.size := by
        obtain ⟨_, e1, _⟩ := t1
        obtain ⟨_, e2, _⟩ := t2
        rcases of5 hc with r | r | r | r | r <;> rw [r]
        · exact zlt
        · exact Heap.lt_size pI
        · exact Heap.lt_size pO
        · exact Heap.lt_size e1
        · exact Heap.lt_size e2
      rw [upd_ne (Nat.ne_of_lt lt)]
      exact (free c hc).1
  done := by
    intro X eP ew eK hc i pins s σ H E I free ⟨pz, pI, ⟨x0, y0, pO⟩, t1, t2⟩ ⟨xs, ys, qx, qy, hend⟩
    subst eP ew eK
    obtain ⟨as, ra, pa, _⟩ := I.list qx
    obtain ⟨bs, rb, pb, _⟩ := I.tuple qy
    have l1 := ra.length
    have l2 := rb.length
    have lb : s.heap.IsTuple b bs.toArray := pb
    refine nextG_stop (I.ok.hd hc) (itrL D.l1i1 as.toArray) (itrT D.l2i2 bs.toArray) D pz pI pO ⟨t1, pa.isList⟩ ⟨t2, lb⟩ (hend.imp (fun q => by simp; omega) (fun q => by simp; omega)) fun g k => ⟨rfl, I.turnedL (t' := s.toks) (fun c o n e => ?_) free⟩
    obtain ⟨n1, _, n3, n4, n5⟩ := not5 n
    exact k c o n1 n3 n4 n5 e
  self := fun A i s Q E st h => wpAny_pyIter_zip st.1 h
/-! zip(a list, a tuple): the two iterators, their pair, an empty pair, the zip -/
abbrev mO1 (l : Addr) : Obj := { cls := .type "list_iterator", data := .fields #[.ref l, .int 0 0] }
abbrev mO2 (l : Addr) : Obj := { cls := .type "tuple_iterator", data := .fields #[.ref l, .int 0 0] }
abbrev mO3 (p q : Value) : Obj := { cls := .type "tuple", data := .seq #[p, q] }
abbrev mO5 (p q : Addr) : Obj := { cls := .type "zip", data := .fields #[.none, .bool false, .bool false, .ref p, .ref q] }
abbrev mH2 (h : Heap) (l1 l2 : Addr) : Heap := (h.push (mO1 l1)).push (mO2 l2)
abbrev mH3 (h : Heap) (l1 l2 : Addr) : Heap := (mH2 h l1 l2).push (mO3 (.ref h.objs.size) (.ref (h.push (mO1 l1)).objs.size))
abbrev mH4 (h : Heap) (l1 l2 : Addr) : Heap := (mH3 h l1 l2).push (mO3 .none .none)
abbrev mH5 (h : Heap) (l1 l2 : Addr) : Heap := (mH4 h l1 l2).push (mO5 (mH2 h l1 l2).objs.size (mH3 h l1 l2).objs.size)
theorem meets_zipM (l1 l2 : Addr) (xs ys : Array Value) : Meets (Builtin.«zip.__new__» ⟨[.type "zip", .ref l1, .ref l2], []⟩)
    (fun _ R s => s.heap.IsList l1 xs ∧ s.heap.IsTuple l2 ys ∧ R (.ok (.ret (.ref (mH4 s.heap l1 l2).objs.size))) { s with heap := mH5 s.heap l1 l2 }) :=
  .of_wp fun prog w A R s q => by
    obtain ⟨hp, g, d, tk, os⟩ := s; obtain ⟨q1, q2, q⟩ := q
    have sub := sub_zip
    have w1 : Heap.IsList (Shared.heap ⟨hp, g, d, tk, os⟩) l1 xs := q1
    have w2 : Heap.IsTuple (Shared.heap ⟨hp.push (mO1 l1), g, d, tk, os⟩) l2 ys := Heap.IsTuple.push q2 _
    wp_walk using wpAny_pyIter_list w1, wpAny_pyIter_tuple w2
    exact ⟨_, rfl, q⟩
theorem push_old {h : Heap} (o : Obj) {c : Addr} {x : Obj} (e : h.get? c = some x) : (h.push o).get? c = some x := Heap.get?_push_of_some _ e
theorem call_zipM {prog : Program} {w : World} {A : Around} {E : Value → Shared → Prop} {s : Shared} {l1 l2 : Addr} {xs ys : Array Value} {Q : Value → Shared → Prop} (q1 : s.heap.IsList l1 xs) (q2 : s.heap.IsTuple l2 ys)
    (q : ∀ g n, n = s.heap.objs.size → ZStM l1 l2 (n + 4) (n + 2) (n + 3) n (n + 1) 0 g → (∀ c o, s.heap.get? c = some o → g.get? c = some o) → Q (.ref (n + 4)) { s with heap := g }) :
    wpAny (model prog w) A (call (.type "zip") [.ref l1, .ref l2]) Q E s := by
  refine callType_new PySem.F.called_zip (by decide) (PySem.F.typeCall_zip_2 _ _) (PySem.F.newCall_zip_2 _ _) (fun obj => PySem.F.args_object_init_3 obj _ _) PySem.F.entry_zip_new (meets_zipM l1 l2 xs ys) ⟨q1, q2, ?_⟩
  have n1 : (s.heap.push (mO1 l1)).objs.size = s.heap.objs.size + 1 := Heap.size_push ..
  have n2 : (mH2 s.heap l1 l2).objs.size = s.heap.objs.size + 2 := by rw [Heap.size_push, n1]
  have n3 : (mH3 s.heap l1 l2).objs.size = s.heap.objs.size + 3 := by rw [Heap.size_push, n2]
  have n4 : (mH4 s.heap l1 l2).objs.size = s.heap.objs.size + 4 := by rw [Heap.size_push, n3]
  have a5 : (mH5 s.heap l1 l2).get? (mH4 s.heap l1 l2).objs.size = some _ := Heap.get?_push_size _ rfl
  have a4 : (mH5 s.heap l1 l2).get? (mH3 s.heap l1 l2).objs.size = some _ := push_old _ (Heap.get?_push_size _ rfl)
  have a3 : (mH5 s.heap l1 l2).get? (mH2 s.heap l1 l2).objs.size = some _ := push_old _ (push_old _ (Heap.get?_push_size _ rfl))
  have a2 : (mH5 s.heap l1 l2).get? (s.heap.push (mO1 l1)).objs.size = some _ := push_old _ (push_old _ (push_old _ (Heap.get?_push_size _ rfl)))
  have a1 : (mH5 s.heap l1 l2).get? s.heap.objs.size = some _ := push_old _ (push_old _ (push_old _ (push_old _ (Heap.get?_push_size _ rfl))))
  show _ ∧ _
  rw [n2, n3, n4] at a5
  rw [n1, n2] at a3
  rw [n3] at a4
  rw [n1] at a2
  rw [n4]
  exact ⟨⟨_, a5, rfl⟩, q _ _ rfl ⟨a5, a3, ⟨_, _, a4⟩, ⟨_, a1, rfl, rfl⟩, ⟨_, a2, rfl, rfl⟩⟩ fun c o e => push_old _ (push_old _ (push_old _ (push_old _ (push_old _ e))))⟩
/-- zip of two lists, of two tuples, of a list and a tuple -/
def iZipM (K : PySem.W.Frag) (ta : TA) : TI := fun σ H R => ta σ H fun vs H1 => ∃ a b xs ys, vs = [.ref a, .ref b] ∧ SqL K H1 a xs ∧ SqT K H1 b ys ∧ R (ItzM K a b) H1
theorem pi_zipM {X : Cx} {e e2 : Expr} {ta : TA} {p pos tpos : Pos} {elts : List Expr} {kk : Nat} (hg : Gl X "zip") (hm : X.mg "zip" = none) (ha : PA X [e, e2] ta)
    (hs : starEach [e, e2] X.env = (false, eval e X.env) :: starEach [e2] X.env) (hp : (backTo pos (starEach [e2] X.env)).any (·.1) = false) :
    PI X (.Tuple elts kk tpos) (.Call (.Name "zip" p) [e, e2] [] pos) (iZipM X.K ta) := by
  refine ⟨fun pins s σ H R I q => ?_⟩
  refine Call_ (ld_blt I hg hm PyProof.Rows.boot_zip (PyProof.Rows.callWith_type1 (thn (ha.run pos pins s σ H _ I q) fun us t ⟨vs, H1, I1, r1, q1⟩ => ?_) hs hp))
  obtain ⟨a, b, xs, ys, ex, qx, qy, q⟩ := q1
  subst ex
  rcases r1 with _ | ⟨r, rr⟩
  rcases rr with _ | ⟨r', rr⟩
  cases rr
  cases r
  cases r'
  obtain ⟨as, ra, pa, _⟩ := I1.list qx
  obtain ⟨bs, rb, pb, _⟩ := I1.tuple qy
  obtain ⟨o2, ho2, _⟩ := id pb
  have lb : t.heap.IsTuple b bs.toArray := pb
  refine call_zipM pa.isList lb fun g n hn st k => wpAny_pyIter_zip st.1 ?_
  have I2 : Inv X pins σ H1 { t with heap := g } := I1.kept (t' := t.toks) k
  subst hn
  refine ⟨_, [t.heap.objs.size + 4, t.heap.objs.size + 2, t.heap.objs.size + 3, t.heap.objs.size, t.heap.objs.size + 1], _, _, H1, rfl, I2, turn_zipM (PySem.W.ktu_apart t.heap.objs.size a b pa.lt (Heap.lt_size ho2)), st, fun c hc => ?_, q⟩
  have le : t.heap.objs.size ≤ c := by rcases of5 hc with r | r | r | r | r <;> rw [r] <;> omega
  exact I1.fpOk le (I1.hok.fresh le)
end Qm

/-! S7a: zip, reversed. -/
namespace Qm
open PySem PySem.Spec PyProof.Rows L2 RT RZ
section
variable {X : Cx} {S : Sc} {P : Prog} {F : Fn} {C : XC} {W : WX}
theorem srcOk_app {h : MHp} : ∀ {a b : List (Nat × MO)}, srcOk (a ++ b) h = (srcOk a h && srcOk b h)
  | [], b => by simp [srcOk]
  | (n, o) :: r, b => by rw [List.cons_append, srcOk, srcOk, srcOk_app, Bool.and_assoc]
theorem zipL_get : ∀ {xs ys : List PV} {i : Nat} {z : PV}, (zipL xs ys)[i]? = some z → ∃ x y, xs[i]? = some x ∧ ys[i]? = some y ∧ z = .tup [x, y]
  | [], _, _, _, e => by simp [zipL] at e
  | _ :: _, [], _, _, e => by simp [zipL] at e
  | x :: xs, y :: ys, 0, z, e => by simp [zipL] at e; exact ⟨x, y, rfl, rfl, e.symm⟩
  | x :: xs, y :: ys, i + 1, z, e => by
    simp [zipL] at e
    obtain ⟨a, b, h1, h2, h3⟩ := zipL_get e
    exact ⟨a, b, by simpa using h1, by simpa using h2, h3⟩
theorem zipL_end : ∀ {xs ys : List PV} {i : Nat}, (zipL xs ys).length ≤ i → xs.length ≤ i ∨ ys.length ≤ i
  | [], _, _, _ => .inl (by simp)
  | _ :: _, [], _, _ => .inr (by simp)
  | x :: xs, y :: ys, 0, e => by simp [zipL] at e
  | x :: xs, y :: ys, i + 1, e => by
    have := zipL_end (xs := xs) (ys := ys) (i := i) (by simpa [zipL] using e)
    simpa using this
theorem pair_new {M : List Addr} {H : Hp} {h : MHp} {x y : PV} {v w : V} {T : Addr} (hr : HRel C.K M H h) (hT : H T = none) (rx : RV C.K M H x v) (ry : RV C.K M H y w) :
    Ext M H M (upd H T (.tup [v, w])) ∧ HRel C.K M (upd H T (.tup [v, w])) h ∧ RV C.K M (upd H T (.tup [v, w])) (.tup [x, y]) (.ref T) :=
  ⟨Ext.laid hT, hr.laid hT, rv_newT hr hT (by show 2 ≤ sizeLine; decide) (.cons rx (.one ry))⟩
theorem itok_zip {K : PySem.W.Frag} (hK : K = C.K.f) {M0 : List Addr} {H0 : Hp} {h0 : MHp} {p q : PV} {a b : Addr} {xs ys : List PV} (r : RV C.K M0 H0 p (.ref a)) (e : itemsL p h0 = some xs) (r2 : RV C.K M0 H0 q (.ref b)) (e2 : itemsL q h0 = some ys) : ItOk C M0 H0 ⟨zipL xs ys, srcOf p xs ++ srcOf q ys⟩ (Itz K a b) := by
  intro z hz M H h ex hr src i
  have src' : (srcOk (srcOf p xs) h && srcOk (srcOf q ys) h) = true := by rw [← srcOk_app]; exact src
  rw [Bool.and_eq_true] at src'
  obtain ⟨a', vs, ea, zz, hl, rvs⟩ := list_stays (C := C.zz z) (r.hids hz) e ex hr src'.1
  cases ea
  obtain ⟨b', ws, eb, zz2, hl2, rvs2⟩ := list_stays (C := C.zz z) (r2.hids hz) e2 ex hr src'.2
  cases eb
  refine ⟨fun y hy => ?_, fun hi => ?_⟩
  · obtain ⟨x1, x2, g1, g2, rfl⟩ := zipL_get hy
    obtain ⟨w1, ew1, rw1⟩ := rvs.get g1
    obtain ⟨w2, ew2, rw2⟩ := rvs2.get g2
    refine ⟨⟨vs, ws, w1, w2, SqL.of hl, SqL.of hl2, ew1, ew2⟩, fun v H' hyld => ?_⟩
    obtain ⟨T, u1, u2, rfl, hT, rfl, k1, k2⟩ := hyld
    have q1 := k1 vs (SqL.of hl)
    have q2 := k2 ws (SqL.of hl2)
    rw [ew1] at q1; rw [ew2] at q2
    cases q1; cases q2
    exact pair_new (C := C.zz z) hr hT rw1 rw2
  · refine ⟨vs, ws, SqL.of hl, SqL.of hl2, ?_⟩
    rw [rvs.len, rvs2.len]
    exact zipL_end hi
theorem itok_zipT {K : PySem.W.Frag} (hK : K = C.K.f) {M0 : List Addr} {H0 : Hp} {a b : Addr} {xs ys : List PV} (r : RV C.K M0 H0 (.tup xs) (.ref a)) (r2 : RV C.K M0 H0 (.tup ys) (.ref b)) : ItOk C M0 H0 ⟨zipL xs ys, []⟩ (ItzT K a b) := by
  intro z hz M H h ex hr src i
  obtain ⟨a', vs, ea, ta, rvs⟩ := rv_tup (C := C.zz z) ((r.hids hz).ext ex)
  cases ea
  obtain ⟨b', ws, eb, tb, rvs2⟩ := rv_tup (C := C.zz z) ((r2.hids hz).ext ex)
  cases eb
  have hs : SqT K H a vs := by rw [hK]; exact ta.seq
  have hs2 : SqT K H b ws := by rw [hK]; exact tb.seq
  refine ⟨fun y hy => ?_, fun hi => ?_⟩
  · obtain ⟨x1, x2, g1, g2, rfl⟩ := zipL_get hy
    obtain ⟨w1, ew1, rw1⟩ := rvs.get g1
    obtain ⟨w2, ew2, rw2⟩ := rvs2.get g2
    refine ⟨⟨vs, ws, w1, w2, hs, hs2, ew1, ew2⟩, fun v H' hyld => ?_⟩
    obtain ⟨T, u1, u2, rfl, hT, rfl, k1, k2⟩ := hyld
    have q1 := k1 vs hs
    have q2 := k2 ws hs2
    rw [ew1] at q1; rw [ew2] at q2
    cases q1; cases q2
    exact pair_new (C := C.zz z) hr hT rw1 rw2
  · refine ⟨vs, ws, hs, hs2, ?_⟩
    rw [rvs.len, rvs2.len]
    exact zipL_end hi
theorem itok_zipM {K : PySem.W.Frag} (hK : K = C.K.f) {M0 : List Addr} {H0 : Hp} {h0 : MHp} {p : PV} {a b : Addr} {xs ys : List PV} (r : RV C.K M0 H0 p (.ref a)) (e : itemsL p h0 = some xs) (r2 : RV C.K M0 H0 (.tup ys) (.ref b)) : ItOk C M0 H0 ⟨zipL xs ys, srcOf p xs⟩ (ItzM K a b) := by
  intro z hz M H h ex hr src i
  obtain ⟨a', vs, ea, zz, hl, rvs⟩ := list_stays (C := C.zz z) (r.hids hz) e ex hr src
  cases ea
  obtain ⟨b', ws, eb, tb, rvs2⟩ := rv_tup (C := C.zz z) ((r2.hids hz).ext ex)
  cases eb
  have hs2 : SqT K H b ws := by rw [hK]; exact tb.seq
  refine ⟨fun y hy => ?_, fun hi => ?_⟩
  · obtain ⟨x1, x2, g1, g2, rfl⟩ := zipL_get hy
    obtain ⟨w1, ew1, rw1⟩ := rvs.get g1
    obtain ⟨w2, ew2, rw2⟩ := rvs2.get g2
    refine ⟨⟨vs, ws, w1, w2, SqL.of hl, hs2, ew1, ew2⟩, fun v H' hyld => ?_⟩
    obtain ⟨T, u1, u2, rfl, hT, rfl, k1, k2⟩ := hyld
    have q1 := k1 vs (SqL.of hl)
    have q2 := k2 ws hs2
    rw [ew1] at q1; rw [ew2] at q2
    cases q1; cases q2
    exact pair_new (C := C.zz z) hr hT rw1 rw2
  · refine ⟨vs, ws, SqL.of hl, hs2, ?_⟩
    rw [rvs.len, rvs2.len]
    exact zipL_end hi
def mixZ : PV → PV → Bool
  | .tup _, _ => false
  | _, .tup _ => true
  | _, _ => false
theorem pi_or {tg e : Expr} {t t' : TI} (a : PI X tg e t) (b : PI X tg e t') : PI X tg e (fun σ H R => t σ H R ∨ t' σ H R) := ⟨fun pins s σ H R I q => q.elim (a.run pins s σ H R I) (b.run pins s σ H R I)⟩
theorem rev_get {xs : List PV} {i : Nat} {y : PV} (e : xs.reverse[i]? = some y) : i < xs.length ∧ xs[xs.length - 1 - i]? = some y := by
  have hi : i < xs.length := by have := (List.getElem?_eq_some_iff.mp e).1; simpa using this
  rw [List.getElem?_reverse hi] at e
  exact ⟨hi, e⟩
theorem itok_rev {K : PySem.W.Frag} (hK : K = C.K.f) {M0 : List Addr} {H0 : Hp} {h0 : MHp} {p : PV} {a : Addr} {xs : List PV} {n : Nat} (hn : n = xs.length) (r : RV C.K M0 H0 p (.ref a)) (e : itemsL p h0 = some xs) : ItOk C M0 H0 ⟨xs.reverse, srcOf p xs⟩ (Itv K a n) := by
  subst hn
  intro z hz M H h ex hr src i
  obtain ⟨a', vs, ea, zz, hl, rvs⟩ := list_stays (C := C.zz z) (r.hids hz) e ex hr src
  cases ea
  refine ⟨fun y hy => ?_, fun hi => by rw [List.length_reverse] at hi; exact hi⟩
  obtain ⟨hi, g⟩ := rev_get hy
  obtain ⟨w, ew, rw_⟩ := rvs.get g
  refine ⟨⟨hi, vs, w, SqL.of hl, ew⟩, fun v H' hyld => ?_⟩
  obtain ⟨rfl, hv⟩ := hyld
  have := hv vs (SqL.of hl)
  rw [ew] at this
  cases this
  exact ⟨Ext.refl, hr, rw_⟩
theorem itok_revT {K : PySem.W.Frag} (hK : K = C.K.f) {M0 : List Addr} {H0 : Hp} {a : Addr} {xs : List PV} {n : Nat} (hn : n = xs.length) (r : RV C.K M0 H0 (.tup xs) (.ref a)) : ItOk C M0 H0 ⟨xs.reverse, []⟩ (ItvT K a n) := by
  subst hn
  intro z hz M H h ex hr src i
  obtain ⟨a', vs, ea, ta, rvs⟩ := rv_tup (C := C.zz z) ((r.hids hz).ext ex)
  cases ea
  have hs : SqT K H a vs := by rw [hK]; exact ta.seq
  refine ⟨fun y hy => ?_, fun hi => by rw [List.length_reverse] at hi; exact hi⟩
  obtain ⟨hi, g⟩ := rev_get hy
  obtain ⟨w, ew, rw_⟩ := rvs.get g
  refine ⟨⟨hi, vs, w, hs, ew⟩, fun v H' hyld => ?_⟩
  obtain ⟨rfl, hv⟩ := hyld
  have := hv vs hs
  rw [ew] at this
  cases this
  exact ⟨Ext.refl, hr, rw_⟩
theorem pi_rvd (c : Cok X S P F C W) {tg a : Expr} {pf pos : Pos} {f : Sem1} (hb : isBi S "reversed" = true) (he : PE X a (RdE C W f)) (hs : starEach [a] X.env = (false, eval a X.env) :: starEach [] X.env) :
    PI X tg (.Call (.Name "reversed" pf) [a] [] pos) (RdI C W fun env h => (f env h).bind fun x h1 => (ofOpt (itemsT x h1) h1).bind fun xs h2 => .ok ⟨xs.reverse, srcOf x xs⟩ h2) := by
  obtain ⟨g, m, _, _⟩ := c.bi hb
  refine pi_weak (pi_revA g m he hs) fun σ H R o => ?_
  obtain ⟨M, h, env, hr, er, o⟩ := o
  refine RdE.goI hr er o fun v H1 M1 h1 p x1 hr1 er1 rv o1 => ?_
  cases ei : itemsT p h1 with
  | none => rw [ei] at o1; exact o1.elim
  | some xs =>
    rw [ei] at o1
    obtain ⟨a, vs, rfl, zz, alt, rvs⟩ := itemsT_ok hr1 rv ei
    have hz : xs.length ≤ sizeLine := by rw [← rvs.len]; exact zz
    have hz' : xs.reverse.length ≤ sizeLine := by simpa using hz
    refine ⟨a, vs, rfl, ?_⟩
    rcases alt with ⟨⟨ys, rfl⟩, ht⟩ | ⟨el, hl⟩
    · cases ei
      exact .inr ⟨by rw [c.hK]; exact ht, o1 hz' H1 M1 _ Ext.refl hr1 (itok_revT c.hK rvs.len rv)⟩
    · exact .inl ⟨SqL.of hl, o1 hz' H1 M1 _ Ext.refl hr1 (itok_rev c.hK rvs.len rv el)⟩
theorem zipL_len : ∀ (xs ys : List PV), (zipL xs ys).length ≤ xs.length
  | [], _ => by simp [zipL]
  | _ :: _, [] => by simp [zipL]
  | x :: xs, y :: ys => by simpa [zipL] using zipL_len xs ys
theorem pi_zip' (c : Cok X S P F C W) {a b : Expr} {elts : List Expr} {kk : Nat} {tpos pf pos : Pos} {fa fb : Sem1} (hb : isBi S "zip" = true) (ha : PA X [a, b] (RdA C W fun env h => (fa env h).bind fun x h1 => (fb env h1).bind fun y h2 => .ok [x, y] h2))
    (hs : starEach [a, b] X.env = (false, eval a X.env) :: starEach [b] X.env) (hpl : (backTo pos (starEach [b] X.env)).any (·.1) = false) :
    PI X (.Tuple elts kk tpos) (.Call (.Name "zip" pf) [a, b] [] pos) (RdI C W fun env h => (fa env h).bind fun x h1 => (fb env h1).bind fun y h2 => ofOpt (itemsZ x y h2) h2) := by
  obtain ⟨g, m, _, _⟩ := c.bi hb
  refine pi_weak (pi_or (pi_zipA g m ha hs hpl) (pi_zipM g m ha hs hpl)) fun σ H R o => ?_
  obtain ⟨M, h, env, hr, er, o⟩ := o
  have one : ∀ (k : Bool), (∀ x h1 y h2, fa env h = .ok x h1 → fb env h1 = .ok y h2 → mixZ x y = k) →
      OutI C (WE W σ) R M H (((fa env h).bind fun x h1 => (fb env h1).bind fun y h2 => (.ok [x, y] h2 : Res (List PV))).bind fun l h2 => match l with | [x, y] => (if mixZ x y = k then ofOpt (itemsZ x y h2) h2 else .stuck) | _ => .stuck) := fun k hk => by
    have e : (((fa env h).bind fun x h1 => (fb env h1).bind fun y h2 => (.ok [x, y] h2 : Res (List PV))).bind fun l h2 => match l with | [x, y] => (if mixZ x y = k then ofOpt (itemsZ x y h2) h2 else .stuck) | _ => .stuck) = ((fa env h).bind fun x h1 => (fb env h1).bind fun y h2 => ofOpt (itemsZ x y h2) h2) := by
      cases ea : fa env h with
      | ok x h1 =>
        simp only [Res.bind_ok]
        cases eb : fb env h1 with
        | ok y h2 =>
          simp only [Res.bind_ok]
          rw [if_pos (hk x h1 y h2 ea eb)]
        | exn _ _ => rfl
        | stuck => rfl
      | exn _ _ => rfl
      | stuck => rfl
    rw [e]; exact o
  by_cases hm : ∃ x h1 y h2, fa env h = .ok x h1 ∧ fb env h1 = .ok y h2 ∧ mixZ x y = true
  · right
    obtain ⟨x0, h10, y0, h20, ea, eb, hm⟩ := hm
    have o' := one true fun x h1 y h2 e1 e2 => by
      rw [ea] at e1; cases e1
      rw [eb] at e2; cases e2
      exact hm
    refine RdA.goI (R := R) hr er o' fun vs H1 M1 h1 ps x1 hr1 er1 rv o1 => ?_
    match ps, rv, o1 with
    | [x, y], rv, o1 =>
      obtain ⟨v, w, rfl, rx, ry⟩ := rvs2 rv
      have o1 : OutI C (WE W σ) R M1 H1 (if mixZ x y = true then ofOpt (itemsZ x y h1) h1 else .stuck) := o1
      by_cases k : mixZ x y = true
      · rw [if_pos k] at o1
        cases y with
        | tup ys =>
          have ez : itemsZ x (.tup ys) h1 = (itemsL x h1).map fun a => ⟨zipL a ys, srcOf x a⟩ := by
            unfold itemsZ
            cases x <;> first | rfl | (simp [mixZ] at k)
          rw [ez] at o1
          cases el : itemsL x h1 with
          | none => rw [el] at o1; exact o1.elim
          | some xs =>
            rw [el] at o1
            obtain ⟨a', us, rfl, z1, hl, r1⟩ := itemsL_ok hr1 rx el
            obtain ⟨b', ws, rfl, tb, r2⟩ := rv_tup ry
            exact ⟨a', b', us, ws, rfl, SqL.of hl, by rw [c.hK]; exact tb.seq, o1 (Nat.le_trans (zipL_len _ _) (by rw [← r1.len]; exact z1)) H1 M1 _ Ext.refl hr1 (itok_zipM c.hK rx el ry)⟩
        | _ => cases x <;> simp [mixZ] at k
      · rw [if_neg k] at o1; exact o1.elim
    | [], _, o1 => exact o1.elim
    | [_], _, o1 => exact o1.elim
    | _ :: _ :: _ :: _, _, o1 => exact o1.elim
  · left
    have o' := one false fun x h1 y h2 e1 e2 => by
      cases q : mixZ x y with
      | false => rfl
      | true => exact (hm ⟨x, h1, y, h2, e1, e2, q⟩).elim
    refine RdA.goI (R := R) hr er o' fun vs H1 M1 h1 ps x1 hr1 er1 rv o1 => ?_
    match ps, rv, o1 with
    | [x, y], rv, o1 =>
      obtain ⟨v, w, rfl, rx, ry⟩ := rvs2 rv
      have o1 : OutI C (WE W σ) R M1 H1 (if mixZ x y = false then ofOpt (itemsZ x y h1) h1 else .stuck) := o1
      by_cases k : mixZ x y = false
      · rw [if_pos k] at o1
        cases ez : itemsZ x y h1 with
        | none => rw [ez] at o1; exact o1.elim
        | some wk =>
          rw [ez] at o1
          unfold itemsZ at ez
          split at ez
          · cases ez
            rename_i xs ys
            obtain ⟨a', us, rfl, ta, r1⟩ := rv_tup rx
            obtain ⟨b', ws, rfl, tb, r2⟩ := rv_tup ry
            exact ⟨a', b', us, ws, rfl, .inr ⟨by rw [c.hK]; exact ta.seq, by rw [c.hK]; exact tb.seq, o1 (Nat.le_trans (zipL_len _ _) (by rw [← r1.len]; exact ta.len)) H1 M1 _ Ext.refl hr1 (itok_zipT c.hK rx ry)⟩⟩
          · rename_i hne
            cases x <;> first | (simp [mixZ] at k; done) | (rename_i l; exact (hne l rfl).elim)
          · split at ez
            · cases ez
              rename_i xs ys e1 e2
              obtain ⟨a', us, rfl, z1, hl, r1⟩ := itemsL_ok hr1 rx e1
              obtain ⟨b', ws, rfl, z2, hl2, r2⟩ := itemsL_ok hr1 ry e2
              exact ⟨a', b', us, ws, rfl, .inl ⟨SqL.of hl, SqL.of hl2, o1 (Nat.le_trans (zipL_len _ _) (by rw [← r1.len]; exact z1)) H1 M1 _ Ext.refl hr1 (itok_zip c.hK rx e1 ry e2)⟩⟩
            · cases ez
      · rw [if_neg k] at o1; exact o1.elim
    | [], _, o1 => exact o1.elim
    | [_], _, o1 => exact o1.elim
    | _ :: _ :: _ :: _, _, o1 => exact o1.elim
end
end Qm

/-! S7b: enumerate of lists and of tuples. -/
namespace PySem
open Sem (wp)
open AutoSeq1 (wpAny_loadPart')
theorem meets_enumerate_newT (a : Addr) (items : Array Value) (n : Nat) (dct : Option Addr) (sl : Array (Option Value)) :
    Meets (Builtin.«enumerate.__new__» ⟨[.type "enumerate", .ref a], []⟩) (fun _ R s => s.heap.get? a = some { cls := .type "tuple", dict := dct, data := .seq items n, slots := sl } ∧
      R (.ok (.ret (.ref (s.heap.push { cls := .type "tuple_iterator", data := .fields #[.ref a, .int 0 0] }).objs.size)))
        { s with heap := (s.heap.push { cls := .type "tuple_iterator", data := .fields #[.ref a, .int 0 0] }).push { cls := .type "enumerate", data := .fields #[.none, .bool false, .ref s.heap.objs.size, rawInt 0, .none, .none] } }) :=
  .of_wp fun prog w A R s h => by
    obtain ⟨hp, g, d, tk, os⟩ := s; obtain ⟨hl, h⟩ := h
    have hsub := sub_enumerate
    have hL : Heap.IsTuple (Shared.heap ⟨hp, g, d, tk, os⟩) a items := ⟨_, hl, rfl, n, rfl⟩
    wp_walk using wpAny_loadPart' hl
    refine wpAny_stack_any fun st => wpAny_pure ?_
    split
    · rename_i c _ _ _ _ _
      cases (c == Value.type "enumerate")
      · wp_walk using wpAny_loadPart' hl, wpAny_pyIter_tuple hL
        exact ⟨_, rfl, h⟩
      · wp_walk using wpAny_loadPart' hl, wpAny_pyIter_tuple hL
        exact ⟨_, rfl, h⟩
    · wp_walk using wpAny_loadPart' hl, wpAny_pyIter_tuple hL
      exact ⟨_, rfl, h⟩
section
variable {prog : Program} {w : World} {A : Around} {E : Value → Shared → Prop} {s : Shared}
theorem call_enumerate_tuple {l : Addr} {items : Array Value} {Q : Value → Shared → Prop} (hL : s.heap.IsTuple l items)
    (h : ∀ h', IsEnum h' (s.heap.objs.size + 1) s.heap.objs.size 0 .none → h'.IsTupleIter s.heap.objs.size l 0 → h'.objs.size = s.heap.objs.size + 2 →
      (∀ b o, s.heap.get? b = some o → h'.get? b = some o) → Q (.ref (s.heap.objs.size + 1)) { s with heap := h' }) :
    wpAny (model prog w) A (call (.type "enumerate") [.ref l]) Q E s := by
  obtain ⟨⟨c, dct, dt, sl⟩, hl, hc, n, hd⟩ := hL
  replace hc : c = .type "tuple" := hc
  replace hd : dt = .seq items n := hd
  subst hc hd
  refine callType_new F.called_enumerate (by decide) (F.typeCall_enumerate_1 _) (F.newCall_enumerate_1 _) (fun obj => F.args_object_init_2 obj _) F.entry_enumerate_new
    (meets_enumerate_newT l items n dct sl) ⟨hl, ?_⟩
  have hz : (s.heap.push { cls := .type "tuple_iterator", data := .fields #[.ref l, .int 0 0] }).objs.size = s.heap.objs.size + 1 := Heap.size_push ..
  show _ ∧ _
  rw [hz]
  have he : IsEnum ((s.heap.push { cls := .type "tuple_iterator", data := .fields #[.ref l, .int 0 0] }).push
      { cls := .type "enumerate", data := .fields #[.none, .bool false, .ref s.heap.objs.size, rawInt 0, .none, .none] }) (s.heap.objs.size + 1) s.heap.objs.size 0 .none := by
    have := Heap.get?_push_size (s.heap.push { cls := .type "tuple_iterator", data := .fields #[.ref l, .int 0 0] })
      (o := { cls := .type "enumerate", data := .fields #[.none, .bool false, .ref s.heap.objs.size, rawInt 0, .none, .none] }) rfl
    rw [hz] at this; exact this
  refine ⟨⟨_, he, rfl⟩, h _ he ⟨_, Heap.get?_push_of_some _ (Heap.get?_push_size _ rfl), rfl, rfl⟩ (by rw [Heap.size_push, hz]) fun b o x => Heap.get?_push_of_some _ (Heap.get?_push_of_some _ x)⟩
theorem wpAny_pyNext_enum_endT {e it l : Addr} {i : Nat} {items : Array Value} {old : Value} {Q : Option Value → Shared → Prop} (hh : A.handled = none)
    (he : IsEnum s.heap e it i old) (hit : s.heap.IsTupleIter it l i) (hl : s.heap.IsTuple l items) (hx : items[i]? = none)
    (hQ : ∀ h', Heap.ExtBut it s.heap h' → Q none { s with heap := h' }) : wpAny (model prog w) A (pyNext (.ref e)) Q E s := by
  have hT : s.TypeIs (.ref e) "enumerate" := ⟨_, he, rfl⟩
  unfold pyNext
  refine wpAny_bind (wpAny_attempt (wpAny_callSpecial?_slot (name := Str.ofString "__next__") hT F.slot_enumerate_next
    (wpAny_call_entry F.slot_enumerate_next hT F.entry_enumerate_next ?_ (F.args_enumerate_next_1 _))))
  show wpAny _ _ (field (.ref e) 2 >>= _) _ _ _
  refine wpAny_bind (wpAny_field he rfl (x := .ref it) rfl ?_)
  refine wpAny_bind (RZ.nextOf_tuple_end hh hit hl hx fun h' x he' hx' => ?_)
  obtain ⟨o, ho, hc⟩ := hx'
  refine wpAny_bind (wpAny_isInstance (T := "StopIteration") (b := true) ⟨o, ho, hc⟩ isSubtype_stop ?_)
  exact wpAny_pure (hQ _ he')
end
end PySem
namespace Qm
open PySem PySem.Spec PyProof.Rows L2 RT RZ
/-- enumerate over the tuple at a -/
def IteT (K : PySem.W.Frag) (a : Addr) : It :=
  ⟨fun i H => ∃ (xs : List V) (x : V), SqT K H a xs ∧ xs[i]? = some x, fun i H v H' => ∃ T x, v = .ref T ∧ H T = none ∧ H' = upd H T (.tup [.int (i : Nat), x]) ∧ ∀ xs, SqT K H a xs → xs[i]? = some x, fun i H => ∃ xs : List V, SqT K H a xs ∧ xs.length ≤ i⟩
theorem turn_enumT {P : Program} {w : World} {K : PySem.W.Frag} {elts : List Expr} {kk : Nat} {tpos : Pos} (a e it : Addr) :
    Turn P w K (.Tuple elts kk tpos) (IteT K a) [e, it] e (fun i h => (∃ old, IsEnum h e it ((i : Nat) : Int) old) ∧ h.IsTupleIter it a i ∧ e ≠ it ∧ e ≠ a ∧ a ≠ it) where
  mem := by simp
  obj := fun i h st b hb => by
    obtain ⟨⟨old, he⟩, ⟨o, ho, hc, hd⟩, _⟩ := st
    have e' : b = e ∨ b = it := by simpa using hb
    rcases e' with z | z
    · rw [z]; exact ⟨_, he, fun v q => nomatch q⟩
    · rw [z]; exact ⟨o, ho, fun v q => by rw [hd] at q; cases q⟩
  keep := fun i h h' st k => let ⟨⟨old, he⟩, hi, hne⟩ := st; ⟨⟨old, k e (by simp) _ he⟩, hi.at fun o q => k it (by simp) o q, hne⟩
  item := by
    intro X hP hw hK hc i pins s σ H E I hf st hg
    subst hP hw hK
    obtain ⟨⟨old, he⟩, hit, hne, hea, hai⟩ := st
    obtain ⟨xs, x, hq, hx⟩ := hg
    obtain ⟨its, rv, p, hz⟩ := I.tuple hq
    obtain ⟨u, hu, ru⟩ := rv.get hx
    have hel : e < s.heap.objs.size := Heap.lt_size he
    have hil : it < s.heap.objs.size := by obtain ⟨_, q, _⟩ := hit; exact Heap.lt_size q
    have hlt : i < its.toArray.size := by
      have := (List.getElem?_eq_some_iff.mp hu).1
      simpa using this
    refine wpAny_pyNext_enum_itemD (Draws.tuple (A := X.A.in1) (I.ok.hd hc) it a hai its.toArray) he ⟨hit, p⟩ hlt hne (by simp [hne, hea]) fun y h' tk hy ho hst' hT hsz hk => ?_
    have hy' : y = u := by
      have hy : its[i]? = some y := by simpa using hy
      rw [hu] at hy
      exact (Option.some.inj hy).symm
    subst hy'
    obtain ⟨hit', _⟩ := hst'
    refine ⟨_, rfl, wpAny_letOwnedTupleGo_enum (s := { s with heap := h', toks := tk + 1 }) ho fun h'' he' sb => ?_⟩
    have hT2 : h''.get? s.heap.objs.size = some { cls := .type "tuple", data := .seq #[.int i tk, y] } := (sb.2 _ (Nat.ne_of_gt hel)).trans hT
    have new : ObjOk X.prog X.w (upd H s.heap.objs.size (.tup [.int (i : Nat), x])) h'' s.heap.objs.size (.tup [.int (i : Nat), x]) :=
      ⟨by show 2 ≤ sizeLine; decide, [.int i tk, y], .cons ⟨_, rfl⟩ (.cons ru .nil), ⟨_, hT2, rfl, _, rfl⟩⟩
    have I1 : Inv X pins σ (upd H s.heap.objs.size (.tup [.int (i : Nat), x])) { s with heap := h'', toks := tk + 1 } :=
      I.turnedNew (ch := [e, it]) (fun b ob hb q => (sb.2 b (fun z => hb (by simp [z]))).trans (hk b ob (fun z => hb (by simp [z])) (fun z => hb (by simp [z])) q)) hf (Nat.le_refl _) new
    refine ⟨.ref s.heap.objs.size, _, I1, rfl, ⟨_, x, rfl, I.hok.fresh (Nat.le_refl _), rfl, fun ys hy => by rw [I.tuple_inj hy hq]; exact hx⟩, ⟨⟨y, ?_⟩, hit'.at fun o q => (sb.2 it (Ne.symm hne)).trans q, hne, hea, hai⟩, fun b hb => ?_⟩
    · have e1 : ((i + 1 : Nat) : Int) = (i : Int) + 1 := by omega
      rw [e1]; exact he'
    · have hb' : b < s.heap.objs.size := by
        have e' : b = e ∨ b = it := by simpa using hb
        rcases e' with z | z
        · rw [z]; exact hel
        · rw [z]; exact hil
      rw [upd_ne (Nat.ne_of_lt hb')]
      exact (hf b hb).1
  done := by
    intro X hP hw hK hc i pins s σ H E I hf st hg
    subst hP hw hK
    obtain ⟨⟨old, he⟩, hit, hne, hea, hai⟩ := st
    obtain ⟨xs, hq, hx⟩ := hg
    obtain ⟨its, rv, p, hz⟩ := I.tuple hq
    obtain ⟨f0, f1, f2, f3, f4, f5⟩ := hf it (by simp)
    have hl := rv.length
    exact wpAny_pyNext_enum_endT (I.ok.hd hc) he hit p (by simp; omega) fun h' eb => ⟨rfl, I.turned (t' := s.toks) (fun b o hb q => eb b o hb q) f0 f1 f3 f4 f5⟩
  self := fun A i s Q E st h => let ⟨⟨_, he⟩, _⟩ := st; wpAny_pyIter_enum he h
def iEnumA (K : PySem.W.Frag) (te : TE) : TI := fun σ H R => te σ H fun v H1 => ∃ (a : Addr) (xs : List V), v = .ref a ∧ ((SqL K H1 a xs ∧ R (Ite K a) H1) ∨ (SqT K H1 a xs ∧ R (IteT K a) H1))
theorem pi_enumA {X : Cx} {e : Expr} {te : TE} {p pos tpos : Pos} {elts : List Expr} {kk : Nat} (hg : Gl X "enumerate") (hm : X.mg "enumerate" = none) (he : PE X e te) (hs : starEach [e] X.env = (false, eval e X.env) :: starEach [] X.env := by rfl) :
    PI X (.Tuple elts kk tpos) (.Call (.Name "enumerate" p) [e] [] pos) (iEnumA X.K te) := by
  refine ⟨fun pins s σ H R I h => ?_⟩
  refine Call_ (ld_blt I hg hm boot_enumerate (PyProof.Rows.callWith_type1 (args_cons (thn (he.run pins s σ H _ I h) fun u s1 ⟨v, H1, I1, r1, q1⟩ => args_nil ?_) hs) hs rfl))
  obtain ⟨a, xs, ev, q⟩ := q1
  subst ev
  obtain rfl : u = Value.ref a := r1
  rcases q with ⟨hq, q⟩ | ⟨hq, q⟩
  · obtain ⟨its, rv, p', hz⟩ := I1.list hq
    refine call_enumerate_list p'.isList fun h' he hit hsz hk => wpAny_pyIter_enum he ?_
    have I2 : Inv X pins σ H1 { s1 with heap := h' } := I1.kept (t' := s1.toks) hk
    refine ⟨s1.heap.objs.size + 1, [s1.heap.objs.size + 1, s1.heap.objs.size], _, _, H1, rfl, I2, turn_enum a (s1.heap.objs.size + 1) s1.heap.objs.size, ⟨⟨.none, he⟩, hit, Nat.succ_ne_self _⟩, fun b hb => ?_, q⟩
    have e' : b = s1.heap.objs.size + 1 ∨ b = s1.heap.objs.size := by simpa using hb
    have hle : s1.heap.objs.size ≤ b := by
      rcases e' with z | z
      · rw [z]; exact Nat.le_add_right _ _
      · rw [z]; exact Nat.le_refl _
    exact I1.fpOk hle (I1.hok.fresh hle)
  · obtain ⟨its, rv, p', hz⟩ := I1.tuple hq
    have ha : a < s1.heap.objs.size := by obtain ⟨o, ho, _⟩ := id p'; exact Heap.lt_size ho
    refine call_enumerate_tuple p' fun h' he hit hsz hk => wpAny_pyIter_enum he ?_
    have I2 : Inv X pins σ H1 { s1 with heap := h' } := I1.kept (t' := s1.toks) hk
    refine ⟨s1.heap.objs.size + 1, [s1.heap.objs.size + 1, s1.heap.objs.size], _, _, H1, rfl, I2, turn_enumT a (s1.heap.objs.size + 1) s1.heap.objs.size, ⟨⟨.none, he⟩, hit, Nat.succ_ne_self _, Nat.ne_of_gt (Nat.lt_succ_of_lt ha), Nat.ne_of_lt ha⟩, fun b hb => ?_, q⟩
    have e' : b = s1.heap.objs.size + 1 ∨ b = s1.heap.objs.size := by simpa using hb
    have hle : s1.heap.objs.size ≤ b := by
      rcases e' with z | z
      · rw [z]; exact Nat.le_add_right _ _
      · rw [z]; exact Nat.le_refl _
    exact I1.fpOk hle (I1.hok.fresh hle)
section
variable {X : Cx} {S : Sc} {P : Prog} {F : Fn} {C : XC} {W : WX}
theorem enumL_get : ∀ {xs : List PV} {n i : Nat} {z : PV}, (enumL n xs)[i]? = some z → ∃ x, xs[i]? = some x ∧ z = .tup [.int ((n + i : Nat) : Int), x]
  | [], _, _, _, e => by simp [enumL] at e
  | x :: xs, n, 0, z, e => by simp [enumL] at e; exact ⟨x, rfl, by rw [← e]; rfl⟩
  | x :: xs, n, i + 1, z, e => by
    simp [enumL] at e
    obtain ⟨a, h1, h2⟩ := enumL_get e
    exact ⟨a, by simpa using h1, by rw [h2, show n + 1 + i = n + (i + 1) from by omega]⟩
theorem enumL_len : ∀ (xs : List PV) (n : Nat), (enumL n xs).length = xs.length
  | [], _ => rfl
  | x :: xs, n => by rw [enumL, List.length_cons, enumL_len xs, List.length_cons]
theorem itok_enum {K : PySem.W.Frag} (hK : K = C.K.f) {M0 : List Addr} {H0 : Hp} {h0 : MHp} {x : PV} {a : Addr} {xs : List PV} (r : RV C.K M0 H0 x (.ref a)) (e : itemsL x h0 = some xs) : ItOk C M0 H0 ⟨enumL 0 xs, srcOf x xs⟩ (Ite K a) := by
  intro z hz M H h ex hr src i
  obtain ⟨a', vs, ea, zz, hl, rvs⟩ := list_stays (C := C.zz z) (r.hids hz) e ex hr src
  cases ea
  refine ⟨fun y hy => ?_, fun hi => ?_⟩
  · obtain ⟨x1, g1, rfl⟩ := enumL_get hy
    obtain ⟨w, ew, rw_⟩ := rvs.get g1
    refine ⟨⟨vs, w, SqL.of hl, ew⟩, fun v H' hyld => ?_⟩
    obtain ⟨T, u, rfl, hT, rfl, k1⟩ := hyld
    have q1 := k1 vs (SqL.of hl)
    rw [ew] at q1
    cases q1
    rw [Nat.zero_add]
    exact pair_new (C := C.zz z) hr hT rv_i rw_
  · refine ⟨vs, SqL.of hl, ?_⟩
    rw [rvs.len]
    have hi : (enumL 0 xs).length ≤ i := hi
    rwa [enumL_len] at hi
theorem itok_enumT {K : PySem.W.Frag} (hK : K = C.K.f) {M0 : List Addr} {H0 : Hp} {a : Addr} {xs : List PV} (r : RV C.K M0 H0 (.tup xs) (.ref a)) : ItOk C M0 H0 ⟨enumL 0 xs, []⟩ (IteT K a) := by
  intro z hz M H h ex hr src i
  obtain ⟨a', vs, ea, ta, rvs⟩ := rv_tup (C := C.zz z) ((r.hids hz).ext ex)
  cases ea
  have hs : SqT K H a vs := by rw [hK]; exact ta.seq
  refine ⟨fun y hy => ?_, fun hi => ?_⟩
  · obtain ⟨x1, g1, rfl⟩ := enumL_get hy
    obtain ⟨w, ew, rw_⟩ := rvs.get g1
    refine ⟨⟨vs, w, hs, ew⟩, fun v H' hyld => ?_⟩
    obtain ⟨T, u, rfl, hT, rfl, k1⟩ := hyld
    have q1 := k1 vs hs
    rw [ew] at q1
    cases q1
    rw [Nat.zero_add]
    exact pair_new (C := C.zz z) hr hT rv_i rw_
  · refine ⟨vs, hs, ?_⟩
    rw [rvs.len]
    have hi : (enumL 0 xs).length ≤ i := hi
    rwa [enumL_len] at hi
theorem pi_enu' (c : Cok X S P F C W) {elts : List Expr} {kk : Nat} {tpos : Pos} {a : Expr} {pf pos : Pos} {f : Sem1} (hb : isBi S "enumerate" = true) (he : PE X a (RdE C W f)) (hs : starEach [a] X.env = (false, eval a X.env) :: starEach [] X.env) :
    PI X (.Tuple elts kk tpos) (.Call (.Name "enumerate" pf) [a] [] pos) (RdI C W fun env h => (f env h).bind fun x h1 => (ofOpt (itemsT x h1) h1).bind fun xs h2 => .ok ⟨enumL 0 xs, srcOf x xs⟩ h2) := by
  obtain ⟨g, m, _, _⟩ := c.bi hb
  refine pi_weak (pi_enumA g m he hs) fun σ H R o => ?_
  obtain ⟨M, h, env, hr, er, o⟩ := o
  refine RdE.goI hr er o fun v H1 M1 h1 p x1 hr1 er1 rv o1 => ?_
  cases ei : itemsT p h1 with
  | none => rw [ei] at o1; exact o1.elim
  | some xs =>
    rw [ei] at o1
    obtain ⟨a, vs, rfl, zz, alt, rvs⟩ := itemsT_ok hr1 rv ei
    have hz : xs.length ≤ sizeLine := by rw [← rvs.len]; exact zz
    have hz' : (enumL 0 xs).length ≤ sizeLine := by rw [enumL_len]; exact hz
    refine ⟨a, vs, rfl, ?_⟩
    rcases alt with ⟨⟨ys, rfl⟩, ht⟩ | ⟨el, hl⟩
    · cases ei
      exact .inr ⟨by rw [c.hK]; exact ht, o1 hz' H1 M1 _ Ext.refl hr1 (itok_enumT c.hK rv)⟩
    · exact .inl ⟨SqL.of hl, o1 hz' H1 M1 _ Ext.refl hr1 (itok_enum c.hK rv el)⟩
end
end Qm

/-! S9a: a dict of one entry, written. -/
namespace Qm
open PySem PySem.Spec PyProof.Rows L2
section
variable {K : KZ} {M : List Addr} {H : Hp} {D : Addr}
theorem Off.push {a : Addr} (h : Off (K.hide D) M a) : Off K (M ++ [D]) a := ⟨fun z => by
  rcases List.mem_append.mp z with z | z
  · exact h.1 z
  · simp at z; exact h.2 (z ▸ List.mem_cons_self), fun z => h.2 (List.mem_cons_of_mem _ z)⟩
mutual
theorem RV.pushz : ∀ {p : PV} {v : V}, RV (K.hide D) M H p v → RV K (M ++ [D]) H p v
  | .non, _, h => by rw [RV] at h ⊢; exact h
  | .bl _, _, h => by rw [RV] at h ⊢; exact h
  | .int _, _, h => by rw [RV] at h ⊢; exact h
  | .str _, _, h => by rw [RV] at h ⊢; exact h
  | .tup xs, _, h => by
    rw [RV] at h ⊢
    obtain ⟨a, vs, e, t, r⟩ := h
    refine ⟨a, vs, e, ?_, RVs.pushz r⟩
    rcases t with ⟨z, n, t⟩ | t
    · exact .inl ⟨z, n.push, t⟩
    · exact .inr t
  | .lst xs, _, h => by
    rw [RV] at h ⊢
    obtain ⟨a, vs, e, z, n, t, r⟩ := h
    exact ⟨a, vs, e, z, n.push, t, RVs.pushz r⟩
  | .dic _ _ _, _, h => by
    rw [RV] at h ⊢
    obtain ⟨a, us, u, e, n, t, d, r⟩ := h
    exact ⟨a, us, u, e, n.push, t, d, RVs.pushz r⟩
  | .ref n, _, h => by
    rw [RV] at h ⊢
    obtain ⟨a, e, q⟩ := h
    exact ⟨a, e, by rw [List.getElem?_append_left (List.getElem?_eq_some_iff.mp q).1]; exact q⟩
  | .scr _, _, h => by
    rw [RV] at h ⊢
    obtain ⟨a, e, z, q⟩ := h
    refine ⟨a, e, z, ?_⟩
    rcases q with ⟨n, q⟩ | q
    · exact .inl ⟨n.push, q⟩
    · exact .inr q
theorem RVs.pushz : ∀ {p : List PV} {v : List V}, RVs (K.hide D) M H p v → RVs K (M ++ [D]) H p v
  | [], _, h => by rw [RVs] at h ⊢; exact h
  | _ :: _, _, h => by
    rw [RVs] at h ⊢
    obtain ⟨v, r, e, h1, h2⟩ := h
    exact ⟨v, r, e, RV.pushz h1, RVs.pushz h2⟩
end
theorem ORel.pushz {o : MO} {u : Option HO} (r : ORel (K.hide D) M H o u) : ORel K (M ++ [D]) H o u := by
  cases o with
  | lst xs => obtain ⟨vs, e, z, r⟩ := r; exact ⟨vs, e, z, r.pushz⟩
  | dic t ks ws => obtain ⟨us, y, e, d, r⟩ := r; exact ⟨us, y, e, d, r.pushz⟩
  | ins _ _ => exact r
/-- what stood hidden joins the small heap -/
theorem HRel.pushz {h : MHp} {mo : MO} (hr : HRel (K.hide D) M H h) (hD : D ∉ K.z) (new : ORel K (M ++ [D]) H mo (H D)) : HRel K (M ++ [D]) H (h ++ [mo]) := by
  have hf : D ∉ M := (hr.zs D List.mem_cons_self).1
  refine ⟨by simp [hr.len], List.nodup_append.mpr ⟨hr.nd, by simp, fun a ha b hb => by simp at hb; subst hb; exact fun z => hf (z ▸ ha)⟩, fun a ha => ⟨fun z => ?_, (hr.zs a (List.mem_cons_of_mem _ ha)).2⟩, fun n a u e1 e2 => ?_⟩
  · rcases List.mem_append.mp z with z | z
    · exact (hr.zs a (List.mem_cons_of_mem _ ha)).1 z
    · simp at z; exact hD (z ▸ ha)
  by_cases hn : n < M.length
  · rw [List.getElem?_append_left hn] at e1
    rw [List.getElem?_append_left (by rw [← hr.len]; exact hn)] at e2
    exact (hr.at_ n a u e1 e2).pushz
  · have hn' : n = M.length := by
      have := (List.getElem?_eq_some_iff.mp e1).1
      simp at this
      omega
    subst hn'
    rw [List.getElem?_append_right (Nat.le_refl _)] at e1
    rw [hr.len, List.getElem?_append_right (Nat.le_refl _)] at e2
    simp at e1 e2
    subst e1; subst e2
    exact new
end
section
variable {X : Cx} {S : Sc} {P : Prog} {F : Fn} {C : XC} {W : WX}
def sDc1 (m : Bool) (fk fv : Sem1) : Sem1 := fun env h => match fk env h with
  | .ok x h1 => (match fv env h1 with
    | .ok y h2 => if keyOk false x then (if m then .ok (.ref h2.length) (h2 ++ [.dic false [x] [y]]) else .ok (.dic false [x] [y]) h2) else .stuck
    | _ => .stuck)
  | _ => .stuck
theorem pe_dc1' {m : Bool} {k v : Expr} {pos : Pos} {fk fv : Sem1} (hk : ∀ z, PE X k (RdE (C.zz z) W fk)) (hv : ∀ z, PE X v (RdE (C.zz z) W fv)) : PE X (.Dict [some k] [v] pos) (RdE C W (sDc1 m fk fv)) := by
  refine pe_weak (pe_disp (pps_cons (pe_z hk) (pe_z hv) pps_nil) rfl rfl (by simp) (by show 1 ≤ 15; decide)) fun σ H Q q => ?_
  obtain ⟨M, h, env, hr, er, o⟩ := q
  intro p hp
  have hd : p ∈ (C.K.hide p).z := List.mem_cons_self
  have nz : p ∉ C.K.z := fun z => (hr.zs p z).2 hp
  have hr' : HRel (C.K.hide p) M (upd H p (.dK [])) h := hr.hide hp
  have er' : ERel (C.K.hide p) M (upd H p (.dK [])) σ env := er.hide hp
  unfold sDc1 at o
  refine ⟨(C.K.hide p).z, M, h, env, hr', er', ?_⟩
  cases ek : fk env h with
  | stuck => rw [ek] at o; exact o.elim
  | exn _ _ => rw [ek] at o; exact o.elim
  | ok x h1 =>
    rw [ek] at o
    dsimp only at o
    intro vk H1 M1 x1 hr1 rk
    have hr1 : HRel (C.K.hide p) M1 H1 h1 := hr1
    have rk : RV (C.K.hide p) M1 H1 x vk := rk
    refine ⟨(C.K.hide p).z, M1, h1, env, hr1, er'.ext x1, ?_⟩
    cases ev_ : fv env h1 with
    | stuck => rw [ev_] at o; exact o.elim
    | exn _ _ => rw [ev_] at o; exact o.elim
    | ok y h2 =>
      rw [ev_] at o
      dsimp only at o
      intro vv H2 M2 x2 hr2 rv2
      have hr2 : HRel (C.K.hide p) M2 H2 h2 := hr2
      have rv2 : RV (C.K.hide p) M2 H2 y vv := rv2
      have n0 : p ∉ M := (hr'.zs p hd).1
      have e1 := x1.keep p _ n0 upd_same
      have n1 := x1.out n0 upd_same
      have e2 := x2.keep p _ n1 e1
      have n2 := x2.out n1 e1
      cases c : keyOk false x with
      | false => rw [c] at o; exact o.elim
      | true =>
        rw [c, if_pos rfl] at o
        obtain ⟨k', rfl, rfl⟩ := key_false (C := C.zz (C.K.hide p).z) c rk
        refine ⟨e2, [(k', vv)], rfl, by show 1 ≤ 15; decide, ?_⟩
        show Q (.ref p) (upd H2 p (.dK [(k', vv)]))
        have xa : Ext M (upd H p (.dK [])) M2 H2 := x1.trans x2
        have keep : ∀ a o, a ∉ M → H a = some o → (upd H2 p (.dK [(k', vv)])) a = some o := fun a o n e => by
          have cne : a ≠ p := fun z => by rw [z, hp] at e; cases e
          rw [upd_ne cne]
          exact xa.keep a o n (by rw [upd_ne cne]; exact e)
        have new : ∀ a, a ∈ M2 → a ∈ M ∨ H a = none := fun a ha => by
          rcases xa.new a ha with z | z
          · exact .inl z
          · by_cases cne : a = p
            · subst cne; exact .inr hp
            · rw [upd_ne cne] at z; exact .inr z
        have hrw := hr2.hwr (o := .dK [(k', vv)]) hd
        have rvw := rv2.hwr (o := .dK [(k', vv)]) hd
        cases m with
        | false =>
          simp only [Bool.false_eq_true, if_false] at o
          refine o (.ref p) _ M2 ⟨xa.pre, keep, new⟩ hrw.unhide ?_
          rw [RV]
          exact ⟨p, [vv], _, rfl, ⟨n2, nz⟩, upd_same, ⟨[(k', vv)], rfl, rfl, rfl⟩, .one rvw.unhide⟩
        | true =>
          simp only [if_true] at o
          refine o (.ref p) _ (M2 ++ [p]) ⟨?_, keep, fun a ha => ?_⟩ (hrw.pushz nz (by rw [upd_same]; exact ⟨[vv], _, rfl, ⟨[(k', vv)], rfl, rfl, rfl⟩, .one rvw.pushz⟩)) ?_
          · obtain ⟨l, e⟩ := xa.pre
            exact ⟨l ++ [p], by rw [e, List.append_assoc]⟩
          · rcases List.mem_append.mp ha with ha | ha
            · exact new a ha
            · simp at ha; subst ha; exact .inr hp
          · rw [RV]
            exact ⟨p, rfl, by rw [← hr2.len, List.getElem?_append_right (Nat.le_refl _)]; simp⟩
end
end Qm

/-! S10x: an exception that an except suite holds: its fields, its class. -/
namespace Qm
open PySem PySem.Spec PyProof.Rows L2
section
variable {X : Cx} {S : Sc} {P : Prog} {F : Fn} {C : XC} {W : WX}
def sXfl (P : Prog) (cx : Option MX) (j f : Nat) : Sem1 := fun env h => match cx with | some x => (match env[j]? with | some none => ofOpt (lookF (P.fld x.cls) x.fs f) h | _ => .stuck) | none => .stuck
def sXis (P : Prog) (cx : Option MX) (j k : Nat) : Sem1 := fun env h => match cx with | some x => (match env[j]? with | some none => .ok (.bl (P.sub x.cls k)) h | _ => .stuck) | none => .stuck
theorem lookF_at : ∀ {ks : List Nat} {vs : List PV} {f : Nat} {p : PV}, lookF ks vs f = some p → ∃ i : Nat, ks[i]? = some f ∧ vs[i]? = some p
  | [], _, _, _, e => by simp [lookF] at e
  | _ :: _, [], _, _, e => by simp [lookF] at e
  | k :: ks, v :: vs, f, p, e => by
    rw [lookF] at e
    split at e
    · rename_i c
      cases e
      exact ⟨0, by simp [c], rfl⟩
    · obtain ⟨i, h1, h2⟩ := lookF_at e
      exact ⟨i + 1, by simpa using h1, by simpa using h2⟩
/-- err.f -/
theorem pe_xfl' (c : Cok X S P F C W) {j f : Nat} {x : Str} {p pos : Pos} (hh : S.hot = true) (htr : S.tr = true) (hj : S.xj = j) (hN : S.N[j]? = some x) (v : visO S x = true) :
    PE X (.Attribute (.Name x p) (fldS f) pos) (RdE C W (sXfl P C.cx j f)) := by
  rcases c.xq with ⟨h, _⟩ | ⟨_, q, hq, hcx, hxj, hca, X0, oe, pn, hX, hz, hf⟩
  · rw [hh] at h; cases h
  have cf := c.cf htr
  have cl := cf.cls _ _ hca
  obtain ⟨v1, v2, v3⟩ := c.vis v
  have qj : q.j = j := hxj.symm.trans hj
  cases el : lookF (P.fld q.m.cls) q.m.fs f with
  | none =>
    refine ⟨fun pins s σ H Q I o => ?_⟩
    obtain ⟨M, hp, env, hr, er, o⟩ := o
    unfold sXfl at o
    rw [hcx] at o
    dsimp only at o
    have o : env[j]? = some none ∧ Out C (WE W σ) Q M H (ofOpt (lookF (P.fld q.m.cls) q.m.fs f) hp) := by
      cases e : env[j]? with
      | none => rw [e] at o; exact o.elim
      | some z =>
        cases z with
        | none => rw [e] at o; exact ⟨rfl, o⟩
        | some z => rw [e] at o; exact o.elim
    obtain ⟨he, o⟩ := o
    rw [el] at o
    exact o.elim
  | some y =>
    obtain ⟨i, k1, k2⟩ := lookF_at el
    have k3 : (fldC q.m.cls)[i]? = some (fldS f) := by rw [← cf.pf, List.getElem?_map, k1]; rfl
    have hno := cl.nf _ (List.mem_of_getElem? k3)
    have hNx : X.N[j]? = some x := by rw [c.hN]; exact hN
    subst hX
    refine pe_weak (pe_xf (X := X0) (a := q.a) (C := q.c) (oe := oe) (pn := pn) ⟨cl.ga, cl.gg, cl.sb, cl.hd⟩ hno hz hf (pe_var hNx v1 v2 v3) (by rfl)) fun σ H Q o => ?_
    obtain ⟨M, hp, env, hr, er, o⟩ := o
    unfold sXfl at o
    rw [hcx] at o
    dsimp only at o
    have o : env[j]? = some none ∧ Out C (WE W σ) Q M H (ofOpt (lookF (P.fld q.m.cls) q.m.fs f) hp) := by
      cases e : env[j]? with
      | none => rw [e] at o; exact o.elim
      | some z =>
        cases z with
        | none => rw [e] at o; exact ⟨rfl, o⟩
        | some z => rw [e] at o; exact o.elim
    obtain ⟨he, o⟩ := o
    rw [el] at o
    rw [← qj] at he
    obtain ⟨s1, s2, s3, s4, s5⟩ := er.xs q hq he
    obtain ⟨w, lw, rw_⟩ := s5 i y _ k2 k3
    rw [qj] at s1
    exact ⟨_, s1, rfl, rfl, q.d, q.fs, w, rfl, s3, lw, o w H M Ext.refl hr rw_⟩
/-- isinstance(e, c): e with a dict of its own -/
def rIsX (K : PySem.W.Frag) (D a dd : Addr) : List V → Hp → VK → Prop := fun xs H Q => ∃ (c : V) (cv : Value) (b : Bool) (fs : List (Str × V)), xs = [.ref a, c] ∧ H dd = some (.xd fs) ∧ (∀ u, RelV c u → u = cv) ∧ PySem.W.kitOne K (.ref D) cv = some b ∧ Q (.bl b) H
theorem call_isX {X0 : Cx} {a D dd : Addr} {oe : Obj} {pn : List (Addr × Obj)} {fl : List Str} (T : ClsK X0.K D fl) (hn : PySem.W.specialIn X0.K (.builtin "object.__class__") "__get__" = some (some (.builtin "getset_descriptor.__get__"))) (ht : PySem.W.takesIn X0.K (.builtin "object.__class__") = some true)
    (hz : Zc (.ref D) (some dd) oe) (hf : ∃ vs, oe.data = .fields vs) : CallR (X0.suite a ((a, oe) :: pn)) (.builtin "isinstance") (rIsX X0.K D a dd) := by
  intro pins s σ H xs us Q I r h
  obtain ⟨c, cv, b, fs, rfl, ed, hcv, ek, q⟩ := h
  have ea := (I.pin (a, oe) (List.mem_append_left _ List.mem_cons_self)).1
  obtain ⟨flds, ef⟩ := hf
  obtain ⟨mm, nsd, _⟩ := (show ObjOk X0.prog X0.w H s.heap dd (.xd fs) from I.hok dd _ ed)
  obtain ⟨od, hod, _⟩ := lookIn_ns nsd
  obtain ⟨z1, z2⟩ := hz
  have J : PySem.W.InstAt s.heap a oe D (some od) := by
    refine ⟨ea, z1, ?_, ?_⟩
    · unfold PySem.W.notCls
      rw [ef] <;> rfl
    · rw [z2]
      exact hod
  cases r with
  | cons r1 r2 =>
    cases r1
    cases r2 with
    | cons r3 r4 =>
      cases r4
      rw [hcv _ r3]
      have hcl : (PySem.W.clsIn X0.K D).isSome = true := by
        obtain ⟨cd, hc, _⟩ := PySem.W.any_some T.hd
        rw [hc]; rfl
      exact PySem.W.kia_one (PySem.W.kitx_exc (od := some od) hcl T.ga T.gg T.sb T.ha hn ht T.hm) I.kIn J ek (fun w => nomatch w) fun tk => ⟨.bl b, H, I.kept (t' := tk) fun _ _ w => w, rfl, q⟩
theorem Cok.clsN (c : Cok X S P F C W) {x : Str} {k : Nat} (h : isCls S x k = true) : Gl X x ∧ (x == ("__debug__" : Str)) = false ∧ ∃ a, C.ca k = some a ∧ X.mg x = some (.ref a) := by
  unfold isCls at h
  rw [Bool.and_eq_true] at h
  obtain ⟨g, n, d⟩ := c.gl h.1
  have h2 := h.2
  split at h2
  · rename_i j e
    have := of_decide_eq_true h2
    subst this
    obtain ⟨a, h3, h4, _⟩ := c.glb x _ e
    exact ⟨g, d, a, h3, h4⟩
  · cases h2
theorem pe_xis' (c : Cok X S P F C W) {j k : Nat} {x y : Str} {p p1 p2 pos : Pos} (hh : S.hot = true) (htr : S.tr = true) (hj : S.xj = j) (hN : S.N[j]? = some x) (v : visO S x = true) (hb : isBi S "isinstance" = true) (hy : isCls S y k = true ∨ k = 6 ∧ y = "ValueError" ∧ isBi S "ValueError" = true) :
    PE X (.Call (.Name "isinstance" p) [.Name x p1, .Name y p2] [] pos) (RdE C W (sXis P C.cx j k)) := by
  rcases c.xq with ⟨h, _⟩ | ⟨_, q, hq, hcx, hxj, hca, X0, oe, pn, hX, hz, hf⟩
  · rw [hh] at h; cases h
  have cf := c.cf htr
  have cl := cf.cls _ _ hca
  obtain ⟨v1, v2, v3⟩ := c.vis v
  have qj : q.j = j := hxj.symm.trans hj
  obtain ⟨gl, hm, n1, n2⟩ := c.bi hb
  have hNx : X.N[j]? = some x := by rw [c.hN]; exact hN
  have fin : ∀ {cv : V} {u : Value} {te : TE}, PE X (.Name y p2) te → (∀ σ H Q, Q cv H → te σ H Q) → (∀ w, RelV cv w → w = u) → PySem.W.kitOne X.K (.ref q.c) u = some (P.sub q.m.cls k) → PE X (.Call (.Name "isinstance" p) [.Name x p1, .Name y p2] [] pos) (RdE C W (sXis P C.cx j k)) := by
    intro cv u te pt ht hu hk
    have pa := pa_cons (pe_var hNx v1 v2 v3 (pos := p1)) (pa_cons pt pa_nil (by rfl)) (by rfl)
    subst hX
    refine pe_weak (pe_callB (call_isX (X0 := X0) (a := q.a) (pn := pn) cl cf.hn cf.ht hz hf) gl hm (by decide +kernel) pa n1 n2 (by rfl) (by rfl)) fun σ H Q o => ?_
    obtain ⟨M, hp, env, hr, er, o⟩ := o
    unfold sXis at o
    rw [hcx] at o
    dsimp only at o
    have o : env[j]? = some none ∧ Out C (WE W σ) Q M H ((.ok (.bl (P.sub q.m.cls k)) hp : Res PV)) := by
      cases e : env[j]? with
      | none => rw [e] at o; exact o.elim
      | some z =>
        cases z with
        | none => rw [e] at o; exact ⟨rfl, o⟩
        | some z => rw [e] at o; exact o.elim
    obtain ⟨he, o⟩ := o
    rw [← qj] at he
    obtain ⟨s1, s2, s3, s4, s5⟩ := er.xs q hq he
    rw [qj] at s1
    exact ⟨_, s1, ht _ _ _ ⟨cv, u, _, q.fs, rfl, s3, hu, hk, o _ H M Ext.refl hr (by rw [RV])⟩⟩
  rcases hy with hy | ⟨rfl, rfl, hy⟩
  · obtain ⟨g, d, a, ca, hma⟩ := c.clsN hy
    exact fin (cv := .ref a) (u := .ref a) (pe_glob (v := .ref a) g hma rfl d) (fun σ H Q h => h) (fun w r => r) (cf.kit _ _ _ _ hca ca)
  · obtain ⟨g2, hm2, m1, m2⟩ := c.bi hy
    exact fin (cv := .ty "ValueError") (u := .type "ValueError") (pe_bltn (v := .ty "ValueError") (u := .type "ValueError") g2 hm2 (by decide +kernel) rfl m1 m2) (fun σ H Q h => h) (fun w r => r) (cf.ve _ _ hca)
end
end Qm

/-! S11: every expression. -/
namespace Qm
open PySem PySem.Spec PyProof.Rows L2
theorem mes_ne {es : MEs} (h : 0 < mesLen es) : ∃ e r, es = .cons e r := by
  cases es with
  | nil => simp [mesLen] at h
  | cons e r => exact ⟨e, r, rfl⟩
theorem and2 {a b : Bool} (h : (a && b) = true) : a = true ∧ b = true := by rwa [Bool.and_eq_true] at h
theorem and3 {a b c : Bool} (h : (a && b && c) = true) : a = true ∧ b = true ∧ c = true := by
  rw [Bool.and_eq_true, Bool.and_eq_true] at h; exact ⟨h.1.1, h.1.2, h.2⟩
theorem and4 {a b c d : Bool} (h : (a && b && c && d) = true) : a = true ∧ b = true ∧ c = true ∧ d = true := by
  rw [Bool.and_eq_true] at h; obtain ⟨x, y, z⟩ := and3 h.1; exact ⟨x, y, z, h.2⟩
theorem bnot {a : Bool} (h : (!a) = true) : a = false := by simpa using h
section
variable {P : Prog} {F : Fn} {cx : Option MX}
theorem evs_len : ∀ {es : MEs} {env : Env} {h : MHp} {xs : List PV} {h' : MHp}, evs P F cx es env h = .ok xs h' → xs.length = mesLen es
  | .nil, env, h, xs, h', e => by rw [evs] at e; cases e; rfl
  | .cons a r, env, h, xs, h', e => by
    rw [evs] at e
    cases ea : ev P F cx a env h with
    | ok x h1 =>
      rw [ea, Res.bind_ok] at e
      cases er : evs P F cx r env h1 with
      | ok ys h2 =>
        rw [er, Res.bind_ok] at e
        cases e
        rw [List.length_cons, evs_len er, mesLen]
      | exn _ _ => rw [er] at e; cases e
      | stuck => rw [er] at e; cases e
    | exn _ _ => rw [ea] at e; cases e
    | stuck => rw [ea] at e; cases e
/-- a plain test -/
theorem pt_plain {X : Cx} {S : Sc} {C : XC} {W : WX} (c : Cok X S P F C W) {e : Expr} {f : Sem1} (he : PE X e (RdE C W f)) (hp : ∀ whole, isTrue e X.env whole = (do let v ← whole; standAt e.pos; holding [v] (truthy v))) : PE X e (RdE C W f) ∧ PT X e (RdT C W (tst f)) := ⟨he, pt_of c.hK he hp⟩
theorem len0_of {S : Sc} {o : ME} {e0 : Expr} (h : wfE S o e0 = true) : (∀ f es, o = .call f es → 0 < mesLen es) ∧ (∀ f es, o = .bif f es → 0 < mesLen es) ∧ (∀ f m es, o = .bil f m es → 0 < mesLen es) := by
  refine ⟨fun f es e => ?_, fun f es e => ?_, fun f m es e => ?_⟩ <;> subst e <;> rw [wfE] at h <;> exact of_decide_eq_true (and2 h).2
theorem mes_two {es : MEs} (h : mesLen es = 2) : ∃ a1 a2, es = .cons a1 (.cons a2 .nil) := by
  cases es with
  | nil => simp [mesLen] at h
  | cons a r =>
    cases r with
    | nil => simp [mesLen] at h
    | cons b r =>
      cases r with
      | nil => exact ⟨a, b, rfl⟩
      | cons d r => simp [mesLen] at h
theorem pe_eq {X : Cx} {C : XC} {W : WX} {e : Expr} {f g : Sem1} (h : PE X e (RdE C W f)) (k : f = g) : PE X e (RdE C W g) := k ▸ h
mutual
theorem e_sound : ∀ (e : ME) {X : Cx} {S : Sc} {C : XC} {W : WX} (c : Cok X S P F C W) (e0 : Expr), wfE S e e0 = true → PE X (toE e e0) (RdE C W (ev P F C.cx e)) ∧ PT X (toE e e0) (RdT C W (tst (ev P F C.cx e)))
  | .var i, X, S, C, W, c, e0, h => by
    rw [wfE] at h
    obtain ⟨h1, h2⟩ := and2 h
    rw [toE, show ev P F C.cx (.var i) = fun env h => match env[i]? with | some (some v) => .ok v h | _ => .stuck from by funext env h; rw [ev] <;> rfl]
    exact pt_plain c (pe_var' c (of_decide_eq_true h1) h2) (by intro _; rfl)
  | .cst v, X, S, C, W, c, e0, h => by
    rw [wfE] at h
    rw [toE, show ev P F C.cx (.cst v) = fun _ h => .ok v h from by funext env h; rw [ev] <;> rfl]
    exact pt_plain c (pe_cst' h) (by intro _; rfl)
  | .glb k, X, S, C, W, c, e0, h => by
    rw [wfE] at h
    rw [toE, show ev P F C.cx (.glb k) = fun _ h => ofOpt (P.con k) h from by funext env h; rw [ev] <;> rfl]
    exact pt_plain c (pe_glb' c h) (by intro _; rfl)
  | .bin o a b, X, S, C, W, c, e0, h => by
    rw [wfE] at h
    obtain ⟨h1, h2⟩ := and2 h
    rw [toE, show ev P F C.cx (.bin o a b) = fun env h => (ev P F C.cx a env h).bind fun x h1 => (ev P F C.cx b env h1).bind fun y h2 => ofOpt (bop o x y h2) h2 from by funext env h; rw [ev] <;> rfl]
    exact pt_plain c (pe_bin' c (e_sound a c _ h1).1 (e_sound b c _ h2).1) (by intro _; rfl)
  | .bnm o a b, X, S, C, W, c, e0, h => by
    rw [wfE] at h
    obtain ⟨h1, h2, h3⟩ := and3 h
    rw [toE, show ev P F C.cx (.bnm o a b) = fun env h => (ev P F C.cx a env h).bind fun x h1 => (ev P F C.cx b env h1).bind fun y h2 => (ofOpt (bopL o x y h2) h2).bind fun xs h3 => newL true xs h3 from by funext env h; rw [ev] <;> rfl]
    have ho : o = .add ∨ o = .mul := by
      rw [Bool.or_eq_true] at h3
      exact h3.imp of_decide_eq_true of_decide_eq_true
    exact pt_plain c (pe_bnm' c ho (e_sound a c _ h1).1 (e_sound b c _ h2).1) (by intro _; rfl)
  | .neg a, X, S, C, W, c, e0, h => by
    rw [wfE] at h
    rw [toE, show ev P F C.cx (.neg a) = fun env h => (ev P F C.cx a env h).bind fun x h1 => match x with | .int i => .ok (.int (-i)) h1 | _ => .stuck from by funext env h; rw [ev] <;> rfl]
    exact pt_plain c (pe_neg' (e_sound a c _ h).1) (by intro _; rfl)
  | .not a, X, S, C, W, c, e0, h => by
    rw [wfE] at h
    rw [toE, show ev P F C.cx (.not a) = fun env h => (ev P F C.cx a env h).bind fun x h1 => (ofOpt (truth x h1) h1).bind fun b h2 => .ok (.bl (!b)) h2 from by funext env h; rw [ev] <;> rfl]
    exact ⟨pe_not' c (e_sound a c _ h).1, pt_not' (e_sound a c _ h).2⟩
  | .cmp o a b, X, S, C, W, c, e0, h => by
    rw [wfE] at h
    obtain ⟨h1, h2⟩ := and2 h
    rw [toE, show ev P F C.cx (.cmp o a b) = fun env h => (ev P F C.cx a env h).bind fun x h1 => (ev P F C.cx b env h1).bind fun y h2 => (ofOpt (cop o x y h2) h2).bind fun k h3 => .ok (.bl k) h3 from by funext env h; rw [ev] <;> rfl]
    exact ⟨pe_cmp' c (e_sound a c _ h1).1 (e_sound b c _ h2).1 (toE_marks _ _ _), pt_cmp' c (e_sound a c _ h1).1 (e_sound b c _ h2).1 (toE_marks _ _ _)⟩
  | .chn o p a b d, X, S, C, W, c, e0, h => by
    rw [wfE] at h
    have h := (and2 (and2 (and2 (and2 h).1).1).1).1
    obtain ⟨h1, h2, h3⟩ := and3 h
    rw [toE, show ev P F C.cx (.chn o p a b d) = sChn o p (ev P F C.cx a) (ev P F C.cx b) (ev P F C.cx d) from by funext env h; rw [ev] <;> rfl]
    exact ⟨pe_chn' c (e_sound a c _ h1).1 (e_sound b c _ h2).1 (e_sound d c _ h3).1 (toE_last _ _ _ _ _ _), pt_chn' c (e_sound a c _ h1).1 (e_sound b c _ h2).1 (e_sound d c _ h3).1 (toE_last _ _ _ _ _ _)⟩
  | .and es, X, S, C, W, c, e0, h => by
    rw [wfE] at h
    obtain ⟨h1, h2⟩ := and2 h
    obtain ⟨e, r, rfl⟩ := mes_ne (of_decide_eq_true h2)
    rw [toE, show ev P F C.cx (.and (.cons e r)) = evAnd P F C.cx (.cons e r) from by funext env h; rw [ev] <;> rfl]
    obtain ⟨q1, q2⟩ := and_sound (.cons e r) c _ e0.pos (of_decide_eq_true h2) h1
    exact ⟨q1, q2.pt⟩
  | .or es, X, S, C, W, c, e0, h => by
    rw [wfE] at h
    obtain ⟨h1, h2⟩ := and2 h
    obtain ⟨e, r, rfl⟩ := mes_ne (of_decide_eq_true h2)
    rw [toE, show ev P F C.cx (.or (.cons e r)) = evOr P F C.cx (.cons e r) from by funext env h; rw [ev] <;> rfl]
    obtain ⟨q1, q2⟩ := or_sound (.cons e r) c _ e0.pos (of_decide_eq_true h2) h1
    exact ⟨q1, q2.pt⟩
  | .ife d a b, X, S, C, W, c, e0, h => by
    rw [wfE] at h
    obtain ⟨h1, h2, h3⟩ := and3 h
    rw [toE, show ev P F C.cx (.ife d a b) = sIfe (ev P F C.cx d) (ev P F C.cx a) (ev P F C.cx b) from by funext env h; rw [ev] <;> rfl]
    exact ⟨pe_ife' (e_sound d c _ h1).2 (e_sound a c _ h2).1 (e_sound b c _ h3).1, pt_ife' (e_sound d c _ h1).2 (e_sound a c _ h2).2 (e_sound b c _ h3).2⟩
  | .ix a i, X, S, C, W, c, e0, h => by
    rw [wfE] at h
    obtain ⟨h1, h2⟩ := and2 h
    rw [toE, show ev P F C.cx (.ix a i) = fun env h => (ev P F C.cx a env h).bind fun x h1 => (ev P F C.cx i env h1).bind fun y h2 => ofOpt (index x y h2) h2 from by funext env h; rw [ev] <;> rfl]
    exact pt_plain c (pe_ix' c (e_sound a c _ h1).1 (e_sound i c _ h2).1 (toE_ix _ _)) (by intro _; rfl)
  | .sl a lo hi, X, S, C, W, c, e0, h => by
    rw [wfE] at h
    obtain ⟨h1, h2, h3⟩ := and3 h
    rw [toE, show ev P F C.cx (.sl a lo hi) = fun env h => (ev P F C.cx a env h).bind fun x h1 => (evO P F C.cx lo env h1).bind fun l h2 => (evO P F C.cx hi env h2).bind fun u h3 => ofOpt (slice x l u h3) h3 from by funext env h; rw [ev] <;> rfl]
    exact pt_plain c (pe_sl' c (e_sound a c _ h1).1 (o_sound lo c _ h2) (o_sound hi c _ h3)) (by intro _; rfl)
  | .rev a, X, S, C, W, c, e0, h => by
    rw [wfE] at h
    rw [toE, show ev P F C.cx (.rev a) = fun env h => (ev P F C.cx a env h).bind fun x h1 => ofOpt (revS x h1) h1 from by funext env h; rw [ev] <;> rfl]
    exact pt_plain c (pe_rev c.hK (e_sound a c _ h).1) (by intro _; rfl)
  | .tup es, X, S, C, W, c, e0, h => by
    rw [wfE] at h
    rw [toE, show ev P F C.cx (.tup es) = fun env h => (evs P F C.cx es env h).bind fun xs h1 => if decide (xs.length ≤ big) then .ok (.tup xs) h1 else .stuck from by funext env h; rw [ev] <;> rfl]
    exact pt_plain c (pe_tup' (es_sound es c _ h)) (by intro _; rfl)
  | .lst m es, X, S, C, W, c, e0, h => by
    rw [wfE] at h
    rw [toE, show ev P F C.cx (.lst m es) = fun env h => (evs P F C.cx es env h).bind fun xs h1 => if decide (xs.length ≤ big) then newL m xs h1 else .stuck from by funext env h; rw [ev] <;> rfl]
    exact pt_plain c (pe_lst' (es_sound es c _ h)) (by intro _; rfl)
  | .dc0 m t, X, S, C, W, c, e0, h => by
    rw [toE, show ev P F C.cx (.dc0 m t) = fun _ h => if m then .ok (.ref h.length) (h ++ [.dic t [] []]) else .ok (.dic t [] []) h from by funext env h; rw [ev] <;> rfl]
    exact pt_plain c pe_dc0' (by intro _; rfl)
  | .dc1 m k v, X, S, C, W, c, e0, h => by
    rw [wfE] at h
    obtain ⟨_, h1, h2⟩ := and3 h
    rw [toE, show ev P F C.cx (.dc1 m k v) = sDc1 m (ev P F C.cx k) (ev P F C.cx v) from by funext env h; rw [ev] <;> rfl]
    exact pt_plain c (pe_dc1' (fun z => (e_sound k (c.zz z) _ h1).1) (fun z => (e_sound v (c.zz z) _ h2).1)) (by intro _; rfl)
  | .call f es, X, S, C, W, c, e0, h => by
    rw [wfE] at h
    obtain ⟨h1, h2, h3, h4⟩ := and4 h
    obtain ⟨e, r, rfl⟩ := mes_ne (of_decide_eq_true h4)
    rw [toE, show ev P F C.cx (.call f (.cons e r)) = fun env h => (evs P F C.cx (.cons e r) env h).bind fun xs h1 => F f xs h1 from by funext env h; rw [ev] <;> rfl]
    exact pt_plain c (pe_call' c (bnot h1) h2 (es_sound (.cons e r) c _ h3)) (by intro _; rfl)
  | .bif b es, X, S, C, W, c, e0, h => by
    rw [wfE] at h
    obtain ⟨h1, h2, h3, h4⟩ := and4 h
    obtain ⟨e, r, rfl⟩ := mes_ne (of_decide_eq_true h4)
    rw [toE, show ev P F C.cx (.bif b (.cons e r)) = fun env h => (evs P F C.cx (.cons e r) env h).bind fun xs h1 => ofOpt (biS b xs h1) h1 from by funext env h; rw [ev] <;> rfl]
    exact pt_plain c (pe_bif' c (bnot h1) h2 (es_sound (.cons e r) c _ h3)) (by intro _; rfl)
  | .bil b m es, X, S, C, W, c, e0, h => by
    rw [wfE] at h
    obtain ⟨h1, h2, h3, h4⟩ := and4 h
    obtain ⟨e, r, rfl⟩ := mes_ne (of_decide_eq_true h4)
    rw [toE, show ev P F C.cx (.bil b m (.cons e r)) = fun env h => (evs P F C.cx (.cons e r) env h).bind fun xs h1 => (ofOpt (blS b xs h1) h1).bind fun ys h2 => newL m ys h2 from by funext env h; rw [ev] <;> rfl]
    exact pt_plain c (pe_bil' c (bnot h1) h2 (es_sound (.cons e r) c _ h3)) (by intro _; rfl)
  | .lrg m es, X, S, C, W, c, e0, h => by
    rw [wfE] at h
    obtain ⟨h, h5⟩ := and2 h
    obtain ⟨h1, h2, h3, h4⟩ := and4 h
    rw [toE, show ev P F C.cx (.lrg m es) = fun env h => (evs P F C.cx es env h).bind fun xs h1 => (ofOpt (rangeOf xs) h1).bind fun ys h2 => newL m ys h2 from by funext env h; rw [ev] <;> rfl]
    rw [Bool.or_eq_true] at h5
    refine pt_plain c (pe_lrg' c (bnot h1) h2 h3 (h5.imp of_decide_eq_true of_decide_eq_true) ?_ ?_) (by intro _; rfl)
    · intro a a2 b ee
      subst ee
      rw [wfEs, wfEs] at h4
      obtain ⟨k1, k2⟩ := and2 h4
      obtain ⟨k2, k3⟩ := and2 k2
      refine ⟨_, (e_sound a c _ k1).1, _, (e_sound a2 c _ k2).1, fun eb => ?_⟩
      subst eb
      funext env h
      rw [evs]
      congr 1
      funext x h1
      rw [evs]
      cases ev P F C.cx a2 env h1 <;> simp [evs]
    · intro a ee
      subst ee
      rw [wfEs] at h4
      refine ⟨_, (e_sound a c _ (and2 h4).1).1, ?_⟩
      funext env h
      rw [evs]
      congr 1
  | .isi t a, X, S, C, W, c, e0, h => by
    rw [wfE] at h
    obtain ⟨h1, h2, h3⟩ := and3 h
    rw [toE, show ev P F C.cx (.isi t a) = fun env h => (ev P F C.cx a env h).bind fun x h1 => (ofOpt (isTy t x h1) h1).bind fun k h2 => .ok (.bl k) h2 from by funext env h; rw [ev] <;> rfl]
    exact pt_plain c (pe_isi' c h1 h2 (e_sound a c _ h3).1) (by intro _; rfl)
  | .mth m o es, X, S, C, W, c, e0, h => by
    rw [wfE] at h
    obtain ⟨h1, h2, h3, h4⟩ := and4 h
    rw [toE, show ev P F C.cx (.mth m o es) = fun env h => (ev P F C.cx o env h).bind fun x h1 => if rcv m x h1 then (evs P F C.cx es env h1).bind fun xs h2 => (match mth m x xs h2 with | some (v, h3) => .ok v h3 | none => .stuck) else .stuck from by funext env h; rw [ev] <;> rfl]
    obtain ⟨l1, l2, l3⟩ := len0_of h1
    rcases Bool.or_eq_true_iff.mp h3 with h3 | h3
    · refine pt_plain c (pe_mth' c h3 (of_decide_eq_true h4) (toE_attr o _ _ _ l1 l2 l3) (e_sound o c _ h1).1 (es_sound es c _ h2) ?_) (by intro _; rfl)
      intro ee
      subst ee
      funext env h
      rw [evs]
    · obtain ⟨h5, h6⟩ := and2 h3
      obtain rfl := of_decide_eq_true h5
      have h6 := of_decide_eq_true h6
      obtain ⟨a1, a2, ee⟩ := mes_two h6
      subst ee
      rw [wfEs, wfEs] at h2
      obtain ⟨k1, k2⟩ := and2 h2
      obtain ⟨k2, _⟩ := and2 k2
      have := pe_get' c (of_decide_eq_true h4) (toE_attr o _ _ _ l1 l2 l3) (e_sound o c _ h1).1 (e_sound a1 c _ k1).1 (e_sound a2 c _ k2).1
      rw [toEs, toEs, toEs]
      refine pt_plain c ?_ (by intro _; rfl)
      refine pe_eq this ?_
      funext env h
      cases ev P F C.cx o env h with
      | ok x h1 =>
        simp only [Res.bind_ok]
        cases rcv .get x h1 with
        | false => rfl
        | true =>
          simp only [if_true]
          rw [evs]
          cases ev P F C.cx a1 env h1 with
          | ok y h2 =>
            simp only [Res.bind_ok]
            rw [evs]
            cases ev P F C.cx a2 env h2 with
            | ok z h3 =>
              simp only [Res.bind_ok]
              rw [evs]
              rfl
            | exn _ _ => rfl
            | stuck => rfl
          | exn _ _ => rfl
          | stuck => rfl
      | exn _ _ => rfl
      | stuck => rfl
  | .lc own elt tg it ifs, X, S, C, W, c, e0, h => by
    rw [wfE] at h
    obtain ⟨h, h8⟩ := and2 h
    obtain ⟨h, h7⟩ := and2 h
    obtain ⟨h, h6⟩ := and2 h
    obtain ⟨h, h5⟩ := and2 h
    obtain ⟨h1, h2, h3, h4⟩ := and4 h
    rw [toE, show ev P F C.cx (.lc own elt tg it ifs) = fun env h => (evI P F C.cx it env h).bind fun r h1 => match loopC (ev P F C.cx elt) (evT P F C.cx ifs) tg r.src r.items (wipeE env own) h1 with | .ok ys h2 => .ok (.lst ys) h2 | _ => .stuck from by funext env h; rw [ev] <;> rfl]
    refine pt_plain c (pe_lc' c (bnot h1) h8 h3 h4 (toI_folded it _ _) (i_sound it c _ _ h2) (fun z c' => (e_sound elt c' _ h5).1) (fun z c' => ts_sound ifs c' _ (of_decide_eq_true h7) h6)) (by intro _; rfl)
  | .lcm own elt tg it ifs, X, S, C, W, c, e0, h => by
    rw [wfE] at h
    obtain ⟨h, h8⟩ := and2 h
    obtain ⟨h, h7⟩ := and2 h
    obtain ⟨h, h6⟩ := and2 h
    obtain ⟨h, h5⟩ := and2 h
    obtain ⟨h1, h2, h3, h4⟩ := and4 h
    rw [toE, show ev P F C.cx (.lcm own elt tg it ifs) = fun env h => (evI P F C.cx it env h).bind fun r h1 => match loopC (ev P F C.cx elt) (evT P F C.cx ifs) tg r.src r.items (wipeE env own) h1 with | .ok ys h2 => .ok (.ref h2.length) (h2 ++ [.lst ys]) | _ => .stuck from by funext env h; rw [ev] <;> rfl]
    refine pt_plain c (pe_lcm' c (bnot h1) h8 h3 h4 (toI_folded it _ _) (i_sound it c _ _ h2) (fun z c' => (e_sound elt c' _ h5).1) (fun z c' => ts_sound ifs c' _ (of_decide_eq_true h7) h6)) (by intro _; rfl)
  | .dcc t own k v tg it ifs, X, S, C, W, c, e0, h => by
    rw [wfE] at h
    obtain ⟨h, h9⟩ := and2 h
    obtain ⟨h, h8⟩ := and2 h
    obtain ⟨h, h7⟩ := and2 h
    obtain ⟨h, h6⟩ := and2 h
    obtain ⟨h, h5⟩ := and2 h
    obtain ⟨h1, h2, h3, h4⟩ := and4 h
    rw [toE, show ev P F C.cx (.dcc t own k v tg it ifs) = fun env h => (evI P F C.cx it env h).bind fun r h1 => match loopD (ev P F C.cx k) (ev P F C.cx v) (evT P F C.cx ifs) t tg r.src r.items (wipeE env own) [] [] h1 with | .ok kv h2 => .ok (.dic t kv.1 kv.2) h2 | _ => .stuck from by funext env h; rw [ev] <;> rfl]
    refine pt_plain c (pe_dcc' c (bnot h1) h9 h3 h4 (toI_folded it _ _) (i_sound it c _ _ h2) (fun z c' => (e_sound k c' _ h5).1) (fun z c' => (e_sound v c' _ h6).1) (fun z c' => ts_sound ifs c' _ (of_decide_eq_true h8) h7)) (by intro _; rfl)
  | .xfl j f, X, S, C, W, c, e0, h => by
    rw [wfE] at h
    obtain ⟨h, h5⟩ := and2 h
    obtain ⟨h1, h2, h3, h4⟩ := and4 h
    rw [toE, show ev P F C.cx (.xfl j f) = sXfl P C.cx j f from by funext env h; rw [ev.eq_def]; rfl]
    exact pt_plain c (pe_xfl' c h1 h2 (of_decide_eq_true h3) (of_decide_eq_true h4) h5) (by intro _; rfl)
  | .xis j k, X, S, C, W, c, e0, h => by
    rw [wfE] at h
    obtain ⟨h, h7⟩ := and2 h
    obtain ⟨h, h6⟩ := and2 h
    obtain ⟨h, h5⟩ := and2 h
    obtain ⟨h1, h2, h3, h4⟩ := and4 h
    rw [toE, show ev P F C.cx (.xis j k) = sXis P C.cx j k from by funext env h; rw [ev.eq_def]; rfl]
    refine pt_plain c (pe_xis' c h1 h2 (of_decide_eq_true h3) (of_decide_eq_true h4) h5 h6 ?_) (by intro _; rfl)
    rw [Bool.or_eq_true] at h7
    refine h7.imp id fun z => ?_
    obtain ⟨z1, z2, z3⟩ := and3 z
    exact ⟨of_decide_eq_true z1, of_decide_eq_true z2, z3⟩
theorem es_sound : ∀ (es : MEs) {X : Cx} {S : Sc} {C : XC} {W : WX} (c : Cok X S P F C W) (l : List Expr), wfEs S es l = true → PA X (toEs es l) (RdA C W (evs P F C.cx es))
  | .nil, X, S, C, W, c, l, h => by
    rw [toEs, show evs P F C.cx .nil = fun _ h => .ok [] h from by funext env h; rw [evs]]
    exact pa_nil'
  | .cons e r, X, S, C, W, c, l, h => by
    rw [wfEs] at h
    obtain ⟨h1, h2⟩ := and2 h
    have hs := toEs_star0 e r l X.env
    rw [toEs] at hs
    rw [toEs, show evs P F C.cx (.cons e r) = fun env h => (ev P F C.cx e env h).bind fun x h1 => (evs P F C.cx r env h1).bind fun xs h2 => .ok (x :: xs) h2 from by funext env h; rw [evs]]
    exact pa_cons' (e_sound e c _ h1).1 (es_sound r c _ h2) hs
theorem and_sound : ∀ (es : MEs) {X : Cx} {S : Sc} {C : XC} {W : WX} (c : Cok X S P F C W) (l : List Expr) (pos : Pos), 0 < mesLen es → wfEs S es l = true →
    PE X (.BoolOp .And (toEs es l) pos) (RdE C W (evAnd P F C.cx es)) ∧ PW X (.BoolOp .And (toEs es l) pos) (RdT C W (tst (evAnd P F C.cx es)))
  | .nil, _, _, _, _, _, _, _, h0, _ => by simp [mesLen] at h0
  | .cons e .nil, X, S, C, W, c, l, pos, _, h => by
    rw [wfEs] at h
    obtain ⟨h1, h2⟩ := and2 h
    rw [toEs, toEs, show evAnd P F C.cx (.cons e .nil) = ev P F C.cx e from by funext env h; rw [evAnd]; exact bind_id _]
    exact ⟨pe_one (e_sound e c _ h1).1, pw_and1 (e_sound e c _ h1).2⟩
  | .cons e (.cons e2 r), X, S, C, W, c, l, pos, _, h => by
    rw [wfEs] at h
    obtain ⟨h1, h2⟩ := and2 h
    rw [toEs, show evAnd P F C.cx (.cons e (.cons e2 r)) = sAnd (ev P F C.cx e) (evAnd P F C.cx (.cons e2 r)) from by funext env h; rw [evAnd]; rfl]
    obtain ⟨q1, q2⟩ := and_sound (.cons e2 r) c l.tail pos (by simp [mesLen]) h2
    rw [toEs] at q1 q2 ⊢
    exact ⟨pe_and' c (e_sound e c _ h1).1 q1, pw_and' (e_sound e c _ h1).2 q2⟩
theorem or_sound : ∀ (es : MEs) {X : Cx} {S : Sc} {C : XC} {W : WX} (c : Cok X S P F C W) (l : List Expr) (pos : Pos), 0 < mesLen es → wfEs S es l = true →
    PE X (.BoolOp .Or (toEs es l) pos) (RdE C W (evOr P F C.cx es)) ∧ PW X (.BoolOp .Or (toEs es l) pos) (RdT C W (tst (evOr P F C.cx es)))
  | .nil, _, _, _, _, _, _, _, h0, _ => by simp [mesLen] at h0
  | .cons e .nil, X, S, C, W, c, l, pos, _, h => by
    rw [wfEs] at h
    obtain ⟨h1, h2⟩ := and2 h
    rw [toEs, toEs, show evOr P F C.cx (.cons e .nil) = ev P F C.cx e from by funext env h; rw [evOr]; exact bind_id _]
    exact ⟨pe_one (e_sound e c _ h1).1, pw_or1 (e_sound e c _ h1).2⟩
  | .cons e (.cons e2 r), X, S, C, W, c, l, pos, _, h => by
    rw [wfEs] at h
    obtain ⟨h1, h2⟩ := and2 h
    rw [toEs, show evOr P F C.cx (.cons e (.cons e2 r)) = sOr (ev P F C.cx e) (evOr P F C.cx (.cons e2 r)) from by funext env h; rw [evOr]; rfl]
    obtain ⟨q1, q2⟩ := or_sound (.cons e2 r) c l.tail pos (by simp [mesLen]) h2
    rw [toEs] at q1 q2 ⊢
    exact ⟨pe_or' c (e_sound e c _ h1).1 q1, pw_or' (e_sound e c _ h1).2 q2⟩
theorem o_sound : ∀ (o : MOp) {X : Cx} {S : Sc} {C : XC} {W : WX} (c : Cok X S P F C W) (e0 : Expr), wfO S o e0 = true → PO X (toO o e0) (RdO C W (evO P F C.cx o))
  | .no, X, S, C, W, c, e0, h => by
    rw [toO, show evO P F C.cx .no = fun _ h => .ok none h from by funext env h; rw [evO] <;> rfl]
    exact po_none'
  | .some e, X, S, C, W, c, e0, h => by
    rw [wfO] at h
    rw [toO, show evO P F C.cx (.some e) = fun env h => (ev P F C.cx e env h).bind fun x h1 => match x with | .int i => .ok (some i) h1 | _ => .stuck from by funext env h; rw [evO] <;> rfl]
    exact po_some' (e_sound e c _ h).1
theorem ts_sound : ∀ (es : MEs) {X : Cx} {S : Sc} {C : XC} {W : WX} (c : Cok X S P F C W) (l : List Expr), mesLen es ≤ 1 → wfEs S es l = true → PTs X (toEs es l) (RdT C W (evT P F C.cx es))
  | .nil, X, S, C, W, c, l, _, h => by
    rw [toEs, show evT P F C.cx .nil = fun _ h => .ok true h from by funext env h; rw [evT]]
    refine pts_weak pts_nil fun σ H Q q => ?_
    obtain ⟨M, h, env, hr, er, o⟩ := q
    exact o H M Ext.refl hr
  | .cons e .nil, X, S, C, W, c, l, _, h => by
    rw [wfEs] at h
    rw [toEs, toEs, show evT P F C.cx (.cons e .nil) = tst (ev P F C.cx e) from by funext env h; rw [evT]; rfl]
    exact pts_one (e_sound e c _ (and2 h).1).2
  | .cons _ (.cons _ _), _, _, _, _, _, _, hl, _ => by simp [mesLen] at hl
theorem i_sound : ∀ (i : MI) {X : Cx} {S : Sc} {C : XC} {W : WX} (c : Cok X S P F C W) (e0 : Expr) (tg : MT) {t0 : Expr}, wfI S i e0 tg = true → PI X (toT tg t0) (toI i e0) (RdI C W (evI P F C.cx i))
  | .seq e, X, S, C, W, c, e0, tg, t0, h => by
    rw [wfI] at h
    rw [toI, show evI P F C.cx (.seq e) = fun env h => (ev P F C.cx e env h).bind fun x h1 => (ofOpt (itemsT x h1) h1).bind fun xs h2 => .ok ⟨xs, srcOf x xs⟩ h2 from by funext env h; rw [evI]]
    exact pi_seq c.hK (e_sound e c _ h).1
  | .rng es, X, S, C, W, c, e0, tg, t0, h => by
    rw [wfI] at h
    obtain ⟨h1, h2, h3, h4⟩ := and4 h
    rw [toI, show evI P F C.cx (.rng es) = fun env h => (evs P F C.cx es env h).bind fun xs h1 => (ofOpt (rangeOf xs) h1).bind fun ys h2 => .ok ⟨ys, []⟩ h2 from by funext env h; rw [evI]]
    exact pi_rng c (of_decide_eq_true h4) (of_decide_eq_true h3) h1 (fun env h xs h' e => evs_len e) (es_sound es c _ h2)
  | .enu e, X, S, C, W, c, e0, tg, t0, h => by
    rw [wfI] at h
    obtain ⟨h1, h2, h3⟩ := and3 h
    rw [toI, show evI P F C.cx (.enu e) = fun env h => (ev P F C.cx e env h).bind fun x h1 => (ofOpt (itemsT x h1) h1).bind fun xs h2 => .ok ⟨enumL 0 xs, srcOf x xs⟩ h2 from by funext env h; rw [evI]]
    cases tg with
    | nm _ => cases h2
    | tp ts =>
      rw [toT]
      exact pi_enu' c h1 (e_sound e c _ h3).1 (toE_star e (kid e0 0) [] X.env)
  | .zip a b, X, S, C, W, c, e0, tg, t0, h => by
    rw [wfI] at h
    obtain ⟨h1, h2, h3, h4⟩ := and4 h
    rw [toI, show evI P F C.cx (.zip a b) = fun env h => (ev P F C.cx a env h).bind fun x h1 => (ev P F C.cx b env h1).bind fun y h2 => ofOpt (itemsZ x y h2) h2 from by funext env h; rw [evI]]
    cases tg with
    | nm _ => cases h2
    | tp ts =>
      rw [toT]
      have hb := pa_cons' (e_sound b c (kid e0 1) h4).1 (pa_nil' (X := X) (C := C) (W := W)) (toE_star b (kid e0 1) [] X.env)
      have ha := pa_cons' (e_sound a c (kid e0 0) h3).1 hb (toE_star a (kid e0 0) [toE b (kid e0 1)] X.env)
      rw [show (fun env h => (ev P F C.cx a env h).bind fun x h1 => ((ev P F C.cx b env h1).bind fun y h2 => (Res.ok ([] : List PV) h2).bind fun xs h3 => .ok (y :: xs) h3).bind fun xs h2 => .ok (x :: xs) h2) = fun env h => (ev P F C.cx a env h).bind fun x h1 => (ev P F C.cx b env h1).bind fun y h2 => (.ok [x, y] h2 : Res (List PV)) from by
        funext env h
        congr 1
        funext x h1
        cases ev P F C.cx b env h1 <;> rfl] at ha
      exact pi_zip' c h1 ha (toE_star a (kid e0 0) [toE b (kid e0 1)] X.env) (by rw [toE_star]; rfl)
  | .rvd e, X, S, C, W, c, e0, tg, t0, h => by
    rw [wfI] at h
    obtain ⟨h1, h2⟩ := and2 h
    rw [toI, show evI P F C.cx (.rvd e) = fun env h => (ev P F C.cx e env h).bind fun x h1 => (ofOpt (itemsT x h1) h1).bind fun xs h2 => .ok ⟨xs.reverse, srcOf x xs⟩ h2 from by funext env h; rw [evI]]
    exact pi_rvd c h1 (e_sound e c _ h2).1 (toE_star e (kid e0 0) [] X.env)
  | .itm _, _, _, _, _, _, _, _, _, h => by rw [wfI] at h; cases h
end
end
end Qm

/-! S12: statements. -/
namespace Qm
open PySem PySem.Spec PyProof.Rows L2
/-! ### the syntax of statements -/
def dS : Stmt := .Pass ⟨0, 0, 0, 0⟩
def exS : Stmt → Expr
  | .Assign _ e _ => e
  | .AugAssign _ _ e _ => e
  | .Expr e _ => e
  | .If e _ _ _ => e
  | .For _ e _ _ _ => e
  | .While e _ _ _ => e
  | .Return (some e) _ => e
  | .Raise (some e) _ _ => e
  | _ => dE
def tgS : Stmt → Expr
  | .Assign (t :: _) _ _ => t
  | .AugAssign t _ _ _ => t
  | .For t _ _ _ _ => t
  | _ => dE
def b1S : Stmt → List Stmt
  | .If _ b _ _ => b
  | .For _ _ b _ _ => b
  | .While _ b _ _ => b
  | .Try b _ _ _ _ => b
  | _ => []
def b2S : Stmt → List Stmt
  | .If _ _ b _ => b
  | _ => []
mutual
def toS : MS → Stmt → Stmt
  | .asg t e, s0 => .Assign [toT t (tgS s0)] (toE e (exS s0)) s0.pos
  | .aug _ o e, s0 => .AugAssign (.Name (nm (tgS s0)) (tgS s0).pos) (oper o) (toE e (exS s0)) s0.pos
  | .stx o i e, s0 => .Assign [.Subscript (toE o (kid (tgS s0) 0)) (toE i (kid (tgS s0) 1)) (tgS s0).pos] (toE e (exS s0)) s0.pos
  | .exp e, s0 => .Expr (toE e (exS s0)) s0.pos
  | .ite c a b, s0 => .If (toE c (exS s0)) (toSs a (b1S s0)) (toSs b (b2S s0)) s0.pos
  | .for t it b, s0 => .For (toT t (tgS s0)) (toI it (exS s0)) (toSs b (b1S s0)) [] s0.pos
  | .whl _ c b, s0 => .While (toE c (exS s0)) (toSs b (b1S s0)) [] s0.pos
  | .ret e, s0 => .Return (some (toE e (exS s0))) s0.pos
  | .retN, s0 => .Return none s0.pos
  | .rai _ es, s0 => .Raise (some (.Call (.Name (nm (fnE (exS s0))) (fnE (exS s0)).pos) (toEs es (kids (exS s0))) [] (exS s0).pos)) none s0.pos
  | .try b _ _ s, s0 => match s0 with
    | .Try body [.ExceptHandler (some (.Name x np)) (some n) suite p2] [] [] p => .Try (toSs b body) [.ExceptHandler (some (.Name x np)) (some n) (toSs s suite) p2] [] [] p
    | s0 => s0
  | .trm b cs, s0 => match s0 with
    | .Try body hds [] [] p => .Try (toSs b body) (toHs cs hds) [] [] p
    | s0 => s0
  | .pas, s0 => .Pass s0.pos
  | .brk, s0 => .Break s0.pos
  | .cnt, s0 => .Continue s0.pos
def toSs : MSs → List Stmt → List Stmt
  | .nil, _ => []
  | .cons s r, l => toS s (l.headD dS) :: toSs r l.tail
def toHs : MHs → List ExceptHandler → List ExceptHandler
  | .nil, _ => []
  | .cons _ _ s r, l => match l with
    | .ExceptHandler (some (.Name x np)) (some n) suite p2 :: hds => .ExceptHandler (some (.Name x np)) (some n) (toSs s suite) p2 :: toHs r hds
    | l => l
end
def isLc : ME → Bool
  | .lc _ _ _ _ _ => true
  | .lcm _ _ _ _ _ => true
  | .dcc _ _ _ _ _ _ _ => true
  | _ => false
def isTupE : ME → Bool
  | .tup _ => true
  | _ => false
/-- name = [..]: the name is stored before the comprehension's frame goes -/
def swB (S : Sc) (y : Str) (py p : Pos) (sc : Scope) : Bool :=
  (match S.sc.kind with | .function => true | _ => false) && decide (S.sc.names.lookup y = some .local) && (py.line == p.line) && !(sc.names.any fun (n, k) => n == y && (k == .local || k == .cell))
def wfLoc (S : Sc) (i : Nat) (x : Str) : Bool := decide (S.N[i]? = some x) && (decide (S.sc.names.lookup x = some .local) || decide (S.sc.names.lookup x = some .cell))
mutual
def wfS (S : Sc) : MS → Stmt → Bool
  | .asg (.nm i) e, s0 => wfE S e (exS s0) && wfLoc S i (nm (tgS s0)) && (!isLc e || (swB S (nm (tgS s0)) (tgS s0).pos (exS s0).pos (scE (exS s0)) || !((tgS s0).pos.line == (exS s0).pos.line) || !decide (S.sc.names.lookup (nm (tgS s0)) = some .local)))
  | .asg (.tp ts) e, s0 => wfE S e (exS s0) && wfT S (fun _ => true) (.tp ts) (tgS s0) && !isTupE e
  | .aug i o e, s0 => wfE S e (exS s0) && wfLoc S i (nm (tgS s0)) && (decide (o = .add) || decide (o = .sub))
  | .stx o i e, s0 => wfE S e (exS s0) && wfE S o (kid (tgS s0) 0) && wfE S i (kid (tgS s0) 1)
  | .exp e, s0 => wfE S e (exS s0) && !isLc e
  | .ite c a b, s0 => wfE S c (exS s0) && wfSs S a (b1S s0) && wfSs S b (b2S s0)
  | .for t it b, s0 => !S.hot && wfT S (fun _ => true) t (tgS s0) && wfI S it (exS s0) t && wfSs S b (b1S s0)
  | .whl _ c b, s0 => wfE S c (exS s0) && wfSs S b (b1S s0)
  | .ret e, s0 => wfE S e (exS s0)
  | .retN, _ => true
  | .rai c es, s0 => !S.hot && isCls S (nm (fnE (exS s0))) c && wfEs S es (kids (exS s0)) && decide (0 < mesLen es) && decide (mesLen es = (fldC c).length)
  | .try b k (some j) (.cons s1 s2), s0 => match s0 with
    | .Try body [.ExceptHandler (some (.Name x _)) (some n) suite _] [] [] _ => !S.hot && S.tr && decide (S.N[j]? = some n) && decide (S.sc.names.lookup n = some .local) && isCls S x k && wfSs S b body && (wfS { S with hot := true, xj := j } s1 (suite.headD dS) && wfSs { S with hot := true, xj := j } s2 suite.tail)
    | _ => false
  | .try _ _ _ _, _ => false
  | .trm b (.cons c i s r), s0 => match s0 with
    | .Try body (h0 :: hds) [] [] _ => !S.hot && S.tr && wfSs S b body && wfHs S (.cons c i s r) (h0 :: hds)
    | _ => false
  | .trm _ .nil, _ => false
  | .pas, _ => true
  | .brk, _ => true
  | .cnt, _ => true
def wfSs (S : Sc) : MSs → List Stmt → Bool
  | .nil, _ => true
  | .cons s r, l => wfS S s (l.headD dS) && wfSs S r l.tail
def wfHs (S : Sc) : MHs → List ExceptHandler → Bool
  | .nil, l => l.isEmpty
  | .cons k j (.cons s1 s2) r, l => match l with
    | .ExceptHandler (some (.Name x _)) (some n) suite _ :: hds => decide (S.N[j]? = some n) && decide (S.sc.names.lookup n = some .local) && isCls S x k &&
        (wfS { S with hot := true, xj := j } s1 (suite.headD dS) && wfSs { S with hot := true, xj := j } s2 suite.tail) && wfHs S r hds
    | _ => false
  | .cons _ _ .nil _, _ => false
end
/-! ### readings -/
def OutS (C : XC) (W : WX) (D : Ends) (M : List Addr) (H : Hp) (r : SRes) : Prop :=
  match r with
  | .nx env h' => ∀ σ' H' M', Ext M H M' H' → HRel C.K M' H' h' → ERel C.K M' H' σ' env → D.nx σ' H'
  | .bk env h' => ∀ σ' H' M', Ext M H M' H' → HRel C.K M' H' h' → ERel C.K M' H' σ' env → D.bk σ' H'
  | .ct env h' => ∀ σ' H' M', Ext M H M' H' → HRel C.K M' H' h' → ERel C.K M' H' σ' env → D.ct σ' H'
  | .rt p h' => ∀ v H' M', Ext M H M' H' → HRel C.K M' H' h' → RV C.K M' H' p v → D.rt v H'
  | .ex x env h' => ∀ cls d σ' H' M', Ext M H M' H' → HRel C.K M' H' h' → ERel C.K M' H' σ' env → XRel C M' H' x cls d → W cls d σ' H'
  | .stuck => False
abbrev SemS := Env → MHp → SRes
def RdS (C : XC) (W : WX) (f : SemS) : TS := fun D σ H => ∃ M h env, HRel C.K M H h ∧ ERel C.K M H σ env ∧ OutS C W D M H (f env h)
section
variable {X : Cx} {S : Sc} {P : Prog} {F : Fn} {C : XC} {W : WX} {cx : Option MX}
theorem OutS.shift {D : Ends} {M M1 : List Addr} {H H1 : Hp} {r : SRes} (o : OutS C W D M H r) (x : Ext M H M1 H1) : OutS C W D M1 H1 r := by
  cases r with
  | nx env h' => exact fun σ' H' M' y => o σ' H' M' (x.trans y)
  | bk env h' => exact fun σ' H' M' y => o σ' H' M' (x.trans y)
  | ct env h' => exact fun σ' H' M' y => o σ' H' M' (x.trans y)
  | rt p h' => exact fun v H' M' y => o v H' M' (x.trans y)
  | ex e env h' => exact fun cls d σ' H' M' y => o cls d σ' H' M' (x.trans y)
  | stuck => exact o
theorem ps_weak {s : Stmt} {t t' : TS} (a : PS X s t) (w : ∀ D σ H, t' D σ H → t D σ H) : PS X s t' := ⟨fun pins s σ H D I q => a.run pins s σ H D I (w D σ H q)⟩
theorem pss_weak {s : List Stmt} {t t' : TS} (a : PSs X s t) (w : ∀ D σ H, t' D σ H → t D σ H) : PSs X s t' := ⟨fun pins s σ H D I q => a.run pins s σ H D I (w D σ H q)⟩
/-- an expression first -/
theorem RdE.goS {f : Sem1} {g : PV → MHp → SRes} {D : Ends} {σ : L2.St} {M : List Addr} {H : Hp} {h : MHp} {env : Env} {R : VK} (hr : HRel C.K M H h) (er : ERel C.K M H σ env) (o : OutS C W D M H (ofResV (f env h) env g))
    (k : ∀ v H1 M1 h1 p, Ext M H M1 H1 → HRel C.K M1 H1 h1 → ERel C.K M1 H1 σ env → RV C.K M1 H1 p v → OutS C W D M1 H1 (g p h1) → R v H1) : RdE C W f σ H R := by
  refine ⟨M, h, env, hr, er, ?_⟩
  cases e : f env h with
  | ok p h1 =>
    rw [e] at o
    exact fun v H1 M1 x hr1 rv => k v H1 M1 h1 p x hr1 (er.ext x) rv (OutS.shift (show OutS C W D M H (g p h1) from o) x)
  | exn x h1 =>
    rw [e] at o
    exact fun cls d H' M' y hr' xr => o cls d σ H' M' y hr' (er.ext y) xr
  | stuck => rw [e] at o; exact o.elim
theorem RdI.goS {f : Env → MHp → Res Wk} {g : Wk → MHp → SRes} {D : Ends} {σ : L2.St} {M : List Addr} {H : Hp} {h : MHp} {env : Env} {R : It → Hp → Prop} (hr : HRel C.K M H h) (er : ERel C.K M H σ env) (o : OutS C W D M H (ofResV (f env h) env g))
    (k : ∀ J H1 M1 h1 r, Ext M H M1 H1 → HRel C.K M1 H1 h1 → ERel C.K M1 H1 σ env → ItOk C M1 H1 r J → OutS C W D M1 H1 (g r h1) → R J H1) : RdI C W f σ H R := by
  refine ⟨M, h, env, hr, er, ?_⟩
  cases e : f env h with
  | ok p h1 =>
    rw [e] at o
    exact fun z H1 M1 J x hr1 ok => k J H1 M1 h1 p x hr1 (er.ext x) ok (OutS.shift (show OutS C W D M H (g p h1) from o) x)
  | exn x h1 =>
    rw [e] at o
    exact fun cls d H' M' y hr' xr => o cls d σ H' M' y hr' (er.ext y) xr
  | stuck => rw [e] at o; exact o.elim
theorem RdT.goS {f : Env → MHp → Res Bool} {g : Bool → MHp → SRes} {D : Ends} {σ : L2.St} {M : List Addr} {H : Hp} {h : MHp} {env : Env} {R : Bool → Hp → Prop} (hr : HRel C.K M H h) (er : ERel C.K M H σ env) (o : OutS C W D M H (ofRes (f env h) env g))
    (k : ∀ b H1 M1 h1, Ext M H M1 H1 → HRel C.K M1 H1 h1 → ERel C.K M1 H1 σ env → OutS C W D M1 H1 (g b h1) → R b H1) : RdT C W f σ H R := by
  refine ⟨M, h, env, hr, er, ?_⟩
  cases e : f env h with
  | ok p h1 =>
    rw [e] at o
    exact fun H1 M1 x hr1 => k p H1 M1 h1 x hr1 (er.ext x) (OutS.shift (show OutS C W D M H (g p h1) from o) x)
  | exn x h1 =>
    rw [e] at o
    exact fun cls d H' M' y hr' xr => o cls d σ H' M' y hr' (er.ext y) xr
  | stuck => rw [e] at o; exact o.elim
theorem ofResV_tst {f : Sem1} {env : Env} {h : MHp} {g : Bool → MHp → SRes} : ofResV (f env h) env (fun x h1 => match truth x h1 with | some true => g true h1 | some false => g false h1 | none => .stuck) = ofRes (tst f env h) env g := by
  unfold tst
  cases f env h with
  | ok x h1 =>
    simp only [ofResV, Res.bind_ok]
    cases truth x h1 with
    | none => rfl
    | some b => cases b <;> rfl
  | _ => rfl
/-! ### assignments -/
theorem lnOk (c : Cok X S P F C W) {i : Nat} {x : Str} (h : wfLoc S i x = true) : X.N[i]? = some x ∧ Loc X.env.scope x := by
  unfold wfLoc at h
  obtain ⟨h1, h2⟩ := and2 h
  rw [Bool.or_eq_true] at h2
  rw [c.hN, c.hsc]
  exact ⟨of_decide_eq_true h1, h2.imp of_decide_eq_true of_decide_eq_true⟩
theorem asg_read {f : Sem1} {t : MT} {D : Ends} {σ : L2.St} {H : Hp} (q : RdS C W (fun env h => ofResV (f env h) env fun x h1 => match asgT t x env with | some σ' => .nx σ' h1 | none => .stuck) D σ H) : tAsg (RdE C W f) (gT C.K.f t) D σ H := by
  obtain ⟨M, h, env, hr, er, o⟩ := q
  refine RdE.goS hr er o fun v H1 M1 h1 p x1 hr1 er1 rv o1 => ?_
  cases e : asgT t p env with
  | none => rw [e] at o1; exact o1.elim
  | some env' =>
    rw [e] at o1
    exact gT_ok er1 rv e fun σ' er' => o1 σ' H1 M1 Ext.refl hr1 er'
theorem toE_sw (e : ME) (e0 : Expr) (y : Str) (py : Pos) (l : Nat) (env : PySem.Env) (h : isLc e = false) : swapsWith (toE e e0) (some (.Name y py)) l env = pure false := by
  cases e with
  | lc => cases h
  | lcm => cases h
  | dcc => cases h
  | _ => rw [toE] <;> rfl
theorem toE_sw0 (e : ME) (e0 : Expr) (l : Nat) (env : PySem.Env) (h : isLc e = false) : swapsWith (toE e e0) none l env = pure false := by
  cases e with
  | lc => cases h
  | lcm => cases h
  | dcc => cases h
  | _ => rw [toE] <;> rfl
theorem sw_off {elt : Expr} {gs : List Comprehension} {scope : Scope} {pos py : Pos} {y : Str} {l : Nat} {env : PySem.Env} (hl : (py.line == pos.line) = false) : swapsWith (.ListComp elt gs scope pos) (some (.Name y py)) l env = pure false := by
  unfold swapsWith
  simp only [Expr.pos, hl, Bool.and_false, Bool.false_and]
theorem sw_cell {elt : Expr} {gs : List Comprehension} {scope : Scope} {pos py : Pos} {y : Str} {l : Nat} {env : PySem.Env} (hl : env.scope.names.lookup y ≠ some .local) : swapsWith (.ListComp elt gs scope pos) (some (.Name y py)) l env = pure false := by
  have hk : (env.kindOf y == some .local) = false := by
    show (env.scope.names.lookup y == some .local) = false
    cases e : env.scope.names.lookup y with
    | none => rfl
    | some k => 
      cases k with
      | «local» => exact absurd e hl
      | _ => rfl
  unfold swapsWith
  simp only [hk, Bool.and_false, Bool.false_and]
theorem swd_off {elt ekv : Expr} {gs : List Comprehension} {scope : Scope} {pos py : Pos} {y : Str} {l : Nat} {env : PySem.Env} (hl : (py.line == pos.line) = false) : swapsWith (.DictComp elt ekv gs scope pos) (some (.Name y py)) l env = pure false := by
  unfold swapsWith
  simp only [Expr.pos, hl, Bool.and_false, Bool.false_and]
theorem swd_cell {elt ekv : Expr} {gs : List Comprehension} {scope : Scope} {pos py : Pos} {y : Str} {l : Nat} {env : PySem.Env} (hl : env.scope.names.lookup y ≠ some .local) : swapsWith (.DictComp elt ekv gs scope pos) (some (.Name y py)) l env = pure false := by
  have hk : (env.kindOf y == some .local) = false := by
    show (env.scope.names.lookup y == some .local) = false
    cases e : env.scope.names.lookup y with
    | none => rfl
    | some k => 
      cases k with
      | «local» => exact absurd e hl
      | _ => rfl
  unfold swapsWith
  simp only [hk, Bool.and_false, Bool.false_and]
theorem toE_swT (e : ME) (e0 : Expr) (ts : List Expr) (k : Nat) (p : Pos) (l : Nat) (env : PySem.Env) : swapsWithSole [.Tuple ts k p] (toE e e0) l env = pure false := by
  cases e <;> rw [toE] <;> rfl
theorem toE_swS (e : ME) (e0 : Expr) (o i : Expr) (p : Pos) (l : Nat) (env : PySem.Env) : swapsWithSole [.Subscript o i p] (toE e e0) l env = pure false := by
  cases e <;> rw [toE] <;> rfl
theorem toE_st (e : ME) (e0 : Expr) (ts : List Expr) (k : Nat) (p : Pos) (env : PySem.Env) (h : isTupE e = false) : swappedStores [.Tuple ts k p] (toE e e0) env = pure none := by
  cases e with
  | tup => cases h
  | _ => rw [toE] <;> rfl
theorem toE_stS (e : ME) (e0 : Expr) (o i : Expr) (p : Pos) (env : PySem.Env) : swappedStores [.Subscript o i p] (toE e e0) env = pure none := by
  cases e <;> rw [toE] <;> rfl
end
end Qm

/-! S13: o[i] = v; the statements one by one; every block. -/
namespace Qm
open PySem PySem.Spec PyProof.Rows L2
section
variable {X : Cx} {S : Sc} {P : Prog} {F : Fn} {C : XC} {W : WX} {cx : Option MX}
def rSt (C : XC) : TSet := fun o i v H Q => ∃ M h x y z h', HRel C.K M H h ∧ RV C.K M H x o ∧ RV C.K M H y i ∧ RV C.K M H z v ∧ storeIx x y z h = some h' ∧ ∀ H', Ext M H M H' → HRel C.K M H' h' → Q H'
theorem set_any (hu : X.A.units + 1 < cLine) : PSet X (rSt C) := by
  intro pins s σ H o i v ov iv u Q I ro ri ru q
  obtain ⟨M, h, x, y, z, h', hr, rx, ry, rz, e, k⟩ := q
  unfold storeIx at e
  split at e
  · rename_i n
    split at e
    · rename_i xs eh
      split at e
      · rename_i j
        obtain ⟨m, em, rfl⟩ := Option.map_eq_some_iff.mp e
        obtain ⟨a, ws, rfl, ea, eH, zz, rws⟩ := hlst hr rx eh
        have := rv_int ry; subst this
        refine set_list pins s σ H _ _ v ov iv u Q I ro ri ru ⟨a, ws, j, m, rfl, rfl, eH, by rw [rws.len]; exact em, k _ (Ext.chg (List.mem_of_getElem? ea)) (hr.chg ea ⟨_, rfl, by simpa using zz, rws.set m rz⟩)⟩
      · cases e
    · rename_i t ks ws eh
      split at e
      · rename_i c
        cases e
        obtain ⟨c1, c2⟩ := and2 c
        obtain ⟨a, rfl, ea⟩ := rv_ref rx
        obtain ⟨us, u', eH, d, rws⟩ := hr.at_ n a _ ea eh
        have c2 : ks.length < big := of_decide_eq_true c2
        rw [big_eq] at c2
        obtain rfl : ov = Value.ref a := ro
        cases t with
        | false =>
          obtain ⟨kvs, rfl, rfl, rfl⟩ := (show ∃ kvs : List (Key × V), u' = .dK kvs ∧ ks = kvs.map (fun p => keyP p.1) ∧ us = kvs.map (·.2) from d)
          obtain ⟨kk, rfl, rfl⟩ := key_false c1 ry
          obtain ⟨e1, e2⟩ := setK_ok (v := v) key_inj (k := kk) rz rws
          refine d_setItem hu I (DPut.k eH (by simpa using c2)) ri ru fun s' I' => ⟨_, I', k _ (Ext.chg (List.mem_of_getElem? ea)) (hr.chg ea ⟨_, _, rfl, ⟨_, rfl, e1, rfl⟩, e2⟩)⟩
        | true =>
          obtain ⟨kvs, rfl, rfl, rfl⟩ := (show ∃ kvs : List (List Key × V), u' = .dT kvs ∧ ks = kvs.map (fun p => .tup (p.1.map keyP)) ∧ us = kvs.map (·.2) from d)
          obtain ⟨kk, b, rfl, rfl, eb⟩ := key_true c1 ry
          obtain ⟨e1, e2⟩ := setK_ok (v := v) (f := fun p : List Key => .tup (p.map keyP)) tkey_inj (k := kk) rz rws
          refine d_setItem hu I (DPut.t eH eb (by simpa using c2)) ri ru fun s' I' => ⟨_, I', k _ (Ext.chg (List.mem_of_getElem? ea)) (hr.chg ea ⟨_, _, rfl, ⟨_, rfl, e1, rfl⟩, e2⟩)⟩
      · cases e
    · cases e
  · cases e
/-! ### the statements -/
theorem ps_stx' (c : Cok X S P F C W) {o i e : ME} {o0 i0 e0 : Expr} {fo fi fe : Sem1} {tp pos : Pos} (ho : PE X (toE o o0) (RdE C W fo)) (hi : PE X (toE i i0) (RdE C W fi)) (he : PE X (toE e e0) (RdE C W fe)) :
    PS X (.Assign [.Subscript (toE o o0) (toE i i0) tp] (toE e e0) pos) (RdS C W fun σ h => ofResV (fe σ h) σ fun v h1 => ofResV (fo σ h1) σ fun x h2 => ofResV (fi σ h2) σ fun y h3 => match storeIx x y v h3 with | some h4 => .nx σ h4 | none => .stuck) := by
  refine ps_weak (ps_asg he (pg_sub ho hi (set_any (C := C) (by have := c.hun; omega)) (by intro v; cases i <;> rw [toE] <;> rfl)) (toE_swS _ _ _ _ _ _ _) (toE_stS _ _ _ _ _ _) (by rfl)) fun D σ H q => ?_
  obtain ⟨M, h, env, hr, er, o⟩ := q
  refine RdE.goS hr er o fun v H1 M1 h1 p x1 hr1 er1 rv o1 => ?_
  refine RdE.goS hr1 er1 o1 fun w H2 M2 h2 q2 x2 hr2 er2 rw2 o2 => ?_
  refine RdE.goS hr2 er2 o2 fun u H3 M3 h3 q3 x3 hr3 er3 rw3 o3 => ?_
  cases e : storeIx q2 q3 p h3 with
  | none => rw [e] at o3; exact o3.elim
  | some h4 =>
    rw [e] at o3
    exact ⟨M3, h3, q2, q3, p, h4, hr3, rw2.ext x3, rw3, (rv.ext x2).ext x3, e, fun H' x4 hr4 => o3 σ H' M3 x4 hr4 (er3.ext x4)⟩
theorem ps_if' {c : Expr} {a b : List Stmt} {f : Sem1} {fa fb : SemS} {pos : Pos} (hc : PT X c (RdT C W (tst f))) (ha : PSs X a (RdS C W fa)) (hb : PSs X b (RdS C W fb)) :
    PS X (.If c a b pos) (RdS C W fun σ h => ofResV (f σ h) σ fun x h1 => match truth x h1 with | some true => fa σ h1 | some false => fb σ h1 | none => .stuck) := by
  refine ps_weak (ps_if hc ha hb) fun D σ H q => ?_
  obtain ⟨M, h, env, hr, er, o⟩ := q
  have o : OutS C W D M H (ofRes (tst f env h) env fun b h1 => if b then fa env h1 else fb env h1) := by
    rw [← ofResV_tst]
    exact o
  refine RdT.goS hr er o fun k H1 M1 h1 x1 hr1 er1 o1 => ?_
  cases k with
  | true => exact ⟨M1, h1, env, hr1, er1, o1⟩
  | false => exact ⟨M1, h1, env, hr1, er1, o1⟩
theorem for_read {fi : Env → MHp → Res Wk} {fb : SemS} {t : MT} {D : Ends} {σ : L2.St} {H : Hp} (q : RdS C W (fun σ h => ofResV (fi σ h) σ fun r h1 => loopF fb t r.src r.items σ h1) D σ H) : tFor (RdI C W fi) (gT C.K.f t) (RdS C W fb) D σ H := by
  obtain ⟨M, h, env, hr, er, o⟩ := q
  refine RdI.goS hr er o fun J H1 M1 h1 r x1 hr1 er1 ok o1 => ?_
  refine ⟨fun i m σ' H' => i ≤ r.items.length ∧ m = r.items.length - i ∧ ∃ M' h' env', Ext M1 H1 M' H' ∧ HRel C.K M' H' h' ∧ ERel C.K M' H' σ' env' ∧ OutS C W D M' H' (loopF fb t r.src (r.items.drop i) env' h'),
    ⟨r.items.length, Nat.zero_le _, rfl, M1, h1, env, Ext.refl, hr1, er1, by simpa using o1⟩, ?_⟩
  rintro i m σ' H' ⟨hi, rfl, M', h', env', xE, hr', er', oL⟩
  by_cases hlt : i < r.items.length
  · refine .inr ?_
    have ei : r.items[i]? = some r.items[i] := List.getElem?_eq_getElem hlt
    rw [List.drop_eq_getElem_cons hlt, loopF] at oL
    split at oL
    · rename_i src
      obtain ⟨go, yld⟩ := (ok C.K.z (fun a ha => .inl ha) M' H' h' xE hr' src i).1 _ ei
      refine ⟨go, fun σ2 H2 => i + 1 ≤ r.items.length ∧ ∃ M' h' env', Ext M1 H1 M' H2 ∧ HRel C.K M' H2 h' ∧ ERel C.K M' H2 σ2 env' ∧ OutS C W D M' H2 (loopF fb t r.src (r.items.drop (i + 1)) env' h'),
        fun σ2 H2 ⟨l, z⟩ => ⟨r.items.length - (i + 1), by omega, l, rfl, z⟩, fun v Hy hy => ?_⟩
      obtain ⟨xy, hry, rvy⟩ := yld v Hy hy
      have oL := oL.shift xy
      split at oL
      · exact oL.elim
      · rename_i env1 ea
        refine gT_ok (er'.ext xy) rvy ea fun σ1 er2 => ⟨M', h', env1, hry, er2, ?_⟩
        cases eb : fb env1 h' with
        | nx env2 h2 =>
          rw [eb] at oL
          exact fun σ3 H3 M3 x3 hr3 er3 => ⟨hlt, M3, h2, env2, (xE.trans xy).trans x3, hr3, er3, oL.shift x3⟩
        | ct env2 h2 =>
          rw [eb] at oL
          exact fun σ3 H3 M3 x3 hr3 er3 => ⟨hlt, M3, h2, env2, (xE.trans xy).trans x3, hr3, er3, oL.shift x3⟩
        | bk env2 h2 => rw [eb] at oL; exact oL
        | rt p h2 => rw [eb] at oL; exact oL
        | ex x env2 h2 => rw [eb] at oL; exact oL
        | stuck => rw [eb] at oL; exact oL
    · exact oL.elim
  · have e : i = r.items.length := by omega
    subst e
    rw [List.drop_length, loopF] at oL
    split at oL
    · rename_i src
      exact .inl ⟨(ok C.K.z (fun a ha => .inl ha) M' H' h' xE hr' src _).2 (Nat.le_refl _), oL σ' H' M' Ext.refl hr' er'⟩
    · exact oL.elim
theorem while_read {fc : Env → MHp → Res Bool} {fb : SemS} {n : Nat} {D : Ends} {σ : L2.St} {H : Hp} (q : RdS C W (fun σ h => loopW fc fb n σ h) D σ H) : tWhile (RdT C W fc) (RdS C W fb) D σ H := by
  obtain ⟨M, h, env, hr, er, o⟩ := q
  refine ⟨fun m σ' H' => ∃ M' h' env', HRel C.K M' H' h' ∧ ERel C.K M' H' σ' env' ∧ OutS C W D M' H' (loopW fc fb m env' h'), ⟨n, M, h, env, hr, er, o⟩, ?_⟩
  rintro m σ' H' ⟨M', h', env', hr', er', oL⟩
  cases m with
  | zero => rw [loopW] at oL; exact oL.elim
  | succ m =>
    rw [loopW] at oL
    refine RdT.goS hr' er' oL fun b H1 M1 h1 x1 hr1 er1 o1 => ?_
    cases b with
    | false => exact o1 σ' H1 M1 Ext.refl hr1 er1
    | true =>
      simp only [if_true] at o1 ⊢
      refine ⟨fun σ2 H2 => ∃ M' h' env', HRel C.K M' H2 h' ∧ ERel C.K M' H2 σ2 env' ∧ OutS C W D M' H2 (loopW fc fb m env' h'), fun σ2 H2 z => ⟨m, Nat.lt_succ_self m, z⟩, M1, h1, env', hr1, er1, ?_⟩
      cases eb : fb env' h1 with
      | nx env2 h2 =>
        rw [eb] at o1
        exact fun σ3 H3 M3 x3 hr3 er3 => ⟨M3, h2, env2, hr3, er3, o1.shift x3⟩
      | ct env2 h2 =>
        rw [eb] at o1
        exact fun σ3 H3 M3 x3 hr3 er3 => ⟨M3, h2, env2, hr3, er3, o1.shift x3⟩
      | bk env2 h2 => rw [eb] at o1; exact o1
      | rt p h2 => rw [eb] at o1; exact o1
      | ex x env2 h2 => rw [eb] at o1; exact o1
      | stuck => rw [eb] at o1; exact o1
theorem pip_bop {o : BO} (ho : o = .add ∨ o = .sub) : ∃ f : Int → Int → Int, PIp X (oper o) (ipI f) ∧ ∀ i j, bopI o i j = some (.int (f i j)) := by
  rcases ho with rfl | rfl
  · exact ⟨_, ip_add, fun i j => rfl⟩
  · exact ⟨_, ip_sub, fun i j => rfl⟩
theorem ps_aug' (c : Cok X S P F C W) (hfn : ∀ x, X.fn x = true) {i : Nat} {x : Str} {o : BO} {e : Expr} {f : Sem1} {px pos : Pos} (hl : wfLoc S i x = true) (ho : o = .add ∨ o = .sub) (he : PE X e (RdE C W f)) :
    PS X (.AugAssign (.Name x px) (oper o) e pos) (RdS C W fun σ h => match σ[i]? with
    | some (some x) => ofResV (f σ h) σ fun y h1 => (match x, y with
      | .int a, .int b => (match bopI o a b with | some z => .nx (σ.set i (some z)) h1 | none => .stuck)
      | _, _ => .stuck)
    | _ => .stuck) := by
  obtain ⟨h1, h2⟩ := lnOk c hl
  obtain ⟨g, hp, hg⟩ := pip_bop (X := X) ho
  refine ps_weak (ps_aug (by rw [c.hN]; exact c.nd) h1 h2 he hp (.inl (hfn _))) fun D σ H q => ?_
  obtain ⟨M, h, env, hr, er, o⟩ := q
  dsimp only at o
  cases ei : env[i]? with
  | none => rw [ei] at o; exact o.elim
  | some q =>
    cases q with
    | none => rw [ei] at o; exact o.elim
    | some p =>
      rw [ei] at o
      obtain ⟨w, ew, rw_⟩ := er.2 i p ei
      refine ⟨w, ew, RdE.goS hr er o fun v H1 M1 h1 p' x1 hr1 er1 rv o1 => ?_⟩
      cases p with
      | int a =>
        cases p' with
        | int b =>
          simp only [hg] at o1
          exact ⟨a, b, rv_int rw_, rv_int rv, o1 _ H1 M1 Ext.refl hr1 (er1.set rv_i)⟩
        | _ => exact o1.elim
      | _ => exact o1.elim
theorem ps_exp' {e : Expr} {f : Sem1} {pos : Pos} (he : PE X e (RdE C W f)) (hs : swapsWith e none pos.line X.env = pure false) : PS X (.Expr e pos) (RdS C W fun σ h => ofResV (f σ h) σ fun _ h1 => .nx σ h1) := by
  refine ps_weak (ps_expr he hs) fun D σ H q => ?_
  obtain ⟨M, h, env, hr, er, o⟩ := q
  exact RdE.goS hr er o fun v H1 M1 h1 p x1 hr1 er1 rv o1 => o1 σ H1 M1 Ext.refl hr1 er1
theorem ps_ret' {e : Expr} {f : Sem1} {pos : Pos} (he : PE X e (RdE C W f)) : PS X (.Return (some e) pos) (RdS C W fun σ h => ofResV (f σ h) σ fun x h1 => .rt x h1) := by
  refine ps_weak (ps_ret he) fun D σ H q => ?_
  obtain ⟨M, h, env, hr, er, o⟩ := q
  exact RdE.goS hr er o fun v H1 M1 h1 p x1 hr1 er1 rv o1 => o1 v H1 M1 Ext.refl hr1 rv
theorem pss_nil' : PSs X [] (RdS C W fun σ h => .nx σ h) := by
  refine pss_weak pss_nil fun D σ H q => ?_
  obtain ⟨M, h, env, hr, er, o⟩ := q
  exact o σ H M Ext.refl hr er
theorem pss_cons' {s : Stmt} {r : List Stmt} {f g : SemS} (hs : PS X s (RdS C W f)) (hr : PSs X r (RdS C W g)) : PSs X (s :: r) (RdS C W fun σ h => match f σ h with | .nx σ1 h1 => g σ1 h1 | x => x) := by
  refine pss_weak (pss_cons hs hr) fun D σ H q => ?_
  obtain ⟨M, h, env, hr', er, o⟩ := q
  refine ⟨M, h, env, hr', er, ?_⟩
  dsimp only at o
  cases e : f env h with
  | nx σ1 h1 => rw [e] at o; exact fun σ' H' M' x hr2 er2 => ⟨M', h1, σ1, hr2, er2, o.shift x⟩
  | rt p h1 => rw [e] at o; exact o
  | bk σ1 h1 => rw [e] at o; exact o
  | ct σ1 h1 => rw [e] at o; exact o
  | ex x σ1 h1 => rw [e] at o; exact o
  | stuck => rw [e] at o; exact o
end
end Qm

/-! STry: several except clauses, each with a name of its own. -/
namespace Qm
open PySem PySem.Spec PyProof.Rows L2
/-- a clause: its class, its name's slot, what its suite reads -/
abbrev Clz := Value × Nat × (Addr → Value → Option Addr → TS)
/-- the ends of a suite: the name's slot is empty behind it -/
def wiped (i : Nat) (D : Ends) : Ends := { nx := fun st G => D.nx (st.set i none) G, rt := D.rt, bk := fun st G => D.bk (st.set i none) G, ct := fun st G => D.ct (st.set i none) G }
def wNm (K : PySem.W.Frag) (Wout : WX) (D : Ends) : List Clz → WX
  | [] => Wout
  | z :: r => fun cls d st G => ∃ b, PySem.W.exmOne K cls z.1 = some b ∧ (b = true → ∀ a, G a = none → z.2.2 a cls d (wiped z.2.1 D) (st.set z.2.1 (some (.ref a))) G) ∧ (b = false → wNm K Wout D r cls d st G)
/-- the clauses of a try, one by one -/
inductive HdsN (X : Cx) : List ExceptHandler → List Clz → Prop
  | nil : HdsN X [] []
  | cons {x n : Str} {z : Clz} {s0 : Stmt} {more : List Stmt} {np q : Pos} {hds : List ExceptHandler} {l : List Clz} (nm : Names X x z.1) (hi : X.N[z.2.1]? = some n) (loc : X.env.kindOf n = some .local)
      (su : ∀ (a : Addr) (ob : Obj) (cls : Value) (d : Option Addr) (pn : List (Addr × Obj)), Zc cls d ob → (∃ vs, ob.data = .fields vs) → PSs (X.suite a ((a, ob) :: pn)) (s0 :: more) (z.2.2 a cls d)) (r : HdsN X hds l) :
      HdsN X (.ExceptHandler (some (.Name x np)) (some n) (s0 :: more) q :: hds) (z :: l)
section
variable {X : Cx} {body : List Stmt} {hd0 : ExceptHandler} {hds : List ExceptHandler} {l : List Clz} {pos : Pos} {tb : WX → TS} {Wout : WX}
theorem ps_try_nm (es : X.stack = X.env :: X.outer) (ef : X.env.frame = some X.env.locals) (nod : X.N.Nodup) (tk : Takes X Wout)
    (hb : ∀ (W : WX) (pn : List (Addr × Obj)) (xe : Value → Shared → Prop), Takes (X.tr pn xe) W → PassesOwn (model X.prog X.w) X.A X.env xe → PSs (X.tr pn xe) body (tb W))
    (hh : HdsN X (hd0 :: hds) l) : PS X (.Try body (hd0 :: hds) [] [] pos) (fun D st G => tb (wNm X.K Wout D l) D st G) := ⟨fun pins s st G D I w0 => by
  have ok := I.ok
  have ff : X.A.frames = some (X.env :: X.outer) := by rw [ok.frames, es]
  have start := I.toTry (pins := pins)
  refine wpAny_Try_except (wpAny_mono ((hb (wNm X.K Wout D l) (X.pn ++ pins) (fun e sa => wpAny (model X.prog X.w) X.A (noteFrame e X.env) (fun _ sb => wpAny (model X.prog X.w) X.A (setFlight e none) (fun _ sc =>
    wpAny (model X.prog X.w) X.A (handleBy e X.env (hd0 :: hds)) (SP X pins D) X.xe sc) X.xe sb) X.xe sa) (fun u sx flown => ?_) PassesOwn.looking).run [] s st G D (I.toTry _) w0) (fun f sx fell => ?_) (fun _ _ raised => raised))
  · -- what flew lands
    obtain ⟨a, B, sI, pins', st', G', cls, d, rfl, J', nb, up, sky, na, os, ag, wish⟩ := flown
    have J : Inv X pins st' G' sI := J'.ofTry ok
    refine Sky.land Zc.steady ff ef (by rw [← es]; exact sky) fun hp flies grown => ?_
    have Jl : Inv X pins st' G' { sx with heap := hp } := J.landed nb flies.1 (up.trans grown) os ag
    obtain ⟨ob, vs, got, zc, dat⟩ := flies.there
    have away : a ∉ frs (X.env :: X.outer) := fun hm => by
      obtain ⟨_, o', e', none_⟩ := flies.2.2.1.mem hm
      rw [got] at e'; cases e'
      exact none_ _ dat
    have offL : a ≠ X.env.locals := fun z => away (List.mem_filterMap.mpr ⟨X.env, List.mem_cons_self, by rw [ef, z]⟩)
    have offF : a ∉ X.fs := fun hm => let ⟨e, he, q⟩ := List.mem_filterMap.mp hm; away (List.mem_filterMap.mpr ⟨e, List.mem_cons_of_mem _ he, q⟩)
    have Js := Jl.suite got dat na offL offF
    have clauses : ∀ {hs' : List ExceptHandler} {l' : List Clz}, HdsN X hs' l' → wNm X.K Wout D l' cls d st' G' → wpAny (model X.prog X.w) X.A (handleBy (.ref a) X.env hs') (SP X pins D) X.xe { sx with heap := hp } := by
      intro hs' l' hk
      induction hk with
      | nil =>
        intro wish
        refine wpAny_handleBy_nil ?_
        obtain ⟨_, _, _, o1, vs1, T1, _, _, g1, _, d1, f1, _⟩ := id flies
        unfold PySem.passOn
        refine wpAny_bind (wpAny_field g1 d1 f1 ?_)
        rw [if_neg (show ¬ ((Value.ref T1 == Value.none) = true) from by simp)]
        have leave_ : wpAny (model X.prog X.w) X.A (setFlight (.ref a) X.env.frame) (fun _ sz => wpAny (model X.prog X.w) X.A (throw (.ref a) : Sem Flow) (SP X pins D) X.xe sz) X.xe { sx with heap := hp } := by
          rw [ef]
          exact HandSPX.setFlight_upZ flies fun h4 sky4 up4 => wpAny_throw (tk _ _ ⟨a, B, sI, pins, st', G', cls, d, rfl, J, nb, (up.trans grown).trans up4, .inr (.inr (by rw [es]; exact sky4)), na, os, ag, wish⟩)
        first
          | exact wpAny_bind (wpAny_pure (wpAny_bind leave_))
          | exact wpAny_bind leave_
      | @cons x n z s0 more np q hds2 l2 nm hi loc su r ih =>
        intro wish
        obtain ⟨b, one, yes, no⟩ := wish
        refine wpAny_handleBy_cons (codeAny_handlers_test ?_) (by intro q; cases q)
        have looks : PySem.W.Looks (model X.prog X.w) hp (typeOf (.ref a)) cls := fun A Q E s k q => wpAny_typeOf_ref (k _ _ got) (by rw [zc.1]; exact q)
        have LM := PySem.W.exm_one (M := model X.prog X.w) (Jl.kIn) looks one
        have named : ∀ {Q : Value → Shared → Prop} {E : Value → Shared → Prop}, Q z.1 { sx with heap := hp } → wpAny (model X.prog X.w) (X.A.mark (some (.ref a))) (eval (.Name x np) X.env) Q E { sx with heap := hp } := fun {Q E} q => by
          obtain ⟨hg, dbg, hm | ⟨hm, hv, hn⟩⟩ := nm
          · exact ld_glob (X := X.suite a ((a, ob) :: (X.pn ++ pins))) Js hg hm q dbg
          · exact ld_blt (X := X.suite a ((a, ob) :: (X.pn ++ pins))) Js hg hm hv q hn dbg
        refine named (LM.here ?_)
        cases b with
        | false =>
          show wpAny _ X.A (handleBy (.ref a) X.env hds2) _ _ _
          exact ih (no rfl)
        | true =>
          refine codeAny_handlers_suite_as (HandSPX.lands_againZ flies fun h4 fl4 up4 => ?_)
          have J4 : Inv X pins st' G' { sx with heap := h4 } := J.landed nb fl4.1 ((up.trans grown).trans up4) os ag
          obtain ⟨ob4, vs4, got4, zc4, dat4⟩ := fl4.there
          refine store_ok (X := X.suite a ((a, ob4) :: (X.pn ++ pins))) (v := .ref a) (J4.suite got4 dat4 na offL offF) nod hi (.inl loc) rfl (fun s5 J5 => ?_) (.inr loc)
          refine wpAny_mono ((su a ob4 cls d (X.pn ++ pins) zc4 ⟨_, dat4⟩).run [] s5 _ G' _ J5 (yes rfl a na)) (fun f s6 fell => ?_) (fun _ _ z => False.elim z)
          have gone : ∀ {st6 : L2.St} {G6 : Hp} {Q : Shared → Prop}, Inv (X.suite a ((a, ob4) :: (X.pn ++ pins))) [] st6 G6 s6 → (∀ s7, Inv X pins (st6.set z.2.1 none) G6 s7 → Q s7) →
              wpAny (model X.prog X.w) X.A (do bindName X.env n .none; unbindBehindTheSuite X.env n q) (fun _ s7 => Q s7) X.xe s6 := fun {st6 G6 Q} J6 hq => gone_ok (J6.unsuite ok) nod hi loc hq
          cases f with
          | next =>
            obtain ⟨st6, G6, J6, q6⟩ := fell
            exact gone J6 fun s7 J7 => ⟨_, _, J7, q6⟩
          | brk =>
            obtain ⟨st6, G6, J6, q6⟩ := fell
            exact gone J6 fun s7 J7 => ⟨_, _, J7, q6⟩
          | cont =>
            obtain ⟨st6, G6, J6, q6⟩ := fell
            exact gone J6 fun s7 J7 => ⟨_, _, J7, q6⟩
          | ret u =>
            obtain ⟨v6, st6, G6, J6, r6, q6⟩ := fell
            exact gone J6 fun s7 J7 => ⟨_, _, _, J7, r6, q6⟩
    exact clauses hh wish
  · cases f with
    | next => exact let ⟨st', G', J', q⟩ := fell; wpAny_execs_nil ⟨st', G', J'.ofTry ok, q⟩
    | brk => exact let ⟨st', G', J', q⟩ := fell; ⟨st', G', J'.ofTry ok, q⟩
    | cont => exact let ⟨st', G', J', q⟩ := fell; ⟨st', G', J'.ofTry ok, q⟩
    | ret u => exact let ⟨v, st', G', J', r, q⟩ := fell; ⟨v, st', G', J'.ofTry ok, r, q⟩⟩
end
end Qm

/-! S14: raise; every block of statements. -/
namespace Qm
open PySem PySem.Spec PyProof.Rows L2
section
variable {X : Cx} {S : Sc} {P : Prog} {F : Fn} {C : XC} {W : WX} {cx : Option MX}
theorem Cok.cls (c : Cok X S P F C W) {x : Str} {k : Nat} (h : isCls S x k = true) : Gl X x ∧ (x == ("__debug__" : Str)) = false ∧ GF X P F C S.hot (.cls k) x := by
  unfold isCls at h
  rw [Bool.and_eq_true] at h
  obtain ⟨g, n, d⟩ := c.gl h.1
  have h2 := h.2
  split at h2
  · rename_i j e
    have := of_decide_eq_true h2
    subst this
    exact ⟨g, d, c.glb x _ e⟩
  · cases h2
theorem ps_rai' (c : Cok X S P F C W) {k : Nat} {x : Str} {e : ME} {r : MEs} {l : List Expr} {g : SemA} {p p2 pos : Pos} (hh : S.hot = false) (hne : C.fld k ≠ []) (h : isCls S x k = true) (hl : ∀ env h xs h', g env h = .ok xs h' → xs.length = (C.fld k).length ∧ xs.length ≤ 900) (ha : PA X (toEs (.cons e r) l) (RdA C W g)) :
    PS X (.Raise (some (.Call (.Name x p) (toEs (.cons e r) l) [] p2)) none pos) (RdS C W fun σ h => ofResV (g σ h) σ fun xs h1 => .ex ⟨k, xs⟩ σ h1) := by
  obtain ⟨gl, hd, a, ca, hm, hr⟩ := c.cls h
  obtain ⟨lv, fI, fd, ps, T, iC, tI, F1, room, hb⟩ := hr hh hne
  have hs := toEs_star0 e r l X.env
  rw [toEs] at ha hs ⊢
  refine ps_weak (ps_raise (c.calm hh) c.tk (pmk_oex T iC tI F1 room hb .nil (passes_call c.tk fun _ _ _ _ z => z.elim) gl hm ha hd hs (toEs_star _ _ _ _))) fun D σ H q => ?_
  obtain ⟨M, h, env, hr, er, o⟩ := q
  refine ⟨M, h, env, hr, er, ?_⟩
  dsimp only at o
  cases eg : g env h with
  | ok xs h1 =>
    rw [eg] at o
    intro vs H1 M1 x1 hr1 rv
    obtain ⟨l1, l2⟩ := hl _ _ _ _ eg
    refine ⟨by rw [rv.len]; omega, fun s hs => ?_⟩
    refine ⟨by simp [rv.len, l1], s, vs, by simp, upd_same, fun d hd ds fs hfs => ?_⟩
    have hd1 : H1 d = none := by rw [upd_ne ds] at hd; exact hd
    refine ⟨rfl, d, fs, upd_same, by rw [upd_ne ds, upd_same], hd1, ?_⟩
    have eH : upd (del (upd (upd (upd H1 s (exo s a none)) d (exd d fs)) s (exo s a (some d))) s) d (.xd fs) = upd H1 d (.xd fs) := by
      funext b
      by_cases b1 : b = d
      · subst b1; rw [upd_same, upd_same]
      · rw [upd_ne b1, upd_ne b1]
        by_cases b2 : b = s
        · subst b2; rw [del_same, hs]
        · rw [del_ne b2, upd_ne b2, upd_ne b1, upd_ne b2]
    rw [eH]
    have x2 : Ext M H M1 (upd H1 d (.xd fs)) := x1.trans (Ext.laid hd1)
    refine o (.ref a) (some d) σ _ M1 x2 (hr1.laid hd1) (er.ext x2) ⟨a, d, fs, ca, rfl, rfl, hr1.off hd1, upd_same, l1, fun i p n ep en => ?_⟩
    obtain ⟨w, ew, rw_⟩ := rv.get ep
    exact ⟨w, hfs i w n ew en, rw_.ext (Ext.laid hd1)⟩
  | exn x h1 => 
    rw [eg] at o
    exact fun cls d H' M' y hr' xr => o cls d σ H' M' y hr' (er.ext y) xr
  | stuck => rw [eg] at o; exact o.elim
theorem fldC_len (k : Nat) : (fldC k).length ≤ 900 := by
  unfold fldC
  split <;> decide
theorem ps_setN (c : Cok X S P F C W) (hfn : ∀ x, X.fn x = true) {i : Nat} {e : ME} {e0 : Expr} {x : Str} {px pos : Pos} (h : wfE S e e0 = true) (hl : wfLoc S i x = true) (hlc : (!isLc e || (swB S x px e0.pos (scE e0) || !(px.line == e0.pos.line) || !decide (S.sc.names.lookup x = some .local))) = true) :
    PS X (.Assign [.Name x px] (toE e e0) pos) (RdS C W fun env h => ofResV (ev P F C.cx e env h) env fun x h1 => match asgT (.nm i) x env with | some σ' => .nx σ' h1 | none => .stuck) := by
  obtain ⟨h1, h2⟩ := lnOk c hl
  have hN : X.N.Nodup := by rw [c.hN]; exact c.nd
  have plain : swapsWith (toE e e0) (some (.Name x px)) pos.line X.env = pure false → PS X (.Assign [.Name x px] (toE e e0) pos) (RdS C W fun env h => ofResV (ev P F C.cx e env h) env fun x h1 => match asgT (.nm i) x env with | some σ' => .nx σ' h1 | none => .stuck) := fun hs =>
    ps_weak (ps_set hN h1 h2 (e_sound e c e0 h).1 hs (.inl (hfn _))) fun D σ H q => asg_read (t := .nm i) q
  cases hb : isLc e with
  | false => exact plain (toE_sw e e0 _ _ _ _ hb)
  | true =>
    cases e with
    | lc own elt tg it ifs =>
      have ep : (Expr.ListComp (toE elt (kid e0 0)) [⟨toT tg (gnE e0).target, toI it (gnE e0).iter, toEs ifs (gnE e0).ifs, 0⟩] (scE e0) e0.pos).pos = e0.pos := rfl
      rw [hb, Bool.not_true, Bool.false_or, Bool.or_eq_true, Bool.or_eq_true] at hlc
      rcases hlc with (hs | hl') | hcell
      · unfold swB at hs
        obtain ⟨k1, k2, k3, k4⟩ := and4 hs
        have h2 : X.env.scope.names.lookup x = some .local := by rw [c.hsc]; exact of_decide_eq_true k2
        have kf : X.env.scope.kind = .function := by
          rw [c.hsc]
          cases ek : S.sc.kind <;> rw [ek] at k1 <;> first | rfl | cases k1
        have hsw : swapsWith (.ListComp (toE elt (kid e0 0)) [⟨toT tg (gnE e0).target, toI it (gnE e0).iter, toEs ifs (gnE e0).ifs, 0⟩] (scE e0) e0.pos) (some (.Name x px)) pos.line X.env = pure true := sw_true kf h2 k3 (bnot k4)
        rw [wfE] at h
        obtain ⟨h, h8⟩ := and2 h
        obtain ⟨h, h7⟩ := and2 h
        obtain ⟨h, h6⟩ := and2 h
        obtain ⟨h, h5⟩ := and2 h
        obtain ⟨g1, g2, g3, g4⟩ := and4 h
        have hblk : ∀ (s : Shared) (H : Hp) (D : Addr) (cl : List (Str × Addr)) (fp : List Addr), Cok (X.blk s H (scE e0) (compEnvC (scE e0) cl D X.env) fp) (inner S (scE e0)) P F C W0 := fun s H D cl fp => c.blk (bnot g1) s H (scE e0) cl D fp
        rw [toE]
        refine ps_weak (ps_setLc (own := ownP S own) (c.calm (bnot g1)) hN h1 h2 hsw (i_sound it c _ _ g2) (blkOk_by (by rw [c.hN, c.hsc]; exact g3)) (g := gT C.K.f tg) (tt := RdTz C W0 (evT P F C.cx ifs)) (te := RdEz C W0 (ev P F C.cx elt)) ?_ ?_ ?_ (toI_folded it _ _)) fun D σ H q => ?_
        · intro s H D cl fp
          have cb := hblk s H D cl fp
          exact pg_sound cb.hN cb.nd cb.hsc cb.hK cb.calm (fun x hx => hx) tg _ g4
        · intro s H D cl fp
          exact pts_z fun z => ts_sound ifs ((hblk s H D cl fp).zz z) _ (of_decide_eq_true h7) h6
        · intro s H D cl fp
          exact pe_z fun z => (e_sound elt ((hblk s H D cl fp).zz z) _ h5).1
        · have q2 := asg_read (t := .nm i) q
          rw [show ev P F C.cx (.lc own elt tg it ifs) = fun env h => (evI P F C.cx it env h).bind fun r h1 => match loopC (ev P F C.cx elt) (evT P F C.cx ifs) tg r.src r.items (wipeE env own) h1 with | .ok ys h2 => .ok (.lst ys) h2 | _ => .stuck from by funext env h; rw [ev] <;> rfl] at q2
          have := lc_ok (c.hx (bnot g1)).1 h8 (show RdE C W _ σ H (fun v H1 => gT C.K.f (.nm i) v σ H1 D.nx) from q2)
          rw [ownP_snd]
          exact this
      · refine plain ?_
        rw [toE]
        exact sw_off (bnot hl')
      · refine plain ?_
        rw [toE]
        refine sw_cell ?_
        rw [c.hsc]
        exact of_decide_eq_false (bnot hcell)
    | lcm own elt tg it ifs =>
      have ep : (Expr.ListComp (toE elt (kid e0 0)) [⟨toT tg (gnE e0).target, toI it (gnE e0).iter, toEs ifs (gnE e0).ifs, 0⟩] (scE e0) e0.pos).pos = e0.pos := rfl
      rw [hb, Bool.not_true, Bool.false_or, Bool.or_eq_true, Bool.or_eq_true] at hlc
      rcases hlc with (hs | hl') | hcell
      · unfold swB at hs
        obtain ⟨k1, k2, k3, k4⟩ := and4 hs
        have h2 : X.env.scope.names.lookup x = some .local := by rw [c.hsc]; exact of_decide_eq_true k2
        have kf : X.env.scope.kind = .function := by
          rw [c.hsc]
          cases ek : S.sc.kind <;> rw [ek] at k1 <;> first | rfl | cases k1
        have hsw : swapsWith (.ListComp (toE elt (kid e0 0)) [⟨toT tg (gnE e0).target, toI it (gnE e0).iter, toEs ifs (gnE e0).ifs, 0⟩] (scE e0) e0.pos) (some (.Name x px)) pos.line X.env = pure true := sw_true kf h2 k3 (bnot k4)
        rw [wfE] at h
        obtain ⟨h, h8⟩ := and2 h
        obtain ⟨h, h7⟩ := and2 h
        obtain ⟨h, h6⟩ := and2 h
        obtain ⟨h, h5⟩ := and2 h
        obtain ⟨g1, g2, g3, g4⟩ := and4 h
        have hblk : ∀ (s : Shared) (H : Hp) (D : Addr) (cl : List (Str × Addr)) (fp : List Addr), Cok (X.blk s H (scE e0) (compEnvC (scE e0) cl D X.env) fp) (inner S (scE e0)) P F C W0 := fun s H D cl fp => c.blk (bnot g1) s H (scE e0) cl D fp
        rw [toE]
        refine ps_weak (ps_setLc (own := ownP S own) (c.calm (bnot g1)) hN h1 h2 hsw (i_sound it c _ _ g2) (blkOk_by (by rw [c.hN, c.hsc]; exact g3)) (g := gT C.K.f tg) (tt := RdTz C W0 (evT P F C.cx ifs)) (te := RdEz C W0 (ev P F C.cx elt)) ?_ ?_ ?_ (toI_folded it _ _)) fun D σ H q => ?_
        · intro s H D cl fp
          have cb := hblk s H D cl fp
          exact pg_sound cb.hN cb.nd cb.hsc cb.hK cb.calm (fun x hx => hx) tg _ g4
        · intro s H D cl fp
          exact pts_z fun z => ts_sound ifs ((hblk s H D cl fp).zz z) _ (of_decide_eq_true h7) h6
        · intro s H D cl fp
          exact pe_z fun z => (e_sound elt ((hblk s H D cl fp).zz z) _ h5).1
        · have q2 := asg_read (t := .nm i) q
          rw [show ev P F C.cx (.lcm own elt tg it ifs) = fun env h => (evI P F C.cx it env h).bind fun r h1 => match loopC (ev P F C.cx elt) (evT P F C.cx ifs) tg r.src r.items (wipeE env own) h1 with | .ok ys h2 => .ok (.ref h2.length) (h2 ++ [.lst ys]) | _ => .stuck from by funext env h; rw [ev] <;> rfl] at q2
          have := lcm_ok (c.hx (bnot g1)).1 h8 (show RdE C W _ σ H (fun v H1 => gT C.K.f (.nm i) v σ H1 D.nx) from q2)
          rw [ownP_snd]
          exact this
      · refine plain ?_
        rw [toE]
        exact sw_off (bnot hl')
      · refine plain ?_
        rw [toE]
        refine sw_cell ?_
        rw [c.hsc]
        exact of_decide_eq_false (bnot hcell)
    | dcc t own k v tg it ifs =>
      have ep : (Expr.DictComp (toE k (kid e0 0)) (toE v (kid e0 1)) [⟨toT tg (gnE e0).target, toI it (gnE e0).iter, toEs ifs (gnE e0).ifs, 0⟩] (scE e0) e0.pos).pos = e0.pos := rfl
      rw [hb, Bool.not_true, Bool.false_or, Bool.or_eq_true, Bool.or_eq_true] at hlc
      rcases hlc with (hs | hl') | hcell
      · unfold swB at hs
        obtain ⟨k1, k2, k3, k4⟩ := and4 hs
        have h2 : X.env.scope.names.lookup x = some .local := by rw [c.hsc]; exact of_decide_eq_true k2
        have kf : X.env.scope.kind = .function := by
          rw [c.hsc]
          cases ek : S.sc.kind <;> rw [ek] at k1 <;> first | rfl | cases k1
        have hsw : swapsWith (.DictComp (toE k (kid e0 0)) (toE v (kid e0 1)) [⟨toT tg (gnE e0).target, toI it (gnE e0).iter, toEs ifs (gnE e0).ifs, 0⟩] (scE e0) e0.pos) (some (.Name x px)) pos.line X.env = pure true := swd_true kf h2 k3 (bnot k4)
        rw [wfE] at h
        obtain ⟨h, h9⟩ := and2 h
        obtain ⟨h, h8⟩ := and2 h
        obtain ⟨h, h7⟩ := and2 h
        obtain ⟨h, h6⟩ := and2 h
        obtain ⟨h, h5⟩ := and2 h
        obtain ⟨g1, g2, g3, g4⟩ := and4 h
        have hblk : ∀ (s : Shared) (H : Hp) (D : Addr) (cl : List (Str × Addr)) (fp : List Addr), Cok (X.blk s H (scE e0) (compEnvC (scE e0) cl D X.env) fp) (inner S (scE e0)) P F C W0 := fun s H D cl fp => c.blk (bnot g1) s H (scE e0) cl D fp
        rw [toE]
        refine ps_weak (ps_setDg (own := ownP S own) t (by have := c.hun; omega) (c.calm (bnot g1)) hN h1 h2 hsw (i_sound it c _ _ g2) (blkOk_by (by rw [c.hN, c.hsc]; exact g3)) (g := gT C.K.f tg) (tt := RdTz C W0 (evT P F C.cx ifs)) (tk := RdEz C W0 (ev P F C.cx k)) (tv := RdEz C W0 (ev P F C.cx v)) ?_ ?_ ?_ ?_ (toI_folded it _ _)) fun D σ H q => ?_
        · intro s H D cl fp
          have cb := hblk s H D cl fp
          exact pg_sound cb.hN cb.nd cb.hsc cb.hK cb.calm (fun x hx => hx) tg _ g4
        · intro s H D cl fp
          exact pts_z fun z => ts_sound ifs ((hblk s H D cl fp).zz z) _ (of_decide_eq_true h8) h7
        · intro s H D cl fp
          exact pe_z fun z => (e_sound k ((hblk s H D cl fp).zz z) _ h5).1
        · intro s H D cl fp
          exact pe_z fun z => (e_sound v ((hblk s H D cl fp).zz z) _ h6).1
        · have q2 := asg_read (t := .nm i) q
          rw [show ev P F C.cx (.dcc t own k v tg it ifs) = fun env h => (evI P F C.cx it env h).bind fun r h1 => match loopD (ev P F C.cx k) (ev P F C.cx v) (evT P F C.cx ifs) t tg r.src r.items (wipeE env own) [] [] h1 with | .ok kv h2 => .ok (.dic t kv.1 kv.2) h2 | _ => .stuck from by funext env h; rw [ev] <;> rfl] at q2
          have := dc_ok (c.hx (bnot g1)).1 h9 (show RdE C W _ σ H (fun v H1 => gT C.K.f (.nm i) v σ H1 D.nx) from q2)
          rw [ownP_snd]
          exact this
      · refine plain ?_
        rw [toE]
        exact swd_off (bnot hl')
      · refine plain ?_
        rw [toE]
        refine swd_cell ?_
        rw [c.hsc]
        exact of_decide_eq_false (bnot hcell)
    | _ => cases hb
/-- what a def's statements stand on -/
def FnX (X : Cx) : Prop := (∀ x, X.fn x = true) ∧ X.stack = X.env :: X.outer ∧ X.env.frame = some X.env.locals
theorem Cok.try_ (c : Cok X S P F C W) (hh : S.hot = false) {W' : WX} {pn : List (Addr × Obj)} {xe : Value → Shared → Prop} (tk : Takes (X.tr pn xe) W') : Cok (X.tr pn xe) S P F C W' where
  hK := c.hK
  hN := c.hN
  nd := c.nd
  hsc := c.hsc
  calm := c.calm
  hun := c.hun
  glb := c.glb
  tk := tk
  hf := c.hf
  xq := Or.inl ⟨hh, c.hx hh⟩
  cf := c.cf
/-- .. that holds an exception -/
def XC.kx (C : XC) (q : XF) : XC := { C with K := ⟨C.K.f, C.K.z, some q⟩, cx := some q.m }
theorem Cok.suite_ (c : Cok X S P F C W) (hh : S.hot = false) (htr : S.tr = true) {q : XF} {a : Addr} {j : Nat} {oe : Obj} {pn : List (Addr × Obj)} (hz : Zc (.ref q.c) (some q.d) oe) (hf : ∃ vs, oe.data = .fields vs) (qj : q.j = j) (qa : q.a = a) (qc : C.ca q.m.cls = some q.c) :
    Cok (X.suite a ((a, oe) :: pn)) { S with hot := true, xj := j } P F (C.kx q) W0 where
  hK := c.hK
  hN := c.hN
  nd := c.nd
  hsc := c.hsc
  calm := fun z => nomatch z
  hun := c.hun
  glb := fun x g e => by
    have := c.glb x g e
    cases g with
    | con k =>
      obtain ⟨u, v, p, h1, h2, h3, h4⟩ := this
      exact ⟨u, v, p, h1, h2, h3, fun z M H => (h4 z M H).kx⟩
    | fn f => exact fun z => nomatch z
    | cls k =>
      obtain ⟨a, h1, h2, _⟩ := this
      exact ⟨a, h1, h2, fun z => nomatch z⟩
    | bi => exact this
  tk := Takes.none
  hf := c.hf
  xq := Or.inr ⟨rfl, q, rfl, rfl, qj.symm, qc, X, oe, pn, by rw [qa], hz, hf⟩
  cf := c.cf
/-- try .. except C as n -/
theorem ps_try' (c : Cok X S P F C W) (hfn : FnX X) (hh : S.hot = false) (htr : S.tr = true) {j k : Nat} {x n : Str} {body suite : List Stmt} {b0 : Stmt} {np p2 p : Pos} {b s : MSs} (hN : S.N[j]? = some n) (hl : S.sc.names.lookup n = some .local) (hx : isCls S x k = true)
    (hb : ∀ (W' : WX) (pn : List (Addr × Obj)) (xe : Value → Shared → Prop), Takes (X.tr pn xe) W' → PassesOwn (model X.prog X.w) X.A X.env xe → PSs (X.tr pn xe) body (RdS C W' (exs P F none b)))
    (hs : ∀ (a : Addr) (oe : Obj) (q : XF) (pn : List (Addr × Obj)), Zc (.ref q.c) (some q.d) oe → (∃ vs, oe.data = .fields vs) → q.j = j → q.a = a → C.ca q.m.cls = some q.c → PSs (X.suite a ((a, oe) :: pn)) (b0 :: suite) (RdS (C.kx q) W0 (exs P F (some q.m) s))) :
    PS X (.Try body [.ExceptHandler (some (.Name x np)) (some n) (b0 :: suite) p2] [] [] p) (RdS C W (ex P F none (.try b k (some j) s))) := by
  obtain ⟨g, d, ck, hck, hm⟩ := c.clsN hx
  have cf := c.cf htr
  have hxn := (c.hx hh).1
  have eK : (⟨C.K.f, C.K.z, none⟩ : KZ) = C.K := by rw [← hxn]
  refine ps_weak (ps_try_as (i := j) (c := .ref ck) (Wout := W) (tb := fun W' => RdS C W' (exs P F none b))
    (ts := fun a cls d D σ H => ∃ q : XF, q.j = j ∧ q.a = a ∧ cls = .ref q.c ∧ d = some q.d ∧ C.ca q.m.cls = some q.c ∧ RdS (C.kx q) W0 (exs P F (some q.m) s) D σ H)
    hfn.2.1 hfn.2.2 (by rw [c.hN]; exact c.nd) (by rw [c.hN]; exact hN) (by show X.env.scope.names.lookup n = _; rw [c.hsc]; exact hl) ⟨g, d, .inl hm⟩ c.tk hb (fun a oe cls d pn hz hf => ?_)) fun D σ H o => ?_
  · refine ⟨fun pins st σ H D I h => ?_⟩
    obtain ⟨q, qj, qa, rfl, rfl, qc, o⟩ := h
    exact (hs a oe q pn hz hf qj qa qc).run pins st σ H D I o
  · obtain ⟨M, h, env, hr, er, o⟩ := o
    refine ⟨M, h, env, hr, er, ?_⟩
    rw [ex] at o
    cases e : exs P F none b env h with
    | nx env1 h1 => rw [e] at o; exact o
    | rt p1 h1 => rw [e] at o; exact o
    | bk env1 h1 => rw [e] at o; exact o
    | ct env1 h1 => rw [e] at o; exact o
    | stuck => rw [e] at o; exact o
    | ex y env1 h1 =>
      rw [e] at o
      dsimp only at o
      intro cls d1 σ1 H1 M1 x1 hr1 er1 xr
      obtain ⟨ay, dd, fs, cy, rfl, rfl, nd, ed, el, ef⟩ := xr
      refine ⟨P.sub y.cls k, ?_, fun hy a na => ?_, fun hy => ?_⟩
      · rw [c.hK] at cf ⊢
        exact cf.exm _ _ _ _ cy hck
      · rw [hy, if_pos rfl] at o
        have o := o.shift x1
        rw [c.hf] at el ef
        refine ⟨⟨j, a, ay, dd, fs, y⟩, rfl, rfl, rfl, rfl, cy, M1, h1, env1.set j none, hr1.kx, ?_, ?_⟩
        · have u := er1.unset hxn j (some (V.ref a))
          refine ⟨u.1, fun i z ez => let ⟨v, e1, r1⟩ := u.2 i z ez; ⟨v, e1, r1.kx⟩, fun q hq he => ?_⟩
          cases hq
          have hl : j < env1.length := by
            have := (List.getElem?_eq_some_iff.mp he).1
            simpa using this
          refine ⟨List.getElem?_set_self (by rw [← er1.1]; exact hl), nd, ed, el, fun i z m e1 e2 => ?_⟩
          obtain ⟨v, lv, rv⟩ := ef i z m e1 e2
          exact ⟨v, lv, rv.kx⟩
        · have bk : ∀ {M2 : List Addr} {H2 : Hp} {h2 : MHp}, HRel (C.kx ⟨j, a, ay, dd, fs, y⟩).K M2 H2 h2 → HRel C.K M2 H2 h2 := fun r => eK ▸ r.kx (x := none)
          show OutS (C.kx ⟨j, a, ay, dd, fs, y⟩) W0 _ M1 H1 (exs P F (some y) s (env1.set j none) h1)
          cases es : exs P F (some y) s (env1.set j none) h1 with
          | nx env2 h2 =>
            rw [es] at o
            intro σ2 H2 M2 x2 hr2 er2
            have er3 : ERel C.K M2 H2 σ2 env2 := eK ▸ er2.kx0
            exact o _ H2 M2 x2 (bk hr2) (er3.unset hxn j none)
          | rt p1 h2 =>
            rw [es] at o
            intro v H2 M2 x2 hr2 rv
            exact o v H2 M2 x2 (bk hr2) (eK ▸ rv.kx (x := none))
          | bk env2 h2 => rw [es] at o; exact o.elim
          | ct env2 h2 => rw [es] at o; exact o.elim
          | ex _ _ _ => rw [es] at o; exact o.elim
          | stuck => rw [es] at o; exact o.elim
      · rw [hy, if_neg (by decide)] at o
        exact o _ _ σ1 H1 M1 x1 hr1 er1 ⟨ay, dd, fs, cy, rfl, rfl, nd, ed, el, ef⟩
/-- the reading of a clause -/
def tsClz (P : Prog) (F : Fn) (C : XC) (j : Nat) (s : MSs) : Addr → Value → Option Addr → TS := fun a cls d D σ H => ∃ q : XF, q.j = j ∧ q.a = a ∧ cls = .ref q.c ∧ d = some q.d ∧ C.ca q.m.cls = some q.c ∧ RdS (C.kx q) W0 (exs P F (some q.m) s) D σ H
inductive HzOk (X : Cx) (S : Sc) (P : Prog) (F : Fn) (C : XC) : MHs → List Clz → Prop
  | nil : HzOk X S P F C .nil []
  | cons {k j : Nat} {ck : Addr} {s : MSs} {r : MHs} {l : List Clz} (hck : C.ca k = some ck) (hm : True) (rest : HzOk X S P F C r l) : HzOk X S P F C (.cons k j s r) ((.ref ck, j, tsClz P F C j s) :: l)
/-- the clauses' wishes, by what they do -/
theorem exh_wish (c : Cok X S P F C W) (hh : S.hot = false) (htr : S.tr = true) {D : Ends} {y : MX} {cls : Value} {d1 : Option Addr} : ∀ {cs : MHs} {l : List Clz} {M1 : List Addr} {H1 : Hp} {h1 : MHp} {env1 : Env} {σ1 : L2.St},
    HzOk X S P F C cs l → HRel C.K M1 H1 h1 → ERel C.K M1 H1 σ1 env1 → XRel C M1 H1 y cls d1 → OutS C W D M1 H1 (exh P F y cs env1 h1) → wNm X.K W D l cls d1 σ1 H1 := by
  intro cs l M1 H1 h1 env1 σ1 hz
  induction hz with
  | nil =>
    intro hr1 er1 xr o
    rw [exh] at o
    exact o _ _ σ1 H1 M1 Ext.refl hr1 er1 xr
  | @cons k j ck s r l hck hm rest ih =>
    intro hr1 er1 xr o
    have cf := c.cf htr
    have hxn := (c.hx hh).1
    have eK : (⟨C.K.f, C.K.z, none⟩ : KZ) = C.K := by rw [← hxn]
    obtain ⟨ay, dd, fs, cy, rfl, rfl, nd, ed, el, ef⟩ := xr
    refine ⟨P.sub y.cls k, ?_, fun hy a na => ?_, fun hy => ?_⟩
    · rw [c.hK] at cf ⊢
      exact cf.exm _ _ _ _ cy hck
    · rw [exh, hy, if_pos rfl] at o
      rw [c.hf] at el ef
      refine ⟨⟨j, a, ay, dd, fs, y⟩, rfl, rfl, rfl, rfl, cy, M1, h1, env1.set j none, hr1.kx, ?_, ?_⟩
      · have u := er1.unset hxn j (some (V.ref a))
        refine ⟨u.1, fun i z ez => let ⟨v, e1, r1⟩ := u.2 i z ez; ⟨v, e1, r1.kx⟩, fun q hq he => ?_⟩
        cases hq
        have hl : j < env1.length := by
          have := (List.getElem?_eq_some_iff.mp he).1
          simpa using this
        refine ⟨List.getElem?_set_self (by rw [← er1.1]; exact hl), nd, ed, el, fun i z m e1 e2 => ?_⟩
        obtain ⟨v, lv, rv⟩ := ef i z m e1 e2
        exact ⟨v, lv, rv.kx⟩
      · have bk : ∀ {M2 : List Addr} {H2 : Hp} {h2 : MHp}, HRel (C.kx ⟨j, a, ay, dd, fs, y⟩).K M2 H2 h2 → HRel C.K M2 H2 h2 := fun r => eK ▸ r.kx (x := none)
        show OutS (C.kx ⟨j, a, ay, dd, fs, y⟩) W0 _ M1 H1 (exs P F (some y) s (env1.set j none) h1)
        cases es : exs P F (some y) s (env1.set j none) h1 with
        | nx env2 h2 =>
          rw [es] at o
          intro σ2 H2 M2 x2 hr2 er2
          have er3 : ERel C.K M2 H2 σ2 env2 := eK ▸ er2.kx0
          exact o _ H2 M2 x2 (bk hr2) (er3.unset hxn j none)
        | rt p1 h2 =>
          rw [es] at o
          intro v H2 M2 x2 hr2 rv
          exact o v H2 M2 x2 (bk hr2) (eK ▸ rv.kx (x := none))
        | bk env2 h2 => rw [es] at o; exact o.elim
        | ct env2 h2 => rw [es] at o; exact o.elim
        | ex _ _ _ => rw [es] at o; exact o.elim
        | stuck => rw [es] at o; exact o.elim
    · rw [exh, hy, if_neg (by decide)] at o
      exact ih hr1 er1 ⟨ay, dd, fs, cy, rfl, rfl, nd, ed, el, ef⟩ o
theorem ps_trm' (c : Cok X S P F C W) (hfn : FnX X) (hh : S.hot = false) (htr : S.tr = true) {body : List Stmt} {h0 : ExceptHandler} {hds : List ExceptHandler} {p : Pos} {b : MSs} {cs : MHs} {l : List Clz} (hz : HzOk X S P F C cs l) (hd : HdsN X (h0 :: hds) l)
    (hb : ∀ (W' : WX) (pn : List (Addr × Obj)) (xe : Value → Shared → Prop), Takes (X.tr pn xe) W' → PassesOwn (model X.prog X.w) X.A X.env xe → PSs (X.tr pn xe) body (RdS C W' (exs P F none b))) :
    PS X (.Try body (h0 :: hds) [] [] p) (RdS C W (ex P F none (.trm b cs))) := by
  refine ps_weak (ps_try_nm (Wout := W) (tb := fun W' => RdS C W' (exs P F none b)) hfn.2.1 hfn.2.2 (by rw [c.hN]; exact c.nd) c.tk hb hd) fun D σ H o => ?_
  obtain ⟨M, h, env, hr, er, o⟩ := o
  refine ⟨M, h, env, hr, er, ?_⟩
  rw [ex] at o
  cases e : exs P F none b env h with
  | nx env1 h1 => rw [e] at o; exact o
  | rt p1 h1 => rw [e] at o; exact o
  | bk env1 h1 => rw [e] at o; exact o
  | ct env1 h1 => rw [e] at o; exact o
  | stuck => rw [e] at o; exact o
  | ex y env1 h1 =>
    rw [e] at o
    dsimp only at o
    intro cls d1 σ1 H1 M1 x1 hr1 er1 xr
    exact exh_wish c hh htr hz hr1 er1 xr (o.shift x1)
mutual
theorem s_sound : ∀ (s : MS) {X : Cx} {S : Sc} {C : XC} {W : WX} (c : Cok X S P F C W) (po : PassesOwn (model X.prog X.w) X.A X.env X.xe) (hfn : FnX X) (s0 : Stmt), wfS S s s0 = true → PS X (toS s s0) (RdS C W (ex P F C.cx s))
  | .asg (.nm i) e, X, S, C, W, c, po, hfn, s0, h => by
    rw [wfS] at h
    obtain ⟨h1, h2, h3⟩ := and3 h
    rw [toS, toT, show ex P F C.cx (.asg (.nm i) e) = fun env h => ofResV (ev P F C.cx e env h) env fun x h1 => match asgT (.nm i) x env with | some σ' => .nx σ' h1 | none => .stuck from by funext env h; rw [ex] <;> rfl]
    exact ps_setN c hfn.1 h1 h2 h3
  | .asg (.tp ts) e, X, S, C, W, c, po, hfn, s0, h => by
    rw [wfS] at h
    obtain ⟨h1, h2, h3⟩ := and3 h
    have pg := pg_sound c.hN c.nd c.hsc c.hK c.calm (fl := fun _ => true) (fun x _ => hfn.1 x) (.tp ts) _ h2
    rw [toS, show ex P F C.cx (.asg (.tp ts) e) = fun env h => ofResV (ev P F C.cx e env h) env fun x h1 => match asgT (.tp ts) x env with | some σ' => .nx σ' h1 | none => .stuck from by funext env h; rw [ex] <;> rfl]
    rw [toT] at pg ⊢
    exact ps_weak (ps_asg (e_sound e c _ h1).1 pg (toE_swT _ _ _ _ _ _ _) (toE_st _ _ _ _ _ _ (bnot h3)) (by rfl)) fun D σ H q => asg_read (t := .tp ts) q
  | .aug i o e, X, S, C, W, c, po, hfn, s0, h => by
    rw [wfS] at h
    obtain ⟨h1, h2, h3⟩ := and3 h
    rw [Bool.or_eq_true] at h3
    rw [toS, show ex P F C.cx (.aug i o e) = fun σ h => match σ[i]? with
      | some (some x) => ofResV (ev P F C.cx e σ h) σ fun y h1 => (match x, y with
        | .int a, .int b => (match bopI o a b with | some z => .nx (σ.set i (some z)) h1 | none => .stuck)
        | _, _ => .stuck)
      | _ => .stuck from by funext env h; rw [ex] <;> rfl]
    exact ps_aug' c hfn.1 h2 (h3.imp of_decide_eq_true of_decide_eq_true) (e_sound e c _ h1).1
  | .stx o i e, X, S, C, W, c, po, hfn, s0, h => by
    rw [wfS] at h
    obtain ⟨h1, h2, h3⟩ := and3 h
    rw [toS, show ex P F C.cx (.stx o i e) = fun σ h => ofResV (ev P F C.cx e σ h) σ fun v h1 => ofResV (ev P F C.cx o σ h1) σ fun x h2 => ofResV (ev P F C.cx i σ h2) σ fun y h3 => match storeIx x y v h3 with | some h4 => .nx σ h4 | none => .stuck from by funext env h; rw [ex] <;> rfl]
    exact ps_stx' c (e_sound o c _ h2).1 (e_sound i c _ h3).1 (e_sound e c _ h1).1
  | .exp e, X, S, C, W, c, po, hfn, s0, h => by
    rw [wfS] at h
    obtain ⟨h1, h2⟩ := and2 h
    rw [toS, show ex P F C.cx (.exp e) = fun σ h => ofResV (ev P F C.cx e σ h) σ fun _ h1 => .nx σ h1 from by funext env h; rw [ex] <;> rfl]
    exact ps_exp' (e_sound e c _ h1).1 (toE_sw0 _ _ _ _ (bnot h2))
  | .ite d a b, X, S, C, W, c, po, hfn, s0, h => by
    rw [wfS] at h
    obtain ⟨h1, h2, h3⟩ := and3 h
    rw [toS, show ex P F C.cx (.ite d a b) = fun σ h => ofResV (ev P F C.cx d σ h) σ fun x h1 => match truth x h1 with | some true => exs P F C.cx a σ h1 | some false => exs P F C.cx b σ h1 | none => .stuck from by funext env h; rw [ex] <;> rfl]
    exact ps_if' (e_sound d c _ h1).2 (ss_sound a c po hfn _ h2) (ss_sound b c po hfn _ h3)
  | .for t it b, X, S, C, W, c, po, hfn, s0, h => by
    rw [wfS] at h
    obtain ⟨h1, h2, h3, h4⟩ := and4 h
    have pg := pg_sound c.hN c.nd c.hsc c.hK c.calm (fl := fun _ => true) (fun x _ => hfn.1 x) t _ h2
    rw [toS, show ex P F C.cx (.for t it b) = fun σ h => ofResV (evI P F C.cx it σ h) σ fun r h1 => loopF (exs P F C.cx b) t r.src r.items σ h1 from by funext env h; rw [ex] <;> rfl]
    exact ps_weak (ps_for po (c.calm (bnot h1)) (i_sound it c _ t h3) pg (ss_sound b c po hfn _ h4) (toI_folded it _ _)) fun D σ H q => for_read q
  | .whl n d b, X, S, C, W, c, po, hfn, s0, h => by
    rw [wfS] at h
    obtain ⟨h1, h2⟩ := and2 h
    rw [toS, show ex P F C.cx (.whl n d b) = fun σ h => loopW (tst (ev P F C.cx d)) (exs P F C.cx b) n σ h from by funext env h; rw [ex] <;> rfl]
    exact ps_weak (ps_while po (e_sound d c _ h1).2 (ss_sound b c po hfn _ h2)) fun D σ H q => while_read q
  | .ret e, X, S, C, W, c, po, hfn, s0, h => by
    rw [wfS] at h
    rw [toS, show ex P F C.cx (.ret e) = fun σ h => ofResV (ev P F C.cx e σ h) σ fun x h1 => .rt x h1 from by funext env h; rw [ex] <;> rfl]
    exact ps_ret' (e_sound e c _ h).1
  | .retN, X, S, C, W, c, po, hfn, s0, h => by
    rw [toS, show ex P F C.cx .retN = fun _ h => .rt .non h from by funext env h; rw [ex] <;> rfl]
    refine ps_weak ps_retN fun D σ H q => ?_
    obtain ⟨M, h, env, hr, er, o⟩ := q
    exact o .non H M Ext.refl hr rv_n
  | .rai k es, X, S, C, W, c, po, hfn, s0, h => by
    rw [wfS] at h
    obtain ⟨h, h5⟩ := and2 h
    obtain ⟨h1, h2, h3, h4⟩ := and4 h
    obtain ⟨e, r, rfl⟩ := mes_ne (of_decide_eq_true h4)
    rw [toS]
    have hf := c.hf
    have h5 := of_decide_eq_true h5
    have hcx := (c.hx (bnot h1)).2
    have ha := es_sound (.cons e r) c _ h3
    rw [hcx] at ha ⊢
    rw [show ex P F none (.rai k (.cons e r)) = fun σ h => ofResV (evs P F none (.cons e r) σ h) σ fun xs h1 => .ex ⟨k, xs⟩ σ h1 from by funext env h; rw [ex] <;> rfl]
    exact ps_rai' c (bnot h1) (by rw [hf]; intro z; rw [z] at h5; simp [mesLen] at h5) h2 (fun env h xs h' e => by rw [evs_len e, hf, h5]; exact ⟨rfl, fldC_len k⟩) ha
  | .try b k (some j) (.cons s1 s2), X, S, C, W, c, po, hfn, s0, h => by
    rw [wfS.eq_def] at h
    dsimp only at h
    split at h
    · rename_i body x np n suite p2 p
      obtain ⟨h, h7⟩ := and2 h
      obtain ⟨h, h6⟩ := and2 h
      obtain ⟨h, h5⟩ := and2 h
      obtain ⟨h1, h2, h3, h4⟩ := and4 h
      obtain ⟨h8, h9⟩ := and2 h7
      have hh := bnot h1
      have hcx := (c.hx hh).2
      rw [toS]
      rw [hcx, show toSs (.cons s1 s2) suite = toS s1 (suite.headD dS) :: toSs s2 suite.tail from by rw [toSs]]
      refine ps_try' c hfn hh h2 (of_decide_eq_true h3) (of_decide_eq_true h4) h5 (fun W' pn xe tk po' => ?_) fun a oe q pn hz hf qj qa qc => ?_
      · have := ss_sound b (c.try_ hh tk) po' ⟨hfn.1, hfn.2.1, hfn.2.2⟩ body h6
        rw [hcx] at this
        exact this
      · have cs := c.suite_ (pn := pn) hh h2 hz hf qj qa qc
        have e1 := s_sound s1 cs PassesOwn.never ⟨hfn.1, hfn.2.1, hfn.2.2⟩ (suite.headD dS) h8
        have e2 := ss_sound s2 cs PassesOwn.never ⟨hfn.1, hfn.2.1, hfn.2.2⟩ suite.tail h9
        have := pss_cons' e1 e2
        rw [show exs P F (some q.m) (.cons s1 s2) = fun σ h => match ex P F (some q.m) s1 σ h with | .nx σ1 h1 => exs P F (some q.m) s2 σ1 h1 | x => x from by funext env h; rw [exs] <;> rfl]
        exact this
    · cases h
  | .try _ _ none _, X, S, C, W, c, po, hfn, s0, h => by rw [wfS] at h <;> first | cases h | (intros; simp)
  | .try _ _ (some _) .nil, X, S, C, W, c, po, hfn, s0, h => by rw [wfS] at h <;> first | cases h | (intros; simp)
  | .trm b (.cons k0 i0 sx r0), X, S, C, W, c, po, hfn, s0, h => by
    rw [wfS.eq_def] at h
    dsimp only at h
    split at h
    · rename_i body h0 hds p
      obtain ⟨h1, h2, h3, h4⟩ := and4 h
      have hh := bnot h1
      have hcx := (c.hx hh).2
      obtain ⟨l, hz, hd⟩ := h_sound (.cons k0 i0 sx r0) c hfn hh h2 (h0 :: hds) h4
      rw [toS, hcx]
      have hne : ∃ g0 gs, toHs (.cons k0 i0 sx r0) (h0 :: hds) = g0 :: gs := by
        cases e : toHs (.cons k0 i0 sx r0) (h0 :: hds) with
        | nil =>
          rw [e] at hd
          cases hd
          cases hz
        | cons g0 gs => exact ⟨g0, gs, rfl⟩
      obtain ⟨g0, gs, e⟩ := hne
      rw [e] at hd ⊢
      refine ps_trm' c hfn hh h2 hz hd fun W' pn xe tk po' => ?_
      have := ss_sound b (c.try_ hh tk) po' ⟨hfn.1, hfn.2.1, hfn.2.2⟩ body h3
      rw [hcx] at this
      exact this
    · cases h
  | .trm _ .nil, X, S, C, W, c, po, hfn, s0, h => by rw [wfS] at h; cases h
  | .pas, X, S, C, W, c, po, hfn, s0, h => by
    rw [toS, show ex P F C.cx .pas = fun σ h => .nx σ h from by funext env h; rw [ex] <;> rfl]
    refine ps_weak ps_pass fun D σ H q => ?_
    obtain ⟨M, h, env, hr, er, o⟩ := q
    exact o σ H M Ext.refl hr er
  | .brk, X, S, C, W, c, po, hfn, s0, h => by
    rw [toS, show ex P F C.cx .brk = fun σ h => .bk σ h from by funext env h; rw [ex] <;> rfl]
    refine ps_weak ps_break fun D σ H q => ?_
    obtain ⟨M, h, env, hr, er, o⟩ := q
    exact o σ H M Ext.refl hr er
  | .cnt, X, S, C, W, c, po, hfn, s0, h => by
    rw [toS, show ex P F C.cx .cnt = fun σ h => .ct σ h from by funext env h; rw [ex] <;> rfl]
    refine ps_weak ps_continue fun D σ H q => ?_
    obtain ⟨M, h, env, hr, er, o⟩ := q
    exact o σ H M Ext.refl hr er
theorem ss_sound : ∀ (s : MSs) {X : Cx} {S : Sc} {C : XC} {W : WX} (c : Cok X S P F C W) (po : PassesOwn (model X.prog X.w) X.A X.env X.xe) (hfn : FnX X) (l : List Stmt), wfSs S s l = true → PSs X (toSs s l) (RdS C W (exs P F C.cx s))
  | .nil, X, S, C, W, c, po, hfn, l, h => by
    rw [toSs, show exs P F C.cx .nil = fun σ h => .nx σ h from by funext env h; rw [exs] <;> rfl]
    exact pss_nil'
  | .cons s r, X, S, C, W, c, po, hfn, l, h => by
    rw [wfSs] at h
    obtain ⟨h1, h2⟩ := and2 h
    rw [toSs, show exs P F C.cx (.cons s r) = fun σ h => match ex P F C.cx s σ h with | .nx σ1 h1 => exs P F C.cx r σ1 h1 | x => x from by funext env h; rw [exs] <;> rfl]
    exact pss_cons' (s_sound s c po hfn _ h1) (ss_sound r c po hfn _ h2)
theorem h_sound : ∀ (cs : MHs) {X : Cx} {S : Sc} {C : XC} {W : WX} (c : Cok X S P F C W) (hfn : FnX X) (hh : S.hot = false) (htr : S.tr = true) (l : List ExceptHandler), wfHs S cs l = true → ∃ z, HzOk X S P F C cs z ∧ HdsN X (toHs cs l) z
  | .nil, X, S, C, W, c, hfn, hh, htr, l, h => by
    rw [toHs]
    exact ⟨[], .nil, .nil⟩
  | .cons k j (.cons s1 s2) r, X, S, C, W, c, hfn, hh, htr, l, h => by
    rw [wfHs.eq_def] at h
    dsimp only at h
    split at h
    · rename_i x np n suite p2 hds
      obtain ⟨h, h6⟩ := and2 h
      obtain ⟨h, h5⟩ := and2 h
      obtain ⟨h, h4⟩ := and2 h
      obtain ⟨h2, h3⟩ := and2 h
      obtain ⟨h8, h9⟩ := and2 h5
      obtain ⟨z, hz, hd⟩ := h_sound r c hfn hh htr hds h6
      obtain ⟨g, d, ck, hck, hm⟩ := c.clsN h4
      refine ⟨(.ref ck, j, tsClz P F C j (.cons s1 s2)) :: z, .cons hck trivial hz, ?_⟩
      rw [toHs, show toSs (.cons s1 s2) suite = toS s1 (suite.headD dS) :: toSs s2 suite.tail from by rw [toSs]]
      refine .cons ⟨g, d, .inl hm⟩ (by rw [c.hN]; exact of_decide_eq_true h2) (by show X.env.scope.names.lookup n = _; rw [c.hsc]; exact of_decide_eq_true h3) (fun a oe cls d pn hz hf => ?_) hd
      refine ⟨fun pins st σ H D I h => ?_⟩
      obtain ⟨q, qj, qa, rfl, rfl, qc, o⟩ := h
      have cs := c.suite_ (pn := pn) hh htr hz hf qj qa qc
      have e1 := s_sound s1 cs PassesOwn.never ⟨hfn.1, hfn.2.1, hfn.2.2⟩ (suite.headD dS) h8
      have e2 := ss_sound s2 cs PassesOwn.never ⟨hfn.1, hfn.2.1, hfn.2.2⟩ suite.tail h9
      have := pss_cons' e1 e2
      rw [show exs P F (some q.m) (.cons s1 s2) = fun σ h => match ex P F (some q.m) s1 σ h with | .nx σ1 h1 => exs P F (some q.m) s2 σ1 h1 | x => x from by funext env h; rw [exs] <;> rfl] at o
      exact this.run pins st σ H D I o
    · cases h
  | .cons _ _ .nil _, X, S, C, W, c, hfn, hh, htr, l, h => by rw [wfHs] at h; cases h
end
end
end Qm

/-! S15: the end of a call: what is handed back. -/
namespace Qm
open PySem PySem.Spec PyProof.Rows L2
theorem frz_kk {g : Nat → Option PV} : ∀ {kvs : List (Key × V)} {a : List PV}, frzTs g (kvs.map fun p => keyP p.1) = some a → a = kvs.map fun p => keyP p.1
  | [], a, e => by rw [List.map_nil, frzTs] at e; cases e; rfl
  | ⟨k, v⟩ :: r, a, e => by
    rw [List.map_cons, frzTs] at e
    split at e
    · rename_i a' b ea eb
      cases e
      rw [frz_kk eb]
      cases k <;> simp only [keyP, frzT] at ea <;> cases ea <;> rfl
    · cases e
theorem frz_ks {g : Nat → Option PV} : ∀ {ks : List Key} {a : List PV}, frzTs g (ks.map keyP) = some a → a = ks.map keyP
  | [], a, e => by rw [List.map_nil, frzTs] at e; cases e; rfl
  | k :: r, a, e => by
    rw [List.map_cons, frzTs] at e
    split at e
    · rename_i a' b ea eb
      cases e
      rw [frz_ks eb]
      cases k <;> simp only [keyP, frzT] at ea <;> cases ea <;> rfl
    · cases e
theorem frz_tk {g : Nat → Option PV} : ∀ {kvs : List (List Key × V)} {a : List PV}, frzTs g (kvs.map fun p => .tup (p.1.map keyP)) = some a → a = kvs.map fun p => .tup (p.1.map keyP)
  | [], a, e => by rw [List.map_nil, frzTs] at e; cases e; rfl
  | ⟨k, v⟩ :: r, a, e => by
    rw [List.map_cons, frzTs] at e
    split at e
    · rename_i a' b ea eb
      cases e
      rw [frz_tk eb]
      rw [frzT] at ea
      obtain ⟨c, ec, rfl⟩ := Option.map_eq_some_iff.mp ea
      rw [frz_ks ec]
      rfl
    · cases e
section
variable {K : KZ} {M M' : List Addr} {H H0 : Hp}
theorem Off.sub (s : ∀ a ∈ M, a ∈ M') {a : Addr} (o : Off K M' a) : Off K M a := ⟨fun h => o.1 (s a h), o.2⟩
theorem TupAt.sub (s : ∀ a ∈ M, a ∈ M') {a : Addr} {vs : List V} (t : TupAt K M' H a vs) : TupAt K M H a vs := by
  rcases t with ⟨z, n, r⟩ | r
  · exact .inl ⟨z, n.sub s, r⟩
  · exact .inr r
mutual
theorem frzT_ok (s : ∀ a ∈ M, a ∈ M') {g : Nat → Option PV} (hg : ∀ n v p, g n = some p → RV K M' H (.ref n) v → RV K M H p v) : ∀ {x y : PV} {v : V}, frzT g x = some y → RV K M' H x v → RV K M H y v
  | .non, y, v, e, r => by rw [frzT] at e; cases e; rw [RV] at r ⊢; exact r
  | .bl _, y, v, e, r => by rw [frzT] at e; cases e; rw [RV] at r ⊢; exact r
  | .int _, y, v, e, r => by rw [frzT] at e; cases e; rw [RV] at r ⊢; exact r
  | .str _, y, v, e, r => by rw [frzT] at e; cases e; rw [RV] at r ⊢; exact r
  | .tup xs, y, v, e, r => by
    rw [frzT] at e
    obtain ⟨ys, e', rfl⟩ := Option.map_eq_some_iff.mp e
    rw [RV] at r ⊢
    obtain ⟨a, vs, ev, t, rs⟩ := r
    exact ⟨a, vs, ev, t.sub s, frzTs_ok s hg e' rs⟩
  | .lst xs, y, v, e, r => by
    rw [frzT] at e
    obtain ⟨ys, e', rfl⟩ := Option.map_eq_some_iff.mp e
    rw [RV] at r ⊢
    obtain ⟨a, vs, ev, z, n, t, rs⟩ := r
    exact ⟨a, vs, ev, z, n.sub s, t, frzTs_ok s hg e' rs⟩
  | .dic t ks ws, y, v, e, r => by
    rw [frzT] at e
    split at e
    · rename_i a b ea eb
      cases e
      rw [RV] at r ⊢
      obtain ⟨p, us, u, ev, n, z, d, rs⟩ := r
      have ek : a = ks := by
        unfold DK at d
        split at d
        · obtain ⟨kvs, _, rfl, _⟩ := d
          exact frz_tk ea
        · obtain ⟨kvs, _, rfl, _⟩ := d
          exact frz_kk ea
      subst ek
      exact ⟨p, us, u, ev, n.sub s, z, d, frzTs_ok s hg eb rs⟩
    · cases e
  | .scr _, y, v, e, r => by rw [frzT] at e; cases e
  | .ref n, y, v, e, r => by rw [frzT] at e; exact hg n v y e r
theorem frzTs_ok (s : ∀ a ∈ M, a ∈ M') {g : Nat → Option PV} (hg : ∀ n v p, g n = some p → RV K M' H (.ref n) v → RV K M H p v) : ∀ {x y : List PV} {v : List V}, frzTs g x = some y → RVs K M' H x v → RVs K M H y v
  | [], y, v, e, r => by rw [frzTs] at e; cases e; rw [RVs] at r ⊢; exact r
  | x :: xs, y, v, e, r => by
    rw [frzTs] at e
    split at e
    · rename_i a b ea eb
      cases e
      rw [RVs] at r ⊢
      obtain ⟨w, ws, rfl, r1, r2⟩ := r
      exact ⟨w, ws, rfl, frzT_ok s hg ea r1, frzTs_ok s hg eb r2⟩
    · cases e
end
theorem pre_get (x : ∃ l, M' = M ++ l) {n : Nat} (h : n < M.length) : M'[n]? = M[n]? := by
  obtain ⟨l, rfl⟩ := x
  exact List.getElem?_append_left h
theorem pre_mem (x : ∃ l, M' = M ++ l) : ∀ a ∈ M, a ∈ M' := by
  obtain ⟨l, rfl⟩ := x
  exact fun a h => List.mem_append_left _ h
theorem pre_out (x : ∃ l, M' = M ++ l) (nd : M'.Nodup) {n : Nat} {a : Addr} (e : M'[n]? = some a) (h : M.length ≤ n) : a ∉ M := fun z => by
  obtain ⟨l, rfl⟩ := x
  rw [List.getElem?_append_right h] at e
  have := (List.nodup_append.mp nd).2.2 a z a (List.mem_of_getElem? e)
  exact this rfl
theorem frzG_ok {h' : MHp} (x : ∃ l, M' = M ++ l) (hr : HRel K M' H h') : ∀ (k n : Nat) (v : V) (p : PV), frzG M.length h' k n = some p → RV K M' H (.ref n) v → RV K M H p v
  | 0, n, v, p, e, r => by rw [frzG] at e; cases e
  | k + 1, n, v, p, e, r => by
    rw [frzG] at e
    split at e
    · rename_i c
      cases e
      rw [RV] at r ⊢
      obtain ⟨a, ev, ea⟩ := r
      rw [pre_get x c] at ea
      exact ⟨a, ev, ea⟩
    · rename_i c
      rw [RV] at r
      obtain ⟨a, rfl, ea⟩ := r
      have na : Off K M a := ⟨pre_out x hr.nd ea (by omega), fun z => (hr.zs a z).1 (List.mem_of_getElem? ea)⟩
      split at e
      · rename_i xs eh
        obtain ⟨ys, e', rfl⟩ := Option.map_eq_some_iff.mp e
        obtain ⟨vs, eu, z, rs⟩ := hr.at_ n a _ ea eh
        rw [RV]
        exact ⟨a, vs, rfl, z, na, eu, frzTs_ok (pre_mem x) (frzG_ok x hr k) e' rs⟩
      · rename_i t ks ws eh
        obtain ⟨us, u, eu, d, rs⟩ := hr.at_ n a _ ea eh
        split at e
        · rename_i a1 b1 e1 e2
          cases e
          have ek : a1 = ks := by
            unfold DK at d
            split at d
            · obtain ⟨kvs, _, rfl, _⟩ := d
              exact frz_tk e1
            · obtain ⟨kvs, _, rfl, _⟩ := d
              exact frz_kk e1
          subst ek
          rw [RV]
          exact ⟨a, us, u, rfl, na, eu, d, frzTs_ok (pre_mem x) (frzG_ok x hr k) e2 rs⟩
        · cases e
      · cases e
/-! ### the caller's own things -/
mutual
/-- a thing that stood at M holds places of M alone -/
theorem RV.back (x : ∃ l, M' = M ++ l) : ∀ {p : PV} {v0 v : V}, RV K M H0 p v0 → RV K M' H p v → RV K M H p v
  | .non, _, _, _, r => by rw [RV] at r ⊢; exact r
  | .bl _, _, _, _, r => by rw [RV] at r ⊢; exact r
  | .int _, _, _, _, r => by rw [RV] at r ⊢; exact r
  | .str _, _, _, _, r => by rw [RV] at r ⊢; exact r
  | .tup xs, _, _, r0, r => by
    rw [RV] at r0 r ⊢
    obtain ⟨_, _, _, _, q0⟩ := r0
    obtain ⟨a, vs, ev, t, rs⟩ := r
    exact ⟨a, vs, ev, t.sub (pre_mem x), RVs.back x q0 rs⟩
  | .lst xs, _, _, r0, r => by
    rw [RV] at r0 r ⊢
    obtain ⟨_, _, _, _, _, _, q0⟩ := r0
    obtain ⟨a, vs, ev, z, n, t, rs⟩ := r
    exact ⟨a, vs, ev, z, n.sub (pre_mem x), t, RVs.back x q0 rs⟩
  | .dic _ _ ws, _, _, r0, r => by
    rw [RV] at r0 r ⊢
    obtain ⟨_, _, _, _, _, _, _, q0⟩ := r0
    obtain ⟨a, us, u, ev, n, z, d, rs⟩ := r
    exact ⟨a, us, u, ev, n.sub (pre_mem x), z, d, RVs.back x q0 rs⟩
  | .ref n, _, _, r0, r => by
    rw [RV] at r0 r ⊢
    obtain ⟨a0, _, e0⟩ := r0
    obtain ⟨a, ev, e⟩ := r
    rw [pre_get x (List.getElem?_eq_some_iff.mp e0).1] at e
    exact ⟨a, ev, e⟩
  | .scr _, _, _, _, r => by
    rw [RV] at r ⊢
    obtain ⟨a, ev, z, q⟩ := r
    refine ⟨a, ev, z, ?_⟩
    rcases q with ⟨n, q⟩ | q
    · exact .inl ⟨n.sub (pre_mem x), q⟩
    · exact .inr q
theorem RVs.back (x : ∃ l, M' = M ++ l) : ∀ {p : List PV} {v0 v : List V}, RVs K M H0 p v0 → RVs K M' H p v → RVs K M H p v
  | [], _, _, _, r => by rw [RVs] at r ⊢; exact r
  | _ :: _, _, _, r0, r => by
    rw [RVs] at r0 r ⊢
    obtain ⟨_, _, _, q1, q2⟩ := r0
    obtain ⟨v, vs, ev, r1, r2⟩ := r
    exact ⟨v, vs, ev, RV.back x q1 r1, RVs.back x q2 r2⟩
end
mutual
/-- .. or trees -/
theorem RV.tree (s : ∀ a ∈ M, a ∈ M') : ∀ {p : PV} {v : V}, nor p = true → RV K M' H p v → RV K M H p v
  | .non, _, _, r => by rw [RV] at r ⊢; exact r
  | .bl _, _, _, r => by rw [RV] at r ⊢; exact r
  | .int _, _, _, r => by rw [RV] at r ⊢; exact r
  | .str _, _, _, r => by rw [RV] at r ⊢; exact r
  | .tup xs, _, n, r => by
    rw [nor] at n
    rw [RV] at r ⊢
    obtain ⟨a, vs, ev, t, rs⟩ := r
    exact ⟨a, vs, ev, t.sub s, RVs.tree s n rs⟩
  | .lst xs, _, n, r => by
    rw [nor] at n
    rw [RV] at r ⊢
    obtain ⟨a, vs, ev, z, o, t, rs⟩ := r
    exact ⟨a, vs, ev, z, o.sub s, t, RVs.tree s n rs⟩
  | .dic _ _ ws, _, n, r => by
    rw [nor, Bool.and_eq_true] at n
    rw [RV] at r ⊢
    obtain ⟨a, us, u, ev, o, z, d, rs⟩ := r
    exact ⟨a, us, u, ev, o.sub s, z, d, RVs.tree s n.2 rs⟩
  | .ref _, _, n, _ => by rw [nor] at n; cases n
  | .scr _, _, n, _ => by rw [nor] at n; cases n
theorem RVs.tree (s : ∀ a ∈ M, a ∈ M') : ∀ {p : List PV} {v : List V}, nors p = true → RVs K M' H p v → RVs K M H p v
  | [], _, _, r => by rw [RVs] at r ⊢; exact r
  | _ :: _, _, n, r => by
    rw [nors, Bool.and_eq_true] at n
    rw [RVs] at r ⊢
    obtain ⟨v, vs, ev, r1, r2⟩ := r
    exact ⟨v, vs, ev, RV.tree s n.1 r1, RVs.tree s n.2 r2⟩
end
theorem keep_at : ∀ {h h' : MHp} {n : Nat} {o o' : MO}, keepOk h h' = true → h[n]? = some o → h'[n]? = some o' → o' = o ∨ norO o' = true
  | [], _, _, _, _, _, e, _ => by simp at e
  | a :: r, [], _, _, _, k, _, _ => by rw [keepOk] at k; cases k
  | a :: r, b :: r', 0, o, o', k, e, e' => by
    rw [keepOk, Bool.and_eq_true, Bool.or_eq_true] at k
    simp at e e'
    subst e e'
    exact k.1.imp of_decide_eq_true id
  | a :: r, b :: r', n + 1, o, o', k, e, e' => by
    rw [keepOk, Bool.and_eq_true] at k
    exact keep_at k.2 (by simpa using e) (by simpa using e')
/-- the end of a call: the callee's own things are the caller's trees -/
theorem leave_rel {h h' : MHp} (hr0 : HRel K M H0 h) (x : Ext M H0 M' H) (hr : HRel K M' H h') (k : keepOk h h' = true) : Ext M H0 M H ∧ HRel K M H (h'.take h.length) := by
  obtain ⟨l, el⟩ := x.pre
  refine ⟨⟨⟨[], by simp⟩, x.keep, fun _ m => .inl m⟩, ?_⟩
  have hl : h.length ≤ h'.length := by
    have := hr.len
    rw [el, List.length_append, hr0.len] at this
    omega
  refine ⟨by rw [List.length_take, hr0.len]; omega, hr0.nd, fun a ha => ?_, fun n a o en eo => ?_⟩
  · obtain ⟨n, e⟩ := hr.zs a ha
    exact ⟨(hr0.zs a ha).1, e⟩
  · have hn : n < M.length := (List.getElem?_eq_some_iff.mp en).1
    have hn' : n < h.length := by rw [← hr0.len]; exact hn
    rw [List.getElem?_take_of_lt hn'] at eo
    have en' : M'[n]? = some a := by rw [el, List.getElem?_append_left hn]; exact en
    have r := hr.at_ n a o en' eo
    have e0 : h[n]? = some h[n] := List.getElem?_eq_getElem hn'
    have sub : ∀ a ∈ M, a ∈ M' := fun a m => x.mem m
    rcases keep_at k e0 eo with rfl | no
    · have r0 := hr0.at_ n a _ en e0
      cases eo_ : h[n] with
      | lst xs =>
        rw [eo_] at r r0
        obtain ⟨vs, e, z, rs⟩ := r
        obtain ⟨_, _, _, q0⟩ := r0
        exact ⟨vs, e, z, RVs.back x.pre q0 rs⟩
      | dic t ks ws =>
        rw [eo_] at r r0
        obtain ⟨us, u, e, d, rs⟩ := r
        obtain ⟨_, _, _, _, q0⟩ := r0
        exact ⟨us, u, e, d, RVs.back x.pre q0 rs⟩
      | ins _ _ => rw [eo_] at r; exact r
    · cases o with
      | lst xs =>
        obtain ⟨vs, e, z, rs⟩ := r
        exact ⟨vs, e, z, RVs.tree sub no rs⟩
      | dic t ks ws =>
        rw [norO, Bool.and_eq_true] at no
        obtain ⟨us, u, e, d, rs⟩ := r
        exact ⟨us, u, e, d, RVs.tree sub no.2 rs⟩
      | ins _ _ => cases no
end
section
variable {C : XC} {E : XK} {Q : VK} {M : List Addr} {H : Hp} {h : MHp}
theorem leave_ok {raw : Bool} {h' : MHp} {p : PV} (hr0 : HRel C.K M H h) (o : Out C E Q M H (leave raw h h' p)) : ∀ v H' M', Ext M H M' H' → HRel C.K M' H' h' → RV C.K M' H' p v → Q v H' := fun v H' M' x hr rv => by
  unfold leave at o
  cases raw with
  | true => exact o v H' M' x hr rv
  | false =>
    simp only [Bool.false_eq_true, if_false] at o
    split at o
    · rename_i k
      obtain ⟨x1, hr1⟩ := leave_rel hr0 x hr k
      cases e : frz h.length h' p with
      | none => rw [e] at o; exact o.elim
      | some y =>
        rw [e] at o
        rw [← hr0.len] at e
        exact o v H' M x1 hr1 (frzT_ok (fun a m => x.mem m) (frzG_ok x.pre hr 4) e rv)
    · exact o.elim
theorem leaveX_ok {raw : Bool} {h' : MHp} {y : MX} (hr0 : HRel C.K M H h) (o : Out C E Q M H (leaveX raw h h' y)) : ∀ cls d H' M', Ext M H M' H' → HRel C.K M' H' h' → XRel C M' H' y cls d → E cls d H' := fun cls d H' M' x hr xr => by
  unfold leaveX at o
  cases raw with
  | true => exact o cls d H' M' x hr xr
  | false =>
    simp only [Bool.false_eq_true, if_false] at o
    split at o
    · rename_i k
      obtain ⟨x1, hr1⟩ := leave_rel hr0 x hr k
      cases e : frzs h.length h' y.fs with
      | none => rw [e] at o; exact o.elim
      | some fs' =>
        rw [e] at o
        rw [← hr0.len] at e
        refine o cls d H' M x1 hr1 ?_
        obtain ⟨a, dd, fs, ca, e1, e2, nd, ed, el, ef⟩ := xr
        have all : ∀ {xs ys : List PV} , frzTs (frzG M.length h' 4) xs = some ys → ys.length = xs.length ∧ ∀ (i : Nat) (p : PV), ys[i]? = some p → ∃ p0, xs[i]? = some p0 ∧ ∀ v, RV C.K M' H' p0 v → RV C.K M H' p v := by
          intro xs
          induction xs with
          | nil => intro ys e; rw [frzTs] at e; cases e; exact ⟨rfl, fun i p e => by simp at e⟩
          | cons z zs ih =>
            intro ys e
            rw [frzTs] at e
            split at e
            · rename_i a1 b1 e1 e2
              cases e
              obtain ⟨l1, i1⟩ := ih e2
              refine ⟨by simp [l1], fun i p ep => ?_⟩
              cases i with
              | zero =>
                simp at ep
                subst ep
                exact ⟨z, rfl, fun v rv => frzT_ok (fun a m => x.mem m) (frzG_ok x.pre hr 4) e1 rv⟩
              | succ i =>
                obtain ⟨p0, q1, q2⟩ := i1 i p (by simpa using ep)
                exact ⟨p0, by simpa using q1, q2⟩
            · cases e
        obtain ⟨l1, i1⟩ := all e
        refine ⟨a, dd, fs, ca, e1, e2, nd.sub (fun a m => x.mem m), ed, by rw [l1]; exact el, fun i p n ep en => ?_⟩
        obtain ⟨p0, q1, q2⟩ := i1 i p ep
        obtain ⟨v, lv, rv⟩ := ef i p0 n q1 en
        exact ⟨v, lv, q2 v rv⟩
    · exact o.elim
/-! ### calls with trees alone -/
/-- all that the caller can change is hidden -/
def hidM (K : KZ) (M : List Addr) : KZ := ⟨K.f, K.z ++ M, K.x⟩
mutual
theorem RV.inn {K : KZ} {M : List Addr} {H : Hp} : ∀ {p : PV} {v : V}, nor p = true → RV K M H p v → RV (hidM K M) [] H p v
  | .non, _, _, r => by rw [RV] at r ⊢; exact r
  | .bl _, _, _, r => by rw [RV] at r ⊢; exact r
  | .int _, _, _, r => by rw [RV] at r ⊢; exact r
  | .str _, _, _, r => by rw [RV] at r ⊢; exact r
  | .tup xs, _, n, r => by
    rw [nor] at n
    rw [RV] at r ⊢
    obtain ⟨a, vs, ev, t, rs⟩ := r
    refine ⟨a, vs, ev, ?_, RVs.inn n rs⟩
    rcases t with ⟨z, o, t⟩ | t
    · exact .inl ⟨z, ⟨by simp, by simp [hidM, o.1, o.2]⟩, t⟩
    · exact .inr t
  | .lst xs, _, n, r => by
    rw [nor] at n
    rw [RV] at r ⊢
    obtain ⟨a, vs, ev, z, o, t, rs⟩ := r
    exact ⟨a, vs, ev, z, ⟨by simp, by simp [hidM, o.1, o.2]⟩, t, RVs.inn n rs⟩
  | .dic _ ks vs, _, n, r => by
    rw [nor, Bool.and_eq_true] at n
    rw [RV] at r ⊢
    obtain ⟨a, us, u, ev, o, z, d, rs⟩ := r
    exact ⟨a, us, u, ev, ⟨by simp, by simp [hidM, o.1, o.2]⟩, z, d, RVs.inn n.2 rs⟩
  | .ref _, _, n, _ => by rw [nor] at n; cases n
  | .scr _, _, n, _ => by rw [nor] at n; cases n
theorem RVs.inn {K : KZ} {M : List Addr} {H : Hp} : ∀ {p : List PV} {v : List V}, nors p = true → RVs K M H p v → RVs (hidM K M) [] H p v
  | [], _, _, r => by rw [RVs] at r ⊢; exact r
  | _ :: _, _, n, r => by
    rw [nors, Bool.and_eq_true] at n
    rw [RVs] at r ⊢
    obtain ⟨v, vs, ev, r1, r2⟩ := r
    exact ⟨v, vs, ev, RV.inn n.1 r1, RVs.inn n.2 r2⟩
end
mutual
theorem frzT_nor {g : Nat → Option PV} (hg : ∀ n y, g n = some y → nor y = true) : ∀ {x y : PV}, frzT g x = some y → nor y = true
  | .non, y, e => by rw [frzT] at e; cases e; rfl
  | .bl _, y, e => by rw [frzT] at e; cases e; rfl
  | .int _, y, e => by rw [frzT] at e; cases e; rfl
  | .str _, y, e => by rw [frzT] at e; cases e; rfl
  | .tup xs, y, e => by
    rw [frzT] at e
    obtain ⟨ys, e', rfl⟩ := Option.map_eq_some_iff.mp e
    rw [nor]; exact frzTs_nor hg e'
  | .lst xs, y, e => by
    rw [frzT] at e
    obtain ⟨ys, e', rfl⟩ := Option.map_eq_some_iff.mp e
    rw [nor]; exact frzTs_nor hg e'
  | .dic t ks ws, y, e => by
    rw [frzT] at e
    split at e
    · rename_i a b ea eb
      cases e
      rw [nor, Bool.and_eq_true]
      exact ⟨frzTs_nor hg ea, frzTs_nor hg eb⟩
    · cases e
  | .scr _, y, e => by rw [frzT] at e; cases e
  | .ref n, y, e => by rw [frzT] at e; exact hg n y e
theorem frzTs_nor {g : Nat → Option PV} (hg : ∀ n y, g n = some y → nor y = true) : ∀ {x y : List PV}, frzTs g x = some y → nors y = true
  | [], y, e => by rw [frzTs] at e; cases e; rfl
  | x :: xs, y, e => by
    rw [frzTs] at e
    split at e
    · rename_i a b ea eb
      cases e
      rw [nors, Bool.and_eq_true]
      exact ⟨frzT_nor hg ea, frzTs_nor hg eb⟩
    · cases e
end
theorem frzG_nor {h : MHp} : ∀ (k n : Nat) (y : PV), frzG 0 h k n = some y → nor y = true
  | 0, n, y, e => by rw [frzG] at e; cases e
  | k + 1, n, y, e => by
    rw [frzG] at e
    rw [if_neg (by omega)] at e
    split at e
    · obtain ⟨ys, e', rfl⟩ := Option.map_eq_some_iff.mp e
      rw [nor]; exact frzTs_nor (frzG_nor k) e'
    · split at e
      · rename_i a b ea eb
        cases e
        rw [nor, Bool.and_eq_true]
        exact ⟨frzTs_nor (frzG_nor k) ea, frzTs_nor (frzG_nor k) eb⟩
      · cases e
    · cases e
theorem off_out {K : KZ} {M : List Addr} {a : Addr} (o : Off (hidM K M) [] a) : Off K M a := by
  have := o.2
  simp only [hidM, List.mem_append, not_or] at this
  exact ⟨this.2, this.1⟩
mutual
theorem RV.out {K : KZ} {M : List Addr} {H : Hp} : ∀ {p : PV} {v : V}, nor p = true → RV (hidM K M) [] H p v → RV K M H p v
  | .non, _, _, r => by rw [RV] at r ⊢; exact r
  | .bl _, _, _, r => by rw [RV] at r ⊢; exact r
  | .int _, _, _, r => by rw [RV] at r ⊢; exact r
  | .str _, _, _, r => by rw [RV] at r ⊢; exact r
  | .tup xs, _, n, r => by
    rw [nor] at n
    rw [RV] at r ⊢
    obtain ⟨a, vs, ev, t, rs⟩ := r
    refine ⟨a, vs, ev, ?_, RVs.out n rs⟩
    rcases t with ⟨z, o, t⟩ | t
    · exact .inl ⟨z, off_out o, t⟩
    · exact .inr t
  | .lst xs, _, n, r => by
    rw [nor] at n
    rw [RV] at r ⊢
    obtain ⟨a, vs, ev, z, o, t, rs⟩ := r
    exact ⟨a, vs, ev, z, off_out o, t, RVs.out n rs⟩
  | .dic _ ks vs, _, n, r => by
    rw [nor, Bool.and_eq_true] at n
    rw [RV] at r ⊢
    obtain ⟨a, us, u, ev, o, z, d, rs⟩ := r
    exact ⟨a, us, u, ev, off_out o, z, d, RVs.out n.2 rs⟩
  | .ref _, _, n, _ => by rw [nor] at n; cases n
  | .scr _, _, n, _ => by rw [nor] at n; cases n
theorem RVs.out {K : KZ} {M : List Addr} {H : Hp} : ∀ {p : List PV} {v : List V}, nors p = true → RVs (hidM K M) [] H p v → RVs K M H p v
  | [], _, _, r => by rw [RVs] at r ⊢; exact r
  | _ :: _, _, n, r => by
    rw [nors, Bool.and_eq_true] at n
    rw [RVs] at r ⊢
    obtain ⟨v, vs, ev, r1, r2⟩ := r
    exact ⟨v, vs, ev, RV.out n.1 r1, RVs.out n.2 r2⟩
end
end
section
variable {C : XC} {E : XK} {Q : VK} {M : List Addr} {H : Hp} {h : MHp}
/-- the caller's things stand through such a call -/
theorem hid_hrel (hr : HRel C.K M H h) : HRel (hidM C.K M) [] H [] where
  len := rfl
  nd := List.nodup_nil
  zs := fun a ha => by
    refine ⟨by simp, ?_⟩
    rcases List.mem_append.mp ha with ha | ha
    · exact (hr.zs a ha).2
    · exact hr.mem ha
  at_ := fun n a o e => by simp at e
theorem out_hrel {M' : List Addr} {H' : Hp} (hr : HRel C.K M H h) (x : Ext [] H M' H') : Ext M H M H' ∧ HRel C.K M H' h := by
  have k : ∀ a o, H a = some o → H' a = some o := fun a o e => x.keep a o (by simp) e
  have x1 : Ext M H M H' := ⟨⟨[], by simp⟩, fun a o _ e => k a o e, fun _ m => .inl m⟩
  refine ⟨x1, hr.ext x1 fun a m => ?_⟩
  cases e : H a with
  | none => exact (hr.mem m e).elim
  | some o => exact k a o e
theorem frzs_each {base : Nat} {h' : MHp} : ∀ {xs ys : List PV}, frzTs (frzG base h' 4) xs = some ys → ys.length = xs.length ∧ ∀ (i : Nat) (p : PV), ys[i]? = some p → ∃ p0, xs[i]? = some p0 ∧ frzT (frzG base h' 4) p0 = some p
  | [], ys, e => by rw [frzTs] at e; cases e; exact ⟨rfl, fun i p e => by simp at e⟩
  | z :: zs, ys, e => by
    rw [frzTs] at e
    split at e
    · rename_i a1 b1 e1 e2
      cases e
      obtain ⟨l1, i1⟩ := frzs_each e2
      refine ⟨by simp [l1], fun i p ep => ?_⟩
      cases i with
      | zero =>
        simp at ep
        subst ep
        exact ⟨z, rfl, e1⟩
      | succ i =>
        obtain ⟨p0, q1, q2⟩ := i1 i p (by simpa using ep)
        exact ⟨p0, by simpa using q1, q2⟩
    · cases e
theorem leaveT_ok {h' : MHp} {p : PV} (hr0 : HRel C.K M H h) (o : Out C E Q M H (leaveT h h' p)) : ∀ v H' M', Ext [] H M' H' → HRel (hidM C.K M) M' H' h' → RV (hidM C.K M) M' H' p v → Q v H' := fun v H' M' x hr rv => by
  unfold leaveT at o
  cases e : frz 0 h' p with
  | none => rw [e] at o; exact o.elim
  | some y =>
    rw [e] at o
    obtain ⟨x1, hr1⟩ := out_hrel hr0 x
    have rv1 := frzT_ok (M := []) (fun a m => nomatch m) (frzG_ok (M := []) ⟨M', by simp⟩ hr 4) e rv
    exact o v H' M x1 hr1 (RV.out (frzT_nor (frzG_nor 4) e) rv1)
theorem leaveTX_ok {h' : MHp} {y : MX} (hr0 : HRel C.K M H h) (o : Out C E Q M H (leaveTX h h' y)) : ∀ cls d H' M', Ext [] H M' H' → HRel (hidM C.K M) M' H' h' → XRel { C with K := hidM C.K M } M' H' y cls d → E cls d H' := fun cls d H' M' x hr xr => by
  unfold leaveTX at o
  cases e : frzs 0 h' y.fs with
  | none => rw [e] at o; exact o.elim
  | some fs' =>
    rw [e] at o
    obtain ⟨x1, hr1⟩ := out_hrel hr0 x
    refine o cls d H' M x1 hr1 ?_
    obtain ⟨a, dd, fs, ca, e1, e2, nd, ed, el, ef⟩ := xr
    obtain ⟨l1, i1⟩ := frzs_each e
    have nd' : Off C.K M dd := off_out ⟨fun z => (nomatch z), nd.2⟩
    refine ⟨a, dd, fs, ca, e1, e2, nd', ed, by rw [l1]; exact el, fun i p n ep en => ?_⟩
    · obtain ⟨p0, q1, q2⟩ := i1 i p ep
      obtain ⟨v, lv, rv⟩ := ef i p0 n q1 en
      have rv1 := frzT_ok (M := []) (fun a m => nomatch m) (frzG_ok (M := []) ⟨M', by simp⟩ hr 4) q2 rv
      exact ⟨v, lv, RV.out (frzT_nor (frzG_nor 4) q2) rv1⟩
end
end Qm

/-! S16: every def keeps its promise. -/
namespace Qm
open PySem PySem.Spec PyProof.Rows L2
/-- a body behind its docstring -/
def toB (b : MSs) : List Stmt → List Stmt
  | .Expr (.Constant (.str x) k p) q :: r => .Expr (.Constant (.str x) k p) q :: toSs b r
  | l => toSs b l
def wfB (S : Sc) (b : MSs) : List Stmt → Bool
  | .Expr (.Constant (.str _) _ _) _ :: r => wfSs S b r
  | l => wfSs S b l
/-- a def of the text: its name, its statement, its names, its parameters -/
structure DM where
  x : Str
  st : Stmt
  N : List Str
  ps : List Str
structure Txt (tr : Bool) (gl : List (Str × GK)) (dm : DM) (fd : FnD) : Prop where
  bd : toB fd.body (defBody dm.st) = defBody dm.st
  wf : wfB ⟨dm.N, defScope dm.st, gl, false, tr, 0⟩ fd.body (defBody dm.st) = true
  sc : FnScope dm.N dm.ps (defScope dm.st)
  np : fd.np = dm.ps.length
  nl : fd.nl = dm.N.length
structure Top (tr : Bool) (P : Prog) (prog : Program) (w : World) (mg : Str → Option Value) (C : XC) (base : Heap) (gl : List (Str × GK)) (tab : Nat → Option DM) : Prop where
  hf : C.fld = fldC
  hx : C.K.x = none ∧ C.cx = none
  cf : tr = true → ClsF C.K.f C.ca P
  txt : ∀ k fd, P.fns k = some fd → ∃ dm, tab k = some dm ∧ Txt tr gl dm fd
  fn : ∀ x k, gl.lookup x = some (.fn k) → ∃ fdm dm fa fd, P.fns k = some fdm ∧ tab k = some dm ∧ mg x = some (.ref fa) ∧ Fun C.K.f dm.x dm.x dm.st fa fd ∧ Binds C.K.f fd dm.ps []
  con : ∀ x k, gl.lookup x = some (.con k) → ∃ u v p, mg x = some u ∧ RelV v u ∧ P.con k = some p ∧ ∀ z M H, RV (C.zz z).K M H p v
  cls : ∀ x k, gl.lookup x = some (.cls k) → ∃ a, C.ca k = some a ∧ mg x = some (.ref a) ∧ (fldC k ≠ [] → ∃ (fI : Addr) (fd : FuncData) (ps : List Str), OexC C.K.f a ∧ PySem.W.findIn C.K.f (.ref a) "__init__" = some (some (.ref fI)) ∧ PySem.W.typeIn C.K.f (.ref fI) = some (.type "function") ∧
      FnOk prog w C.K.f mg base (L2.CX prog w) 1 fI fd ps (spI a (fldC k)) ∧ Binds C.K.f fd ps [])
  bi : ∀ x, gl.lookup x = some .bi → mg x = none
section
variable {P : Prog} {prog : Program} {w : World} {mg : Str → Option Value} {C : XC} {base : Heap} {gl : List (Str × GK)} {tab : Nat → Option DM}
theorem start_erel {K : KZ} {M : List Addr} {H : Hp} {N : List Str} {vs : List V} {args : List PV} {np nl : Nat} (hx : K.x = none) (r : RVs K M H args vs) (ha : args.length = np) (hl : nl = N.length) (hle : np ≤ nl) : ERel K M H (L2.start N vs) (args.map some ++ List.replicate (nl - np) none) := by
  have hv := r.len
  unfold L2.start
  refine ⟨by simp; omega, fun i p e => ?_, fun q hq => by rw [hx] at hq; cases hq⟩
  by_cases hi : i < args.length
  · rw [List.getElem?_append_left (by simpa using hi), List.getElem?_map] at e
    rw [List.getElem?_append_left (by simp; omega), List.getElem?_map]
    cases q : args[i]? with
    | none => rw [q] at e; cases e
    | some p' =>
      rw [q] at e
      cases e
      obtain ⟨v, ev, rv⟩ := r.get q
      exact ⟨v, by rw [ev]; rfl, rv⟩
  · rw [List.getElem?_append_right (by simpa using hi), List.getElem?_replicate] at e
    split at e <;> cases e
theorem body_sound {X : Cx} {S : Sc} {F : Fn} {W : WX} (c : Cok X S P F C W) (hh : S.hot = false) (po : PassesOwn (model X.prog X.w) X.A X.env X.xe) (hfn : FnX X) {b : MSs} {l : List Stmt} (hb : toB b l = l) (h : wfB S b l = true) : PSs X l (RdS C W (exs P F none b)) := by
  have plain : wfSs S b l = true → toSs b l = l → PSs X l (RdS C W (exs P F none b)) := fun h e => by
    have := ss_sound b c po hfn l h
    rw [e, (c.hx hh).2] at this
    exact this
  unfold toB wfB at *
  split at hb
  · rename_i x k p q r
    have e : toSs b r = r := by injection hb
    have h2 := ss_sound b c po hfn r h
    rw [e, (c.hx hh).2] at h2
    exact pss_weak (pss_cons ps_doc h2) fun D σ H q => q
  · rename_i hn
    split at h
    · rename_i x k p q r
      exact absurd rfl (hn x k p q r)
    · exact plain h hb
theorem fns_ok {tr : Bool} (T : Top tr P prog w mg C base gl tab) : ∀ (n k : Nat) (dm : DM) (fdm : FnD) (fa : Addr) (fd : FuncData), P.fns k = some fdm → tab k = some dm → Fun C.K.f dm.x dm.x dm.st fa fd →
    FnOk prog w C.K.f mg base (L2.CX prog w) (n + 3) fa fd dm.ps (spF C (callN P n k))
  | 0, k, dm, fdm, fa, fd, hp, ht, F => by
    obtain ⟨dm', ht', tx⟩ := T.txt k fdm hp
    rw [ht] at ht'
    cases ht'
    refine F.okX tx.sc (fun vs H Q E h => ?_) (fun cdv A outer s H vs Q E hr h => ?_)
    · obtain ⟨_, _, _, _, _, _, o⟩ := h
      exact o.elim
    · obtain ⟨_, _, _, _, _, _, o⟩ := h
      exact o.elim
  | n + 1, k, dm, fdm, fa, fd, hp, ht, F => by
    obtain ⟨dm', ht', tx⟩ := T.txt k fdm hp
    rw [ht] at ht'
    cases ht'
    have hc : ∀ args h, callN P (n + 1) k args h = runFn P (callN P n) fdm args h := fun args h => by rw [callN]; dsimp only; rw [hp]
    have hlen : ∀ {z : List Addr} {M : List Addr} {H : Hp} {h : MHp} {args : List PV} {E : XK} {Q : VK}, Out (C.zz z) E Q M H (callN P (n + 1) k args h) → args.length = fdm.np := fun {z M H h args E Q} o => by
      rw [hc] at o
      unfold runFn at o
      split at o
      · rename_i e; exact e
      · exact o.elim
    refine F.okX tx.sc (fun vs H Q E h => ?_) (fun cdv A outer s H vs Q E hr h => ?_)
    · obtain ⟨z, M, h, args, _, rv, o⟩ := h
      rw [rv.len, hlen o, tx.np]
    · obtain ⟨z, M, h, args, hr0, rv, o⟩ := h
      have la := hlen o
      have room : Room (n + 3) (A.deeper (envOfC dm.x (defScope dm.st) s.heap.objs.size fa cdv)) := hr
      have cok : ∀ z, Cok (cxOf (L2.CX prog w) prog w C.K.f mg base dm.N dm.x (defScope dm.st) fa cdv A outer s H E) ⟨dm.N, defScope dm.st, gl, false, tr, 0⟩ P (callN P n) (C.zz z) (fun cls d _ H => E cls d H) := fun z => {
        hK := rfl
        hN := rfl
        nd := tx.sc.nd
        hsc := rfl
        calm := fun _ => rfl
        hun := by
          have := room.un
          show (A.deeper _).units + 70 < cLine
          omega
        glb := fun x g e => by
          cases g with
          | con k => exact T.con x k e
          | bi => exact T.bi x e
          | cls k =>
            obtain ⟨a, h1, h2, hx⟩ := T.cls x k e
            refine ⟨a, h1, h2, fun _ hne => ?_⟩
            obtain ⟨fI, fd, ps, h3, h4, h5, h6, h7⟩ := hx (by rw [← T.hf]; exact hne)
            refine ⟨1, fI, fd, ps, h3, h4, h5, ?_, room.mono (by omega), h7⟩
            show FnOk prog w C.K.f mg base (L2.CX prog w) 1 fI fd ps (spI a (C.fld k))
            rw [T.hf]
            exact h6
          | fn k =>
            intro _
            obtain ⟨fdm', dm', fa', fd', h1, h2, h3, h4, h5⟩ := T.fn x k e
            exact ⟨n + 3, fa', fd', dm'.ps, h3, h4.kp, h5, fns_ok T n k dm' fdm' fa' fd' h1 h2 h4, room⟩
        tk := takes_of rfl rfl rfl rfl
        hf := T.hf
        xq := Or.inl ⟨rfl, T.hx⟩
        cf := T.cf }
      have hle : fdm.np ≤ fdm.nl := by
        rw [tx.np, tx.nl]
        have := congrArg List.length tx.sc.pre
        rw [List.length_take] at this
        omega
      rw [hc] at o
      unfold runFn at o
      rw [if_pos la] at o
      split at o
      · rename_i hn
        obtain ⟨_, hn⟩ := and2 hn
        refine ⟨_, body_sound (cok (z ++ M)) rfl (passes_of rfl) ⟨fun _ => rfl, rfl, rfl⟩ tx.bd tx.wf, ?_⟩
        refine ⟨[], [], args.map some ++ List.replicate (fdm.nl - fdm.np) none, hid_hrel hr0, start_erel T.hx.1 (RVs.inn hn rv) la tx.nl hle, ?_⟩
        cases e : exs P (callN P n) none fdm.body (args.map some ++ List.replicate (fdm.nl - fdm.np) none) [] with
        | nx env h' =>
          rw [e] at o
          exact fun σ' H' M' x hr' er' => leaveT_ok hr0 o .non H' M' x hr' (by rw [RV])
        | rt p h' =>
          rw [e] at o
          exact fun v H' M' x hr' rv' => leaveT_ok hr0 o v H' M' x hr' rv'
        | ex y env h' =>
          rw [e] at o
          exact fun cls d σ' H' M' x hr' er' xr => leaveTX_ok hr0 o cls d H' M' x hr' xr
        | bk _ _ => rw [e] at o; exact o.elim
        | ct _ _ => rw [e] at o; exact o.elim
        | stuck => rw [e] at o; exact o.elim
      · refine ⟨_, body_sound (cok z) rfl (passes_of rfl) ⟨fun _ => rfl, rfl, rfl⟩ tx.bd tx.wf, ?_⟩
        refine ⟨M, h, args.map some ++ List.replicate (fdm.nl - fdm.np) none, hr0, start_erel T.hx.1 rv la tx.nl hle, ?_⟩
        cases e : exs P (callN P n) none fdm.body (args.map some ++ List.replicate (fdm.nl - fdm.np) none) h with
        | nx env h' =>
          rw [e] at o
          exact fun σ' H' M' x hr' er' => leave_ok hr0 o .non H' M' x hr' rv_n
        | rt p h' =>
          rw [e] at o
          exact fun v H' M' x hr' rv' => leave_ok hr0 o v H' M' x hr' rv'
        | ex y env h' =>
          rw [e] at o
          exact fun cls d σ' H' M' x hr' er' xr => leaveX_ok hr0 o cls d H' M' x hr' xr
        | bk _ _ => rw [e] at o; exact o.elim
        | ct _ _ => rw [e] at o; exact o.elim
        | stuck => rw [e] at o; exact o.elim
end
end Qm

/-! S17: the law's head. -/
namespace Qm
open PySem PySem.Spec PyProof.Rows L2
def fnsL (l : List (Nat × FnD × DM)) (k : Nat) : Option FnD := (l.lookup k).map (·.1)
def tabL (l : List (Nat × FnD × DM)) (k : Nat) : Option DM := (l.lookup k).map (·.2)
def AllTxt (tr : Bool) (gl : List (Str × GK)) : List (Nat × FnD × DM) → Prop
  | [] => True
  | e :: r => Txt tr gl e.2.2 e.2.1 ∧ AllTxt tr gl r
theorem AllTxt.get {tr : Bool} {gl : List (Str × GK)} : ∀ {l : List (Nat × FnD × DM)} {k : Nat} {p : FnD × DM}, AllTxt tr gl l → l.lookup k = some p → Txt tr gl p.2 p.1
  | [], k, p, _, e => by simp [List.lookup] at e
  | x :: r, k, p, h, e => by
    obtain ⟨j, q⟩ := x
    rw [List.lookup] at e
    split at e
    · cases e; exact h.1
    · exact AllTxt.get h.2 e
def GQ (P : Prog) (prog : Program) (w : World) (mg : Str → Option Value) (C : XC) (base : Heap) (tab : Nat → Option DM) (x : Str) : GK → Prop
  | .fn k => ∃ fdm dm fa fd, P.fns k = some fdm ∧ tab k = some dm ∧ mg x = some (.ref fa) ∧ Fun C.K.f dm.x dm.x dm.st fa fd ∧ Binds C.K.f fd dm.ps []
  | .con k => ∃ u v p, mg x = some u ∧ RelV v u ∧ P.con k = some p ∧ ∀ z M H, RV (C.zz z).K M H p v
  | .cls k => ∃ a, C.ca k = some a ∧ mg x = some (.ref a) ∧ (fldC k ≠ [] → ∃ (fI : Addr) (fd : FuncData) (ps : List Str), OexC C.K.f a ∧ PySem.W.findIn C.K.f (.ref a) "__init__" = some (some (.ref fI)) ∧ PySem.W.typeIn C.K.f (.ref fI) = some (.type "function") ∧
      FnOk prog w C.K.f mg base (L2.CX prog w) 1 fI fd ps (spI a (fldC k)) ∧ Binds C.K.f fd ps [])
  | .bi => mg x = none
def AllG (Q : Str → GK → Prop) : List (Str × GK) → Prop
  | [] => True
  | e :: r => Q e.1 e.2 ∧ AllG Q r
theorem AllG.get {Q : Str → GK → Prop} : ∀ {l : List (Str × GK)} {x : Str} {g : GK}, AllG Q l → l.lookup x = some g → Q x g
  | [], x, g, _, e => by simp [List.lookup] at e
  | (y, q) :: r, x, g, h, e => by
    rw [List.lookup] at e
    split at e
    · rename_i c
      cases e
      have : x = y := by simpa using c
      rw [this]
      exact h.1
    · exact AllG.get h.2 e
theorem top_mk {tr : Bool} {P : Prog} {prog : Program} {w : World} {mg : Str → Option Value} {C : XC} {base : Heap} {gl : List (Str × GK)} {tb : List (Nat × FnD × DM)} (hP : P.fns = fnsL tb) (ht : AllTxt tr gl tb) (hg : AllG (GQ P prog w mg C base (tabL tb)) gl) (cf : tr = true → ClsF C.K.f C.ca P) (hf : C.fld = fldC := by rfl) (hx : C.K.x = none ∧ C.cx = none := by exact ⟨rfl, rfl⟩) : Top tr P prog w mg C base gl (tabL tb) where
  hf := hf
  hx := hx
  cf := cf
  txt := fun k fd e => by
    rw [hP] at e
    obtain ⟨p, ep, rfl⟩ := Option.map_eq_some_iff.mp e
    exact ⟨p.2, by unfold tabL; rw [ep]; rfl, ht.get ep⟩
  fn := fun x k e => hg.get e
  con := fun x k e => hg.get e
  cls := fun x k e => hg.get e
  bi := fun x e => hg.get e
/-- from the order of the classes -/
theorem kit_ref {K : PySem.W.Frag} {C D : Addr} {b : Bool} (h : PySem.W.subIn K (.ref C) (.ref D) = some b) (hs : PySem.W.subIn K (.ref C) (.ref C) = some true) (hd : PySem.W.hasDictIn K D = true) (ty : PySem.W.typeIn K (.ref D) = some (.type "type")) : PySem.W.kitOne K (.ref C) (.ref D) = some b := by
  obtain ⟨cd, hc, _⟩ := PySem.W.any_some hd
  have e2 : ((PySem.W.clsIn K D).isSome && PySem.W.typeIn K (.ref D) == some (.type "type")) = true := by rw [hc, ty]; rfl
  unfold PySem.W.kitOne
  by_cases e : C = D
  · subst e
    rw [h] at hs
    rw [hs, if_pos (by simp)]
  · rw [if_neg (by simpa using e)]
    show (if _ = true then _ else _) = _
    rw [if_pos e2, h]
theorem kit_ty' {K : PySem.W.Frag} {C : Addr} {T : String} {b : Bool} (h : PySem.W.subIn K (.ref C) (.type T) = some b) (hm : PySem.W.kitMeta T = true) : PySem.W.kitOne K (.ref C) (.type T) = some b := by
  unfold PySem.W.kitOne
  rw [if_neg (by simp)]
  show (if _ = true then _ else _) = _
  rw [if_pos hm, h]
/-- of the classes by their numbers -/
def AllP (Q : Nat → Addr → Prop) : List (Nat × Addr) → Prop
  | [] => True
  | e :: r => Q e.1 e.2 ∧ AllP Q r
theorem lookAll {Q : Nat → Addr → Prop} : ∀ {l : List (Nat × Addr)}, AllP Q l → ∀ k a, l.lookup k = some a → Q k a
  | [], _, k, a, e => by simp [List.lookup] at e
  | (j, b) :: r, h, k, a, e => by
    rw [List.lookup] at e
    split at e
    · rename_i c
      cases e
      have : k = j := by simpa using c
      rw [this]
      exact h.1
    · exact lookAll h.2 k a e
theorem lookAll2 {Q : Nat → Addr → Nat → Addr → Prop} {l : List (Nat × Addr)} (h : AllP (fun k a => AllP (Q k a) l) l) : ∀ k a k2 a2, l.lookup k = some a → l.lookup k2 = some a2 → Q k a k2 a2 :=
  fun k a k2 a2 e e2 => lookAll (lookAll h k a e) k2 a2 e2
theorem room_top {n : Nat} (h : n ≤ 60) : Room (n + 3) callerA := by
  have r : Room 63 callerA := ⟨rfl, by decide, by decide⟩
  exact r.mono (by omega)
/-- what the law is asked -/
def spLaw (K : PySem.W.Frag) (f : List PV → MHp → Res PV) : Sp := fun vs H Q _ => ∃ a ns, vs = [.ref a] ∧ ns.length ≤ 1000 ∧ SqL K H a (ns.map V.int) ∧ (∃ h, f [.scr ns] [] = .ok (.bl true) h) ∧ ∀ H', Q (.bl true) H'
theorem FnOk.weak {P : Program} {w : World} {K : PySem.W.Frag} {mg : Str → Option Value} {base : Heap} {CX : CXT} {k : Nat} {f : Addr} {fd : FuncData} {ps : List Str} {sp sp' : Sp} (F : FnOk P w K mg base CX k f fd ps sp) (h : ∀ vs H Q E, sp' vs H Q E → sp vs H Q E) : FnOk P w K mg base CX k f fd ps sp' :=
  ⟨fun vs H Q E q => F.len vs H Q E (h _ _ _ _ q), fun A outer s H args us vs Q E hr e0 hb r q => F.run A outer s H args us vs Q E hr e0 hb r (h _ _ _ _ q)⟩
theorem law_weak {K : PySem.W.Frag} {ca : Nat → Option Addr} {f : List PV → MHp → Res PV} (vs : List V) (H : Hp) (Q : VK) (E : XK) (h : spLaw K f vs H Q E) : spF ⟨⟨K, [], none⟩, ca, fldC, none⟩ f vs H Q E := by
  obtain ⟨a, ns, rfl, hl, hS, ⟨h, e⟩, q⟩ := h
  refine ⟨[], [], [], [.scr ns], ⟨rfl, List.nodup_nil, fun a ha => (nomatch (show a ∈ ([] : List Addr) from ha)), fun n a o e => (by simp at e)⟩, .one ?_, ?_⟩
  · rw [RV]
    refine ⟨a, rfl, hl, ?_⟩
    rcases hS with hS | hS
    · exact .inl ⟨⟨by simp, by show a ∉ ([] : List Addr); simp⟩, hS⟩
    · exact .inr hS
  · rw [e]
    intro v H' M' _ _ rv
    have := rv_bl (C := ⟨⟨K, [], none⟩, ca, fldC, none⟩) rv
    rw [this]
    exact q _
theorem law_sp {f : List PV → MHp → Res PV} {H : Hp} {a : Addr} {ns : List Int} {K : PySem.W.Frag} {E : XK} (hd : ∃ h, f [.scr ns] [] = .ok (.bl true) h) (hl : ns.length ≤ 1000) (hS : SqL K H a (ns.map V.int)) : spLaw K f [.ref a] H (fun v _ => v = .bl true) E := ⟨a, ns, rfl, hl, hS, hd, fun _ => rfl⟩
/-! ### __init__ of an own exception -/
theorem init1_ok {prog : Program} {w : World} {K : PySem.W.Frag} {mg : Str → Option Value} {base : Heap} {a fI : Addr} {f x qual : Str} {st : Stmt} {oc kV doc pm cdv ct : Value} {od an : Option Addr} {osl : Array (Option Value)} {p1 p2 p3 p4 : Pos}
    (T : OexC K a) (hno : PySem.W.findIn K (.ref a) f = some none) (lk : K.lookup fI = some ⟨oc, od, .func (PySem.W.fnOf "__init__" qual (defArgs st) (defBody st) (defScope st) .none kV doc pm an cdv ct), osl⟩) (hcd : PySem.W.codeIn K cdv qual = true)
    (S : FnScope ["self", x] ["self", x] (defScope st)) (hx : (defScope st).names.lookup x = some NameKind.local ∧ (defScope st).names.lookup ("self" : Str) = some NameKind.local) (hd : (x == ("__debug__" : Str)) = false ∧ (x == ("__classdict__" : Str)) = false) (hb : defBody st = [.Assign [.Attribute (.Name "self" p1) f p2] (.Name x p3) p4]) :
    FnOk prog w K mg base (L2.CX prog w) 1 fI (PySem.W.fnOf "__init__" qual (defArgs st) (defBody st) (defScope st) .none kV doc pm an cdv ct) ["self", x] (spI a [f]) := by
  refine fn_of lk hcd S (fun vs H Q E h => h.1) fun A outer s H vs Q E hr h => ?_
  obtain ⟨hl, s', ws, rfl, hs, k⟩ := h
  match ws, hl with
  | [v], _ =>
    refine ⟨tOst K f (tVar 0) (tVar 1), ?_, v, rfl, .ref s', rfl, s', a, rfl, T, hno, .inl ⟨hs, fun dx hdx ne => ?_⟩⟩
    · rw [hb]
      exact pss_one (ps_ost (pe_var (i := 0) rfl (.inl hx.2)) (pe_var (i := 1) rfl (.inl hx.1) hd.1 hd.2) (by rfl))
    · refine k dx hdx ne [(f, v)] fun i v' n ei en => ?_
      cases i with
      | zero =>
        simp at ei en
        subst ei en
        simp [List.lookup]
      | succ i => simp at ei
  | [], hl => simp at hl
  | _ :: _ :: _, hl => simp at hl
theorem cx_never {prog : Program} {w : World} {outer : List PySem.Env} {H : Hp} {s : Shared} {e : Value} {s' : Shared} (h : L2.CX prog w outer H s (fun _ _ _ => False) e s') : False := by
  obtain ⟨_, _, _, _, _, _, _, _, _, _, _, _, z⟩ := h
  exact z
theorem rv_strc {C : XC} {z : List Addr} {M : List Addr} {H : Hp} {s : Str} (h : s.length ≤ 1000) : RV (C.zz z).K M H (.str s) (.str s) := by
  rw [RV, sizeLine_eq]
  exact ⟨rfl, by omega⟩
/-- a constant tuple of texts -/
theorem rv_tupc {C : XC} {z : List Addr} {M : List Addr} {H : Hp} {a : Addr} {dd : Option Addr} {its : Array Value} {n : Nat} {sl : Array (Option Value)} (x : Str) (xs : List Str)
    (h : C.K.f.lookup a = some ⟨.type "tuple", dd, .seq its n, sl⟩) (hv : Vals ((x :: xs).map V.str) its.toList) (hx : ∀ s ∈ x :: xs, s.length ≤ 1000) (hl : xs.length ≤ 1000) : RV (C.zz z).K M H (.tup ((x :: xs).map PV.str)) (.ref a) := by
  have hsz : its.size = xs.length + 1 := by
    have := hv.length
    simp at this
    omega
  rw [RV]
  refine ⟨a, (x :: xs).map V.str, rfl, .inr ⟨_, its, n, h, rfl, rfl, by rw [hsz, sizeLine_eq]; omega, hv, x, rfl⟩, ?_⟩
  have : ∀ l : List Str, (∀ s ∈ l, s.length ≤ 1000) → RVs (C.zz z).K M H (l.map PV.str) (l.map V.str) := by
    intro l
    induction l with
    | nil => intro _; exact .nil
    | cons y l ih => intro hy; exact .cons (rv_strc (hy y List.mem_cons_self)) (ih fun s hs => hy s (List.mem_cons_of_mem _ hs))
  exact this _ hx
end Qm

/-! M0: the laws' stream. -/
namespace Qm
def fdStream : FnD := ⟨1, 1, true,
  (.cons (.ret (.lst true (.cons (.bil .list false (.cons (.var 0) .nil)) (.cons (.cst (.int 0)) (.cons (.cst (.int 0)) .nil))))) .nil)⟩
def fdNext : FnD := ⟨2, 5, false,
  (.cons (.ite (.cmp .eq (.ix (.var 0) (.cst (.int 1))) (.cst (.int 0))) (.cons (.asg (.nm 2) (.ix (.var 0) (.cst (.int 2)))) (.cons (.asg (.nm 3) (.bin .add (.cst (.int 7)) (.var 2))) (.cons (.ite (.cmp .lt (.var 2) (.bif .len (.cons (.ix (.var 0) (.cst (.int 0))) .nil))) (.cons (.asg (.nm 3) (.bif .abs (.cons (.ix (.ix (.var 0) (.cst (.int 0))) (.var 2)) .nil))) .nil) .nil) (.cons (.ite (.cmp .lt (.var 3) (.bin .pow (.cst (.int 10)) (.cst (.int 18)))) (.cons (.asg (.nm 3) (.bin .mod (.bif .int (.cons (.bin .add (.bin .add (.bin .mul (.var 3) (.cst (.int 48271))) (.bin .mul (.var 2) (.cst (.int 69621)))) (.cst (.int 11))) .nil)) (.cst (.int 2147483647)))) (.cons (.asg (.nm 3) (.bin .add (.bin .mul (.bin .mod (.bif .int (.cons (.bin .add (.bin .mul (.var 3) (.cst (.int 16807))) (.cst (.int 13))) .nil)) (.cst (.int 2147483647))) (.cst (.int 65537))) (.var 3))) .nil)) .nil) (.cons (.stx (.var 0) (.cst (.int 1)) (.var 3)) (.cons (.stx (.var 0) (.cst (.int 2)) (.bin .add (.var 2) (.cst (.int 1)))) .nil)))))) .nil) (.cons (.asg (.nm 4) (.bin .mod (.bif .int (.cons (.ix (.var 0) (.cst (.int 1))) .nil)) (.var 1))) (.cons (.stx (.var 0) (.cst (.int 1)) (.bin .fdv (.ix (.var 0) (.cst (.int 1))) (.var 1))) (.cons (.ret (.var 4)) .nil))))⟩
def strO (ns : List Int) (c k : Int) : MO := .lst [.lst (ns.map .int), .int c, .int k]
/-- the stream's own state -/
def St (o : MO) : Prop := ∃ ns c k, o = strO ns c k ∧ 0 ≤ c ∧ 0 ≤ k
theorem nors_ints : ∀ ns : List Int, nors (ns.map .int) = true
  | [] => rfl
  | n :: ns => by rw [List.map_cons, nors, nor, nors_ints ns]; rfl
theorem st_nor {o : MO} (s : St o) : norO o = true := by
  obtain ⟨ns, c, k, rfl, _, _⟩ := s
  simp [strO, norO, nors, nor, nors_ints]
theorem stream_ok (P : Prog) (F : Fn) (ns : List Int) : runFn P F fdStream [.scr ns] [] = .ok (.ref 0) [strO ns 0 0] := rfl
section
variable {P : Prog} {F : Fn}
@[simp] theorem eq_int (i j : Int) (h : MHp) : cop .eq (.int i) (.int j) h = some (decide (i = j)) := by
  simp only [cop, dataOf, eqD, flatD, dep, peq]
  simp
  rfl
theorem ix_st {h : MHp} {a b c : PV} (e : h[0]? = some (.lst [a, b, c])) : index (.ref 0) (.int 0) h = some a ∧ index (.ref 0) (.int 1) h = some b ∧ index (.ref 0) (.int 2) h = some c := by
  refine ⟨?_, ?_, ?_⟩ <;> simp [index, indexR, itemsT, e, indexI, atI, ixN]
theorem stx_st {h : MHp} {a b c v : PV} (e : h[0]? = some (.lst [a, b, c])) : storeIx (.ref 0) (.int 1) v h = some (h.set 0 (.lst [a, v, c])) ∧ storeIx (.ref 0) (.int 2) v h = some (h.set 0 (.lst [a, b, v])) := by
  refine ⟨?_, ?_⟩ <;> simp [storeIx, e, ixN]
/-- the first half: a new cell -/
def cellOf (ns : List Int) (k : Int) : Int :=
  let c := if k < ns.length then (if (ns.getD k.toNat 0) < 0 then -(ns.getD k.toNat 0) else ns.getD k.toNat 0) else 7 + k
  if c < 10 ^ 18 then
    let d := (c * 48271 + k * 69621 + 11) % 2147483647
    ((d * 16807 + 13) % 2147483647) * 65537 + d
  else c
theorem cellOf_nn {ns : List Int} {k : Int} (hk : 0 ≤ k) : 0 ≤ cellOf ns k := by
  have h1 : ∀ a : Int, 0 ≤ a % 2147483647 := fun a => Int.emod_nonneg _ (by decide)
  unfold cellOf
  dsimp only
  generalize hc : (if k < (ns.length : Int) then (if (ns.getD k.toNat 0) < 0 then -(ns.getD k.toNat 0) else ns.getD k.toNat 0) else 7 + k) = c
  have hc0 : 0 ≤ c := by
    rw [← hc]
    split
    · split <;> omega
    · omega
  by_cases h : c < 10 ^ 18
  · rw [if_pos h]
    exact Int.add_nonneg (Int.mul_nonneg (h1 _) (Int.le_of_lt (by decide))) (h1 _)
  · rw [if_neg h]
    exact hc0
theorem cgt_i (i j : Int) (h : MHp) : cop .lt (.int i) (.int j) h = some (decide (i < j)) := rfl
theorem next_tail {h : MHp} {l : PV} {c k m : Int} {e2 e3 e4 : Option PV} (e : h[0]? = some (.lst [l, .int c, .int k])) (hm : 0 < m) (hm2 : m < 1073741824) :
    exs P F none (.cons (.asg (.nm 4) (.bin .mod (.bif .int (.cons (.ix (.var 0) (.cst (.int 1))) .nil)) (.var 1))) (.cons (.stx (.var 0) (.cst (.int 1)) (.bin .fdv (.ix (.var 0) (.cst (.int 1))) (.var 1))) (.cons (.ret (.var 4)) .nil)))
      [some (.ref 0), some (.int m), e2, e3, e4] h = .rt (.int (c % m)) (h.set 0 (.lst [l, .int (c / m), .int k])) := by
  obtain ⟨i0, i1, i2⟩ := ix_st e
  obtain ⟨s1, s2⟩ := stx_st (v := .int (c / m)) e
  simp [exs, ex, ev, evs, ofResV, i1, biS, bi1, intP, bop, bopI, hm, hm2, asgT, s1]
theorem next_head {h : MHp} {ns : List Int} {k m : Int} {e2 e3 e4 : Option PV} (e : h[0]? = some (strO ns 0 k)) (hk : 0 ≤ k) :
    ∃ c v2 v3, exs P F none (.cons (.asg (.nm 2) (.ix (.var 0) (.cst (.int 2)))) (.cons (.asg (.nm 3) (.bin .add (.cst (.int 7)) (.var 2))) (.cons (.ite (.cmp .lt (.var 2) (.bif .len (.cons (.ix (.var 0) (.cst (.int 0))) .nil))) (.cons (.asg (.nm 3) (.bif .abs (.cons (.ix (.ix (.var 0) (.cst (.int 0))) (.var 2)) .nil))) .nil) .nil) (.cons (.ite (.cmp .lt (.var 3) (.bin .pow (.cst (.int 10)) (.cst (.int 18)))) (.cons (.asg (.nm 3) (.bin .mod (.bif .int (.cons (.bin .add (.bin .add (.bin .mul (.var 3) (.cst (.int 48271))) (.bin .mul (.var 2) (.cst (.int 69621)))) (.cst (.int 11))) .nil)) (.cst (.int 2147483647)))) (.cons (.asg (.nm 3) (.bin .add (.bin .mul (.bin .mod (.bif .int (.cons (.bin .add (.bin .mul (.var 3) (.cst (.int 16807))) (.cst (.int 13))) .nil)) (.cst (.int 2147483647))) (.cst (.int 65537))) (.var 3))) .nil)) .nil) (.cons (.stx (.var 0) (.cst (.int 1)) (.var 3)) (.cons (.stx (.var 0) (.cst (.int 2)) (.bin .add (.var 2) (.cst (.int 1)))) .nil))))))
      [some (.ref 0), some (.int m), e2, e3, e4] h = .nx [some (.ref 0), some (.int m), v2, v3, e4] (h.set 0 (.lst [.lst (ns.map .int), .int c, .int (k + 1)])) ∧ 0 ≤ c := by
  obtain ⟨i0, i1, i2⟩ := ix_st e
  have hs : ∀ v, storeIx (.ref 0) (.int 1) v h = some (h.set 0 (.lst [.lst (ns.map .int), v, .int k])) := fun v => (stx_st e).1
  have hl0 : 0 < h.length := (List.getElem?_eq_some_iff.mp e).1
  have hs2 : ∀ v, (h.set 0 (.lst [.lst (ns.map .int), v, .int k]))[0]? = some (.lst [.lst (ns.map .int), v, .int k]) := fun v => by simp [hl0]
  have hs3 : ∀ v u, storeIx (.ref 0) (.int 2) u (h.set 0 (.lst [.lst (ns.map .int), v, .int k])) = some (h.set 0 (.lst [.lst (ns.map .int), v, u])) := fun v u => by
    rw [(stx_st (hs2 v)).2]
    simp
  have hat : k < (ns.length : Int) → index (.lst (ns.map .int)) (.int k) h = some (.int (ns.getD k.toNat 0)) := fun hlt => by
    have hn : k.toNat < ns.length := by omega
    simp [index, indexR, itemsT, indexI, atI, ixN, hk, hlt, hn, List.getD]
  have tail : ∀ c : Int, 0 ≤ c → ∃ c' v2 v3, exs P F none (.cons (.ite (.cmp .lt (.var 3) (.bin .pow (.cst (.int 10)) (.cst (.int 18)))) (.cons (.asg (.nm 3) (.bin .mod (.bif .int (.cons (.bin .add (.bin .add (.bin .mul (.var 3) (.cst (.int 48271))) (.bin .mul (.var 2) (.cst (.int 69621)))) (.cst (.int 11))) .nil)) (.cst (.int 2147483647)))) (.cons (.asg (.nm 3) (.bin .add (.bin .mul (.bin .mod (.bif .int (.cons (.bin .add (.bin .mul (.var 3) (.cst (.int 16807))) (.cst (.int 13))) .nil)) (.cst (.int 2147483647))) (.cst (.int 65537))) (.var 3))) .nil)) .nil) (.cons (.stx (.var 0) (.cst (.int 1)) (.var 3)) (.cons (.stx (.var 0) (.cst (.int 2)) (.bin .add (.var 2) (.cst (.int 1)))) .nil)))
      [some (.ref 0), some (.int m), some (.int k), some (.int c), e4] h = .nx [some (.ref 0), some (.int m), v2, v3, e4] (h.set 0 (.lst [.lst (ns.map .int), .int c', .int (k + 1)])) ∧ 0 ≤ c' := fun c hc => by
    have hp : bop .pow (.int 10) (.int 18) h = some (.int (10 ^ 18)) := rfl
    have h1 : ∀ a : Int, 0 ≤ a % 2147483647 := fun a => Int.emod_nonneg _ (by decide)
    have sm : ∀ i : Int, bop .mul (.int i) (.int 48271) h = some (.int (i * 48271)) ∧ bop .mul (.int i) (.int 69621) h = some (.int (i * 69621)) ∧ bop .mul (.int i) (.int 16807) h = some (.int (i * 16807)) ∧ bop .mul (.int i) (.int 65537) h = some (.int (i * 65537)) := fun i => ⟨rfl, rfl, rfl, rfl⟩
    have ad : ∀ i j : Int, bop .add (.int i) (.int j) h = some (.int (i + j)) := fun i j => rfl
    have md : ∀ i : Int, bop .mod (.int i) (.int 2147483647) h = some (.int (i % 2147483647)) := fun i => rfl
    have ad2 : ∀ (i j : Int) (h : MHp), bop .add (.int i) (.int j) h = some (.int (i + j)) := fun i j h => rfl
    by_cases hlt : c < 10 ^ 18
    · refine ⟨(((((c * 48271 + k * 69621 + 11) % 2147483647) * 16807 + 13) % 2147483647) * 65537 + ((c * 48271 + k * 69621 + 11) % 2147483647)), some (.int k), some (.int (((((c * 48271 + k * 69621 + 11) % 2147483647) * 16807 + 13) % 2147483647) * 65537 + ((c * 48271 + k * 69621 + 11) % 2147483647))), ?_, ?_⟩
      · simp only [exs, ex, ev, evs, ofResV, Res.bind_ok, List.getElem?_cons_succ, List.getElem?_cons_zero, hp, cgt_i, ofOpt_some, truth, decide_eq_true hlt, biS, bi1, intP, sm, ad, md, asgT, List.set, hs, hs3, ad2]
      · exact Int.add_nonneg (Int.mul_nonneg (h1 _) (Int.le_of_lt (by decide))) (h1 _)
    · refine ⟨c, some (.int k), some (.int c), ?_, ?_⟩
      · simp only [exs, ex, ev, evs, ofResV, Res.bind_ok, List.getElem?_cons_succ, List.getElem?_cons_zero, hp, cgt_i, ofOpt_some, truth, decide_eq_false hlt, biS, bi1, intP, sm, ad, md, asgT, List.set, hs, hs3, ad2]
      · exact hc
  have ad : ∀ i j : Int, bop .add (.int i) (.int j) h = some (.int (i + j)) := fun i j => rfl
  have ln : lenP (.lst (ns.map .int)) h = some (.int ns.length) := by simp [lenP, lenR, itemsT]
  by_cases hlt : k < (ns.length : Int)
  · obtain ⟨c', v2, v3, e1, e2⟩ := tail (if (ns.getD k.toNat 0) < 0 then -(ns.getD k.toNat 0) else ns.getD k.toNat 0) (by split <;> omega)
    refine ⟨c', v2, v3, ?_, e2⟩
    rw [← e1]
    simp only [exs, ex, ev, evs, ofResV, Res.bind_ok, List.getElem?_cons_succ, List.getElem?_cons_zero, i0, i1, i2, cgt_i, ofOpt_some, truth, decide_eq_true hlt, biS, bi1, absP, ad, asgT, List.set, ln, hat hlt]
  · obtain ⟨c', v2, v3, e1, e2⟩ := tail (7 + k) (by omega)
    refine ⟨c', v2, v3, ?_, e2⟩
    rw [← e1]
    simp only [exs, ex, ev, evs, ofResV, Res.bind_ok, List.getElem?_cons_succ, List.getElem?_cons_zero, i0, i1, i2, cgt_i, ofOpt_some, truth, decide_eq_false hlt, biS, bi1, absP, ad, asgT, List.set, ln]
theorem keep_refl : ∀ h : MHp, keepOk h h = true
  | [] => rfl
  | o :: r => by rw [keepOk, decide_eq_true rfl, keep_refl r]; rfl
theorem keep_set : ∀ (h : MHp) (n : Nat) (o : MO), norO o = true → keepOk h (h.set n o) = true
  | [], _, _, _ => rfl
  | a :: r, 0, o, s => by rw [List.set_cons_zero, keepOk, s, Bool.or_true, keep_refl r]; rfl
  | a :: r, n + 1, o, s => by rw [List.set_cons_succ, keepOk, decide_eq_true rfl, keep_set r n o s]; rfl
theorem next_ok {h : MHp} {o : MO} {m : Int} (e : h[0]? = some o) (s : St o) (hm : 0 < m) (hm2 : m < 1073741824) : ∃ d o', St o' ∧ 0 ≤ d ∧ d < m ∧ runFn P F fdNext [.ref 0, .int m] h = .ok (.int d) (h.set 0 o') := by
  obtain ⟨ns, c, k, rfl, hc, hk⟩ := s
  have hl0 : 0 < h.length := (List.getElem?_eq_some_iff.mp e).1
  have fin : ∀ (c k : Int) (e2 e3 e4 : Option PV), 0 ≤ c → 0 ≤ k → exs P F none fdNext.body [some (.ref 0), some (.int m), none, none, none] h = exs P F none (.cons (.asg (.nm 4) (.bin .mod (.bif .int (.cons (.ix (.var 0) (.cst (.int 1))) .nil)) (.var 1))) (.cons (.stx (.var 0) (.cst (.int 1)) (.bin .fdv (.ix (.var 0) (.cst (.int 1))) (.var 1))) (.cons (.ret (.var 4)) .nil)))
      [some (.ref 0), some (.int m), e2, e3, e4] (h.set 0 (.lst [.lst (ns.map .int), .int c, .int k])) → ∃ d o', St o' ∧ 0 ≤ d ∧ d < m ∧ runFn P F fdNext [.ref 0, .int m] h = .ok (.int d) (h.set 0 o') := fun c k e2 e3 e4 hc hk ee => by
    have e1 : (h.set 0 (.lst [.lst (ns.map .int), .int c, .int k]))[0]? = some (.lst [.lst (ns.map .int), .int c, .int k]) := by simp [hl0]
    rw [next_tail e1 hm hm2] at ee
    have st : St (strO ns (c / m) k) := ⟨ns, c / m, k, rfl, Int.ediv_nonneg hc (Int.le_of_lt hm), hk⟩
    refine ⟨c % m, strO ns (c / m) k, st, Int.emod_nonneg _ (by omega), Int.emod_lt_of_pos _ hm, ?_⟩
    unfold runFn
    rw [if_pos (show ([PV.ref 0, PV.int m] : List PV).length = fdNext.np from rfl)]
    rw [if_neg (show ¬ ((!fdNext.raw && nors [PV.ref 0, PV.int m]) = true) from by simp [fdNext, nors, nor])]
    show (match exs P F none fdNext.body [some (.ref 0), some (.int m), none, none, none] h with
      | .nx _ h' => leave false h h' .non
      | .rt v h' => leave false h h' v
      | .ex x _ h' => leaveX false h h' x
      | _ => .stuck) = _
    rw [ee]
    dsimp only
    unfold leave
    rw [if_neg (by decide)]
    have hs : (h.set 0 (.lst [.lst (ns.map .int), .int c, .int k])).set 0 (.lst [.lst (ns.map .int), .int (c / m), .int k]) = h.set 0 (strO ns (c / m) k) := by simp [strO]
    rw [hs, if_pos (keep_set h 0 _ (st_nor st))]
    show ofOpt (some (PV.int (c % m))) _ = _
    rw [show ((h.set 0 (strO ns (c / m) k)).take h.length) = h.set 0 (strO ns (c / m) k) from List.take_of_length_le (by simp)]
    rfl
  obtain ⟨i0, i1, i2⟩ := ix_st (show h[0]? = some (.lst [.lst (ns.map .int), .int c, .int k]) from e)
  by_cases h0 : c = 0
  · subst h0
    obtain ⟨c', v2, v3, e1, e2⟩ := next_head (P := P) (F := F) (m := m) (e2 := none) (e3 := none) (e4 := none) e hk
    refine fin c' (k + 1) v2 v3 none e2 (by omega) ?_
    unfold fdNext
    rw [exs, ex]
    simp only [ev, ofResV, Res.bind_ok, List.getElem?_cons_zero, i1, ofOpt_some, eq_int, decide_true, truth]
    rw [e1]
  · refine fin c k none none none hc hk ?_
    unfold fdNext
    rw [exs, ex]
    simp only [ev, ofResV, Res.bind_ok, List.getElem?_cons_zero, i1, ofOpt_some, eq_int, decide_eq_false h0, truth]
    rw [exs]
    have : h.set 0 (.lst [.lst (ns.map .int), .int c, .int k]) = h := by
      have := List.set_getElem_self (as := h) (i := 0) hl0
      have e' := (List.getElem?_eq_some_iff.mp e).2
      unfold strO at e'
      rw [e'] at this
      exact this
    rw [this]
end
end Qm

/-! M1: loops and calls in plain terms. -/
namespace Qm
/-- a comprehension whose test and value change nothing -/
theorem loopC_pure {fe : Env → MHp → Res PV} {ft : Env → MHp → Res Bool} {tg : MT} {src : List (Nat × MO)} {h : MHp} {σ : Env} (hs : srcOk src h = true) (t : PV → Bool) (f : PV → PV) : ∀ {items : List PV},
    (∀ x ∈ items, ∃ σ', asgT tg x σ = some σ' ∧ ft σ' h = .ok (t x) h ∧ (t x = true → fe σ' h = .ok (f x) h)) → loopC fe ft tg src items σ h = .ok ((items.filter t).map f) h
  | [], _ => by rw [loopC, if_pos hs]; rfl
  | x :: xs, hx => by
    obtain ⟨σ', e1, e2, e3⟩ := hx x List.mem_cons_self
    have ih := loopC_pure hs t f (items := xs) fun y hy => hx y (List.mem_cons_of_mem _ hy)
    rw [loopC, if_pos hs, e1]
    dsimp only
    rw [e2, Res.bind_ok]
    cases ht : t x with
    | true => simp [e3 ht, ih, ht]
    | false => simp [ih, ht]
theorem loopC_map {fe : Env → MHp → Res PV} {tg : MT} {src : List (Nat × MO)} {h : MHp} {σ : Env} (hs : srcOk src h = true) (f : PV → PV) {items : List PV}
    (hx : ∀ x ∈ items, ∃ σ', asgT tg x σ = some σ' ∧ fe σ' h = .ok (f x) h) : loopC fe (fun _ h => .ok true h) tg src items σ h = .ok (items.map f) h := by
  have := loopC_pure (fe := fe) (ft := fun _ h => .ok true h) (tg := tg) (σ := σ) hs (fun _ => true) f (items := items) fun x hx' => by
    obtain ⟨σ', e1, e2⟩ := hx x hx'
    exact ⟨σ', e1, rfl, fun _ => e2⟩
  rw [this, List.filter_eq_self.mpr (fun _ _ => rfl)]
/-- a for whose body goes on: by an invariant over places -/
theorem loopF_inv {fb : Env → MHp → SRes} {tg : MT} {src : List (Nat × MO)} {items : List PV} (Iv : Nat → Env → MHp → Prop) (hs : ∀ i σ h, i ≤ items.length → Iv i σ h → srcOk src h = true)
    (step : ∀ i x σ h, items[i]? = some x → Iv i σ h → ∃ σ', asgT tg x σ = some σ' ∧ ∃ σ1 h1, (fb σ' h = .nx σ1 h1 ∨ fb σ' h = .ct σ1 h1) ∧ Iv (i + 1) σ1 h1) : ∀ {k i : Nat} {σ : Env} {h : MHp}, items.length - i = k → i ≤ items.length → Iv i σ h →
    ∃ σ1 h1, loopF fb tg src (items.drop i) σ h = .nx σ1 h1 ∧ Iv items.length σ1 h1
  | 0, i, σ, h, hk, hi, iv => by
    have e : i = items.length := by omega
    subst e
    refine ⟨σ, h, ?_, iv⟩
    rw [List.drop_length, loopF, if_pos (hs _ _ _ (Nat.le_refl _) iv)]
  | k + 1, i, σ, h, hk, hi, iv => by
    have hlt : i < items.length := by omega
    obtain ⟨σ', e1, σ1, h1, e2, iv1⟩ := step i _ σ h (List.getElem?_eq_getElem hlt) iv
    obtain ⟨σ2, h2, e3, iv2⟩ := loopF_inv Iv hs step (k := k) (i := i + 1) (by omega) hlt iv1
    refine ⟨σ2, h2, ?_, iv2⟩
    rw [List.drop_eq_getElem_cons hlt, loopF, if_pos (hs _ _ _ hi iv), e1]
    dsimp only
    rcases e2 with e2 | e2 <;> rw [e2] <;> exact e3
/-- a call with trees alone -/
theorem run_tree {P : Prog} {F : Fn} {fd : FnD} {args : List PV} {h h' : MHp} {v w : PV} (hr : fd.raw = false) (hl : args.length = fd.np) (hn : nors args = true) (e : exs P F none fd.body (args.map some ++ List.replicate (fd.nl - fd.np) none) [] = .rt v h') (hv : frz 0 h' v = some w) :
    runFn P F fd args h = .ok w h := by
  unfold runFn
  rw [if_pos hl, if_pos (by rw [hr, hn]; rfl), e]
  show ofOpt (frz 0 h' v) h = _
  rw [hv]
  rfl
mutual
theorem frzT_id {g : Nat → Option PV} : ∀ {x : PV}, nor x = true → frzT g x = some x
  | .non, _ => rfl
  | .bl _, _ => rfl
  | .int _, _ => rfl
  | .str _, _ => rfl
  | .tup xs, h => by rw [nor] at h; rw [frzT, frzTs_id h]; rfl
  | .lst xs, h => by rw [nor] at h; rw [frzT, frzTs_id h]; rfl
  | .dic t ks vs, h => by
    rw [nor, Bool.and_eq_true] at h
    rw [frzT, frzTs_id h.1, frzTs_id h.2]
  | .scr _, h => by rw [nor] at h; cases h
  | .ref _, h => by rw [nor] at h; cases h
theorem frzTs_id {g : Nat → Option PV} : ∀ {x : List PV}, nors x = true → frzTs g x = some x
  | [], _ => rfl
  | x :: xs, h => by
    rw [nors, Bool.and_eq_true] at h
    rw [frzTs, frzT_id h.1, frzTs_id h.2]
end
end Qm

/-! V0: typed values; the rules by which a def's walk is read off its text. -/
namespace Qm
open PySem (Str)
/-! ### typed values -/
abbrev eI : Int → PV := PV.int
abbrev eB : Bool → PV := PV.bl
/-- a tree -/
structure NV where
  v : PV
  n : nor v = true
def eA (x : NV) : PV := x.v
structure SV where
  s : Str
  ok : s.cps.all (· < 0x110000) = true
  deriving DecidableEq
def eS (x : SV) : PV := .str x.s
def eN (_ : Unit) : PV := .non
def eT {α : Type} (e : α → PV) (l : List α) : PV := .tup (l.map e)
def eL {α : Type} (e : α → PV) (l : List α) : PV := .lst (l.map e)
def eO {α : Type} (e : α → PV) : Option α → PV
  | none => .non
  | some a => e a
def eP1 {α : Type} (e : α → PV) (p : α) : PV := .tup [e p]
def eP2 {α β : Type} (e : α → PV) (f : β → PV) (p : α × β) : PV := .tup [e p.1, f p.2]
def eP3 {α β γ : Type} (e : α → PV) (f : β → PV) (g : γ → PV) (p : α × β × γ) : PV := .tup [e p.1, f p.2.1, g p.2.2]
def eP4 {α β γ δ : Type} (e : α → PV) (f : β → PV) (g : γ → PV) (k : δ → PV) (p : α × β × γ × δ) : PV := .tup [e p.1, f p.2.1, g p.2.2.1, k p.2.2.2]
def eD {α β : Type} (t : Bool) (e : α → PV) (f : β → PV) (l : List (α × β)) : PV := .dic t (l.map fun p => e p.1) (l.map fun p => f p.2)
class Nr {α : Type} (e : α → PV) : Prop where
  nor : ∀ a, nor (e a) = true
theorem nors_map {α : Type} {e : α → PV} [Nr e] : ∀ l : List α, nors (l.map e) = true
  | [] => rfl
  | x :: r => by rw [List.map_cons, nors, Nr.nor, nors_map r]; rfl
theorem nors_mapf {α : Type} {f : α → PV} (h : ∀ a, nor (f a) = true) : ∀ l : List α, nors (l.map f) = true
  | [] => rfl
  | x :: r => by rw [List.map_cons, nors, h, nors_mapf h r]; rfl
instance : Nr eI := ⟨fun _ => rfl⟩
instance : Nr eB := ⟨fun _ => rfl⟩
instance : Nr eA := ⟨fun x => x.n⟩
instance : Nr eS := ⟨fun _ => rfl⟩
instance : Nr eN := ⟨fun _ => rfl⟩
instance {α : Type} {e : α → PV} [Nr e] : Nr (eT e) := ⟨fun l => by rw [eT, nor]; exact nors_map l⟩
instance {α : Type} {e : α → PV} [Nr e] : Nr (eL e) := ⟨fun l => by rw [eL, nor]; exact nors_map l⟩
instance {α : Type} {e : α → PV} [Nr e] : Nr (eO e) := ⟨fun o => by cases o with | none => rfl | some a => exact Nr.nor a⟩
instance {α : Type} {e : α → PV} [Nr e] : Nr (eP1 e) := ⟨fun p => by rw [eP1, nor, nors, Nr.nor]; rfl⟩
instance {α β : Type} {e : α → PV} {f : β → PV} [Nr e] [Nr f] : Nr (eP2 e f) := ⟨fun p => by rw [eP2, nor, nors, nors, Nr.nor, Nr.nor]; rfl⟩
instance {α β γ : Type} {e : α → PV} {f : β → PV} {g : γ → PV} [Nr e] [Nr f] [Nr g] : Nr (eP3 e f g) := ⟨fun p => by rw [eP3, nor, nors, nors, nors, Nr.nor, Nr.nor, Nr.nor]; rfl⟩
instance {α β γ δ : Type} {e : α → PV} {f : β → PV} {g : γ → PV} {k : δ → PV} [Nr e] [Nr f] [Nr g] [Nr k] : Nr (eP4 e f g k) := ⟨fun p => by rw [eP4, nor, nors, nors, nors, nors, Nr.nor, Nr.nor, Nr.nor, Nr.nor]; rfl⟩
instance {α β : Type} {t : Bool} {e : α → PV} {f : β → PV} [Nr e] [Nr f] : Nr (eD t e f) := ⟨fun l => by rw [eD, nor, nors_mapf (fun a => Nr.nor _), nors_mapf (fun a => Nr.nor _)]; rfl⟩
def toA {α : Type} (e : α → PV) [Nr e] (a : α) : NV := ⟨e a, Nr.nor a⟩
@[simp] theorem eA_toA {α : Type} (e : α → PV) [Nr e] (a : α) : eA (toA e a) = e a := rfl
/-- data, of a depth -/
class Fl {α : Type} (e : α → PV) (d : outParam Nat) : Prop where
  dp : ∀ a, ∃ k, dep (e a) = some k ∧ k ≤ d
instance : Fl eI 0 := ⟨fun _ => ⟨0, rfl, Nat.le_refl _⟩⟩
instance : Fl eB 0 := ⟨fun _ => ⟨0, rfl, Nat.le_refl _⟩⟩
instance : Fl eN 0 := ⟨fun _ => ⟨0, rfl, Nat.le_refl _⟩⟩
instance : Fl eS 0 := ⟨fun x => ⟨0, by rw [eS, dep, if_pos x.ok], Nat.le_refl _⟩⟩
theorem deps_map {α : Type} {e : α → PV} {d : Nat} [Fl e d] : ∀ l : List α, ∃ k, deps (l.map e) = some k ∧ k ≤ d
  | [] => ⟨0, rfl, Nat.zero_le _⟩
  | x :: r => by
    obtain ⟨k, e1, h1⟩ := Fl.dp (e := e) x
    obtain ⟨j, e2, h2⟩ := deps_map (e := e) r
    exact ⟨max k j, by rw [List.map_cons, deps, e1, e2], Nat.max_le.mpr ⟨h1, h2⟩⟩
instance {α : Type} {e : α → PV} {d : Nat} [Fl e d] : Fl (eT e) (d + 1) := ⟨fun l => by
  obtain ⟨k, e1, h1⟩ := deps_map (e := e) l
  exact ⟨k + 1, by rw [eT, dep, e1]; rfl, Nat.succ_le_succ h1⟩⟩
instance {α : Type} {e : α → PV} {d : Nat} [Fl e d] : Fl (eL e) (d + 1) := ⟨fun l => by
  obtain ⟨k, e1, h1⟩ := deps_map (e := e) l
  exact ⟨k + 1, by rw [eL, dep, e1]; rfl, Nat.succ_le_succ h1⟩⟩
instance {α : Type} {e : α → PV} {d : Nat} [Fl e d] : Fl (eO e) d := ⟨fun o => by
  cases o with
  | none => exact ⟨0, rfl, Nat.zero_le _⟩
  | some a => exact Fl.dp (e := e) a⟩
instance {α : Type} {e : α → PV} {a : Nat} [Fl e a] : Fl (eP1 e) (a + 1) := ⟨fun p => by
  obtain ⟨k, e1, h1⟩ := Fl.dp (e := e) p
  exact ⟨max k 0 + 1, by rw [eP1, dep, deps, e1, deps]; rfl, by omega⟩⟩
instance {α β : Type} {e : α → PV} {f : β → PV} {a b : Nat} [Fl e a] [Fl f b] : Fl (eP2 e f) (max a b + 1) := ⟨fun p => by
  obtain ⟨k, e1, h1⟩ := Fl.dp (e := e) p.1
  obtain ⟨j, e2, h2⟩ := Fl.dp (e := f) p.2
  exact ⟨max k (max j 0) + 1, by rw [eP2, dep, deps, e1, deps, e2, deps]; rfl, by omega⟩⟩
instance {α β γ : Type} {e : α → PV} {f : β → PV} {g : γ → PV} {a b c : Nat} [Fl e a] [Fl f b] [Fl g c] : Fl (eP3 e f g) (max a (max b c) + 1) := ⟨fun p => by
  obtain ⟨k, e1, h1⟩ := Fl.dp (e := e) p.1
  obtain ⟨j, e2, h2⟩ := Fl.dp (e := f) p.2.1
  obtain ⟨i, e3, h3⟩ := Fl.dp (e := g) p.2.2
  exact ⟨max k (max j (max i 0)) + 1, by rw [eP3, dep, deps, e1, deps, e2, deps, e3, deps]; rfl, by omega⟩⟩
instance {α β γ δ : Type} {e : α → PV} {f : β → PV} {g : γ → PV} {q : δ → PV} {a b c d : Nat} [Fl e a] [Fl f b] [Fl g c] [Fl q d] : Fl (eP4 e f g q) (max a (max b (max c d)) + 1) := ⟨fun p => by
  obtain ⟨k, e1, h1⟩ := Fl.dp (e := e) p.1
  obtain ⟨j, e2, h2⟩ := Fl.dp (e := f) p.2.1
  obtain ⟨i, e3, h3⟩ := Fl.dp (e := g) p.2.2.1
  obtain ⟨l, e4, h4⟩ := Fl.dp (e := q) p.2.2.2
  exact ⟨max k (max j (max i (max l 0))) + 1, by rw [eP4, dep, deps, e1, deps, e2, deps, e3, deps, e4, deps]; rfl, by omega⟩⟩
theorem fl_flat {α : Type} {e : α → PV} {d : Nat} [Fl e d] (hd : d ≤ 60) (a : α) : flatD (e a) = true := by
  obtain ⟨k, e1, h1⟩ := Fl.dp (e := e) a
  unfold flatD
  rw [e1]
  exact decide_eq_true (Nat.le_trans h1 hd)
theorem fl_all {α : Type} {e : α → PV} {d : Nat} [Fl e d] (hd : d ≤ 60) (l : List α) : (l.map e).all flatD = true := by
  rw [List.all_map, List.all_eq_true]
  exact fun a _ => fl_flat hd a
/-- equal as Python sees it: equal -/
class Ke {α : Type} [DecidableEq α] (e : α → PV) : Prop where
  eq : ∀ a b, peq (e a) (e b) = decide (a = b)
class Nn {α : Type} (e : α → PV) : Prop where
  l : ∀ a, peq .non (e a) = false
  r : ∀ a, peq (e a) .non = false
theorem str_beq' {a b : Str} : (a == b) = decide (a = b) := by
  by_cases h : a = b
  · subst h; simp
  · simp [h]
instance : Ke eI := ⟨fun a b => by show (a == b) = _; by_cases h : a = b <;> simp [h]⟩
instance : Ke eB := ⟨fun a b => by show (a == b) = _; by_cases h : a = b <;> simp [h]⟩
instance : Ke eN := ⟨fun a b => rfl⟩
instance : Ke eS := ⟨fun a b => by
  rw [eS, eS, peq, str_beq']
  by_cases h : a = b
  · subst h; simp
  · have : a.s ≠ b.s := fun z => h (by cases a; cases b; simp at z; simp [z])
    simp [h, this]⟩
theorem peqs_map {α : Type} [DecidableEq α] {e : α → PV} [Ke e] : ∀ a b : List α, peqs (a.map e) (b.map e) = decide (a = b)
  | [], [] => rfl
  | [], _ :: _ => rfl
  | _ :: _, [] => rfl
  | x :: xs, y :: ys => by
    rw [List.map_cons, List.map_cons, peqs, Ke.eq, peqs_map xs ys]
    by_cases h1 : x = y <;> by_cases h2 : xs = ys <;> simp [h1, h2]
instance {α : Type} [DecidableEq α] {e : α → PV} [Ke e] : Ke (eT e) := ⟨fun a b => by rw [eT, eT, peq, peqs_map]⟩
instance {α : Type} [DecidableEq α] {e : α → PV} [Ke e] : Ke (eL e) := ⟨fun a b => by rw [eL, eL, peq, peqs_map]⟩
instance : Nn eI := ⟨fun _ => rfl, fun _ => rfl⟩
instance : Nn eB := ⟨fun _ => rfl, fun _ => rfl⟩
instance : Nn eS := ⟨fun _ => rfl, fun _ => rfl⟩
instance {α : Type} {e : α → PV} : Nn (eT e) := ⟨fun _ => rfl, fun _ => rfl⟩
instance {α : Type} {e : α → PV} : Nn (eL e) := ⟨fun _ => rfl, fun _ => rfl⟩
instance {α : Type} {e : α → PV} : Nn (eP1 e) := ⟨fun _ => rfl, fun _ => rfl⟩
instance {α β : Type} {e : α → PV} {f : β → PV} : Nn (eP2 e f) := ⟨fun _ => rfl, fun _ => rfl⟩
instance {α β γ : Type} {e : α → PV} {f : β → PV} {g : γ → PV} : Nn (eP3 e f g) := ⟨fun _ => rfl, fun _ => rfl⟩
instance {α β γ δ : Type} {e : α → PV} {f : β → PV} {g : γ → PV} {q : δ → PV} : Nn (eP4 e f g q) := ⟨fun _ => rfl, fun _ => rfl⟩
instance {α : Type} [DecidableEq α] {e : α → PV} [Ke e] [Nn e] : Ke (eO e) := ⟨fun a b => by
  cases a <;> cases b <;> simp [eO, Nn.l, Nn.r, Ke.eq] <;> rfl⟩
instance {α : Type} [DecidableEq α] {e : α → PV} [Ke e] : Ke (eP1 e) := ⟨fun a b => by
  simp [eP1, peq, peqs, Ke.eq]⟩
instance {α β : Type} [DecidableEq α] [DecidableEq β] {e : α → PV} {f : β → PV} [Ke e] [Ke f] : Ke (eP2 e f) := ⟨fun a b => by
  obtain ⟨a1, a2⟩ := a; obtain ⟨b1, b2⟩ := b
  simp only [eP2, peq, peqs, Ke.eq]
  by_cases h1 : a1 = b1 <;> by_cases h2 : a2 = b2 <;> simp [h1, h2]⟩
instance {α β γ : Type} [DecidableEq α] [DecidableEq β] [DecidableEq γ] {e : α → PV} {f : β → PV} {g : γ → PV} [Ke e] [Ke f] [Ke g] : Ke (eP3 e f g) := ⟨fun a b => by
  obtain ⟨a1, a2, a3⟩ := a; obtain ⟨b1, b2, b3⟩ := b
  simp only [eP3, peq, peqs, Ke.eq]
  by_cases h1 : a1 = b1 <;> by_cases h2 : a2 = b2 <;> by_cases h3 : a3 = b3 <;> simp [h1, h2, h3]⟩
instance {α β γ δ : Type} [DecidableEq α] [DecidableEq β] [DecidableEq γ] [DecidableEq δ] {e : α → PV} {f : β → PV} {g : γ → PV} {q : δ → PV} [Ke e] [Ke f] [Ke g] [Ke q] : Ke (eP4 e f g q) := ⟨fun a b => by
  obtain ⟨a1, a2, a3, a4⟩ := a; obtain ⟨b1, b2, b3, b4⟩ := b
  simp only [eP4, peq, peqs, Ke.eq]
  by_cases h1 : a1 = b1 <;> by_cases h2 : a2 = b2 <;> by_cases h3 : a3 = b3 <;> by_cases h4 : a4 = b4 <;> simp [h1, h2, h3, h4]⟩
/-! ### the program -/
class HasF (P : Prog) (k : Nat) (fd : outParam FnD) : Prop where
  e : P.fns k = some fd
class HasC (P : Prog) (k : Nat) (v : outParam PV) : Prop where
  e : P.con k = some v
/-! ### the stream -/
structure Sm where
  ns : List Int
  c : Int
  k : Int
  hc : 0 ≤ c
  hk : 0 ≤ k
def eM (s : Sm) : MO := strO s.ns s.c s.k
/-! ### expressions -/
section
variable {P : Prog} {F : Fn} {cx : Option MX} {σ : Env} {h h1 h2 h3 h4 : MHp}
def evB (P : Prog) (F : Fn) (cx : Option MX) (e : ME) (σ : Env) (h : MHp) : Res Bool := (ev P F cx e σ h).bind fun x h1 => ofOpt (truth x h1) h1
def evBA (P : Prog) (F : Fn) (cx : Option MX) (e : MEs) (σ : Env) (h : MHp) : Res Bool := (evAnd P F cx e σ h).bind fun x h1 => ofOpt (truth x h1) h1
def evBO (P : Prog) (F : Fn) (cx : Option MX) (e : MEs) (σ : Env) (h : MHp) : Res Bool := (evOr P F cx e σ h).bind fun x h1 => ofOpt (truth x h1) h1
theorem ev_var {i : Nat} {v : PV} (e : σ[i]? = some (some v)) : ev P F cx (.var i) σ h = .ok v h := by rw [ev, e]
theorem ev_cst {v : PV} : ev P F cx (.cst v) σ h = .ok v h := by rw [ev]
theorem ev_glb {k : Nat} {v : PV} [c : HasC P k v] : ev P F cx (.glb k) σ h = .ok v h := by rw [ev, c.e]; rfl
theorem ev_bin {o : BO} {a b : ME} {x y z : PV} (ha : ev P F cx a σ h = .ok x h1) (hb : ev P F cx b σ h1 = .ok y h2) (hz : bop o x y h2 = some z) : ev P F cx (.bin o a b) σ h = .ok z h2 := by
  rw [ev, ha, Res.bind_ok, hb, Res.bind_ok, hz]; rfl
theorem ev_bnm {o : BO} {a b : ME} {x y : PV} {zs : List PV} (ha : ev P F cx a σ h = .ok x h1) (hb : ev P F cx b σ h1 = .ok y h2) (hz : bopL o x y h2 = some zs) : ev P F cx (.bnm o a b) σ h = .ok (.ref h2.length) (h2 ++ [.lst zs]) := by
  rw [ev, ha, Res.bind_ok, hb, Res.bind_ok, hz]; rfl
theorem ev_neg {a : ME} {i : Int} (ha : ev P F cx a σ h = .ok (eI i) h1) : ev P F cx (.neg a) σ h = .ok (eI (-i)) h1 := by
  rw [ev, ha]; rfl
theorem ev_not {a : ME} {c : Bool} (ha : evB P F cx a σ h = .ok c h1) : ev P F cx (.not a) σ h = .ok (eB (!c)) h1 := by
  rw [ev]
  unfold evB at ha
  cases e : ev P F cx a σ h with
  | ok x h5 =>
    rw [e, Res.bind_ok] at ha
    rw [Res.bind_ok]
    cases et : truth x h5 with
    | none => rw [et] at ha; cases ha
    | some b => rw [et] at ha; cases ha; rfl
  | exn _ _ => rw [e] at ha; cases ha
  | stuck => rw [e] at ha; cases ha
theorem evB_of {a : ME} {c : Bool} (ha : ev P F cx a σ h = .ok (eB c) h1) : evB P F cx a σ h = .ok c h1 := by
  unfold evB; rw [ha]; rfl
theorem evB_v {a : ME} {x : PV} {c : Bool} (ha : ev P F cx a σ h = .ok x h1) (ht : truth x h1 = some c) : evB P F cx a σ h = .ok c h1 := by
  unfold evB; rw [ha, Res.bind_ok, ht]; rfl
theorem evB_not {a : ME} {c : Bool} (ha : evB P F cx a σ h = .ok c h1) : evB P F cx (.not a) σ h = .ok (!c) h1 := evB_of (ev_not ha)
theorem ev_cmp {o : CO} {a b : ME} {x y : PV} {k : Bool} (ha : ev P F cx a σ h = .ok x h1) (hb : ev P F cx b σ h1 = .ok y h2) (hk : cop o x y h2 = some k) : ev P F cx (.cmp o a b) σ h = .ok (eB k) h2 := by
  rw [ev, ha, Res.bind_ok, hb, Res.bind_ok, hk]; rfl
theorem ev_chn {o p : CO} {a b c : ME} {x y z : PV} {k j : Bool} (ha : ev P F cx a σ h = .ok x h1) (hb : ev P F cx b σ h1 = .ok y h2) (hk : cop o x y h2 = some k) (hc : k = true → ev P F cx c σ h2 = .ok z h2 ∧ cop p y z h2 = some j) : ev P F cx (.chn o p a b c) σ h = .ok (eB (k && j)) h2 := by
  rw [ev, ha, Res.bind_ok, hb, Res.bind_ok, hk, ofOpt_some, Res.bind_ok]
  cases k with
  | false => rfl
  | true =>
    obtain ⟨e1, e2⟩ := hc rfl
    rw [if_pos rfl, e1, Res.bind_ok, e2]; rfl
theorem evB_and {es : MEs} {r : Res Bool} (e : evBA P F cx es σ h = r) : evB P F cx (.and es) σ h = r := by unfold evB; rw [ev]; exact e
theorem evB_or {es : MEs} {r : Res Bool} (e : evBO P F cx es σ h = r) : evB P F cx (.or es) σ h = r := by unfold evB; rw [ev]; exact e
theorem evBA_one {a : ME} {c : Bool} (ha : evB P F cx a σ h = .ok c h1) : evBA P F cx (.cons a .nil) σ h = .ok c h1 := by
  unfold evBA; rw [evAnd, bind_id']; exact ha
where bind_id' {α : Type} {r : Res α} : (r.bind fun x h => .ok x h) = r := by cases r <;> rfl
theorem evBO_one {a : ME} {c : Bool} (ha : evB P F cx a σ h = .ok c h1) : evBO P F cx (.cons a .nil) σ h = .ok c h1 := by
  unfold evBO; rw [evOr, evBA_one.bind_id']; exact ha
theorem evB_inv {a : ME} {c : Bool} (ha : evB P F cx a σ h = .ok c h1) : ∃ x, ev P F cx a σ h = .ok x h1 ∧ truth x h1 = some c := by
  unfold evB at ha
  cases e : ev P F cx a σ h with
  | ok x h5 =>
    rw [e, Res.bind_ok] at ha
    cases et : truth x h5 with
    | none => rw [et] at ha; cases ha
    | some b => rw [et] at ha; cases ha; exact ⟨x, rfl, et⟩
  | exn _ _ => rw [e] at ha; cases ha
  | stuck => rw [e] at ha; cases ha
theorem evBA_cons {a b : ME} {r : MEs} {c k : Bool} (ha : evB P F cx a σ h = .ok c h1) (hb : c = true → evBA P F cx (.cons b r) σ h1 = .ok k h1) : evBA P F cx (.cons a (.cons b r)) σ h = .ok (c && k) h1 := by
  obtain ⟨x, e1, e2⟩ := evB_inv ha
  unfold evBA
  rw [evAnd, e1, Res.bind_ok]
  dsimp only
  rw [e2, ofOpt_some, Res.bind_ok]
  cases c with
  | false => rw [if_neg (by decide), Res.bind_ok, e2]; rfl
  | true => rw [if_pos rfl]; exact hb rfl
theorem evBO_cons {a b : ME} {r : MEs} {c k : Bool} (ha : evB P F cx a σ h = .ok c h1) (hb : c = false → evBO P F cx (.cons b r) σ h1 = .ok k h1) : evBO P F cx (.cons a (.cons b r)) σ h = .ok (c || k) h1 := by
  obtain ⟨x, e1, e2⟩ := evB_inv ha
  unfold evBO
  rw [evOr, e1, Res.bind_ok]
  dsimp only
  rw [e2, ofOpt_some, Res.bind_ok]
  cases c with
  | true => rw [if_pos rfl, Res.bind_ok, e2]; rfl
  | false => rw [if_neg (by decide)]; exact hb rfl
/-- a test with draws behind the first part -/
theorem evBA_consE {a b : ME} {r : MEs} {c : Bool} {B : Sm → MHp} {s : Sm} {y : Bool × Sm} (ha : evB P F cx a σ h = .ok c (B s)) (hb : c = true → evBA P F cx (.cons b r) σ (B s) = .ok y.1 (B y.2)) : evBA P F cx (.cons a (.cons b r)) σ h = .ok (if c = true then y else (false, s)).1 (B (if c = true then y else (false, s)).2) := by
  obtain ⟨x, e1, e2⟩ := evB_inv ha
  unfold evBA
  rw [evAnd, e1, Res.bind_ok]
  dsimp only
  rw [e2, ofOpt_some, Res.bind_ok]
  cases c with
  | false => rw [if_neg (by decide), if_neg (by decide), Res.bind_ok, e2]; rfl
  | true => rw [if_pos rfl, if_pos rfl]; exact hb rfl
theorem evBO_consE {a b : ME} {r : MEs} {c : Bool} {B : Sm → MHp} {s : Sm} {y : Bool × Sm} (ha : evB P F cx a σ h = .ok c (B s)) (hb : c = false → evBO P F cx (.cons b r) σ (B s) = .ok y.1 (B y.2)) : evBO P F cx (.cons a (.cons b r)) σ h = .ok (if c = true then (true, s) else y).1 (B (if c = true then (true, s) else y).2) := by
  obtain ⟨x, e1, e2⟩ := evB_inv ha
  unfold evBO
  rw [evOr, e1, Res.bind_ok]
  dsimp only
  rw [e2, ofOpt_some, Res.bind_ok]
  cases c with
  | true => rw [if_pos rfl, if_pos rfl, Res.bind_ok, e2]; rfl
  | false => rw [if_neg (by decide), if_neg (by decide)]; exact hb rfl
/-- and, or as values: bools -/
theorem ev_and {es : MEs} {r : Res PV} (e : evAnd P F cx es σ h = r) : ev P F cx (.and es) σ h = r := by rw [ev]; exact e
theorem ev_or {es : MEs} {r : Res PV} (e : evOr P F cx es σ h = r) : ev P F cx (.or es) σ h = r := by rw [ev]; exact e
theorem evA_one {a : ME} {r : Res PV} (ha : ev P F cx a σ h = r) : evAnd P F cx (.cons a .nil) σ h = r := by rw [evAnd, evBA_one.bind_id']; exact ha
theorem evO_one {a : ME} {r : Res PV} (ha : ev P F cx a σ h = r) : evOr P F cx (.cons a .nil) σ h = r := by rw [evOr, evBA_one.bind_id']; exact ha
theorem evA_cons {a b : ME} {r : MEs} {c k : Bool} (ha : ev P F cx a σ h = .ok (eB c) h1) (hb : c = true → evAnd P F cx (.cons b r) σ h1 = .ok (eB k) h1) : evAnd P F cx (.cons a (.cons b r)) σ h = .ok (eB (c && k)) h1 := by
  rw [evAnd, ha, Res.bind_ok]
  show (ofOpt (some c) h1).bind _ = _
  rw [ofOpt_some, Res.bind_ok]
  cases c with
  | false => rfl
  | true => rw [if_pos rfl]; exact hb rfl
theorem evO_cons {a b : ME} {r : MEs} {c k : Bool} (ha : ev P F cx a σ h = .ok (eB c) h1) (hb : c = false → evOr P F cx (.cons b r) σ h1 = .ok (eB k) h1) : evOr P F cx (.cons a (.cons b r)) σ h = .ok (eB (c || k)) h1 := by
  rw [evOr, ha, Res.bind_ok]
  show (ofOpt (some c) h1).bind _ = _
  rw [ofOpt_some, Res.bind_ok]
  cases c with
  | true => rfl
  | false => rw [if_neg (by decide)]; exact hb rfl
theorem ev_ife {α : Type} {e : α → PV} {c a b : ME} {k : Bool} {x y : α} (hc : evB P F cx c σ h = .ok k h1) (ha : k = true → ev P F cx a σ h1 = .ok (e x) h1) (hb : k = false → ev P F cx b σ h1 = .ok (e y) h1) : ev P F cx (.ife c a b) σ h = .ok (e (if k = true then x else y)) h1 := by
  obtain ⟨v, e1, e2⟩ := evB_inv hc
  rw [ev, e1, Res.bind_ok, e2, ofOpt_some, Res.bind_ok]
  cases k with
  | true => rw [if_pos rfl, if_pos rfl]; exact ha rfl
  | false => rw [if_neg (by decide), if_neg (by decide)]; exact hb rfl
theorem ev_ifeE {α : Type} {e : α → PV} {B : Sm → MHp} {c a b : ME} {k : Bool} {x y : α × Sm} (hc : evB P F cx c σ h = .ok k h1) (ha : k = true → ev P F cx a σ h1 = .ok (e x.1) (B x.2)) (hb : k = false → ev P F cx b σ h1 = .ok (e y.1) (B y.2)) : ev P F cx (.ife c a b) σ h = .ok (e (if k = true then x else y).1) (B (if k = true then x else y).2) := by
  obtain ⟨v, e1, e2⟩ := evB_inv hc
  rw [ev, e1, Res.bind_ok, e2, ofOpt_some, Res.bind_ok]
  cases k with
  | true => rw [if_pos rfl, if_pos rfl]; exact ha rfl
  | false => rw [if_neg (by decide), if_neg (by decide)]; exact hb rfl
theorem ev_ix {a i : ME} {x y z : PV} (ha : ev P F cx a σ h = .ok x h1) (hi : ev P F cx i σ h1 = .ok y h2) (hz : index x y h2 = some z) : ev P F cx (.ix a i) σ h = .ok z h2 := by
  rw [ev, ha, Res.bind_ok, hi, Res.bind_ok, hz]; rfl
theorem evO_no : evO P F cx .no σ h = .ok none h := by rw [evO]
theorem evO_some {e : ME} {i : Int} (he : ev P F cx e σ h = .ok (eI i) h1) : evO P F cx (.some e) σ h = .ok (some i) h1 := by
  rw [evO, he]; rfl
theorem ev_sl {a : ME} {lo hi : MOp} {x z : PV} {l u : Option Int} (ha : ev P F cx a σ h = .ok x h1) (hl : evO P F cx lo σ h1 = .ok l h2) (hu : evO P F cx hi σ h2 = .ok u h3) (hz : slice x l u h3 = some z) : ev P F cx (.sl a lo hi) σ h = .ok z h3 := by
  rw [ev, ha, Res.bind_ok, hl, Res.bind_ok, hu, Res.bind_ok, hz]; rfl
theorem ev_rev {a : ME} {x z : PV} (ha : ev P F cx a σ h = .ok x h1) (hz : revS x h1 = some z) : ev P F cx (.rev a) σ h = .ok z h1 := by
  rw [ev, ha, Res.bind_ok, hz]; rfl
theorem evs_nil : evs P F cx .nil σ h = .ok [] h := by rw [evs]
theorem evs_cons {e : ME} {r : MEs} {x : PV} {xs : List PV} (he : ev P F cx e σ h = .ok x h1) (hr : evs P F cx r σ h1 = .ok xs h2) : evs P F cx (.cons e r) σ h = .ok (x :: xs) h2 := by
  rw [evs, he, Res.bind_ok, hr]; rfl
theorem ev_tup {es : MEs} {xs : List PV} (he : evs P F cx es σ h = .ok xs h1) (hl : decide (xs.length ≤ big) = true := by rfl) : ev P F cx (.tup es) σ h = .ok (.tup xs) h1 := by
  rw [ev, he, Res.bind_ok, if_pos hl]
theorem ev_lst {es : MEs} {xs : List PV} (he : evs P F cx es σ h = .ok xs h1) (hl : decide (xs.length ≤ big) = true := by rfl) : ev P F cx (.lst false es) σ h = .ok (.lst xs) h1 := by
  rw [ev, he, Res.bind_ok, if_pos hl]; rfl
theorem ev_lstm {es : MEs} {xs : List PV} (he : evs P F cx es σ h = .ok xs h1) (hl : decide (xs.length ≤ big) = true := by rfl) : ev P F cx (.lst true es) σ h = .ok (.ref h1.length) (h1 ++ [.lst xs]) := by
  rw [ev, he, Res.bind_ok, if_pos hl]; rfl
theorem ev_dc0 {t : Bool} : ev P F cx (.dc0 false t) σ h = .ok (.dic t [] []) h := by rw [ev]; rfl
theorem ev_dc0m {t : Bool} : ev P F cx (.dc0 true t) σ h = .ok (.ref h.length) (h ++ [.dic t [] []]) := by rw [ev]; rfl
theorem ev_call {f : Nat} {es : MEs} {xs : List PV} {r : Res PV} (he : evs P F cx es σ h = .ok xs h1) (hF : F f xs h1 = r) : ev P F cx (.call f es) σ h = r := by
  rw [ev, he, Res.bind_ok, hF]
theorem ev_bif {b : Bi} {es : MEs} {xs : List PV} {z : PV} (he : evs P F cx es σ h = .ok xs h1) (hz : biS b xs h1 = some z) : ev P F cx (.bif b es) σ h = .ok z h1 := by
  rw [ev, he, Res.bind_ok, hz]; rfl
theorem ev_bil {b : Bl} {es : MEs} {xs zs : List PV} (he : evs P F cx es σ h = .ok xs h1) (hz : blS b xs h1 = some zs) : ev P F cx (.bil b false es) σ h = .ok (.lst zs) h1 := by
  rw [ev, he, Res.bind_ok, hz]; rfl
theorem ev_bilm {b : Bl} {es : MEs} {xs zs : List PV} (he : evs P F cx es σ h = .ok xs h1) (hz : blS b xs h1 = some zs) : ev P F cx (.bil b true es) σ h = .ok (.ref h1.length) (h1 ++ [.lst zs]) := by
  rw [ev, he, Res.bind_ok, hz]; rfl
theorem ev_lrg {es : MEs} {xs zs : List PV} (he : evs P F cx es σ h = .ok xs h1) (hz : rangeOf xs = some zs) : ev P F cx (.lrg false es) σ h = .ok (.lst zs) h1 := by
  rw [ev, he, Res.bind_ok, hz]; rfl
theorem ev_lrgm {es : MEs} {xs zs : List PV} (he : evs P F cx es σ h = .ok xs h1) (hz : rangeOf xs = some zs) : ev P F cx (.lrg true es) σ h = .ok (.ref h1.length) (h1 ++ [.lst zs]) := by
  rw [ev, he, Res.bind_ok, hz]; rfl
theorem ev_isi {t : Ty} {a : ME} {x : PV} {k : Bool} (ha : ev P F cx a σ h = .ok x h1) (hk : isTy t x h1 = some k) : ev P F cx (.isi t a) σ h = .ok (eB k) h1 := by
  rw [ev, ha, Res.bind_ok, hk]; rfl
theorem ev_mth {m : Mt} {o : ME} {es : MEs} {x v : PV} {xs : List PV} (ho : ev P F cx o σ h = .ok x h1) (hr : rcv m x h1 = true) (he : evs P F cx es σ h1 = .ok xs h2) (hm : mth m x xs h2 = some (v, h3)) : ev P F cx (.mth m o es) σ h = .ok v h3 := by
  rw [ev, ho, Res.bind_ok, if_pos hr, he, Res.bind_ok, hm]
/-! ### what is walked through -/
def rng (i j : Int) : List Int := (List.range (j - i).toNat).map fun (k : Nat) => i + (k : Int)
def RngOk (i j : Int) : Prop := -(2 ^ 62) ≤ i ∧ i < 2 ^ 62 ∧ -(2 ^ 62) ≤ j ∧ j < 2 ^ 62 ∧ (j - i).toNat ≤ 16777216
theorem smallR_of {i : Int} (h1 : -(2 ^ 62) ≤ i) (h2 : i < 2 ^ 62) : smallR i = true := decide_eq_true ⟨h1, h2⟩
theorem range1 {j : Int} (r : RngOk 0 j) : rangeOf [eI j] = some ((rng 0 j).map eI) := by
  obtain ⟨_, _, h3, h4, h5⟩ := r
  show (if smallR j && decide (j.toNat ≤ big) then some (rngI 0 j.toNat) else none) = _
  rw [smallR_of h3 h4, decide_eq_true (show j.toNat ≤ big by simpa using h5)]
  simp [rng, rngI]
theorem range2 {i j : Int} (r : RngOk i j) : rangeOf [eI i, eI j] = some ((rng i j).map eI) := by
  obtain ⟨h1, h2, h3, h4, h5⟩ := r
  show (if smallR i && smallR j && decide ((j - i).toNat ≤ big) then some (rngI i (j - i).toNat) else none) = _
  rw [smallR_of h3 h4, smallR_of h1 h2, decide_eq_true h5]
  simp [rng, rngI]
/-- range with a step -/
def rngC' (i j c : Int) : List Int := (List.range ((j - i + c - 1) / c).toNat).map fun (k : Nat) => i + (k : Int) * c
theorem range3 {i j c : Int} (hc : 0 < c) (hc2 : c < 1000) (r : RngOk i j) : rangeOf [eI i, eI j, eI c] = some ((rngC' i j c).map eI) := by
  obtain ⟨h1, h2, h3, h4, h5⟩ := r
  show (if smallR i && smallR j && decide (0 < c) && decide (c < 1000) && decide ((j - i).toNat ≤ big) then some (rngC i c ((j - i + c - 1) / c).toNat) else _) = _
  rw [smallR_of h3 h4, smallR_of h1 h2, decide_eq_true h5, decide_eq_true hc, decide_eq_true hc2]
  simp [rngC', rngC]
/-- range that goes down by 1 -/
def rngD (i j : Int) : List Int := (List.range (i - j).toNat).map fun (k : Nat) => i - (k : Int)
theorem range3d {i j : Int} (r : RngOk j i) : rangeOf [eI i, eI j, eI (-1)] = some ((rngD i j).map eI) := by
  obtain ⟨h1, h2, h3, h4, h5⟩ := r
  show (if smallR i && smallR j && decide (0 < (-1 : Int)) && decide ((-1 : Int) < 1000) && decide ((j - i).toNat ≤ big) then _ else
    if smallR i && smallR j && decide ((-1 : Int) = -1) && decide ((i - j).toNat ≤ big) then some (rngC i (-1) (i - j).toNat) else none) = _
  rw [smallR_of h3 h4, smallR_of h1 h2, decide_eq_true h5]
  simp [rngD, rngC]
  intro k hk
  omega
theorem evI_seqT {α : Type} {e : α → PV} {a : ME} {xs : List α} (ha : ev P F cx a σ h = .ok (eT e xs) h1) : evI P F cx (.seq a) σ h = .ok ⟨xs.map e, []⟩ h1 := by rw [evI, ha]; rfl
theorem evI_seqL {α : Type} {e : α → PV} {a : ME} {xs : List α} (ha : ev P F cx a σ h = .ok (eL e xs) h1) : evI P F cx (.seq a) σ h = .ok ⟨xs.map e, []⟩ h1 := by rw [evI, ha]; rfl
theorem evI_seqR {α : Type} {e : α → PV} {a : ME} {n : Nat} {xs : List α} (ha : ev P F cx a σ h = .ok (.ref n) h1) (hn : h1[n]? = some (.lst (xs.map e))) : evI P F cx (.seq a) σ h = .ok ⟨xs.map e, [(n, .lst (xs.map e))]⟩ h1 := by
  rw [evI, ha, Res.bind_ok]
  simp only [itemsT, hn]
  rfl
theorem evI_rng {es : MEs} {xs ys : List PV} (he : evs P F cx es σ h = .ok xs h1) (hr : rangeOf xs = some ys) : evI P F cx (.rng es) σ h = .ok ⟨ys, []⟩ h1 := by rw [evI, he, Res.bind_ok, hr]; rfl
/-! ### comprehensions -/
theorem loopC_map' {α β : Type} {e : α → PV} {g : β → PV} {fe : Env → MHp → Res PV} {ft : Env → MHp → Res Bool} {tg : MT} {src : List (Nat × MO)} {h : MHp} {σ : Env} (hs : srcOk src h = true) (p : α → Bool) (f : α → β) : ∀ {xs : List α},
    (∀ x ∈ xs, ∃ σ', asgT tg (e x) σ = some σ' ∧ ft σ' h = .ok (p x) h ∧ (p x = true → fe σ' h = .ok (g (f x)) h)) → loopC fe ft tg src (xs.map e) σ h = .ok (((xs.filter p).map f).map g) h
  | [], _ => by rw [List.map_nil, loopC, if_pos hs]; rfl
  | x :: xs, hx => by
    obtain ⟨σ', e1, e2, e3⟩ := hx x List.mem_cons_self
    have ih := loopC_map' hs p f (xs := xs) fun y hy => hx y (List.mem_cons_of_mem _ hy)
    rw [List.map_cons, loopC, if_pos hs, e1]
    dsimp only
    rw [e2, Res.bind_ok]
    cases ht : p x with
    | true => simp [e3 ht, ih, ht]
    | false => simp [ih, ht]
theorem ev_lc {α β : Type} {e : α → PV} {g : β → PV} {own : List Nat} {elt : ME} {tg : MT} {it : MI} {xs : List α} {src : List (Nat × MO)} {f : α → β}
    (hi : evI P F cx it σ h = .ok ⟨xs.map e, src⟩ h1) (hs : srcOk src h1 = true) (hb : ∀ x ∈ xs, ∃ σ', asgT tg (e x) (wipeE σ own) = some σ' ∧ ev P F cx elt σ' h1 = .ok (g (f x)) h1) : ev P F cx (.lc own elt tg it .nil) σ h = .ok (eL g (xs.map f)) h1 := by
  rw [ev, hi, Res.bind_ok]
  dsimp only
  rw [loopC_map' hs (fun _ => true) f (e := e) (g := g) (xs := xs) fun x hx => by
    obtain ⟨σ', e1, e2⟩ := hb x hx
    exact ⟨σ', e1, by rw [evT], fun _ => e2⟩]
  rw [List.filter_eq_self.mpr fun _ _ => rfl]
  rfl
theorem ev_lcf {α β : Type} {e : α → PV} {g : β → PV} {own : List Nat} {elt c : ME} {tg : MT} {it : MI} {xs : List α} {src : List (Nat × MO)} {p : α → Bool} {f : α → β}
    (hi : evI P F cx it σ h = .ok ⟨xs.map e, src⟩ h1) (hs : srcOk src h1 = true) (hb : ∀ x ∈ xs, ∃ σ', asgT tg (e x) (wipeE σ own) = some σ' ∧ evB P F cx c σ' h1 = .ok (p x) h1 ∧ (p x = true → ev P F cx elt σ' h1 = .ok (g (f x)) h1)) : ev P F cx (.lc own elt tg it (.cons c .nil)) σ h = .ok (eL g ((xs.filter p).map f)) h1 := by
  rw [ev, hi, Res.bind_ok]
  dsimp only
  rw [loopC_map' hs p f (e := e) (g := g) (xs := xs) fun x hx => by
    obtain ⟨σ', e1, e2, e3⟩ := hb x hx
    exact ⟨σ', e1, by rw [evT]; exact e2, e3⟩]
  rfl
/-- with draws in the values -/
def mapS {S α β : Type} (f : S → α → β × S) : S → List α → List β × S
  | s, [] => ([], s)
  | s, x :: r => ((f s x).1 :: (mapS f (f s x).2 r).1, (mapS f (f s x).2 r).2)
theorem loopC_st {α β : Type} {e : α → PV} {g : β → PV} {fe : Env → MHp → Res PV} {ft : Env → MHp → Res Bool} {tg : MT} {σ : Env} {B : Sm → MHp} {f : Sm → α → β × Sm} : ∀ {xs : List α} {s : Sm},
    (∀ x ∈ xs, ∃ σ', asgT tg (e x) σ = some σ' ∧ (∀ h, ft σ' h = .ok true h) ∧ ∀ s, fe σ' (B s) = .ok (g (f s x).1) (B (f s x).2)) → loopC fe ft tg [] (xs.map e) σ (B s) = .ok ((mapS f s xs).1.map g) (B (mapS f s xs).2)
  | [], s, _ => by rw [List.map_nil, loopC, if_pos (by rfl)]; rfl
  | x :: xs, s, hx => by
    obtain ⟨σ', e1, e2, e3⟩ := hx x List.mem_cons_self
    have ih := loopC_st (fe := fe) (ft := ft) (tg := tg) (σ := σ) (f := f) (g := g) (B := B) (e := e) (xs := xs) (s := (f s x).2) fun y hy => hx y (List.mem_cons_of_mem _ hy)
    rw [List.map_cons, loopC, if_pos (by rfl), e1]
    dsimp only
    rw [e2, Res.bind_ok, if_pos rfl, e3, Res.bind_ok, ih]
    rfl
theorem ev_lcS {α β : Type} {e : α → PV} {g : β → PV} {own : List Nat} {elt : ME} {tg : MT} {it : MI} {xs : List α} {B : Sm → MHp} {s : Sm} {f : Sm → α → β × Sm}
    (hi : evI P F cx it σ h = .ok ⟨xs.map e, []⟩ (B s)) (hb : ∀ x ∈ xs, ∃ σ', asgT tg (e x) (wipeE σ own) = some σ' ∧ ∀ s, ev P F cx elt σ' (B s) = .ok (g (f s x).1) (B (f s x).2)) : ev P F cx (.lc own elt tg it .nil) σ h = .ok (eL g (mapS f s xs).1) (B (mapS f s xs).2) := by
  rw [ev, hi, Res.bind_ok]
  dsimp only
  rw [loopC_st (f := f) (e := e) (g := g) (xs := xs) (B := B) fun x hx => by
    obtain ⟨σ', e1, e2⟩ := hb x hx
    exact ⟨σ', e1, fun h => by rw [evT], e2⟩]
  rfl
end
end Qm

/-! V1: the operators over typed values; the rules of statements. -/
namespace Qm
open PySem (Str)
section
variable {h : MHp} {α β : Type} {e : α → PV}
/-! ### operators -/
theorem o_add {i j : Int} : bop .add (eI i) (eI j) h = some (eI (i + j)) := rfl
theorem o_sub {i j : Int} : bop .sub (eI i) (eI j) h = some (eI (i - j)) := rfl
def MulOk (i j : Int) : Prop := (-(2 ^ 64) < j ∧ j < 2 ^ 64) ∨ (-(2 ^ 64) < i ∧ i < 2 ^ 64)
theorem o_mul {i j : Int} (c : MulOk i j) : bop .mul (eI i) (eI j) h = some (eI (i * j)) := by
  show (if small64 j || small64 i then some (PV.int (i * j)) else none) = _
  rcases c with c | c
  · rw [show small64 j = true from decide_eq_true c]; rfl
  · rw [show small64 i = true from decide_eq_true c, Bool.or_true]; rfl
theorem o_fdv {i j : Int} (c : 0 < j ∧ j < 1073741824) : bop .fdv (eI i) (eI j) h = some (eI (i / j)) := by
  show (if decide (0 < j) && decide (j < 1073741824) then some (PV.int (i / j)) else none) = _
  rw [decide_eq_true c.1, decide_eq_true c.2]; rfl
theorem o_mod {i j : Int} (c : 0 < j) : bop .mod (eI i) (eI j) h = some (eI (i % j)) := by
  show (if decide (0 < j) then some (PV.int (i % j)) else none) = _
  rw [decide_eq_true c]; rfl
theorem o_pow {i j : Int} (c : 0 ≤ j ∧ j ≤ 1000000 ∧ i.natAbs < 2 ^ 64) : bop .pow (eI i) (eI j) h = some (eI (i ^ j.toNat)) := by
  show (if decide (0 ≤ j) && decide (j ≤ 1000000) && decide (i.natAbs < 2 ^ 64) then some (PV.int (i ^ j.toNat)) else none) = _
  rw [decide_eq_true c.1, decide_eq_true c.2.1, decide_eq_true c.2.2]; rfl
def BigOk (n m : Nat) : Prop := n + m ≤ 16777216
theorem o_addT {a b : List α} (c : BigOk a.length b.length) : bop .add (eT e a) (eT e b) h = some (eT e (a ++ b)) := by
  show (if decide ((a.map e).length + (b.map e).length ≤ big) then some (PV.tup (a.map e ++ b.map e)) else none) = _
  rw [decide_eq_true (by rw [List.length_map, List.length_map]; exact c)]
  rw [eT, List.map_append]; rfl
theorem o_addL {a b : List α} (c : BigOk a.length b.length) : bop .add (eL e a) (eL e b) h = some (eL e (a ++ b)) := by
  show (if decide ((a.map e).length + (b.map e).length ≤ big) then some (PV.lst (a.map e ++ b.map e)) else none) = _
  rw [decide_eq_true (by rw [List.length_map, List.length_map]; exact c)]
  rw [eL, List.map_append]; rfl
theorem o_addR {a b : List α} {n : Nat} (hn : h[n]? = some (.lst (b.map e))) (c : BigOk a.length b.length) : bop .add (eL e a) (.ref n) h = some (eL e (a ++ b)) := by
  show (match itemsL (eL e a) h, itemsL (.ref n) h with | some a, some b => if decide (a.length + b.length ≤ big) then some (PV.lst (a ++ b)) else none | _, _ => none) = _
  simp only [itemsL, hn, eL]
  rw [decide_eq_true (by rw [List.length_map, List.length_map]; exact c), List.map_append]; rfl
theorem o_addRL {a b : List α} {n : Nat} (hn : h[n]? = some (.lst (a.map e))) (c : BigOk a.length b.length) : bop .add (.ref n) (eL e b) h = some (eL e (a ++ b)) := by
  show (match itemsL (.ref n) h, itemsL (eL e b) h with | some a, some b => if decide (a.length + b.length ≤ big) then some (PV.lst (a ++ b)) else none | _, _ => none) = _
  simp only [itemsL, hn, eL]
  rw [decide_eq_true (by rw [List.length_map, List.length_map]; exact c), List.map_append]; rfl
theorem o_addS {a b : SV} (c : BigOk a.s.length b.s.length) {k : SV} (hk : a.s ++ b.s = k.s) : bop .add (eS a) (eS b) h = some (eS k) := by
  show (if decide (a.s.length + b.s.length ≤ big) then some (PV.str (a.s ++ b.s)) else none) = _
  rw [decide_eq_true (show _ ≤ big from c), hk]; rfl
def rep (l : List α) : Nat → List α
  | 0 => []
  | n + 1 => l ++ rep l n
theorem repN_map (l : List α) : ∀ n, repN (l.map e) n = (rep l n).map e
  | 0 => rfl
  | n + 1 => by rw [repN, rep, repN_map l n, List.map_append]
/-- how often a tuple may be told (the model's own bounds) -/
def RepT (n : Nat) (j : Int) : Prop := j = 1 ∨ (2 ≤ j ∧ j ≤ 1000 ∧ n ≠ 0 ∧ n ≤ 1000)
theorem o_mulT {a : List α} {j : Int} (c : RepT a.length j) : bop .mul (eT e a) (eI j) h = some (eT e (rep a j.toNat)) := by
  rcases c with c | ⟨c1, c2, c3, c4⟩
  · subst c
    have : rep a 1 = a := by rw [rep, rep, List.append_nil]
    show some (PV.tup (a.map e)) = some (PV.tup ((rep a 1).map e))
    rw [this]
  · show (if smallR j then (if decide (j = 1) then some (PV.tup (a.map e)) else if decide (2 ≤ j) && decide (j ≤ 1000) && decide (a.map e ≠ []) && decide ((a.map e).length ≤ 1000) then some (PV.tup (repN (a.map e) j.toNat)) else none) else none) = _
    have : a.map e ≠ [] := fun z => c3 (by simpa using z)
    rw [smallR_of (by omega) (by omega), decide_eq_false (show ¬ j = 1 by omega), decide_eq_true c1, decide_eq_true c2, decide_eq_true this, decide_eq_true (by rw [List.length_map]; exact c4), repN_map]; rfl
def RepL (n : Nat) (j : Int) : Prop := -(2 ^ 62) ≤ j ∧ j < 2 ^ 62 ∧ n * j.toNat ≤ 16777216
theorem o_mulL {a : List α} {j : Int} (c : RepL a.length j) : bop .mul (eL e a) (eI j) h = some (eL e (rep a j.toNat)) := by
  obtain ⟨c1, c2, c3⟩ := c
  show (if smallR j then (if decide ((a.map e).length * j.toNat ≤ big) then some (PV.lst (repN (a.map e) j.toNat)) else none) else none) = _
  rw [smallR_of c1 c2, decide_eq_true (by rw [List.length_map]; exact c3), repN_map]; rfl
theorem ol_mulL {a : List α} {j : Int} (c : RepL a.length j) : bopL .mul (eL e a) (eI j) h = some ((rep a j.toNat).map e) := by
  obtain ⟨c1, c2, c3⟩ := c
  show (if smallR j && decide ((a.map e).length * j.toNat ≤ big) then some (repN (a.map e) j.toNat) else none) = _
  rw [smallR_of c1 c2, decide_eq_true (by rw [List.length_map]; exact c3), repN_map]; rfl
theorem ol_addL {a b : List α} (c : BigOk a.length b.length) : bopL .add (eL e a) (eL e b) h = some ((a ++ b).map e) := by
  show (if decide ((a.map e).length + (b.map e).length ≤ big) then some (a.map e ++ b.map e) else none) = _
  rw [decide_eq_true (by rw [List.length_map, List.length_map]; exact c), List.map_append]; rfl
/-! ### comparisons -/
theorem c_lt {i j : Int} : cop .lt (eI i) (eI j) h = some (decide (i < j)) := rfl
theorem c_le {i j : Int} : cop .le (eI i) (eI j) h = some (decide (i ≤ j)) := rfl
theorem c_gt {i j : Int} : cop .gt (eI i) (eI j) h = some (decide (j < i)) := rfl
theorem c_ge {i j : Int} : cop .ge (eI i) (eI j) h = some (decide (j ≤ i)) := rfl
theorem dataOf_nor {x : PV} (hn : nor x = true) : dataOf x h = x := by
  cases x <;> first | rfl | (rw [nor] at hn; cases hn)
theorem eqD_of {x y : PV} (h1 : flatD x = true) (h2 : flatD y = true) : eqD x y = some (peq x y) := by
  unfold eqD; rw [h1, h2]; rfl
theorem c_eqA {x y : PV} (hx : nor x = true) (hy : nor y = true) (h1 : flatD x = true) (h2 : flatD y = true) : cop .eq x y h = some (peq x y) := by
  show eqD (dataOf x h) (dataOf y h) = _
  rw [dataOf_nor hx, dataOf_nor hy, eqD_of h1 h2]
theorem c_neA {x y : PV} (hx : nor x = true) (hy : nor y = true) (h1 : flatD x = true) (h2 : flatD y = true) : cop .ne x y h = some (!peq x y) := by
  show (eqD (dataOf x h) (dataOf y h)).map not = _
  rw [dataOf_nor hx, dataOf_nor hy, eqD_of h1 h2]; rfl
theorem c_eq {d : Nat} [DecidableEq α] [Nr e] [Fl e d] [Ke e] {a b : α} (hd : d ≤ 60 := by decide) : cop .eq (e a) (e b) h = some (decide (a = b)) := by
  rw [c_eqA (Nr.nor a) (Nr.nor b) (fl_flat hd a) (fl_flat hd b), Ke.eq]
theorem c_ne {d : Nat} [DecidableEq α] [Nr e] [Fl e d] [Ke e] {a b : α} (hd : d ≤ 60 := by decide) : cop .ne (e a) (e b) h = some (!decide (a = b)) := by
  rw [c_neA (Nr.nor a) (Nr.nor b) (fl_flat hd a) (fl_flat hd b), Ke.eq]
/-- values of several types -/
theorem c_eqX {d d' : Nat} {f : β → PV} [Nr e] [Fl e d] [Nr f] [Fl f d'] {a : α} {b : β} (hd : d ≤ 60 := by decide) (hd' : d' ≤ 60 := by decide) : cop .eq (e a) (f b) h = some (peq (e a) (f b)) :=
  c_eqA (Nr.nor a) (Nr.nor b) (fl_flat hd a) (fl_flat hd' b)
theorem c_neX {d d' : Nat} {f : β → PV} [Nr e] [Fl e d] [Nr f] [Fl f d'] {a : α} {b : β} (hd : d ≤ 60 := by decide) (hd' : d' ≤ 60 := by decide) : cop .ne (e a) (f b) h = some (!peq (e a) (f b)) :=
  c_neA (Nr.nor a) (Nr.nor b) (fl_flat hd a) (fl_flat hd' b)
theorem dataOf_ref {n : Nat} {xs : List PV} (hn : h[n]? = some (.lst xs)) : dataOf (.ref n) h = .lst xs := by simp only [dataOf, hn]
theorem c_eqR {d : Nat} [DecidableEq α] [Nr e] [Fl e d] [Ke e] {n : Nat} {a b : List α} (hn : h[n]? = some (.lst (a.map e))) (hd : d + 1 ≤ 60 := by decide) : cop .eq (.ref n) (eL e b) h = some (decide (a = b)) := by
  show eqD (dataOf (.ref n) h) (dataOf (eL e b) h) = _
  rw [dataOf_ref hn, dataOf_nor (Nr.nor b)]
  rw [show PV.lst (a.map e) = eL e a from rfl, eqD_of (fl_flat hd a) (fl_flat hd b), Ke.eq]
theorem c_neR {d : Nat} [DecidableEq α] [Nr e] [Fl e d] [Ke e] {n : Nat} {a b : List α} (hn : h[n]? = some (.lst (a.map e))) (hd : d + 1 ≤ 60 := by decide) : cop .ne (.ref n) (eL e b) h = some (!decide (a = b)) := by
  show (eqD (dataOf (.ref n) h) (dataOf (eL e b) h)).map not = _
  rw [dataOf_ref hn, dataOf_nor (Nr.nor b)]
  rw [show PV.lst (a.map e) = eL e a from rfl, eqD_of (fl_flat hd a) (fl_flat hd b), Ke.eq]; rfl
theorem c_isN {x : PV} : cop .isN x .non h = some (decide (x = .non)) := rfl
theorem c_isNO [Nn e] {o : Option α} : cop .isN (eO e o) .non h = some o.isNone := by
  rw [c_isN]
  cases o with
  | none => rfl
  | some a =>
    have : e a ≠ .non := fun z => by have := Nn.l (e := e) a; rw [z] at this; cases this
    simp [eO, this]
theorem c_notNO [Nn e] {o : Option α} : cop .notN (eO e o) .non h = some o.isSome := by
  show some (!decide (eO e o = .non)) = _
  cases o with
  | none => rfl
  | some a =>
    have : e a ≠ .non := fun z => by have := Nn.l (e := e) a; rw [z] at this; cases this
    simp [eO, this]
theorem c_isNA {x : PV} : cop .isN x .non h = some (decide (x = .non)) := rfl
theorem c_notNA {x : PV} : cop .notN x .non h = some (!decide (x = .non)) := rfl
theorem any_mem [DecidableEq α] [Ke e] (x : α) : ∀ l : List α, ((l.map e).any fun z => peq z (e x)) = decide (x ∈ l)
  | [] => rfl
  | y :: r => by
    rw [List.map_cons, List.any_cons, Ke.eq, any_mem x r]
    by_cases h1 : y = x
    · subst h1; simp
    · by_cases h2 : x ∈ r <;> simp [h1, h2, Ne.symm h1]
theorem isin_items {d : Nat} [DecidableEq α] [Nr e] [Fl e d] [Ke e] {x : α} {y : PV} {l : List α} (hy : itemsT y h = some (l.map e)) (hs : ∀ z, y ≠ .str z) (hd : d ≤ 60) : isinS (e x) y h = some (decide (x ∈ l)) := by
  have : isinS (e x) y h = isinR (e x) y h := by
    cases y with
    | str z => exact (hs z rfl).elim
    | _ => rfl
  rw [this, isinR, hy]
  dsimp only
  rw [fl_flat hd x, fl_all hd l, Bool.true_and, if_pos rfl, any_mem]
theorem c_inT {d : Nat} [DecidableEq α] [Nr e] [Fl e d] [Ke e] {x : α} {l : List α} (hd : d ≤ 60 := by decide) : cop .isin (e x) (eT e l) h = some (decide (x ∈ l)) := by
  show isinS (e x) (.tup (l.map e)) h = _
  exact isin_items rfl (fun z q => nomatch q) hd
theorem c_inL {d : Nat} [DecidableEq α] [Nr e] [Fl e d] [Ke e] {x : α} {l : List α} (hd : d ≤ 60 := by decide) : cop .isin (e x) (eL e l) h = some (decide (x ∈ l)) := by
  show isinS (e x) (.lst (l.map e)) h = _
  exact isin_items rfl (fun z q => nomatch q) hd
theorem c_inR {d : Nat} [DecidableEq α] [Nr e] [Fl e d] [Ke e] {x : α} {n : Nat} {l : List α} (hn : h[n]? = some (.lst (l.map e))) (hd : d ≤ 60 := by decide) : cop .isin (e x) (.ref n) h = some (decide (x ∈ l)) := by
  show isinS (e x) (.ref n) h = _
  exact isin_items (by simp only [itemsT, hn]) (fun z q => nomatch q) hd
theorem c_notin {x y : PV} {k : Bool} (hi : cop .isin x y h = some k) : cop .notin x y h = some (!k) := by
  show (isinS x y h).map not = _
  rw [show isinS x y h = some k from hi]; rfl
/-! ### truth -/
theorem t_I {i : Int} : truth (eI i) h = some (i != 0) := rfl
theorem t_B {b : Bool} : truth (eB b) h = some b := rfl
theorem t_N : truth .non h = some false := rfl
theorem t_T {l : List α} : truth (eT e l) h = some (!l.isEmpty) := by cases l <;> rfl
theorem t_L {l : List α} : truth (eL e l) h = some (!l.isEmpty) := by cases l <;> rfl
theorem t_R {n : Nat} {l : List α} (hn : h[n]? = some (.lst (l.map e))) : truth (.ref n) h = some (!l.isEmpty) := by
  show truthR (.ref n) h = _
  unfold truthR
  simp only [itemsT, hn]
  cases l <;> rfl
theorem t_S {x : SV} : truth (eS x) h = some (x.s.length != 0) := rfl
/-! ### items -/
def InR (n : Nat) (i : Int) : Prop := -(n : Int) ≤ i ∧ i < n
/-- an item at a place, counted from the end if it is negative -/
def gt [Inhabited α] (l : List α) (i : Int) : α := (l[(if 0 ≤ i then i.toNat else (i + l.length).toNat)]?).getD default
theorem atI_gt [Inhabited α] {l : List α} {i : Int} (r : InR l.length i) : atI (l.map e) i = some (e (gt l i)) := by
  obtain ⟨r1, r2⟩ := r
  unfold atI ixN gt
  rw [List.length_map]
  by_cases h0 : 0 ≤ i
  · rw [if_pos h0, if_pos r2, if_pos h0]
    have : i.toNat < l.length := by omega
    simp [this]
  · rw [if_neg h0, if_neg h0, if_pos r1]
    have : (i + l.length).toNat < l.length := by omega
    simp [this]
theorem i_T [Inhabited α] {l : List α} {i : Int} (r : InR l.length i) : index (eT e l) (eI i) h = some (e (gt l i)) := atI_gt r
theorem i_L [Inhabited α] {l : List α} {i : Int} (r : InR l.length i) : index (eL e l) (eI i) h = some (e (gt l i)) := atI_gt r
theorem i_R [Inhabited α] {n : Nat} {l : List α} {i : Int} (hn : h[n]? = some (.lst (l.map e))) (r : InR l.length i) : index (.ref n) (eI i) h = some (e (gt l i)) := by
  show indexR (.ref n) (eI i) h = _
  unfold indexR
  simp only [itemsT, hn]
  exact atI_gt r
theorem cut_map (l : List α) (lo hi : Option Int) : cut (l.map e) lo hi = (cut l lo hi).map e := by
  unfold cut; rw [List.length_map, List.map_take, List.map_drop]
theorem s_T {l : List α} {lo hi : Option Int} : slice (eT e l) lo hi h = some (eT e (cut l lo hi)) := by
  show some (PV.tup (cut (l.map e) lo hi)) = _
  rw [cut_map]; rfl
theorem s_L {l : List α} {lo hi : Option Int} : slice (eL e l) lo hi h = some (eL e (cut l lo hi)) := by
  show some (PV.lst (cut (l.map e) lo hi)) = _
  rw [cut_map]; rfl
theorem s_R {n : Nat} {l : List α} {lo hi : Option Int} (hn : h[n]? = some (.lst (l.map e))) : slice (.ref n) lo hi h = some (eL e (cut l lo hi)) := by
  show (match itemsL (.ref n) h with | some xs => some (PV.lst (cut xs lo hi)) | none => none) = _
  simp only [itemsL, hn]
  rw [cut_map]; rfl
theorem r_T {l : List α} : revS (eT e l) h = some (eT e l.reverse) := by
  show some (PV.tup (l.map e).reverse) = _
  rw [eT, List.map_reverse]
theorem r_L {l : List α} : revS (eL e l) h = some (eL e l.reverse) := by
  show some (PV.lst (l.map e).reverse) = _
  rw [eL, List.map_reverse]
theorem r_R {n : Nat} {l : List α} (hn : h[n]? = some (.lst (l.map e))) : revS (.ref n) h = some (eL e l.reverse) := by
  show (match itemsL (.ref n) h with | some xs => some (PV.lst xs.reverse) | none => none) = _
  simp only [itemsL, hn]
  rw [eL, List.map_reverse]
/-! ### built-in functions -/
theorem b_lenT {l : List α} : biS .len [eT e l] h = some (eI l.length) := by
  show some (PV.int ((l.map e).length : Nat)) = _
  rw [List.length_map]
theorem b_lenL {l : List α} : biS .len [eL e l] h = some (eI l.length) := by
  show some (PV.int ((l.map e).length : Nat)) = _
  rw [List.length_map]
theorem b_lenR {n : Nat} {l : List α} (hn : h[n]? = some (.lst (l.map e))) : biS .len [.ref n] h = some (eI l.length) := by
  show lenR (.ref n) h = _
  unfold lenR
  simp only [itemsT, hn]
  rw [List.length_map]
theorem b_lenS {x : SV} : biS .len [eS x] h = some (eI x.s.length) := rfl
theorem b_abs {i : Int} : biS .abs [eI i] h = some (eI (if i < 0 then -i else i)) := rfl
theorem b_intI {i : Int} : biS .int [eI i] h = some (eI i) := rfl
theorem b_intB {b : Bool} : biS .int [eB b] h = some (eI (if b = true then 1 else 0)) := by cases b <;> rfl
theorem intsOf_map : ∀ l : List Int, intsOf (l.map eI) = some l
  | [] => rfl
  | x :: r => by
    show (intsOf (r.map eI)).map (x :: ·) = _
    rw [intsOf_map r]; rfl
theorem b_sum {l : List Int} : biS .sum [eL eI l] h = some (eI l.sum) := by
  show (some (l.map eI)).bind sumP = _
  rw [Option.bind_some, sumP, intsOf_map]; rfl
theorem b_sumT {l : List Int} : biS .sum [eT eI l] h = some (eI l.sum) := by
  show (some (l.map eI)).bind sumP = _
  rw [Option.bind_some, sumP, intsOf_map]; rfl
theorem b_sumR {n : Nat} {l : List Int} (hn : h[n]? = some (.lst (l.map eI))) : biS .sum [.ref n] h = some (eI l.sum) := by
  show (itemsT (.ref n) h).bind sumP = _
  simp only [itemsT, hn]
  rw [Option.bind_some, sumP, intsOf_map]; rfl
/-- may be compared with one another -/
class Al {α : Type} (e : α → PV) : Prop where
  al : ∀ a b, alikeP (e a) (e b) = true
class Nz {α : Type} (e : α → PV) : Prop where
  nz : ∀ a, isNon (e a) = false
instance : Al eI := ⟨fun _ _ => rfl⟩
instance : Al eB := ⟨fun _ _ => rfl⟩
instance : Al eS := ⟨fun _ _ => rfl⟩
theorem als_map {e : α → PV} [Al e] : ∀ a b : List α, alikePs (a.map e) (b.map e) = true
  | [], [] => rfl
  | [], _ :: _ => rfl
  | _ :: _, [] => rfl
  | x :: xs, y :: ys => by rw [List.map_cons, List.map_cons, alikePs, Al.al, als_map xs ys]; rfl
instance {e : α → PV} [Al e] : Al (eT e) := ⟨fun a b => by rw [eT, eT, alikeP, als_map]⟩
instance {e : α → PV} [Al e] : Al (eL e) := ⟨fun a b => by rw [eL, eL, alikeP, als_map]⟩
instance {f : β → PV} [Al e] [Al f] : Al (eP2 e f) := ⟨fun a b => by simp [eP2, alikeP, alikePs, Al.al]⟩
instance {γ : Type} {f : β → PV} {g : γ → PV} [Al e] [Al f] [Al g] : Al (eP3 e f g) := ⟨fun a b => by simp [eP3, alikeP, alikePs, Al.al]⟩
instance {γ δ : Type} {f : β → PV} {g : γ → PV} {k : δ → PV} [Al e] [Al f] [Al g] [Al k] : Al (eP4 e f g k) := ⟨fun a b => by simp [eP4, alikeP, alikePs, Al.al]⟩
instance : Nz eI := ⟨fun _ => rfl⟩
instance : Nz eB := ⟨fun _ => rfl⟩
instance : Nz eS := ⟨fun _ => rfl⟩
instance {e : α → PV} : Nz (eT e) := ⟨fun _ => rfl⟩
instance {e : α → PV} : Nz (eL e) := ⟨fun _ => rfl⟩
instance {f : β → PV} : Nz (eP2 e f) := ⟨fun _ => rfl⟩
instance {γ : Type} {f : β → PV} {g : γ → PV} : Nz (eP3 e f g) := ⟨fun _ => rfl⟩
instance {γ δ : Type} {f : β → PV} {g : γ → PV} {k : δ → PV} : Nz (eP4 e f g k) := ⟨fun _ => rfl⟩
theorem ord_ok {d : Nat} [Al e] [Nz e] [Fl e d] (hd : d ≤ 60) (l : List α) : okOrd (l.map e) = true := by
  unfold okOrd
  rw [fl_all hd l, Bool.true_and, Bool.and_eq_true]
  refine ⟨List.all_eq_true.mpr fun x hx => ?_, List.all_eq_true.mpr fun x hx => List.all_eq_true.mpr fun y hy => ?_⟩
  · obtain ⟨a, _, rfl⟩ := List.mem_map.mp hx; rw [Nz.nz]; rfl
  · obtain ⟨a, _, rfl⟩ := List.mem_map.mp hx; obtain ⟨b, _, rfl⟩ := List.mem_map.mp hy; exact Al.al a b
/-- the least, the greatest one, the first of several -/
def minE [Inhabited α] (e : α → PV) : List α → α
  | [] => default
  | x :: r => r.foldl (fun a y => if pLt (e y) (e a) = true then y else a) x
def maxE [Inhabited α] (e : α → PV) : List α → α
  | [] => default
  | x :: r => r.foldl (fun a y => if pLt (e a) (e y) = true then y else a) x
theorem fold_map (c : PV → PV → Bool) : ∀ (r : List α) (x : α), (r.map e).foldl (fun a y => if c a y = true then y else a) (e x) = e (r.foldl (fun a y => if c (e a) (e y) = true then y else a) x)
  | [], _ => rfl
  | y :: r, x => by
    rw [List.map_cons, List.foldl_cons, List.foldl_cons, ← fold_map c r]
    congr 1
    split <;> rfl
theorem minP_map [Inhabited α] {d : Nat} [Al e] [Nz e] [Fl e d] (hd : d ≤ 60) {l : List α} (c : l ≠ []) : minP (l.map e) = some (e (minE e l)) := by
  cases l with
  | nil => exact (c rfl).elim
  | cons x r =>
    show (if okOrd ((x :: r).map e) then some (minV (e x) (r.map e)) else none) = _
    rw [ord_ok hd, if_pos rfl]
    exact congrArg some (fold_map (fun a y => pLt y a) r x)
theorem maxP_map [Inhabited α] {d : Nat} [Al e] [Nz e] [Fl e d] (hd : d ≤ 60) {l : List α} (c : l ≠ []) : maxP (l.map e) = some (e (maxE e l)) := by
  cases l with
  | nil => exact (c rfl).elim
  | cons x r =>
    show (if okOrd ((x :: r).map e) then some (maxV (e x) (r.map e)) else none) = _
    rw [ord_ok hd, if_pos rfl]
    exact congrArg some (fold_map (fun a y => pLt a y) r x)
theorem b_minE_L [Inhabited α] {d : Nat} [Al e] [Nz e] [Fl e d] {l : List α} (c : l ≠ []) (hd : d ≤ 60 := by decide) : biS .min1 [eL e l] h = some (e (minE e l)) := minP_map hd c
theorem b_minE_T [Inhabited α] {d : Nat} [Al e] [Nz e] [Fl e d] {l : List α} (c : l ≠ []) (hd : d ≤ 60 := by decide) : biS .min1 [eT e l] h = some (e (minE e l)) := minP_map hd c
theorem b_minE_R [Inhabited α] {d : Nat} [Al e] [Nz e] [Fl e d] {n : Nat} {l : List α} (hn : h[n]? = some (.lst (l.map e))) (c : l ≠ []) (hd : d ≤ 60 := by decide) : biS .min1 [.ref n] h = some (e (minE e l)) := by
  show (itemsT (.ref n) h).bind minP = _
  simp only [itemsT, hn]
  exact minP_map hd c
theorem b_maxE_L [Inhabited α] {d : Nat} [Al e] [Nz e] [Fl e d] {l : List α} (c : l ≠ []) (hd : d ≤ 60 := by decide) : biS .max1 [eL e l] h = some (e (maxE e l)) := maxP_map hd c
theorem b_maxE_T [Inhabited α] {d : Nat} [Al e] [Nz e] [Fl e d] {l : List α} (c : l ≠ []) (hd : d ≤ 60 := by decide) : biS .max1 [eT e l] h = some (e (maxE e l)) := maxP_map hd c
theorem b_maxE_R [Inhabited α] {d : Nat} [Al e] [Nz e] [Fl e d] {n : Nat} {l : List α} (hn : h[n]? = some (.lst (l.map e))) (c : l ≠ []) (hd : d ≤ 60 := by decide) : biS .max1 [.ref n] h = some (e (maxE e l)) := by
  show (itemsT (.ref n) h).bind maxP = _
  simp only [itemsT, hn]
  exact maxP_map hd c
def minL : List Int → Int
  | [] => 0
  | x :: r => minI x r
def maxL : List Int → Int
  | [] => 0
  | x :: r => maxI x r
theorem minI_fold : ∀ (r : List Int) (x : Int), r.foldl (fun a y => if pLt (eI y) (eI a) = true then y else a) x = minI x r
  | [], _ => rfl
  | y :: r, x => by
    rw [List.foldl_cons, minI_fold, minI]
    congr 1
    show (if decide (y < x) = true then y else x) = _
    by_cases c : y < x <;> simp [c]
theorem maxI_fold : ∀ (r : List Int) (x : Int), r.foldl (fun a y => if pLt (eI a) (eI y) = true then y else a) x = maxI x r
  | [], _ => rfl
  | y :: r, x => by
    rw [List.foldl_cons, maxI_fold, maxI]
    congr 1
    show (if decide (x < y) = true then y else x) = _
    by_cases c : x < y <;> simp [c]
theorem minE_I {l : List Int} : minE eI l = minL l := by
  cases l with
  | nil => rfl
  | cons x r => exact minI_fold r x
theorem maxE_I {l : List Int} : maxE eI l = maxL l := by
  cases l with
  | nil => rfl
  | cons x r => exact maxI_fold r x
theorem b_minL {l : List Int} (c : l ≠ []) : biS .min1 [eL eI l] h = some (eI (minL l)) := by rw [b_minE_L c, minE_I]
theorem b_minT {l : List Int} (c : l ≠ []) : biS .min1 [eT eI l] h = some (eI (minL l)) := by rw [b_minE_T c, minE_I]
theorem b_minR {n : Nat} {l : List Int} (hn : h[n]? = some (.lst (l.map eI))) (c : l ≠ []) : biS .min1 [.ref n] h = some (eI (minL l)) := by rw [b_minE_R hn c, minE_I]
theorem b_maxL {l : List Int} (c : l ≠ []) : biS .max1 [eL eI l] h = some (eI (maxL l)) := by rw [b_maxE_L c, maxE_I]
theorem b_maxT {l : List Int} (c : l ≠ []) : biS .max1 [eT eI l] h = some (eI (maxL l)) := by rw [b_maxE_T c, maxE_I]
theorem b_maxR {n : Nat} {l : List Int} (hn : h[n]? = some (.lst (l.map eI))) (c : l ≠ []) : biS .max1 [.ref n] h = some (eI (maxL l)) := by rw [b_maxE_R hn c, maxE_I]
theorem b_min2 {i j : Int} : biS .min2 [eI i, eI j] h = some (eI (if j < i then j else i)) := rfl
theorem b_max2 {i j : Int} : biS .max2 [eI i, eI j] h = some (eI (if i < j then j else i)) := rfl
theorem bools_map' : ∀ l : List Bool, bools (l.map eB) = some l
  | [] => rfl
  | x :: r => by
    show (bools (r.map eB)).map (x :: ·) = _
    rw [bools_map' r]; rfl
theorem b_all {l : List Bool} : biS .all [eL eB l] h = some (eB (l.all id)) := by
  show (some (l.map eB)).bind (fun xs => (bools xs).map fun bs => PV.bl (bs.all id)) = _
  rw [Option.bind_some, bools_map']; rfl
theorem b_any {l : List Bool} : biS .any [eL eB l] h = some (eB (l.any id)) := by
  show (some (l.map eB)).bind (fun xs => (bools xs).map fun bs => PV.bl (bs.any id)) = _
  rw [Option.bind_some, bools_map']; rfl
theorem b_tupL {l : List α} : biS .tuple [eL e l] h = some (eT e l) := rfl
theorem b_tupT {l : List α} : biS .tuple [eT e l] h = some (eT e l) := rfl
theorem b_tupR {n : Nat} {l : List α} (hn : h[n]? = some (.lst (l.map e))) : biS .tuple [.ref n] h = some (eT e l) := by
  show (itemsT (.ref n) h).map PV.tup = _
  simp only [itemsT, hn]; rfl
theorem l_listL {l : List α} : blS .list [eL e l] h = some (l.map e) := rfl
theorem l_listT {l : List α} : blS .list [eT e l] h = some (l.map e) := rfl
theorem l_listR {n : Nat} {l : List α} (hn : h[n]? = some (.lst (l.map e))) : blS .list [.ref n] h = some (l.map e) := by
  show itemsT (.ref n) h = _
  simp only [itemsT, hn]
theorem l_sortI {l : List Int} : blS .sorted [eL eI l] h = some ((sortI l).map eI) := by
  show sortedP (l.map eI) = _
  rw [sortedP, intsOf_map]
/-! ### of what type -/
theorem ty_A {t : Ty} {x : PV} (hn : nor x = true) : isTy t x h = isTy t x [] := by
  cases x <;> first | rfl | (rw [nor] at hn; cases hn)
end
end Qm

/-! V2: the rules of statements, of calls. -/
namespace Qm
open PySem (Str)
abbrev Jk := Nat → Option PV
def appS : MSs → MSs → MSs
  | .nil, r => r
  | .cons s a, r => .cons s (appS a r)
section
variable {P : Prog} {F : Fn} {cx : Option MX} {σ : Env} {h h1 h2 h3 h4 : MHp}
theorem exs_app (r : MSs) : ∀ (a : MSs) (σ : Env) (h : MHp), exs P F cx (appS a r) σ h = (match exs P F cx a σ h with | .nx σ1 h1 => exs P F cx r σ1 h1 | x => x)
  | .nil, σ, h => by rw [appS, exs]
  | .cons s a, σ, h => by
    rw [appS, exs, exs]
    cases ex P F cx s σ h with
    | nx σ1 h1 => exact exs_app r a σ1 h1
    | _ => rfl
variable {Q : SRes → Prop} {r a b : MSs} {e : ME}
theorem xs_asg {t : MT} {v : PV} (σ' : Env) (he : ev P F cx e σ h = .ok v h1) (ht : asgT t v σ = some σ') (hr : Q (exs P F cx r σ' h1)) : Q (exs P F cx (.cons (.asg t e) r) σ h) := by
  rw [exs, ex, he]
  simp only [ofResV, ht]
  exact hr
theorem xs_aug {i : Nat} {o : BO} {x y : Int} {z : PV} (σ' : Env) (hv : σ[i]? = some (some (.int x))) (he : ev P F cx e σ h = .ok (eI y) h1) (hz : bopI o x y = some z) (hσ : σ.set i (some z) = σ') (hr : Q (exs P F cx r σ' h1)) : Q (exs P F cx (.cons (.aug i o e) r) σ h) := by
  rw [exs, ex, hv]
  simp only [he, ofResV, hz, hσ]
  exact hr
theorem xs_stx {o i : ME} {x y v : PV} (h5 : MHp) (he : ev P F cx e σ h = .ok v h1) (ho : ev P F cx o σ h1 = .ok x h2) (hi : ev P F cx i σ h2 = .ok y h3) (hs : storeIx x y v h3 = some h5) (hr : Q (exs P F cx r σ h5)) : Q (exs P F cx (.cons (.stx o i e) r) σ h) := by
  rw [exs, ex, he]
  simp only [ofResV, ho, hi, hs]
  exact hr
theorem xs_exp {v : PV} (he : ev P F cx e σ h = .ok v h1) (hr : Q (exs P F cx r σ h1)) : Q (exs P F cx (.cons (.exp e) r) σ h) := by
  rw [exs, ex, he]
  exact hr
theorem xs_ret {v : PV} (he : ev P F cx e σ h = .ok v h1) (hr : Q (.rt v h1)) : Q (exs P F cx (.cons (.ret e) r) σ h) := by
  rw [exs, ex, he]
  exact hr
theorem xs_retN (hr : Q (.rt .non h)) : Q (exs P F cx (.cons .retN r) σ h) := by
  rw [exs, ex]; exact hr
theorem xs_pas (hr : Q (exs P F cx r σ h)) : Q (exs P F cx (.cons .pas r) σ h) := by
  rw [exs, ex]; exact hr
theorem xs_cnt (hr : Q (.ct σ h)) : Q (exs P F cx (.cons .cnt r) σ h) := by
  rw [exs, ex]; exact hr
theorem xs_brk (hr : Q (.bk σ h)) : Q (exs P F cx (.cons .brk r) σ h) := by
  rw [exs, ex]; exact hr
theorem xs_nil (hr : Q (.nx σ h)) : Q (exs P F cx .nil σ h) := by
  rw [exs]; exact hr
theorem xs_rai {c : Nat} {es : MEs} {vs : List PV} (he : evs P F none es σ h = .ok vs h1) (hr : Q (.ex ⟨c, vs⟩ σ h1)) : Q (exs P F none (.cons (.rai c es) r) σ h) := by
  rw [exs, ex, he]; exact hr
/-- an error raised in an expression -/
theorem xs_exp_x {x : MX} (he : ev P F cx e σ h = .exn x h1) (hr : Q (.ex x σ h1)) : Q (exs P F cx (.cons (.exp e) r) σ h) := by
  rw [exs, ex, he]; exact hr
theorem xs_ret_x {x : MX} (he : ev P F cx e σ h = .exn x h1) (hr : Q (.ex x σ h1)) : Q (exs P F cx (.cons (.ret e) r) σ h) := by
  rw [exs, ex, he]; exact hr
theorem xs_asg_x {t : MT} {x : MX} (he : ev P F cx e σ h = .exn x h1) (hr : Q (.ex x σ h1)) : Q (exs P F cx (.cons (.asg t e) r) σ h) := by
  rw [exs, ex, he]; exact hr
theorem ex_ite {ce : ME} {c : Bool} (hc : evB P F cx ce σ h = .ok c h1) : ex P F cx (.ite ce a b) σ h = if c = true then exs P F cx a σ h1 else exs P F cx b σ h1 := by
  obtain ⟨v, e1, e2⟩ := evB_inv hc
  rw [ex, e1]
  simp only [ofResV, e2]
  cases c <;> rfl
theorem xs_ite' {ce : ME} {c : Bool} (hc : evB P F cx ce σ h = .ok c h1) (ht : c = true → Q (exs P F cx (appS a r) σ h1)) (hf : c = false → Q (exs P F cx (appS b r) σ h1)) : Q (exs P F cx (.cons (.ite ce a b) r) σ h) := by
  rw [exs, ex_ite hc]
  cases c with
  | true => rw [if_pos rfl]; have := ht rfl; rw [exs_app] at this; exact this
  | false => rw [if_neg (by decide)]; have := hf rfl; rw [exs_app] at this; exact this
theorem xs_ite {T : Type} {Q : T → SRes → Prop} {V1 V2 : T} {ce : ME} {c : Bool} (hc : evB P F cx ce σ h = .ok c h1) (ht : c = true → Q V1 (exs P F cx (appS a r) σ h1)) (hf : c = false → Q V2 (exs P F cx (appS b r) σ h1)) : Q (if c = true then V1 else V2) (exs P F cx (.cons (.ite ce a b) r) σ h) := by
  refine xs_ite' hc (fun z => ?_) (fun z => ?_)
  · subst z; rw [if_pos rfl]; exact ht rfl
  · subst z; rw [if_neg (by decide)]; exact hf rfl
/-- an end without a jump, in a typed state -/
def NxJ {S : Type} (σS : S → Jk → Env) (hS : S → MHp) (s : S) (r : SRes) : Prop := ∃ J, r = .nx (σS s J) (hS s)
/-- .. of a loop's body -/
def NxG {S : Type} (σS : S → Jk → Env) (hS : S → MHp) (s : S) (r : SRes) : Prop := ∃ J, r = .nx (σS s J) (hS s) ∨ r = .ct (σS s J) (hS s)
theorem nxJ {S : Type} {σS : S → Jk → Env} {hS : S → MHp} {s : S} (J : Jk) (e1 : σ = σS s J) (e2 : h = hS s) : NxJ σS hS s (.nx σ h) := ⟨J, by rw [e1, e2]⟩
theorem nxG {S : Type} {σS : S → Jk → Env} {hS : S → MHp} {s : S} (J : Jk) (e1 : σ = σS s J) (e2 : h = hS s) : NxG σS hS s (.nx σ h) := ⟨J, .inl (by rw [e1, e2])⟩
theorem ctG {S : Type} {σS : S → Jk → Env} {hS : S → MHp} {s : S} (J : Jk) (e1 : σ = σS s J) (e2 : h = hS s) : NxG σS hS s (.ct σ h) := ⟨J, .inr (by rw [e1, e2])⟩
theorem xs_join {S : Type} (σS : S → Jk → Env) (hS : S → MHp) {S1 S2 : S} {ce : ME} {c : Bool} (hc : evB P F cx ce σ h = .ok c h1) (ht : c = true → NxJ σS hS S1 (exs P F cx a σ h1)) (hf : c = false → NxJ σS hS S2 (exs P F cx b σ h1))
    (hr : ∀ J, Q (exs P F cx r (σS (if c = true then S1 else S2) J) (hS (if c = true then S1 else S2)))) : Q (exs P F cx (.cons (.ite ce a b) r) σ h) := by
  rw [exs, ex_ite hc]
  cases c with
  | true =>
    obtain ⟨J, e1⟩ := ht rfl
    rw [if_pos rfl, e1]
    have := hr J
    rw [if_pos rfl] at this
    exact this
  | false =>
    obtain ⟨J, e1⟩ := hf rfl
    rw [if_neg (by decide), e1]
    have := hr J
    rw [if_neg (by decide)] at this
    exact this
/-! ### loops -/
def FoldD {S α : Type} (step : S → α → S) (D : S → α → Prop) : S → List α → Prop
  | _, [] => True
  | s, x :: r => D s x ∧ FoldD step D (step s x) r
theorem FoldD.of_inv {S α : Type} {step : S → α → S} {D : S → α → Prop} (I : List α → S → Prop) : ∀ {xs : List α} {s : S}, I xs s → (∀ x r s, I (x :: r) s → D s x ∧ I r (step s x)) → FoldD step D s xs
  | [], _, _, _ => trivial
  | x :: r, s, i, hs => ⟨(hs x r s i).1, FoldD.of_inv I (hs x r s i).2 hs⟩
theorem loopF_fold {S α : Type} {e : α → PV} {fb : Env → MHp → SRes} {t : MT} {src : List (Nat × MO)} {σS : S → Jk → Env} {hS : S → MHp} {step : S → α → S} {D : S → α → Prop} (hsrc : ∀ s, srcOk src (hS s) = true)
    (hb : ∀ s J x, D s x → ∃ σ1, asgT t (e x) (σS s J) = some σ1 ∧ NxG σS hS (step s x) (fb σ1 (hS s))) : ∀ (xs : List α) (s : S) (J : Jk), FoldD step D s xs → ∃ J', loopF fb t src (xs.map e) (σS s J) (hS s) = .nx (σS (xs.foldl step s) J') (hS (xs.foldl step s))
  | [], s, J, _ => ⟨J, by rw [List.map_nil, loopF, if_pos (hsrc s)]; rfl⟩
  | x :: xs, s, J, d => by
    obtain ⟨σ1, e1, J1, e2⟩ := hb s J x d.1
    obtain ⟨J2, e3⟩ := loopF_fold hsrc hb xs (step s x) J1 d.2
    refine ⟨J2, ?_⟩
    rw [List.map_cons, loopF, if_pos (hsrc s), e1]
    dsimp only
    rcases e2 with e2 | e2 <;> rw [e2] <;> exact e3
theorem xs_for {S α : Type} {e : α → PV} {t : MT} {it : MI} {src : List (Nat × MO)} {xs : List α} (σS : S → Jk → Env) (hS : S → MHp) (step : S → α → S) (D : S → α → Prop) (s0 : S) (J0 : Jk)
    (hi : evI P F cx it σ h = .ok ⟨xs.map e, src⟩ h1) (hσ : σ = σS s0 J0) (hh : h1 = hS s0) (hsrc : ∀ s, srcOk src (hS s) = true) (hD : FoldD step D s0 xs)
    (hb : ∀ s J x, D s x → ∃ σ1, asgT t (e x) (σS s J) = some σ1 ∧ NxG σS hS (step s x) (exs P F cx b σ1 (hS s)))
    (hr : ∀ J, Q (exs P F cx r (σS (xs.foldl step s0) J) (hS (xs.foldl step s0)))) : Q (exs P F cx (.cons (.for t it b) r) σ h) := by
  obtain ⟨J', e'⟩ := loopF_fold hsrc hb xs s0 J0 hD
  rw [exs, ex, hi]
  simp only [ofResV]
  rw [hσ, hh, e']
  exact hr J'
/-- a loop that may end the def -/
def foldX {T S α : Type} (step : S → α → T ⊕ S) : S → List α → T ⊕ S
  | s, [] => .inr s
  | s, x :: r => match step s x with
    | .inl t => .inl t
    | .inr s' => foldX step s' r
def FoldXD {T S α : Type} (step : S → α → T ⊕ S) (D : S → α → Prop) : S → List α → Prop
  | _, [] => True
  | s, x :: r => D s x ∧ (match step s x with | .inl _ => True | .inr s' => FoldXD step D s' r)
theorem FoldXD.of_inv {T S α : Type} {step : S → α → T ⊕ S} {D : S → α → Prop} (I : List α → S → Prop) : ∀ {xs : List α} {s : S}, I xs s → (∀ x r s, I (x :: r) s → D s x ∧ ∀ s', step s x = .inr s' → I r s') → FoldXD step D s xs
  | [], _, _, _ => trivial
  | x :: r, s, i, hs => by
    refine ⟨(hs x r s i).1, ?_⟩
    cases e : step s x with
    | inl _ => trivial
    | inr s' => exact FoldXD.of_inv I ((hs x r s i).2 s' e) hs
def isExit : SRes → Prop
  | .rt _ _ => True
  | .ex _ _ _ => True
  | _ => False
def NxX {T S : Type} (QV : T → SRes → Prop) (σS : S → Jk → Env) (hS : S → MHp) : T ⊕ S → SRes → Prop
  | .inl v, r => QV v r ∧ isExit r
  | .inr s, r => NxG σS hS s r
def sumK {T S : Type} (r : T ⊕ S) (k : S → T) : T := match r with | .inl v => v | .inr s => k s
@[simp] theorem sumK_inl {T S : Type} (v : T) (k : S → T) : sumK (.inl v) k = v := rfl
@[simp] theorem sumK_inr {T S : Type} (s : S) (k : S → T) : sumK (.inr s) k = k s := rfl
theorem nxX_ret {T S : Type} {QV : T → SRes → Prop} {σS : S → Jk → Env} {hS : S → MHp} {v : T} {r : SRes} (q : QV v r) (i : isExit r := by trivial) : NxX QV σS hS (.inl v) r := ⟨q, i⟩
theorem nxX_nx {T S : Type} {QV : T → SRes → Prop} {σS : S → Jk → Env} {hS : S → MHp} {s : S} {r : SRes} (q : NxG σS hS s r) : NxX QV σS hS (.inr s) r := q
theorem loopF_foldX {T S α : Type} {QV : T → SRes → Prop} {e : α → PV} {fb : Env → MHp → SRes} {t : MT} {src : List (Nat × MO)} {σS : S → Jk → Env} {hS : S → MHp} {step : S → α → T ⊕ S} {D : S → α → Prop} (hsrc : ∀ s, srcOk src (hS s) = true)
    (hb : ∀ s J x, D s x → ∃ σ1, asgT t (e x) (σS s J) = some σ1 ∧ NxX QV σS hS (step s x) (fb σ1 (hS s))) : ∀ (xs : List α) (s : S) (J : Jk), FoldXD step D s xs →
      (∃ v, foldX step s xs = .inl v ∧ QV v (loopF fb t src (xs.map e) (σS s J) (hS s)) ∧ isExit (loopF fb t src (xs.map e) (σS s J) (hS s))) ∨ (∃ s' J', foldX step s xs = .inr s' ∧ loopF fb t src (xs.map e) (σS s J) (hS s) = .nx (σS s' J') (hS s'))
  | [], s, J, _ => .inr ⟨s, J, rfl, by rw [List.map_nil, loopF, if_pos (hsrc s)]⟩
  | x :: xs, s, J, d => by
    obtain ⟨σ1, e1, e2⟩ := hb s J x d.1
    rw [List.map_cons, loopF, if_pos (hsrc s), e1, foldX]
    dsimp only
    have d2 := d.2
    cases es : step s x with
    | inl v =>
      rw [es] at e2
      obtain ⟨q, i⟩ := e2
      refine .inl ⟨v, rfl, ?_⟩
      cases er : fb σ1 (hS s) with
      | rt v h => rw [er] at q; exact ⟨q, trivial⟩
      | ex x σ h => rw [er] at q; exact ⟨q, trivial⟩
      | nx _ _ => rw [er] at i; exact i.elim
      | ct _ _ => rw [er] at i; exact i.elim
      | bk _ _ => rw [er] at i; exact i.elim
      | stuck => rw [er] at i; exact i.elim
    | inr s' =>
      rw [es] at e2 d2
      obtain ⟨J1, e2⟩ := e2
      have := loopF_foldX (QV := QV) hsrc hb xs s' J1 d2
      rcases e2 with e2 | e2 <;> rw [e2] <;> exact this
theorem xs_forX {T S α : Type} {QV : T → SRes → Prop} {e : α → PV} {t : MT} {it : MI} {src : List (Nat × MO)} {xs : List α} (σS : S → Jk → Env) (hS : S → MHp) (step : S → α → T ⊕ S) (D : S → α → Prop) (s0 : S) (J0 : Jk) {rest : S → T}
    (hi : evI P F cx it σ h = .ok ⟨xs.map e, src⟩ h1) (hσ : σ = σS s0 J0) (hh : h1 = hS s0) (hsrc : ∀ s, srcOk src (hS s) = true) (hD : FoldXD step D s0 xs)
    (hb : ∀ s J x, D s x → ∃ σ1, asgT t (e x) (σS s J) = some σ1 ∧ NxX QV σS hS (step s x) (exs P F cx b σ1 (hS s)))
    (hr : ∀ s J, foldX step s0 xs = .inr s → QV (rest s) (exs P F cx r (σS s J) (hS s))) : QV (sumK (foldX step s0 xs) rest) (exs P F cx (.cons (.for t it b) r) σ h) := by
  rw [exs, ex, hi]
  simp only [ofResV]
  rw [hσ, hh]
  rcases loopF_foldX (QV := QV) hsrc hb xs s0 J0 hD with ⟨v, e1, q, i⟩ | ⟨s', J', e1, e2⟩
  · rw [e1, sumK_inl]
    generalize loopF (exs P F cx b) t src (xs.map e) (σS s0 J0) (hS s0) = R at q i
    cases R with
    | rt v h => exact q
    | ex x σ h => exact q
    | nx _ _ => exact i.elim
    | ct _ _ => exact i.elim
    | bk _ _ => exact i.elim
    | stuck => exact i.elim
  · rw [e1, e2, sumK_inr]
    exact hr s' J' e1
/-- while -/
def whF {S : Type} (c : S → Bool) (step : S → S) : Nat → S → S
  | 0, s => s
  | n + 1, s => if c s = true then whF c step n (step s) else s
def WhD {S : Type} (c : S → Bool) (step : S → S) (Dc D : S → Prop) : Nat → S → Prop
  | 0, _ => False
  | n + 1, s => Dc s ∧ (c s = true → D s ∧ WhD c step Dc D n (step s))
theorem loopW_fold {S : Type} {fc : Env → MHp → Res Bool} {fb : Env → MHp → SRes} {σS : S → Jk → Env} {hS : S → MHp} {c : S → Bool} {step : S → S} {Dc D : S → Prop}
    (hc : ∀ s J, Dc s → fc (σS s J) (hS s) = .ok (c s) (hS s)) (hb : ∀ s J, c s = true → D s → NxG σS hS (step s) (fb (σS s J) (hS s))) : ∀ (n : Nat) (s : S) (J : Jk), WhD c step Dc D n s → ∃ J', loopW fc fb n (σS s J) (hS s) = .nx (σS (whF c step n s) J') (hS (whF c step n s))
  | 0, _, _, d => d.elim
  | n + 1, s, J, d => by
    rw [loopW, hc s J d.1]
    simp only [ofRes]
    rw [whF]
    cases e : c s with
    | false => exact ⟨J, rfl⟩
    | true =>
      obtain ⟨J1, e1⟩ := hb s J e (d.2 e).1
      obtain ⟨J2, e2⟩ := loopW_fold hc hb n (step s) J1 (d.2 e).2
      refine ⟨J2, ?_⟩
      rw [if_pos rfl, if_pos rfl]
      rcases e1 with e1 | e1 <;> rw [e1] <;> exact e2
theorem xs_whl {S : Type} {ce : ME} {n : Nat} (σS : S → Jk → Env) (hS : S → MHp) (c : S → Bool) (step : S → S) (Dc D : S → Prop) (s0 : S) (J0 : Jk)
    (hσ : σ = σS s0 J0) (hh : h = hS s0) (hD : WhD c step Dc D n s0)
    (hc : ∀ s J, Dc s → evB P F cx ce (σS s J) (hS s) = .ok (c s) (hS s)) (hb : ∀ s J, c s = true → D s → NxG σS hS (step s) (exs P F cx b (σS s J) (hS s)))
    (hr : ∀ J, Q (exs P F cx r (σS (whF c step n s0) J) (hS (whF c step n s0)))) : Q (exs P F cx (.cons (.whl n ce b) r) σ h) := by
  obtain ⟨J', e'⟩ := loopW_fold (fc := evB P F cx ce) hc hb n s0 J0 hD
  rw [exs, ex, hσ, hh]
  show Q (match loopW (evB P F cx ce) (exs P F cx b) n (σS s0 J0) (hS s0) with | .nx σ1 h1 => exs P F cx r σ1 h1 | x => x)
  rw [e']
  exact hr J'
/-! ### lists that grow -/
theorem xs_app {i n : Nat} {y : PV} {xs : List PV} (h' : MHp) (hv : σ[i]? = some (some (.ref n))) (he : ev P F cx e σ h = .ok y h1) (hn0 : (itemsL (.ref n) h).isSome = true) (hn : h1[n]? = some (.lst xs)) (hl : xs.length < 16777216) (hh : h1.set n (.lst (xs ++ [y])) = h') (hr : Q (exs P F cx r σ h')) : Q (exs P F cx (.cons (.exp (.mth .append (.var i) (.cons e .nil))) r) σ h) := by
  refine xs_exp (v := .non) (h1 := h') (ev_mth (ev_var hv) (by show (itemsL (.ref n) h).isSome = true; exact hn0) (evs_cons he evs_nil) ?_) hr
  show (match h1[n]? with | some (.lst xs) => if decide (xs.length < big) then some (PV.non, h1.set n (.lst (xs ++ [y]))) else none | _ => none) = _
  rw [hn]
  dsimp only
  rw [decide_eq_true (show xs.length < big from hl), if_pos rfl, hh]
theorem xs_ext {i n : Nat} {y : PV} {xs ys : List PV} (h' : MHp) (hv : σ[i]? = some (some (.ref n))) (he : ev P F cx e σ h = .ok y h1) (hn0 : (itemsL (.ref n) h).isSome = true) (hy : itemsL y h1 = some ys) (hn : h1[n]? = some (.lst xs)) (hl : BigOk xs.length ys.length) (hh : h1.set n (.lst (xs ++ ys)) = h') (hr : Q (exs P F cx r σ h')) : Q (exs P F cx (.cons (.exp (.mth .extend (.var i) (.cons e .nil))) r) σ h) := by
  refine xs_exp (v := .non) (h1 := h') (ev_mth (ev_var hv) (by show (itemsL (.ref n) h).isSome = true; exact hn0) (evs_cons he evs_nil) ?_) hr
  show (match h1[n]? with | some (.lst xs) => (itemsL y h1).bind fun ys => if decide (xs.length + ys.length ≤ big) then some (PV.non, h1.set n (.lst (xs ++ ys))) else none | _ => none) = _
  rw [hn]
  dsimp only
  rw [hy, Option.bind_some, decide_eq_true (show xs.length + ys.length ≤ big from hl), if_pos rfl, hh]
end
/-! ### the end of a def -/
/-- an error as the typed defs hand it on -/
structure XV where
  c : Nat
  fs : List PV
  n : nors fs = true
def eX (x : XV) : MX := ⟨x.c, x.fs⟩
def RtG {T : Type} (G : T → Except XV PV × MHp) (V : T) (r : SRes) : Prop :=
  match (G V).1 with
  | .ok p => ∃ l, (∃ q, r = .rt q ((G V).2 ++ l) ∧ frz (G V).2.length ((G V).2 ++ l) q = some p) ∨ (p = .non ∧ ∃ σ, r = .nx σ ((G V).2 ++ l))
  | .error x => ∃ l σ, r = .ex (eX x) σ ((G V).2 ++ l)
/-- of trees alone -/
def Gp {α : Type} (e : α → PV) (v : α) : Except XV PV × MHp := (.ok (e v), [])
/-- .. that may raise -/
def Gx {α : Type} (e : α → PV) (v : Except XV α) : Except XV PV × MHp := (match v with | .ok a => .ok (e a) | .error x => .error x, [])
/-- with the stream -/
def Gs {α : Type} (e : α → PV) (rest : MHp) (v : α × Sm) : Except XV PV × MHp := (.ok (e v.1), eM v.2 :: rest)
theorem frz_id {b : Nat} {h : MHp} {p : PV} (n : nor p = true) : frz b h p = some p := frzT_id n
theorem frz_cell {α : Type} {e : α → PV} [Nr e] {b n : Nat} {h : MHp} {l : List α} (hb : b ≤ n) (hn : h[n]? = some (.lst (l.map e))) : frz b h (.ref n) = some (eL e l) := by
  show frzG b h 4 n = _
  unfold frzG
  rw [if_neg (by omega), hn]
  dsimp only
  rw [frzTs_id (nors_map l)]; rfl
theorem rt_p {α : Type} {e : α → PV} [Nr e] {v : α} {h : MHp} {p : PV} (hp : p = e v := by rfl) : RtG (Gp e) v (.rt p h) := ⟨h, .inl ⟨p, rfl, by subst hp; exact frz_id (Nr.nor v)⟩⟩
theorem rt_pR {α : Type} {e : α → PV} [Nr e] {l : List α} {n : Nat} {h : MHp} (hn : h[n]? = some (.lst (l.map e))) : RtG (Gp (eL e)) l (.rt (.ref n) h) := ⟨h, .inl ⟨.ref n, rfl, frz_cell (Nat.zero_le _) hn⟩⟩
theorem rt_pN {h : MHp} {σ : Env} {v : Unit} : RtG (Gp eN) v (.nx σ h) := ⟨h, .inr ⟨rfl, σ, rfl⟩⟩
theorem rt_x {α : Type} {e : α → PV} [Nr e] {v : α} {h : MHp} {p : PV} (hp : p = e v := by rfl) : RtG (Gx e) (.ok v) (.rt p h) := ⟨h, .inl ⟨p, rfl, by subst hp; exact frz_id (Nr.nor v)⟩⟩
theorem rt_xR {α : Type} {e : α → PV} [Nr e] {l : List α} {n : Nat} {h : MHp} (hn : h[n]? = some (.lst (l.map e))) : RtG (Gx (eL e)) (.ok l) (.rt (.ref n) h) := ⟨h, .inl ⟨.ref n, rfl, frz_cell (Nat.zero_le _) hn⟩⟩
theorem rt_xN {h : MHp} {σ : Env} {v : Unit} : RtG (Gx eN) (.ok v) (.nx σ h) := ⟨h, .inr ⟨rfl, σ, rfl⟩⟩
theorem rt_xX {α : Type} {e : α → PV} {x : XV} {h : MHp} {σ : Env} : RtG (Gx e) (.error x) (.ex (eX x) σ h) := ⟨h, σ, rfl⟩
theorem rt_s {α : Type} {e : α → PV} [Nr e] {rest : MHp} {v : α × Sm} {p : PV} {h : MHp} (l : MHp) (hp : p = e v.1 := by rfl) (hh : h = eM v.2 :: (rest ++ l) := by rfl) : RtG (Gs e rest) v (.rt p h) := ⟨l, .inl ⟨p, by rw [hh]; rfl, by subst hp; exact frz_id (Nr.nor v.1)⟩⟩
theorem rt_sR {α : Type} {e : α → PV} [Nr e] {rest : MHp} {v : List α × Sm} {n : Nat} {h : MHp} (l : MHp) (hb : rest.length + 1 ≤ n) (hn : h[n]? = some (.lst (v.1.map e))) (hh : h = eM v.2 :: (rest ++ l) := by rfl) : RtG (Gs (eL e) rest) v (.rt (.ref n) h) := ⟨l, .inl ⟨.ref n, by rw [hh]; rfl, by subst hh; exact frz_cell hb hn⟩⟩
theorem call_eq' {P : Prog} {n k : Nat} {fd : FnD} (hp : P.fns k = some fd) {args : List PV} {h : MHp} : callN P (n + 1) k args h = runFn P (callN P n) fd args h := by
  rw [callN]
  dsimp only
  rw [hp]
/-- a call's value -/
def xRes {α : Type} (e : α → PV) (h : MHp) : Except XV α → Res PV
  | .ok a => .ok (e a) h
  | .error x => .exn (eX x) h
section
variable {P : Prog} {k n : Nat} {fd : FnD} {args : List PV} {h : MHp}
theorem nors_c {α : Type} {e : α → PV} [Nr e] {a : α} {r : List PV} (hr : nors r = true) : nors (e a :: r) = true := by rw [nors, Nr.nor, hr]; rfl
theorem call_p {τ : Type} {e : τ → PV} [Nr e] {V : τ} [c : HasF P k fd] (σ : Env) (hr : fd.raw = false) (hl : args.length = fd.np) (hn : nors args = true) (hσ : args.map some ++ List.replicate (fd.nl - fd.np) none = σ)
    (hQ : RtG (Gp e) V (exs P (callN P n) none fd.body σ [])) : callN P (n + 1) k args h = .ok (e V) h := by
  rw [call_eq' c.e]
  unfold runFn
  rw [if_pos hl, if_pos (by rw [hr, hn]; rfl), hσ]
  obtain ⟨l, q⟩ := hQ
  rcases q with ⟨p, q, z⟩ | ⟨p, σ', q⟩
  · rw [q]
    show ofOpt (frz 0 _ p) h = _
    rw [show frz 0 _ p = some (e V) from z]; rfl
  · rw [q]
    show ofOpt (frz 0 _ .non) h = _
    rw [p]; rfl
theorem call_x {τ : Type} {e : τ → PV} [Nr e] {V : Except XV τ} [c : HasF P k fd] (σ : Env) (hr : fd.raw = false) (hl : args.length = fd.np) (hn : nors args = true) (hσ : args.map some ++ List.replicate (fd.nl - fd.np) none = σ)
    (hQ : RtG (Gx e) V (exs P (callN P n) none fd.body σ [])) : callN P (n + 1) k args h = xRes e h V := by
  rw [call_eq' c.e]
  unfold runFn
  rw [if_pos hl, if_pos (by rw [hr, hn]; rfl), hσ]
  cases V with
  | ok a =>
    obtain ⟨l, q⟩ := hQ
    rcases q with ⟨p, q, z⟩ | ⟨p, σ', q⟩
    · rw [q]
      show ofOpt (frz 0 _ p) h = _
      rw [show frz 0 _ p = some (e a) from z]; rfl
    · rw [q]
      show ofOpt (frz 0 _ .non) h = .ok (e a) h
      have p : e a = .non := p
      rw [p]; rfl
  | error x =>
    obtain ⟨l, σ', q⟩ := hQ
    rw [q]
    show (match frzs 0 _ x.fs with | some fs => Res.exn ⟨x.c, fs⟩ h | none => .stuck) = _
    rw [frzs, frzTs_id x.n]; rfl
theorem call_s {τ : Type} {e : τ → PV} [Nr e] {V : τ × Sm} {s : Sm} {rest : MHp} [c : HasF P k fd] (σ : Env) (hr : fd.raw = false) (hl : args.length = fd.np) (hn : nors args = false) (hσ : args.map some ++ List.replicate (fd.nl - fd.np) none = σ)
    (hQ : RtG (Gs e rest) V (exs P (callN P n) none fd.body σ (eM s :: rest))) : callN P (n + 1) k args (eM s :: rest) = .ok (e V.1) (eM V.2 :: rest) := by
  have hk : ∀ l, keepOk (eM s :: rest) ((eM V.2 :: rest) ++ l) = true := fun l => by
    rw [List.cons_append, keepOk, (st_nor ⟨V.2.ns, V.2.c, V.2.k, rfl, V.2.hc, V.2.hk⟩ : norO (eM V.2) = true), Bool.or_true, Bool.true_and]
    exact go rest l
  have ht : ∀ l, ((eM V.2 :: rest) ++ l).take (eM s :: rest).length = eM V.2 :: rest := fun l => List.take_left' (by simp)
  rw [call_eq' c.e]
  unfold runFn
  rw [if_pos hl, if_neg (by rw [hr, hn]; decide), hσ]
  obtain ⟨l, q⟩ := hQ
  rcases q with ⟨p, q, z⟩ | ⟨p, σ', q⟩
  · rw [q]
    show leave fd.raw (eM s :: rest) ((eM V.2 :: rest) ++ l) p = _
    unfold leave
    rw [hr, if_neg (by decide), if_pos (hk l), show frz (eM s :: rest).length ((eM V.2 :: rest) ++ l) p = some (e V.1) from z, ht]; rfl
  · rw [q]
    show leave fd.raw (eM s :: rest) ((eM V.2 :: rest) ++ l) .non = _
    unfold leave
    have p : e V.1 = .non := p
    rw [hr, if_neg (by decide), if_pos (hk l), ht, p]; rfl
where go : ∀ (r l : MHp), keepOk r (r ++ l) = true
  | [], _ => rfl
  | o :: r, l => by rw [List.cons_append, keepOk, decide_eq_true rfl, go r l]; rfl
end
end Qm

/-! V3: the stream as a function. -/
namespace Qm
section
variable {P : Prog} {F : Fn}
theorem next_headF {h : MHp} {ns : List Int} {k m : Int} {e2 e3 e4 : Option PV} (e : h[0]? = some (strO ns 0 k)) (hk : 0 ≤ k) :
    ∃ v2 v3, exs P F none (.cons (.asg (.nm 2) (.ix (.var 0) (.cst (.int 2)))) (.cons (.asg (.nm 3) (.bin .add (.cst (.int 7)) (.var 2))) (.cons (.ite (.cmp .lt (.var 2) (.bif .len (.cons (.ix (.var 0) (.cst (.int 0))) .nil))) (.cons (.asg (.nm 3) (.bif .abs (.cons (.ix (.ix (.var 0) (.cst (.int 0))) (.var 2)) .nil))) .nil) .nil) (.cons (.ite (.cmp .lt (.var 3) (.bin .pow (.cst (.int 10)) (.cst (.int 18)))) (.cons (.asg (.nm 3) (.bin .mod (.bif .int (.cons (.bin .add (.bin .add (.bin .mul (.var 3) (.cst (.int 48271))) (.bin .mul (.var 2) (.cst (.int 69621)))) (.cst (.int 11))) .nil)) (.cst (.int 2147483647)))) (.cons (.asg (.nm 3) (.bin .add (.bin .mul (.bin .mod (.bif .int (.cons (.bin .add (.bin .mul (.var 3) (.cst (.int 16807))) (.cst (.int 13))) .nil)) (.cst (.int 2147483647))) (.cst (.int 65537))) (.var 3))) .nil)) .nil) (.cons (.stx (.var 0) (.cst (.int 1)) (.var 3)) (.cons (.stx (.var 0) (.cst (.int 2)) (.bin .add (.var 2) (.cst (.int 1)))) .nil))))))
      [some (.ref 0), some (.int m), e2, e3, e4] h = .nx [some (.ref 0), some (.int m), v2, v3, e4] (h.set 0 (.lst [.lst (ns.map .int), .int (cellOf ns k), .int (k + 1)])) := by
  obtain ⟨i0, i1, i2⟩ := ix_st e
  have hs : ∀ v, storeIx (.ref 0) (.int 1) v h = some (h.set 0 (.lst [.lst (ns.map .int), v, .int k])) := fun v => (stx_st e).1
  have hl0 : 0 < h.length := (List.getElem?_eq_some_iff.mp e).1
  have hs2 : ∀ v, (h.set 0 (.lst [.lst (ns.map .int), v, .int k]))[0]? = some (.lst [.lst (ns.map .int), v, .int k]) := fun v => by simp [hl0]
  have hs3 : ∀ v u, storeIx (.ref 0) (.int 2) u (h.set 0 (.lst [.lst (ns.map .int), v, .int k])) = some (h.set 0 (.lst [.lst (ns.map .int), v, u])) := fun v u => by
    rw [(stx_st (hs2 v)).2]
    simp
  have hat : k < (ns.length : Int) → index (.lst (ns.map .int)) (.int k) h = some (.int (ns.getD k.toNat 0)) := fun hlt => by
    have hn : k.toNat < ns.length := by omega
    simp [index, indexR, itemsT, indexI, atI, ixN, hk, hlt, hn, List.getD]
  have tail : ∀ c : Int, ∃ v2 v3, exs P F none (.cons (.ite (.cmp .lt (.var 3) (.bin .pow (.cst (.int 10)) (.cst (.int 18)))) (.cons (.asg (.nm 3) (.bin .mod (.bif .int (.cons (.bin .add (.bin .add (.bin .mul (.var 3) (.cst (.int 48271))) (.bin .mul (.var 2) (.cst (.int 69621)))) (.cst (.int 11))) .nil)) (.cst (.int 2147483647)))) (.cons (.asg (.nm 3) (.bin .add (.bin .mul (.bin .mod (.bif .int (.cons (.bin .add (.bin .mul (.var 3) (.cst (.int 16807))) (.cst (.int 13))) .nil)) (.cst (.int 2147483647))) (.cst (.int 65537))) (.var 3))) .nil)) .nil) (.cons (.stx (.var 0) (.cst (.int 1)) (.var 3)) (.cons (.stx (.var 0) (.cst (.int 2)) (.bin .add (.var 2) (.cst (.int 1)))) .nil)))
      [some (.ref 0), some (.int m), some (.int k), some (.int c), e4] h = .nx [some (.ref 0), some (.int m), v2, v3, e4] (h.set 0 (.lst [.lst (ns.map .int), .int (if c < 10 ^ 18 then (((c * 48271 + k * 69621 + 11) % 2147483647) * 16807 + 13) % 2147483647 * 65537 + ((c * 48271 + k * 69621 + 11) % 2147483647) else c), .int (k + 1)])) := fun c => by
    have hp : bop .pow (.int 10) (.int 18) h = some (.int (10 ^ 18)) := rfl
    have h1 : ∀ a : Int, 0 ≤ a % 2147483647 := fun a => Int.emod_nonneg _ (by decide)
    have sm : ∀ i : Int, bop .mul (.int i) (.int 48271) h = some (.int (i * 48271)) ∧ bop .mul (.int i) (.int 69621) h = some (.int (i * 69621)) ∧ bop .mul (.int i) (.int 16807) h = some (.int (i * 16807)) ∧ bop .mul (.int i) (.int 65537) h = some (.int (i * 65537)) := fun i => ⟨rfl, rfl, rfl, rfl⟩
    have ad : ∀ i j : Int, bop .add (.int i) (.int j) h = some (.int (i + j)) := fun i j => rfl
    have md : ∀ i : Int, bop .mod (.int i) (.int 2147483647) h = some (.int (i % 2147483647)) := fun i => rfl
    have ad2 : ∀ (i j : Int) (h : MHp), bop .add (.int i) (.int j) h = some (.int (i + j)) := fun i j h => rfl
    by_cases hlt : c < 10 ^ 18
    · rw [if_pos hlt]
      refine ⟨some (.int k), some (.int (((((c * 48271 + k * 69621 + 11) % 2147483647) * 16807 + 13) % 2147483647) * 65537 + ((c * 48271 + k * 69621 + 11) % 2147483647))), ?_⟩
      · simp only [exs, ex, ev, evs, ofResV, Res.bind_ok, List.getElem?_cons_succ, List.getElem?_cons_zero, hp, cgt_i, ofOpt_some, truth, decide_eq_true hlt, biS, bi1, intP, sm, ad, md, asgT, List.set, hs, hs3, ad2]
    · rw [if_neg hlt]
      refine ⟨some (.int k), some (.int c), ?_⟩
      · simp only [exs, ex, ev, evs, ofResV, Res.bind_ok, List.getElem?_cons_succ, List.getElem?_cons_zero, hp, cgt_i, ofOpt_some, truth, decide_eq_false hlt, biS, bi1, intP, sm, ad, md, asgT, List.set, hs, hs3, ad2]
  have ad : ∀ i j : Int, bop .add (.int i) (.int j) h = some (.int (i + j)) := fun i j => rfl
  have ln : lenP (.lst (ns.map .int)) h = some (.int ns.length) := by simp [lenP, lenR, itemsT]
  unfold cellOf
  by_cases hlt : k < (ns.length : Int)
  · obtain ⟨v2, v3, e1⟩ := tail (if (ns.getD k.toNat 0) < 0 then -(ns.getD k.toNat 0) else ns.getD k.toNat 0)
    refine ⟨v2, v3, ?_⟩
    rw [if_pos hlt]
    dsimp only
    rw [← e1]
    simp only [exs, ex, ev, evs, ofResV, Res.bind_ok, List.getElem?_cons_succ, List.getElem?_cons_zero, i0, i1, i2, cgt_i, ofOpt_some, truth, decide_eq_true hlt, biS, bi1, absP, ad, asgT, List.set, ln, hat hlt]
  · obtain ⟨v2, v3, e1⟩ := tail (7 + k)
    refine ⟨v2, v3, ?_⟩
    rw [if_neg hlt]
    dsimp only
    rw [← e1]
    simp only [exs, ex, ev, evs, ofResV, Res.bind_ok, List.getElem?_cons_succ, List.getElem?_cons_zero, i0, i1, i2, cgt_i, ofOpt_some, truth, decide_eq_false hlt, biS, bi1, absP, ad, asgT, List.set, ln]
end
/-- a draw: the digit, the stream behind it -/
def nx (s : Sm) (m : Int) : Int × Sm :=
  ((if s.c = 0 then cellOf s.ns s.k else s.c) % m, ⟨s.ns, if 0 < m then (if s.c = 0 then cellOf s.ns s.k else s.c) / m else 0, if s.c = 0 then s.k + 1 else s.k, by
    split
    · exact Int.ediv_nonneg (by split; exact cellOf_nn s.hk; exact s.hc) (by omega)
    · decide, by have := s.hk; split <;> omega⟩)
theorem nx_ge (s : Sm) {m : Int} (h : 0 < m) : 0 ≤ (nx s m).1 := Int.emod_nonneg _ (by omega)
theorem nx_lt (s : Sm) {m : Int} (h : 0 < m) : (nx s m).1 < m := Int.emod_lt_of_pos _ h
def DrOk (m : Int) : Prop := 0 < m ∧ m < 1073741824
theorem o_next {P : Prog} [c : HasF P 230 fdNext] {n : Nat} {s : Sm} {m : Int} {rest : MHp} (hm : DrOk m) : callN P (n + 1) 230 [.ref 0, eI m] (eM s :: rest) = .ok (eI (nx s m).1) (eM (nx s m).2 :: rest) := by
  obtain ⟨hm, hm2⟩ := hm
  refine call_s (e := eI) (V := nx s m) [some (.ref 0), some (.int m), none, none, none] rfl rfl rfl rfl ?_
  have e : (eM s :: rest)[0]? = some (strO s.ns s.c s.k) := rfl
  obtain ⟨i0, i1, i2⟩ := ix_st (show (eM s :: rest)[0]? = some (.lst [.lst (s.ns.map .int), .int s.c, .int s.k]) from rfl)
  have fin : ∀ (c k : Int) (e2 e3 e4 : Option PV), c = (if s.c = 0 then cellOf s.ns s.k else s.c) → k = (if s.c = 0 then s.k + 1 else s.k) → RtG (Gs eI rest) (nx s m) (exs P (callN P n) none (.cons (.asg (.nm 4) (.bin .mod (.bif .int (.cons (.ix (.var 0) (.cst (.int 1))) .nil)) (.var 1))) (.cons (.stx (.var 0) (.cst (.int 1)) (.bin .fdv (.ix (.var 0) (.cst (.int 1))) (.var 1))) (.cons (.ret (.var 4)) .nil)))
      [some (.ref 0), some (.int m), e2, e3, e4] (.lst [.lst (s.ns.map .int), .int c, .int k] :: rest)) := fun c k e2 e3 e4 h1 h2 => by
    rw [next_tail rfl hm hm2, List.set_cons_zero]
    refine rt_s [] ?_ ?_
    · show PV.int _ = PV.int _
      rw [h1]; rfl
    · rw [List.append_nil]
      show _ = MO.lst [.lst (s.ns.map .int), .int (if 0 < m then _ else 0), .int _] :: rest
      rw [if_pos hm, h1, h2]; rfl
  by_cases h0 : s.c = 0
  · obtain ⟨v2, v3, e1⟩ := next_headF (P := P) (F := callN P n) (m := m) (e2 := none) (e3 := none) (e4 := none) (h := eM s :: rest) (ns := s.ns) (k := s.k) (by rw [e, h0]) s.hk
    have := fin (cellOf s.ns s.k) (s.k + 1) v2 v3 none (by rw [if_pos h0]) (by rw [if_pos h0])
    unfold fdNext
    rw [exs, ex]
    simp only [ev, ofResV, Res.bind_ok, List.getElem?_cons_zero, i1, ofOpt_some, eq_int, decide_eq_true h0, truth]
    rw [e1]
    exact this
  · have := fin s.c s.k none none none (by rw [if_neg h0]) (by rw [if_neg h0])
    unfold fdNext
    rw [exs, ex]
    simp only [ev, ofResV, Res.bind_ok, List.getElem?_cons_zero, i1, ofOpt_some, eq_int, decide_eq_false h0, truth]
    rw [exs]
    exact this
def st0 (ns : List Int) : Sm := ⟨ns, 0, 0, by decide, by decide⟩
end Qm

/-! V4: trees read as typed values; more rules. -/
namespace Qm
open PySem (Str)
instance : Inhabited NV := ⟨⟨.non, rfl⟩⟩
instance : Inhabited SV := ⟨⟨⟨#[]⟩, by simp⟩⟩
instance : Inhabited Sm := ⟨⟨[], 0, 0, by decide, by decide⟩⟩
theorem NV.ext' {x y : NV} (h : x.v = y.v) : x = y := by cases x; cases y; cases h; rfl
def nI (x : NV) : Int := match x.v with | .int i => i | _ => 0
def nB (x : NV) : Bool := match x.v with | .bl b => b | _ => false
theorem nors_all : ∀ {l : List PV}, nors l = true → ∀ y ∈ l, nor y = true
  | x :: r, h, y, m => by
    rw [nors, Bool.and_eq_true] at h
    rcases List.mem_cons.mp m with rfl | m
    · exact h.1
    · exact nors_all h.2 y m
def liftN : (l : List PV) → nors l = true → List NV
  | [], _ => []
  | x :: r, h => ⟨x, by rw [nors, Bool.and_eq_true] at h; exact h.1⟩ :: liftN r (by rw [nors, Bool.and_eq_true] at h; exact h.2)
theorem liftN_map : ∀ (l : List PV) (h : nors l = true), (liftN l h).map eA = l
  | [], _ => rfl
  | x :: r, h => by rw [liftN, List.map_cons, liftN_map]; rfl
def nTup : (p : PV) → nor p = true → List NV
  | .tup xs, h => liftN xs (by rw [nor] at h; exact h)
  | _, _ => []
def nT (x : NV) : List NV := nTup x.v x.n
def nTI (x : NV) : List Int := (nT x).map nI
def nLst : (p : PV) → nor p = true → List NV
  | .lst xs, h => liftN xs (by rw [nor] at h; exact h)
  | _, _ => []
def nL (x : NV) : List NV := nLst x.v x.n
def isTup (x : NV) : Bool := match x.v with | .tup _ => true | _ => false
def isInt (x : NV) : Bool := match x.v with | .int _ => true | _ => false
theorem nT_eq {x : NV} (h : isTup x = true) : eA x = eT eA (nT x) := by
  obtain ⟨v, n⟩ := x
  cases v with
  | tup xs => exact congrArg PV.tup (liftN_map xs _).symm
  | _ => cases h
theorem nI_eq {x : NV} (h : isInt x = true) : eA x = eI (nI x) := by
  obtain ⟨v, n⟩ := x
  cases v with
  | int i => rfl
  | _ => cases h
def isY (t : Ty) (x : NV) : Bool := (isTy t x.v []).getD false
theorem isY_ok {t : Ty} {x : NV} {h : MHp} : isTy t (eA x) h = some (isY t x) := by
  obtain ⟨v, n⟩ := x
  cases v with
  | ref _ => rw [nor] at n; cases n
  | scr _ => rw [nor] at n; cases n
  | _ => rfl
section
variable {P : Prog} {F : Fn} {cx : Option MX} {σ : Env} {h h1 h2 h3 h4 : MHp} {α β : Type} {e : α → PV}
theorem ev_cast {a : ME} {p q : PV} (he : ev P F cx a σ h = .ok p h1) (hq : p = q) : ev P F cx a σ h = .ok q h1 := hq ▸ he
theorem ev_coL [Nr e] {a : ME} {l : List α} (he : ev P F cx a σ h = .ok (eL e l) h1) : ev P F cx a σ h = .ok (eL eA (l.map (toA e))) h1 :=
  ev_cast he (by unfold eL; rw [List.map_map]; rfl)
theorem ev_coT [Nr e] {a : ME} {l : List α} (he : ev P F cx a σ h = .ok (eT e l) h1) : ev P F cx a σ h = .ok (eT eA (l.map (toA e))) h1 :=
  ev_cast he (by unfold eT; rw [List.map_map]; rfl)
/-! ### places -/
def idx [DecidableEq α] (l : List α) (x : α) : Int := (l.idxOf x : Nat)
theorem findP_map [DecidableEq α] [Ke e] (x : α) : ∀ (l : List α) (n : Nat), x ∈ l → findP (e x) (l.map e) n = some (n + l.idxOf x)
  | [], _, m => by simp at m
  | y :: r, n, m => by
    rw [List.map_cons, findP, Ke.eq]
    by_cases h : y = x
    · subst h; simp
    · have m' : x ∈ r := by
        rcases List.mem_cons.mp m with rfl | m
        · exact (h rfl).elim
        · exact m
      rw [decide_eq_false h, if_neg (by decide), findP_map x r (n + 1) m', List.idxOf_cons]
      have hb : (y == x) = false := by simpa using h
      rw [hb]
      simp only [cond_false]
      congr 1; omega
theorem m_index {d : Nat} [DecidableEq α] [Nr e] [Fl e d] [Ke e] {l : List α} {x : α} (m : x ∈ l) (hd : d ≤ 60 := by decide) : mth .index (eL e l) [e x] h = some (eI (idx l x), h) := by
  show (some (l.map e)).bind (fun xs => if flatD (e x) && xs.all flatD then (findP (e x) xs 0).map fun (k : Nat) => (PV.int (k : Int), h) else none) = _
  rw [Option.bind_some, fl_flat hd x, fl_all hd l]
  simp [findP_map x l 0 m, idx]
theorem m_indexR {d : Nat} [DecidableEq α] [Nr e] [Fl e d] [Ke e] {n : Nat} {l : List α} {x : α} (hn : h[n]? = some (.lst (l.map e))) (m : x ∈ l) (hd : d ≤ 60 := by decide) : mth .index (.ref n) [e x] h = some (eI (idx l x), h) := by
  show (itemsL (.ref n) h).bind (fun xs => if flatD (e x) && xs.all flatD then (findP (e x) xs 0).map fun (k : Nat) => (PV.int (k : Int), h) else none) = _
  simp only [itemsL, hn]
  rw [Option.bind_some, fl_flat hd x, fl_all hd l]
  simp [findP_map x l 0 m, idx]
theorem m_count {l : List Int} {i : Int} : mth .count (eT eI l) [eI i] h = some (eI ((l.count i : Nat) : Int), h) := by
  show (intsOf (l.map eI)).map (fun ns => (PV.int (ns.count i : Nat), h)) = _
  rw [intsOf_map]; rfl
/-! ### lists changed -/
def place (n : Nat) (i : Int) : Nat := if 0 ≤ i then i.toNat else (i + n).toNat
theorem ixN_place {n : Nat} {i : Int} (r : InR n i) : ixN n i = some (place n i) := by
  obtain ⟨r1, r2⟩ := r
  unfold ixN place
  by_cases h0 : 0 ≤ i
  · rw [if_pos h0, if_pos r2, if_pos h0]
  · rw [if_neg h0, if_pos r1, if_neg h0]
theorem place_lt {n : Nat} {i : Int} (r : InR n i) : place n i < n := by
  obtain ⟨r1, r2⟩ := r
  unfold place
  split <;> omega
def delAt (l : List α) (i : Int) : List α := l.eraseIdx (place l.length i)
def setAt (l : List α) (i : Int) (x : α) : List α := l.set (place l.length i) x
variable {Q : SRes → Prop} {r : MSs}
theorem eraseIdx_map (f : α → β) : ∀ (l : List α) (n : Nat), (l.map f).eraseIdx n = (l.eraseIdx n).map f
  | [], n => by simp
  | x :: r, 0 => by simp
  | x :: r, n + 1 => by simp [eraseIdx_map f r n]
theorem xs_popAt [Inhabited α] {i n : Nat} {t : MT} {a : ME} {l : List α} {j : Int} (σ' : Env) (h' : MHp) (hv : σ[i]? = some (some (.ref n))) (hi : ev P F cx a σ h = .ok (eI j) h1) (hn0 : (itemsL (.ref n) h).isSome = true) (hn : h1[n]? = some (.lst (l.map e))) (c : InR l.length j) (ht : asgT t (e (gt l j)) σ = some σ') (hh : h1.set n (.lst ((delAt l j).map e)) = h') (hr : Q (exs P F cx r σ' h')) :
    Q (exs P F cx (.cons (.asg t (.mth .popAt (.var i) (.cons a .nil))) r) σ h) := by
  refine xs_asg (v := e (gt l j)) (h1 := h') σ' (ev_mth (ev_var hv) (by show (itemsL (.ref n) h).isSome = true; exact hn0) (evs_cons hi evs_nil) ?_) ht hr
  show (match h1[n]? with | some (.lst xs) => (ixN xs.length j).bind fun k => (xs[k]?).map fun y => (y, h1.set n (.lst (xs.eraseIdx k))) | _ => none) = _
  rw [hn]
  dsimp only
  rw [List.length_map, ixN_place c, Option.bind_some, ← hh]
  have hp := place_lt c
  have : gt l j = l[place l.length j] := by
    unfold gt place
    have := List.getElem?_eq_getElem hp
    unfold place at this
    rw [this]; rfl
  rw [this]
  simp [hp, delAt, eraseIdx_map]
theorem xs_setAt {n : Nat} {o a b : ME} {l : List α} {y : α} {j : Int} (h' : MHp) (hb : ev P F cx b σ h = .ok (e y) h1) (ho : ev P F cx o σ h1 = .ok (.ref n) h2) (hi : ev P F cx a σ h2 = .ok (eI j) h3) (hn : h3[n]? = some (.lst (l.map e))) (c : InR l.length j) (hh : h3.set n (.lst ((setAt l j y).map e)) = h') (hr : Q (exs P F cx r σ h')) :
    Q (exs P F cx (.cons (.stx o a b) r) σ h) := by
  refine xs_stx h' hb ho hi ?_ hr
  unfold storeIx
  dsimp only
  rw [hn]
  dsimp only
  rw [List.length_map, ixN_place c, Option.map_some, ← hh]
  simp [setAt]
/-! ### sorted -/
theorem intsOf_tupN (x : List Int) (r : List PV) : intsOf (eT eI x :: r) = none := rfl
theorem intsL_map : ∀ l : List (List Int), intsL (l.map (eT eI)) = some l
  | [] => rfl
  | x :: r => by
    show (match intsOf (x.map eI), intsL (r.map (eT eI)) with | some a, some b => some (a :: b) | _, _ => none) = _
    rw [intsOf_map, intsL_map r]
def SrtT (l : List (List Int)) : Prop := l.length < 2 ∨ ∀ x ∈ l, x ≠ []
theorem srtT_ok {l : List (List Int)} (c : SrtT l) : (decide (l.length < 2) || l.all (fun l => !l.isEmpty)) = true := by
  rcases c with c | c
  · rw [decide_eq_true c]; rfl
  · rw [Bool.or_eq_true]
    refine .inr (List.all_eq_true.mpr fun x hx => ?_)
    have := c x hx
    cases x with
    | nil => exact (this rfl).elim
    | cons a b => rfl
def sortT (l : List (List Int)) : List (List Int) := sortL l
theorem sortedP_map {l : List (List Int)} (c : SrtT l) : sortedP (l.map (eT eI)) = some ((sortT l).map (eT eI)) := by
  cases l with
  | nil => rfl
  | cons x r =>
    unfold sortedP
    rw [show intsOf ((x :: r).map (eT eI)) = none from rfl, intsL_map]
    dsimp only
    rw [srtT_ok c, if_pos rfl]
    rfl
theorem l_sortT {l : List (List Int)} (c : SrtT l) : blS .sorted [eL (eT eI) l] h = some ((sortT l).map (eT eI)) := by
  show sortedP (l.map (eT eI)) = _
  rw [sortedP_map c]
theorem l_sortTR {n : Nat} {l : List (List Int)} (hn : h[n]? = some (.lst (l.map (eT eI)))) (c : SrtT l) : blS .sorted [.ref n] h = some ((sortT l).map (eT eI)) := by
  show sortV (.ref n) h = _
  unfold sortV
  simp only [itemsL, hn]
  rw [sortedP_map c]
def p2l (p : Int × Int) : List Int := [p.1, p.2]
def l2p (l : List Int) : Int × Int := (l.getD 0 0, l.getD 1 0)
theorem p2l_map (l : List (Int × Int)) : (l.map p2l).map (eT eI) = l.map (eP2 eI eI) := by rw [List.map_map]; rfl
def sortP2 (l : List (Int × Int)) : List (Int × Int) := (sortL (l.map p2l)).map l2p
theorem insL_mem {x y : List Int} : ∀ {l : List (List Int)}, y ∈ insL x l → y = x ∨ y ∈ l
  | [], m => by simp [insL] at m; exact .inl m
  | z :: r, m => by
    rw [insL] at m
    split at m
    · rcases List.mem_cons.mp m with rfl | m
      · exact .inr List.mem_cons_self
      · rcases insL_mem m with h | h
        · exact .inl h
        · exact .inr (List.mem_cons_of_mem _ h)
    · rcases List.mem_cons.mp m with rfl | m
      · exact .inl rfl
      · exact .inr m
theorem sortL_mem {y : List Int} : ∀ {l : List (List Int)}, y ∈ sortL l → y ∈ l
  | [], m => by simp [sortL] at m
  | x :: r, m => by
    rw [sortL] at m
    rcases insL_mem m with rfl | h
    · exact List.mem_cons_self
    · exact List.mem_cons_of_mem _ (sortL_mem h)
theorem sortP2_map (l : List (Int × Int)) : (sortT (l.map p2l)).map (eT eI) = (sortP2 l).map (eP2 eI eI) := by
  unfold sortP2 sortT
  rw [← p2l_map, List.map_map (g := p2l)]
  refine congrArg (List.map (eT eI)) ?_
  symm
  refine (List.map_congr_left (g := id) fun y hy => ?_).trans (List.map_id _)
  have := sortL_mem hy
  obtain ⟨p, _, rfl⟩ := List.mem_map.mp this
  rfl
theorem srtP2 (l : List (Int × Int)) : SrtT (l.map p2l) := .inr fun x hx => by
  obtain ⟨p, _, rfl⟩ := List.mem_map.mp hx
  exact fun z => nomatch z
theorem l_sortP2 {l : List (Int × Int)} : blS .sorted [eL (eP2 eI eI) l] h = some ((sortP2 l).map (eP2 eI eI)) := by
  show sortedP (l.map (eP2 eI eI)) = _
  rw [← p2l_map, sortedP_map (srtP2 l), sortP2_map]
theorem l_sortP2R {n : Nat} {l : List (Int × Int)} (hn : h[n]? = some (.lst (l.map (eP2 eI eI)))) : blS .sorted [.ref n] h = some ((sortP2 l).map (eP2 eI eI)) := by
  show sortV (.ref n) h = _
  unfold sortV
  simp only [itemsL, hn]
  rw [← p2l_map, sortedP_map (srtP2 l), sortP2_map]
end
end Qm

/-! V5: the laws' own equality; the law's head. -/
namespace Qm
open PySem (Str)
abbrev fd229 : FnD := fdStream
abbrev fd230 : FnD := fdNext
/-- _law_is_integer -/
def fd16 : FnD := ⟨1, 1, false,
  (.cons (.ret (.and (.cons (.isi .int (.var 0)) (.cons (.not (.isi .bool (.var 0))) .nil)))) .nil)⟩
/-- _law_equal -/
def fd282 : FnD := ⟨2, 3, false,
  (.cons (.ite (.cmp .isN (.var 1) (.cst .non)) (.cons (.ret (.cmp .isN (.var 0) (.cst .non))) .nil) .nil) (.cons (.ite (.isi .bool (.var 1)) (.cons (.ret (.and (.cons (.isi .bool (.var 0)) (.cons (.cmp .eq (.var 0) (.var 1)) .nil)))) .nil) .nil) (.cons (.ite (.isi .int (.var 1)) (.cons (.ret (.and (.cons (.call 16 (.cons (.var 0) .nil)) (.cons (.cmp .eq (.var 0) (.var 1)) .nil)))) .nil) .nil) (.cons (.ite (.isi .str (.var 1)) (.cons (.ret (.and (.cons (.isi .str (.var 0)) (.cons (.cmp .eq (.var 0) (.var 1)) .nil)))) .nil) .nil) (.cons (.ite (.and (.cons (.isi .tuple (.var 1)) (.cons (.not (.isi .tuple (.var 0))) .nil))) (.cons (.ret (.cst (.bl false))) .nil) .nil) (.cons (.ite (.and (.cons (.isi .list (.var 1)) (.cons (.not (.isi .list (.var 0))) .nil))) (.cons (.ret (.cst (.bl false))) .nil) .nil) (.cons (.ite (.cmp .ne (.bif .len (.cons (.var 0) .nil)) (.bif .len (.cons (.var 1) .nil))) (.cons (.ret (.cst (.bl false))) .nil) .nil) (.cons (.ret (.bif .all (.cons (.lc [2] (.call 282 (.cons (.ix (.var 0) (.var 2)) (.cons (.ix (.var 1) (.var 2)) .nil))) (.nm 2) (.rng (.cons (.bif .len (.cons (.var 1) .nil)) .nil)) .nil) .nil))) .nil))))))))⟩
mutual
/-- what is told, what is due -/
def lawEq : PV → PV → Bool
  | a, .non => decide (a = .non)
  | a, .bl b => match a with | .bl c => c == b | _ => false
  | a, .int i => match a with | .int j => j == i | _ => false
  | a, .str s => match a with | .str t => t == s | _ => false
  | a, .tup ds => match a with | .tup xs => lawEqs xs ds | _ => false
  | a, .lst ds => match a with | .lst xs => lawEqs xs ds | _ => false
  | _, _ => false
def lawEqs : List PV → List PV → Bool
  | [], [] => true
  | x :: xs, y :: ys => lawEq x y && lawEqs xs ys
  | _, _ => false
end
/-- data, flat to a depth -/
def Dq (k : Nat) (p : PV) : Prop := nor p = true ∧ ∃ j, dep p = some j ∧ j ≤ k
theorem Dq.mono {k k' : Nat} {p : PV} (h : Dq k p) (hk : k ≤ k') : Dq k' p := ⟨h.1, h.2.choose, h.2.choose_spec.1, Nat.le_trans h.2.choose_spec.2 hk⟩
theorem dq_of {α : Type} {e : α → PV} {d k : Nat} [Nr e] [Fl e d] (a : α) (hd : d ≤ k := by decide) : Dq k (e a) := ⟨Nr.nor a, by
  obtain ⟨j, e1, h1⟩ := Fl.dp (e := e) a
  exact ⟨j, e1, Nat.le_trans h1 hd⟩⟩
def Dqs (k : Nat) (l : List PV) : Prop := nors l = true ∧ ∃ j, deps l = some j ∧ j ≤ k
theorem dqs_nil {k : Nat} : Dqs k [] := ⟨rfl, 0, rfl, Nat.zero_le _⟩
theorem dqs_cons {k : Nat} {x : PV} {r : List PV} (hx : Dq k x) (hr : Dqs k r) : Dqs k (x :: r) := by
  obtain ⟨n1, j1, e1, l1⟩ := hx
  obtain ⟨n2, j2, e2, l2⟩ := hr
  exact ⟨by rw [nors, n1, n2]; rfl, max j1 j2, by rw [deps, e1, e2], Nat.max_le.mpr ⟨l1, l2⟩⟩
theorem dq_lst {k : Nat} {l : List PV} (h : Dqs k l) : Dq (k + 1) (.lst l) := ⟨by rw [nor]; exact h.1, by
  obtain ⟨n, j, e, l⟩ := h
  exact ⟨j + 1, by rw [dep, e]; rfl, Nat.succ_le_succ l⟩⟩
theorem dq_tup {k : Nat} {l : List PV} (h : Dqs k l) : Dq (k + 1) (.tup l) := ⟨by rw [nor]; exact h.1, by
  obtain ⟨n, j, e, l⟩ := h
  exact ⟨j + 1, by rw [dep, e]; rfl, Nat.succ_le_succ l⟩⟩
theorem Dq.lst {k : Nat} {l : List PV} (h : Dq k (.lst l)) : ∃ k', k = k' + 1 ∧ Dqs k' l := by
  obtain ⟨n, j, e, hj⟩ := h
  rw [nor] at n
  rw [dep] at e
  obtain ⟨i, ei, rfl⟩ := Option.map_eq_some_iff.mp e
  exact ⟨k - 1, by omega, n, i, ei, by omega⟩
theorem Dq.tup {k : Nat} {l : List PV} (h : Dq k (.tup l)) : ∃ k', k = k' + 1 ∧ Dqs k' l := by
  obtain ⟨n, j, e, hj⟩ := h
  rw [nor] at n
  rw [dep] at e
  obtain ⟨i, ei, rfl⟩ := Option.map_eq_some_iff.mp e
  exact ⟨k - 1, by omega, n, i, ei, by omega⟩
theorem Dqs.get {k : Nat} : ∀ {l : List PV} {i : Nat} (h : Dqs k l) (hi : i < l.length), Dq k l[i]
  | x :: r, i, h, hi => by
    obtain ⟨n, j, e, hj⟩ := h
    rw [nors, Bool.and_eq_true] at n
    rw [deps] at e
    split at e
    · rename_i a b ea eb
      cases e
      cases i with
      | zero => exact ⟨n.1, a, ea, by omega⟩
      | succ i => exact Dqs.get ⟨n.2, b, eb, by omega⟩ (by simpa using hi)
    · cases e
section
variable {P : Prog} {F : Fn} {cx : Option MX} {σ : Env} {h h1 : MHp} {Q : SRes → Prop} {r a : MSs} {ce : ME}
theorem evBA_T {a b : ME} {r : MEs} {k : Bool} (ha : evB P F cx a σ h = .ok true h1) (hb : evBA P F cx (.cons b r) σ h1 = .ok k h1) : evBA P F cx (.cons a (.cons b r)) σ h = .ok k h1 := evBA_cons ha (fun _ => hb)
theorem evBA_F {a b : ME} {r : MEs} (ha : evB P F cx a σ h = .ok false h1) : evBA P F cx (.cons a (.cons b r)) σ h = .ok false h1 := evBA_cons (k := true) ha (fun z => nomatch z)
theorem xs_no (hc : evB P F cx ce σ h = .ok false h1) (hr : Q (exs P F cx r σ h1)) : Q (exs P F cx (.cons (.ite ce a .nil) r) σ h) :=
  xs_ite' hc (fun z => nomatch z) (fun _ => hr)
theorem xs_yes (hc : evB P F cx ce σ h = .ok true h1) (hr : Q (exs P F cx (appS a r) σ h1)) : Q (exs P F cx (.cons (.ite ce a .nil) r) σ h) :=
  xs_ite' hc (fun _ => hr) (fun z => nomatch z)
end
def isIP : PV → Bool
  | .int _ => true
  | _ => false
def leafP : PV → Bool
  | .tup _ => false
  | .lst _ => false
  | _ => true
theorem o_isint {P : Prog} [HasF P 16 fd16] (n : Nat) (h : MHp) (x : PV) (hx : nor x = true) : callN P (n + 1) 16 [x] h = .ok (eB (isIP x)) h := by
  have c : HasF P 16 fd16 := inferInstance
  refine call_p (fd := fd16) (e := eB) (V := isIP x) [some x] rfl rfl (by rw [nors, hx]; rfl) rfl ?_
  cases x with
  | ref _ => rw [nor] at hx; cases hx
  | scr _ => rw [nor] at hx; cases hx
  | _ => exact ⟨[], .inl ⟨_, rfl, rfl⟩⟩
theorem lawEqs_all (g : PV) : ∀ (as ds : List PV), as.length = ds.length → ((rng 0 (ds.length : Int)).map fun i => lawEq (as.getD i.toNat g) (ds.getD i.toNat g)).all id = lawEqs as ds := by
  have go : ∀ (as ds : List PV), as.length = ds.length → ((List.range ds.length).map fun i => lawEq (as.getD i g) (ds.getD i g)).all id = lawEqs as ds := by
    intro as
    induction as with
    | nil => intro ds h; cases ds with | nil => rfl | cons _ _ => simp at h
    | cons x xs ih =>
      intro ds h
      cases ds with
      | nil => simp at h
      | cons y ys =>
        have h' : xs.length = ys.length := by simpa using h
        rw [lawEqs, ← ih ys h', List.length_cons, List.range_succ_eq_map]
        simp [Function.comp_def]
  intro as ds h
  rw [← go as ds h]
  unfold rng
  rw [List.map_map]
  simp [Function.comp_def]
theorem ty_ok {t : Ty} {x : PV} {h : MHp} (hx : nor x = true) : isTy t x h = some (isY t ⟨x, hx⟩) := isY_ok (x := ⟨x, hx⟩)
theorem flat_of {x : PV} {j : Nat} (e : dep x = some j) (h : j ≤ 60) : flatD x = true := by
  unfold flatD; rw [e]; exact decide_eq_true h
theorem dep_str {s : Str} {j : Nat} (e : dep (.str s) = some j) : dep (.str s) = some 0 := by
  rw [dep] at e ⊢
  split at e
  · rename_i c; rw [if_pos c]
  · cases e
section
variable {P : Prog} {n : Nat} [HasF P 16 fd16] {a : PV}
theorem ret_no {r : MSs} {V : Bool} {σ : Env} {h : MHp} {F : Fn} (e : V = false) : RtG (Gp eB) V (exs P F none (.cons (.ret (.cst (.bl false))) r) σ h) := xs_ret ev_cst (rt_p (by rw [e]))
theorem eq_leaf {F : Fn} (hF : ∀ x h, nor x = true → F 16 [x] h = .ok (eB (isIP x)) h) {b : PV} {m : Nat} (hb : Dq m b) (ha : nor a = true) (hd : ∃ j, dep a = some j) (hs : leafP b = true) : RtG (Gp eB) (lawEq a b) (exs P F none fd282.body [some a, some b, none] []) := by
  cases b with
  | tup _ => cases hs
  | lst _ => cases hs
  | dic _ _ _ => obtain ⟨_, j, e, _⟩ := hb; simp [dep] at e
  | ref _ => have := hb.1; rw [nor] at this; cases this
  | scr _ => have := hb.1; rw [nor] at this; cases this
  | non => exact xs_yes (evB_of (ev_cmp (ev_var rfl) ev_cst rfl)) (xs_ret (ev_cmp (ev_var rfl) ev_cst c_isN) (rt_p (by rw [lawEq])))
  | bl b =>
    refine xs_no (evB_of (ev_cmp (ev_var rfl) ev_cst rfl)) (xs_yes (evB_of (ev_isi (ev_var rfl) rfl)) ?_)
    cases a with
    | bl c => exact xs_ret (ev_and (evA_cons (ev_isi (ev_var rfl) rfl) (fun _ => evA_one (ev_cmp (ev_var rfl) (ev_var rfl) rfl)))) (rt_p (by rw [lawEq]; rfl))
    | _ => exact xs_ret (ev_and (evA_cons (k := true) (ev_isi (ev_var rfl) (ty_ok ha)) (fun hc => nomatch hc))) (rt_p (by simp [lawEq]; rfl))
  | int b =>
    refine xs_no (evB_of (ev_cmp (ev_var rfl) ev_cst rfl)) (xs_no (evB_of (ev_isi (ev_var rfl) rfl)) (xs_yes (evB_of (ev_isi (ev_var rfl) rfl)) ?_))
    cases a with
    | int c => exact xs_ret (ev_and (evA_cons (ev_call (evs_cons (ev_var rfl) evs_nil) (hF _ _ ha)) (fun _ => evA_one (ev_cmp (ev_var rfl) (ev_var rfl) rfl)))) (rt_p (by rw [lawEq]; rfl))
    | _ => exact xs_ret (ev_and (evA_cons (k := true) (ev_call (evs_cons (ev_var rfl) evs_nil) (hF _ _ ha)) (fun hc => nomatch hc))) (rt_p (by simp [lawEq, isIP]))
  | str b =>
    refine xs_no (evB_of (ev_cmp (ev_var rfl) ev_cst rfl)) (xs_no (evB_of (ev_isi (ev_var rfl) rfl)) (xs_no (evB_of (ev_isi (ev_var rfl) rfl)) (xs_yes (evB_of (ev_isi (ev_var rfl) rfl)) ?_)))
    cases a with
    | str c =>
      obtain ⟨_, j, e1, _⟩ := hb
      obtain ⟨i, e2⟩ := hd
      exact xs_ret (ev_and (evA_cons (ev_isi (ev_var rfl) rfl) (fun _ => evA_one (ev_cmp (ev_var rfl) (ev_var rfl) (c_eqA rfl rfl (flat_of (dep_str e2) (by decide)) (flat_of (dep_str e1) (by decide))))))) (rt_p (by rw [lawEq]; rfl))
    | _ => exact xs_ret (ev_and (evA_cons (k := true) (ev_isi (ev_var rfl) (ty_ok ha)) (fun hc => nomatch hc))) (rt_p (by simp [lawEq]; rfl))
def seqOf (t : Bool) (l : List PV) : PV := if t then .tup l else .lst l
theorem len_of {t : Bool} {l : List PV} {h : MHp} : biS .len [seqOf t l] h = some (eI l.length) := by cases t <;> rfl
theorem ix_of {t : Bool} {l : List PV} {i : Int} {h : MHp} (h0 : 0 ≤ i) (h1 : i < l.length) : index (seqOf t l) (eI i) h = some (l.getD i.toNat .non) := by
  have : i.toNat < l.length := by omega
  cases t <;> simp [seqOf, index, indexR, itemsT, indexI, atI, ixN, h0, h1, this]
def node7 : MSs := .cons (.ite (.cmp .ne (.bif .len (.cons (.var 0) .nil)) (.bif .len (.cons (.var 1) .nil))) (.cons (.ret (.cst (.bl false))) .nil) .nil) (.cons (.ret (.bif .all (.cons (.lc [2] (.call 282 (.cons (.ix (.var 0) (.var 2)) (.cons (.ix (.var 1) (.var 2)) .nil))) (.nm 2) (.rng (.cons (.bif .len (.cons (.var 1) .nil)) .nil)) .nil) .nil))) .nil)
theorem deps_get : ∀ {l : List PV} {i : Nat}, (∃ j, deps l = some j) → (hi : i < l.length) → ∃ j, dep l[i] = some j
  | x :: r, i, h, hi => by
    obtain ⟨j, e⟩ := h
    rw [deps] at e
    split at e
    · rename_i a b ea eb
      cases i with
      | zero => exact ⟨a, ea⟩
      | succ i => exact deps_get ⟨b, eb⟩ (by simpa using hi)
    · cases e
theorem lawEqs_len : ∀ {as ds : List PV}, as.length ≠ ds.length → lawEqs as ds = false
  | [], [], h => (h rfl).elim
  | [], _ :: _, _ => by rw [lawEqs] <;> simp
  | _ :: _, [], _ => by rw [lawEqs] <;> simp
  | x :: xs, y :: ys, h => by
    rw [lawEqs, lawEqs_len (as := xs) (ds := ys) (by simpa using h), Bool.and_false]
theorem eq_node {F : Fn} {t : Bool} {as ds : List PV} {m : Nat} (hb : Dqs m ds) (ha : nors as = true) (hd : ∃ j, deps as = some j) (hz : ds.length ≤ 16777216)
    (ih : ∀ (a b : PV), b ∈ ds → Dq m b → nor a = true → (∃ j, dep a = some j) → F 282 [a, b] [] = .ok (eB (lawEq a b)) []) : RtG (Gp eB) (lawEqs as ds) (exs P F none node7 [some (seqOf t as), some (seqOf t ds), none] []) := by
  by_cases hl : as.length = ds.length
  · refine xs_no (evB_of (ev_cmp (ev_bif (evs_cons (ev_var rfl) evs_nil) len_of) (ev_bif (evs_cons (ev_var rfl) evs_nil) len_of) ?_)) ?_
    · rw [c_ne (e := eI) (a := (as.length : Int)) (b := ds.length), hl]; simp
    · have e1 := lawEqs_all .non as ds hl
      refine xs_ret (ev_bif (evs_cons (ev_lc (e := eI) (g := eB) (xs := rng 0 ds.length) (f := fun i => lawEq (as.getD i.toNat .non) (ds.getD i.toNat .non)) (evI_rng (evs_cons (ev_bif (evs_cons (ev_var rfl) evs_nil) len_of) evs_nil) (range1 ⟨by omega, by omega, by omega, by omega, by omega⟩)) rfl (fun i hi => ⟨[some (seqOf t as), some (seqOf t ds), some (eI i)], rfl, ?_⟩)) evs_nil) b_all) (rt_p (by rw [e1]))
      obtain ⟨k, hk, rfl⟩ := List.mem_map.mp hi
      have hk := List.mem_range.mp hk
      have hk2 : k < ds.length := by omega
      have hk1 : k < as.length := by omega
      refine ev_call (evs_cons (ev_ix (ev_var rfl) (ev_var rfl) (ix_of (by omega) (by omega))) (evs_cons (ev_ix (ev_var rfl) (ev_var rfl) (ix_of (by omega) (by omega))) evs_nil)) (ih _ _ ?_ ?_ ?_ ?_)
      · simp only [Int.zero_add, Int.toNat_natCast, List.getD_eq_getElem?_getD, List.getElem?_eq_getElem hk2, Option.getD_some]
        exact List.getElem_mem hk2
      · simp only [Int.zero_add, Int.toNat_natCast, List.getD_eq_getElem?_getD, List.getElem?_eq_getElem hk2, Option.getD_some]
        exact hb.get hk2
      · simp only [Int.zero_add, Int.toNat_natCast, List.getD_eq_getElem?_getD, List.getElem?_eq_getElem hk1, Option.getD_some]
        exact nors_all ha _ (List.getElem_mem hk1)
      · simp only [Int.zero_add, Int.toNat_natCast, List.getD_eq_getElem?_getD, List.getElem?_eq_getElem hk1, Option.getD_some]
        exact deps_get hd hk1
  · refine xs_yes (evB_of (ev_cmp (ev_bif (evs_cons (ev_var rfl) evs_nil) len_of) (ev_bif (evs_cons (ev_var rfl) evs_nil) len_of) ?_)) (ret_no (lawEqs_len hl))
    rw [c_ne (e := eI) (a := (as.length : Int)) (b := ds.length)]
    have : ¬ (as.length : Int) = ds.length := by omega
    simp [this]
end
mutual
/-- lists within are of a bounded length -/
def bz : PV → Bool
  | .tup l => decide (l.length ≤ 16777216) && bzs l
  | .lst l => decide (l.length ≤ 16777216) && bzs l
  | _ => true
def bzs : List PV → Bool
  | [] => true
  | x :: r => bz x && bzs r
end
theorem bzs_get : ∀ {l : List PV} {i : Nat}, bzs l = true → (hi : i < l.length) → bz l[i] = true
  | x :: r, i, h, hi => by
    rw [bzs, Bool.and_eq_true] at h
    cases i with
    | zero => exact h.1
    | succ i => exact bzs_get h.2 (by simpa using hi)
theorem bzs_mem {l : List PV} {b : PV} (h : bzs l = true) (m : b ∈ l) : bz b = true := by
  obtain ⟨i, hi, rfl⟩ := List.getElem_of_mem m
  exact bzs_get h hi
theorem o_equal {P : Prog} [HasF P 16 fd16] [HasF P 282 fd282] : ∀ (m n : Nat) (h : MHp) (a b : PV), Dq m b → nor a = true → (∃ j, dep a = some j) → bz b = true → callN P (n + m + 2) 282 [a, b] h = .ok (eB (lawEq a b)) h := by
  have leaf : ∀ (m n : Nat) (h : MHp) (a b : PV), Dq m b → nor a = true → (∃ j, dep a = some j) → leafP b = true → callN P (n + m + 2) 282 [a, b] h = .ok (eB (lawEq a b)) h := fun m n h a b hb ha hd hs =>
    call_p (fd := fd282) (e := eB) (V := lawEq a b) [some a, some b, none] rfl rfl (by rw [nors, ha, nors, hb.1]; rfl) rfl (eq_leaf (fun x h hx => o_isint (n + m) h x hx) hb ha hd hs)
  intro m
  induction m with
  | zero =>
    intro n h a b hb ha hd hz
    refine leaf 0 n h a b hb ha hd ?_
    cases b with
    | tup l => obtain ⟨k, e, _⟩ := hb.tup; omega
    | lst l => obtain ⟨k, e, _⟩ := hb.lst; omega
    | _ => rfl
  | succ m ih =>
    intro n h a b hb ha hd hz
    cases b with
    | tup ds =>
      refine call_p (fd := fd282) (e := eB) (V := lawEq a (.tup ds)) [some a, some (.tup ds), none] rfl rfl (by rw [nors, ha, nors, hb.1]; rfl) rfl ?_
      refine xs_no (evB_of (ev_cmp (ev_var rfl) ev_cst rfl)) (xs_no (evB_of (ev_isi (ev_var rfl) rfl)) (xs_no (evB_of (ev_isi (ev_var rfl) rfl)) (xs_no (evB_of (ev_isi (ev_var rfl) rfl)) ?_)))
      obtain ⟨k, e, hb'⟩ := hb.tup
      cases e
      rw [bz, Bool.and_eq_true] at hz
      cases a with
      | tup as =>
        refine xs_no (evB_and (evBA_T (evB_of (ev_isi (ev_var rfl) rfl)) (evBA_one (evB_not (c := true) (evB_of (ev_isi (ev_var rfl) rfl)))))) (xs_no (evB_and (evBA_F (evB_of (ev_isi (ev_var rfl) rfl)))) ?_)
        rw [nor] at ha
        obtain ⟨j, ej⟩ := hd
        rw [dep] at ej
        obtain ⟨i, ei, _⟩ := Option.map_eq_some_iff.mp ej
        rw [lawEq]
        exact eq_node (t := true) hb' ha ⟨i, ei⟩ (of_decide_eq_true hz.1) fun a b p0 p1 p2 p3 => ih n [] a b p1 p2 p3 (bzs_mem hz.2 p0)
      | _ => exact xs_yes (evB_and (evBA_T (evB_of (ev_isi (ev_var rfl) rfl)) (evBA_one (evB_not (c := false) (evB_of (ev_isi (ev_var rfl) (ty_ok ha))))))) (ret_no (by simp [lawEq]))
    | lst ds =>
      refine call_p (fd := fd282) (e := eB) (V := lawEq a (.lst ds)) [some a, some (.lst ds), none] rfl rfl (by rw [nors, ha, nors, hb.1]; rfl) rfl ?_
      refine xs_no (evB_of (ev_cmp (ev_var rfl) ev_cst rfl)) (xs_no (evB_of (ev_isi (ev_var rfl) rfl)) (xs_no (evB_of (ev_isi (ev_var rfl) rfl)) (xs_no (evB_of (ev_isi (ev_var rfl) rfl)) ?_)))
      obtain ⟨k, e, hb'⟩ := hb.lst
      cases e
      rw [bz, Bool.and_eq_true] at hz
      cases a with
      | lst as =>
        refine xs_no (evB_and (evBA_F (evB_of (ev_isi (ev_var rfl) rfl)))) (xs_no (evB_and (evBA_T (evB_of (ev_isi (ev_var rfl) rfl)) (evBA_one (evB_not (c := true) (evB_of (ev_isi (ev_var rfl) rfl)))))) ?_)
        rw [nor] at ha
        obtain ⟨j, ej⟩ := hd
        rw [dep] at ej
        obtain ⟨i, ei, _⟩ := Option.map_eq_some_iff.mp ej
        rw [lawEq]
        exact eq_node (t := false) hb' ha ⟨i, ei⟩ (of_decide_eq_true hz.1) fun a b p0 p1 p2 p3 => ih n [] a b p1 p2 p3 (bzs_mem hz.2 p0)
      | _ => exact xs_no (evB_and (evBA_F (evB_of (ev_isi (ev_var rfl) rfl)))) <| xs_yes (evB_and (evBA_T (evB_of (ev_isi (ev_var rfl) rfl)) (evBA_one (evB_not (c := false) (evB_of (ev_isi (ev_var rfl) (ty_ok ha))))))) (ret_no (by simp [lawEq]))
    | _ => exact leaf (m + 1) n h _ _ hb ha hd rfl
/-! ### typed -/
class Lq {α : Type} [DecidableEq α] (e : α → PV) : Prop where
  eq : ∀ a b, lawEq (e a) (e b) = decide (a = b)
  z : ∀ a, (e a = .non) = False
instance : Lq eI := ⟨fun a b => by show (a == b) = _; by_cases h : a = b <;> simp [h], fun a => by simp⟩
instance : Lq eB := ⟨fun a b => by show (a == b) = _; by_cases h : a = b <;> simp [h], fun a => by simp⟩
instance : Lq eS := ⟨fun a b => by
  show (a.s == b.s) = _
  rw [str_beq']
  by_cases h : a = b
  · subst h; simp
  · have : a.s ≠ b.s := fun z => h (by cases a; cases b; simp at z; simp [z])
    simp [h, this], fun a => by simp [eS]⟩
theorem lawEqs_map {α : Type} [DecidableEq α] {e : α → PV} [Lq e] : ∀ a b : List α, lawEqs (a.map e) (b.map e) = decide (a = b)
  | [], [] => rfl
  | [], _ :: _ => by simp [lawEqs]
  | _ :: _, [] => by simp [lawEqs]
  | x :: xs, y :: ys => by
    rw [List.map_cons, List.map_cons, lawEqs, Lq.eq, lawEqs_map xs ys]
    by_cases h1 : x = y <;> by_cases h2 : xs = ys <;> simp [h1, h2]
instance {α : Type} [DecidableEq α] {e : α → PV} [Lq e] : Lq (eT e) := ⟨fun a b => by rw [eT, eT, lawEq, lawEqs_map], fun a => by simp [eT]⟩
instance {α : Type} [DecidableEq α] {e : α → PV} [Lq e] : Lq (eL e) := ⟨fun a b => by rw [eL, eL, lawEq, lawEqs_map], fun a => by simp [eL]⟩
instance {α β : Type} [DecidableEq α] [DecidableEq β] {e : α → PV} {f : β → PV} [Lq e] [Lq f] : Lq (eP2 e f) := ⟨fun a b => by
  obtain ⟨a1, a2⟩ := a; obtain ⟨b1, b2⟩ := b
  simp only [eP2, lawEq, lawEqs, Lq.eq]
  by_cases h1 : a1 = b1 <;> by_cases h2 : a2 = b2 <;> simp [h1, h2], fun a => by simp [eP2]⟩
instance {α β γ : Type} [DecidableEq α] [DecidableEq β] [DecidableEq γ] {e : α → PV} {f : β → PV} {g : γ → PV} [Lq e] [Lq f] [Lq g] : Lq (eP3 e f g) := ⟨fun a b => by
  obtain ⟨a1, a2, a3⟩ := a; obtain ⟨b1, b2, b3⟩ := b
  simp only [eP3, lawEq, lawEqs, Lq.eq]
  by_cases h1 : a1 = b1 <;> by_cases h2 : a2 = b2 <;> by_cases h3 : a3 = b3 <;> simp [h1, h2, h3], fun a => by simp [eP3]⟩
theorem lawEq_o {α : Type} [DecidableEq α] {e : α → PV} [Lq e] (a b : Option α) : lawEq (eO e a) (eO e b) = decide (a = b) := by
  cases b with
  | none => cases a <;> simp [eO, lawEq, Lq.z]
  | some b =>
    cases a with
    | some a => simp [eO, Lq.eq]
    | none =>
      simp only [eO]
      have : ∀ p : PV, p ≠ .non → lawEq .non p = false := by
        intro p hp
        cases p <;> simp [lawEq] at hp ⊢
      rw [this _ (by simp [Lq.z])]
      simp
/-! ### the law -/
theorem o_stream {P : Prog} [c : HasF P 229 fd229] {n : Nat} {ns : List Int} : callN P (n + 1) 229 [.scr ns] [] = .ok (.ref 0) [eM (st0 ns)] := by
  rw [call_eq' c.e]; rfl
theorem call_law {P : Prog} {k n : Nat} {fd : FnD} [c : HasF P k fd] {V : Bool} {ns : List Int} (σ : Env) (hr : fd.raw = false) (hl : [PV.scr ns].length = fd.np) (hσ : [PV.scr ns].map some ++ List.replicate (fd.nl - fd.np) none = σ)
    (hQ : RtG (Gp eB) V (exs P (callN P n) none fd.body σ [])) : callN P (n + 1) k [.scr ns] [] = .ok (eB V) [] := by
  rw [call_eq' c.e]
  unfold runFn
  rw [if_pos hl, if_neg (by rw [hr]; simp [nors, nor]), hσ]
  obtain ⟨l, q⟩ := hQ
  rcases q with ⟨p, q, z⟩ | ⟨p, σ', q⟩
  · rw [q]
    show leave fd.raw [] _ p = _
    unfold leave
    rw [hr, if_neg (by decide), if_pos (by rfl)]
    rw [show frz ([] : MHp).length _ p = some (eB V) from z]; rfl
  · cases p
end Qm

/-! V6: the laws' own picks. -/
namespace Qm
open PySem (Str)
theorem o_equal' {P : Prog} [HasF P 16 fd16] [HasF P 282 fd282] (m n : Nat) (h : MHp) (a b : PV) (hb : Dq m b) (ha : Dq m a) (hz : bz b = true) : callN P (n + m + 2) 282 [a, b] h = .ok (eB (lawEq a b)) h :=
  o_equal m n h a b hb ha.1 ⟨_, ha.2.choose_spec.1⟩ hz
theorem o_isintA {P : Prog} [HasF P 16 fd16] (n : Nat) (h : MHp) (x : NV) : callN P (n + 1) 16 [eA x] h = .ok (eB (isInt x)) h := by
  rw [o_isint n h (eA x) x.n]; rfl
def sv (s : String) (h : (Str.ofString s).cps.all (· < 0x110000) = true := by decide +kernel) : SV := ⟨Str.ofString s, h⟩
theorem xs_asg_new {P : Prog} {F : Fn} {cx : Option MX} {σ : Env} {h h1 : MHp} {Q : SRes → Prop} {r : MSs} {e : ME} {t : MT} {v : PV} (σ' : Env) (v' : PV) (h' : MHp) (he : ev P F cx e σ h = .ok v h1) (hv : v = v') (hh : h1 = h') (ht : asgT t v' σ = some σ') (hr : Q (exs P F cx r σ' h')) : Q (exs P F cx (.cons (.asg t e) r) σ h) := by
  subst hv hh
  exact xs_asg σ' he ht hr
theorem cget {s : Sm} {rest cells : MHp} (k : Nat) {o : MO} (h : cells[k]? = some o) : (eM s :: (rest ++ cells))[rest.length + (k + 1)]? = some o := by
  rw [show rest.length + (k + 1) = (rest.length + k) + 1 from rfl, List.getElem?_cons_succ, List.getElem?_append_right (by omega), Nat.add_sub_cancel_left]
  exact h
theorem citems {s : Sm} {rest cells : MHp} (k : Nat) {l : List PV} (h : cells[k]? = some (.lst l)) : (itemsL (.ref (rest.length + (k + 1))) (eM s :: (rest ++ cells))).isSome = true := by
  simp only [itemsL, cget k h]; rfl
theorem cset {s : Sm} {rest cells cells' : MHp} (k : Nat) {o : MO} (h : cells.set k o = cells') : (eM s :: (rest ++ cells)).set (rest.length + (k + 1)) o = eM s :: (rest ++ cells') := by
  rw [show rest.length + (k + 1) = (rest.length + k) + 1 from rfl, List.set_cons_succ, List.set_append_right _ _ (by omega), Nat.add_sub_cancel_left, h]
theorem cnew {s : Sm} {rest cells cells' : MHp} {o : MO} (h : cells ++ [o] = cells') : (eM s :: (rest ++ cells)) ++ [o] = eM s :: (rest ++ cells') := by
  rw [List.cons_append, List.append_assoc, h]
theorem cref {s : Sm} {rest cells : MHp} (k : Nat) (h : cells.length = k) : PV.ref (eM s :: (rest ++ cells)).length = .ref (rest.length + (k + 1)) := by
  rw [List.length_cons, List.length_append, h]; rfl
section
variable {P : Prog} {F : Fn} {cx : Option MX} {σ : Env} {h h1 : MHp} {Q : SRes → Prop} {r : MSs} {a : ME} {α : Type} {e : α → PV}
theorem xs_appT {i n : Nat} {y : α} {l : List α} (h' : MHp) (hv : σ[i]? = some (some (.ref n))) (he : ev P F cx a σ h = .ok (e y) h1) (hn0 : (itemsL (.ref n) h).isSome = true) (hn : h1[n]? = some (.lst (l.map e))) (hl : l.length < 16777216) (hh : h1.set n (.lst ((l ++ [y]).map e)) = h') (hr : Q (exs P F cx r σ h')) : Q (exs P F cx (.cons (.exp (.mth .append (.var i) (.cons a .nil))) r) σ h) :=
  xs_app h' hv he hn0 hn (by rw [List.length_map]; exact hl) (by rw [← hh, List.map_append]; rfl) hr
theorem xs_extT {i n : Nat} {l l2 : List α} (h' : MHp) (hv : σ[i]? = some (some (.ref n))) (he : ev P F cx a σ h = .ok (eL e l2) h1) (hn0 : (itemsL (.ref n) h).isSome = true) (hn : h1[n]? = some (.lst (l.map e))) (hl : BigOk l.length l2.length) (hh : h1.set n (.lst ((l ++ l2).map e)) = h') (hr : Q (exs P F cx r σ h')) : Q (exs P F cx (.cons (.exp (.mth .extend (.var i) (.cons a .nil))) r) σ h) :=
  xs_ext (ys := l2.map e) h' hv he hn0 rfl hn (by rw [List.length_map, List.length_map]; exact hl) (by rw [← hh, List.map_append]) hr
end
section
variable {P : Prog} {F : Fn} {cx : Option MX} {σ : Env} {h h1 h2 : MHp} {a b : ME} {α β : Type} {e : α → PV} {f : β → PV}
theorem zipL_map : ∀ (xs : List α) (ys : List β), zipL (xs.map e) (ys.map f) = (List.zip xs ys).map (eP2 e f)
  | [], _ => by simp [zipL]
  | _ :: _, [] => by simp [zipL]
  | x :: xs, y :: ys => by simp [zipL, zipL_map xs ys, eP2]
theorem evI_zipL {xs : List α} {ys : List β} (ha : ev P F cx a σ h = .ok (eL e xs) h1) (hb : ev P F cx b σ h1 = .ok (eL f ys) h2) : evI P F cx (.zip a b) σ h = .ok ⟨(List.zip xs ys).map (eP2 e f), []⟩ h2 := by
  rw [evI, ha, Res.bind_ok, hb, Res.bind_ok]
  show ofOpt (some (⟨zipL (xs.map e) (ys.map f), _⟩ : Wk)) h2 = _
  rw [zipL_map]; rfl
theorem evI_zipLT {xs : List α} {ys : List β} (ha : ev P F cx a σ h = .ok (eL e xs) h1) (hb : ev P F cx b σ h1 = .ok (eT f ys) h2) : evI P F cx (.zip a b) σ h = .ok ⟨(List.zip xs ys).map (eP2 e f), []⟩ h2 := by
  rw [evI, ha, Res.bind_ok, hb, Res.bind_ok]
  show ofOpt (some (⟨zipL (xs.map e) (ys.map f), _⟩ : Wk)) h2 = _
  rw [zipL_map]; rfl
theorem evI_zipT {xs : List α} {ys : List β} (ha : ev P F cx a σ h = .ok (eT e xs) h1) (hb : ev P F cx b σ h1 = .ok (eT f ys) h2) : evI P F cx (.zip a b) σ h = .ok ⟨(List.zip xs ys).map (eP2 e f), []⟩ h2 := by
  rw [evI, ha, Res.bind_ok, hb, Res.bind_ok]
  show ofOpt (some (⟨zipL (xs.map e) (ys.map f), _⟩ : Wk)) h2 = _
  rw [zipL_map]; rfl
theorem evI_rvdL {xs : List α} (ha : ev P F cx a σ h = .ok (eL e xs) h1) : evI P F cx (.rvd a) σ h = .ok ⟨xs.reverse.map e, []⟩ h1 := by
  rw [evI, ha, Res.bind_ok, List.map_reverse]; rfl
theorem evI_rvdT {xs : List α} (ha : ev P F cx a σ h = .ok (eT e xs) h1) : evI P F cx (.rvd a) σ h = .ok ⟨xs.reverse.map e, []⟩ h1 := by
  rw [evI, ha, Res.bind_ok, List.map_reverse]; rfl
end
theorem sP4_1 {α β γ δ : Type} {e : α → PV} {f : β → PV} {g : γ → PV} {k : δ → PV} {v : α × β × γ × δ} {h : MHp} : slice (eP4 e f g k v) (some 1) none h = some (eP3 f g k v.2) := rfl
theorem sP4_2 {α β γ δ : Type} {e : α → PV} {f : β → PV} {g : γ → PV} {k : δ → PV} {v : α × β × γ × δ} {h : MHp} : slice (eP4 e f g k v) (some 2) none h = some (eP2 g k v.2.2) := rfl
theorem sP3_1 {α β γ : Type} {e : α → PV} {f : β → PV} {g : γ → PV} {v : α × β × γ} {h : MHp} : slice (eP3 e f g v) (some 1) none h = some (eP2 f g v.2) := rfl
theorem ev_coLo {P : Prog} {F : Fn} {cx : Option MX} {σ : Env} {h h1 : MHp} {a : ME} {α : Type} {e : α → PV} {l : List α} (he : ev P F cx a σ h = .ok (eL e l) h1) : ev P F cx a σ h = .ok (eL (eO e) (l.map some)) h1 :=
  ev_cast he (by unfold eL; rw [List.map_map]; rfl)
theorem ev_coTo {P : Prog} {F : Fn} {cx : Option MX} {σ : Env} {h h1 : MHp} {a : ME} {α : Type} {e : α → PV} {l : List α} (he : ev P F cx a σ h = .ok (eT e l) h1) : ev P F cx a σ h = .ok (eT (eO e) (l.map some)) h1 :=
  ev_cast he (by unfold eT; rw [List.map_map]; rfl)
/-- told as a tuple -/
class Tp {α : Type} (e : α → PV) : Prop where
  tp : ∀ a, ∃ l, e a = .tup l
instance {α : Type} {e : α → PV} : Tp (eT e) := ⟨fun _ => ⟨_, rfl⟩⟩
instance {α : Type} {e : α → PV} : Tp (eP1 e) := ⟨fun _ => ⟨_, rfl⟩⟩
instance {α β : Type} {e : α → PV} {f : β → PV} : Tp (eP2 e f) := ⟨fun _ => ⟨_, rfl⟩⟩
instance {α β γ : Type} {e : α → PV} {f : β → PV} {g : γ → PV} : Tp (eP3 e f g) := ⟨fun _ => ⟨_, rfl⟩⟩
instance {α β γ δ : Type} {e : α → PV} {f : β → PV} {g : γ → PV} {k : δ → PV} : Tp (eP4 e f g k) := ⟨fun _ => ⟨_, rfl⟩⟩
theorem c_ord {α : Type} {e : α → PV} {d : Nat} [Tp e] [Fl e d] [Al e] {a b : α} {h : MHp} (hd : d ≤ 60) : ∀ o, (match o with | .lt => true | .le => true | .gt => true | .ge => true | _ => false) = true → cop o (e a) (e b) h = (match o with | .lt => some (pLt (e a) (e b)) | .gt => some (pLt (e b) (e a)) | .le => some (!pLt (e b) (e a)) | .ge => some (!pLt (e a) (e b)) | _ => none) := by
  intro o ho
  obtain ⟨l, e1⟩ := Tp.tp (e := e) a
  obtain ⟨m, e2⟩ := Tp.tp (e := e) b
  have f1 := fl_flat (e := e) hd a
  have f2 := fl_flat (e := e) hd b
  have al := Al.al (e := e) a b
  rw [e1] at f1 al
  rw [e2] at f2 al
  rw [alikeP] at al
  rw [e1, e2]
  have g : ∀ o, ordS o (.tup l) (.tup m) = ordT o l m := fun o => by
    show (if flatD (.tup l) && flatD (.tup m) && alikePs l m then ordT o l m else none) = _
    rw [f1, f2, al]; rfl
  cases o <;> first | (cases ho; done) | (show ordS _ (.tup l) (.tup m) = _; rw [g]; simp only [pLt]; rfl)
theorem c_ltE {α : Type} {e : α → PV} {d : Nat} [Tp e] [Fl e d] [Al e] {a b : α} {h : MHp} (hd : d ≤ 60 := by decide) : cop .lt (e a) (e b) h = some (pLt (e a) (e b)) := c_ord hd .lt rfl
theorem c_gtE {α : Type} {e : α → PV} {d : Nat} [Tp e] [Fl e d] [Al e] {a b : α} {h : MHp} (hd : d ≤ 60 := by decide) : cop .gt (e a) (e b) h = some (pLt (e b) (e a)) := c_ord hd .gt rfl
theorem c_leE {α : Type} {e : α → PV} {d : Nat} [Tp e] [Fl e d] [Al e] {a b : α} {h : MHp} (hd : d ≤ 60 := by decide) : cop .le (e a) (e b) h = some (!pLt (e b) (e a)) := c_ord hd .le rfl
theorem c_geE {α : Type} {e : α → PV} {d : Nat} [Tp e] [Fl e d] [Al e] {a b : α} {h : MHp} (hd : d ≤ 60 := by decide) : cop .ge (e a) (e b) h = some (!pLt (e a) (e b)) := c_ord hd .ge rfl
/-- _law_pick -/
def fd232 : FnD := ⟨2, 2, false,
  (.cons (.ret (.ix (.var 1) (.call 230 (.cons (.var 0) (.cons (.bif .len (.cons (.var 1) .nil)) .nil))))) .nil)⟩
def pick {α : Type} [Inhabited α] (s : Sm) (l : List α) : α × Sm := (gt l (nx s l.length).1, (nx s l.length).2)
theorem pick_in {s : Sm} {n : Nat} (h : DrOk n) : InR n (nx s n).1 := by
  have h1 := nx_ge s h.1
  have h2 := nx_lt s h.1
  exact ⟨by omega, h2⟩
section
variable {P : Prog} [HasF P 230 fd230] [HasF P 232 fd232] {α : Type} [Inhabited α] {e : α → PV} [Nr e] {l : List α} {s : Sm} {rest : MHp}
theorem o_pickL (n : Nat) (d : DrOk l.length) : callN P (n + 2) 232 [.ref 0, eL e l] (eM s :: rest) = .ok (e (pick s l).1) (eM (pick s l).2 :: rest) := by
  refine call_s (fd := fd232) (e := e) (V := pick s l) [some (.ref 0), some (eL e l)] rfl rfl rfl rfl ?_
  rw [show (eM s :: rest) = eM s :: (rest ++ []) from by rw [List.append_nil]]
  exact xs_ret (ev_ix (ev_var rfl) (ev_call (evs_cons (ev_var rfl) (evs_cons (ev_bif (evs_cons (ev_var rfl) evs_nil) b_lenL) evs_nil)) (o_next d)) (i_L (pick_in d))) (rt_s [])
theorem o_pickT (n : Nat) (d : DrOk l.length) : callN P (n + 2) 232 [.ref 0, eT e l] (eM s :: rest) = .ok (e (pick s l).1) (eM (pick s l).2 :: rest) := by
  refine call_s (fd := fd232) (e := e) (V := pick s l) [some (.ref 0), some (eT e l)] rfl rfl rfl rfl ?_
  rw [show (eM s :: rest) = eM s :: (rest ++ []) from by rw [List.append_nil]]
  exact xs_ret (ev_ix (ev_var rfl) (ev_call (evs_cons (ev_var rfl) (evs_cons (ev_bif (evs_cons (ev_var rfl) evs_nil) b_lenT) evs_nil)) (o_next d)) (i_T (pick_in d))) (rt_s [])
theorem o_pickR (n : Nat) {k : Nat} (hk : rest[k]? = some (.lst (l.map e))) (d : DrOk l.length) : callN P (n + 2) 232 [.ref 0, .ref (k + 1)] (eM s :: rest) = .ok (e (pick s l).1) (eM (pick s l).2 :: rest) := by
  refine call_s (fd := fd232) (e := e) (V := pick s l) [some (.ref 0), some (.ref (k + 1))] rfl rfl rfl rfl ?_
  rw [show (eM s :: rest) = eM s :: (rest ++ []) from by rw [List.append_nil]]
  have e1 : ∀ s : Sm, (eM s :: (rest ++ []))[k + 1]? = some (.lst (l.map e)) := fun s => by rw [List.append_nil]; exact hk
  have e2 : ∀ s : Sm, (eM s :: rest)[k + 1]? = some (.lst (l.map e)) := fun s => hk
  refine xs_ret (ev_ix (ev_var rfl) (ev_call (evs_cons (ev_var rfl) (evs_cons (ev_bif (evs_cons (ev_var rfl) evs_nil) (b_lenR (e1 _))) evs_nil)) (o_next d)) (i_R (e1 _) (pick_in d))) (rt_s [])
end
end Qm

/-! V7: dicts. -/
namespace Qm
open PySem (Str)
class Ko {α : Type} (e : α → PV) (t : outParam Bool) : Prop where
  ok : ∀ a, keyOk t (e a) = true
instance : Ko eI false := ⟨fun _ => rfl⟩
instance : Ko eS false := ⟨fun _ => rfl⟩
instance : Ko (eT eI) true := ⟨fun l => by
  show (l.map eI).all _ = true
  rw [List.all_map]
  exact List.all_eq_true.mpr fun _ _ => rfl⟩
instance : Ko (eP2 eI eI) true := ⟨fun _ => rfl⟩
instance : Ko (eP3 eI eI eI) true := ⟨fun _ => rfl⟩
section
variable {α β : Type} [DecidableEq α] {e : α → PV} {f : β → PV}
def dget [Inhabited β] (l : List (α × β)) (k : α) : β := ((l.find? fun p => decide (p.1 = k)).map Prod.snd).getD default
def dgetD (l : List (α × β)) (k : α) (d : β) : β := ((l.find? fun p => decide (p.1 = k)).map Prod.snd).getD d
def dhas (l : List (α × β)) (k : α) : Bool := l.any fun p => decide (p.1 = k)
def dset (l : List (α × β)) (k : α) (v : β) : List (α × β) := if dhas l k = true then l.map (fun p => if p.1 = k then (p.1, v) else p) else l ++ [(k, v)]
/-- the cell of a dict -/
def cD (t : Bool) (e : α → PV) (f : β → PV) (l : List (α × β)) : MO := .dic t (l.map fun p => e p.1) (l.map fun p => f p.2)
theorem lookK_map [Ke e] (k : α) : ∀ l : List (α × β), lookK (l.map fun p => e p.1) (l.map fun p => f p.2) (e k) = ((l.find? fun p => decide (p.1 = k)).map Prod.snd).map f
  | [] => rfl
  | (a, b) :: r => by
    rw [List.map_cons, List.map_cons, lookK, Ke.eq, List.find?_cons]
    by_cases h : a = k
    · subst h; simp
    · simp only [h, decide_false, Bool.false_eq_true, if_false]
      exact lookK_map k r
theorem find_has {l : List (α × β)} {k : α} (h : dhas l k = true) : ∃ p, (l.find? fun p => decide (p.1 = k)) = some p := by
  obtain ⟨p, hp, hk⟩ := List.any_eq_true.mp h
  cases e : l.find? fun p => decide (p.1 = k) with
  | some q => exact ⟨q, rfl⟩
  | none => have := List.find?_eq_none.mp e p hp; exact (this hk).elim
theorem keys_any [Ke e] (k : α) (l : List (α × β)) : ((l.map fun p => e p.1).any fun z => peq z (e k)) = dhas l k := by
  rw [List.any_map]
  unfold dhas
  congr 1
  funext p
  exact Ke.eq _ _
variable {h : MHp}
theorem asDic_ref {n : Nat} {t : Bool} {ks vs : List PV} (hn : h[n]? = some (.dic t ks vs)) : asDic (.ref n) h = some (t, ks, vs) := by simp only [asDic, hn]
theorem itemsT_dic {n : Nat} {t : Bool} {ks vs : List PV} (hn : h[n]? = some (.dic t ks vs)) : itemsT (.ref n) h = none := by simp only [itemsT, hn]
theorem rcv_getR {n : Nat} {t : Bool} {l : List (α × β)} (hn : h[n]? = some (cD t e f l)) : rcv .get (.ref n) h = true := by
  show (asDic (.ref n) h).isSome = true
  rw [asDic_ref hn]; rfl
theorem m_getR [Ke e] {t : Bool} [Ko e t] {n : Nat} {l : List (α × β)} {k : α} {d : β} (hn : h[n]? = some (cD t e f l)) : mth .get (.ref n) [e k, f d] h = some (f (dgetD l k d), h) := by
  show ((asDic (.ref n) h).bind fun (t, ks, vs) => if keyOk t (e k) then some ((lookK ks vs (e k)).getD (f d), h) else none) = _
  rw [asDic_ref hn]
  dsimp only [Option.bind_some]
  rw [if_pos (Ko.ok k), lookK_map]
  unfold dgetD
  cases (l.find? fun p => decide (p.1 = k)) <;> rfl
theorem m_getD [Ke e] {t : Bool} [Ko e t] {l : List (α × β)} {k : α} {d : β} : mth .get (eD t e f l) [e k, f d] h = some (f (dgetD l k d), h) := by
  show ((asDic (eD t e f l) h).bind fun (t, ks, vs) => if keyOk t (e k) then some ((lookK ks vs (e k)).getD (f d), h) else none) = _
  show (if keyOk t (e k) then some ((lookK _ _ (e k)).getD (f d), h) else none) = _
  rw [if_pos (Ko.ok k), lookK_map]
  unfold dgetD
  cases (l.find? fun p => decide (p.1 = k)) <;> rfl
theorem i_DR [Inhabited β] [Ke e] {t : Bool} [Ko e t] {n : Nat} {l : List (α × β)} {k : α} (hn : h[n]? = some (cD t e f l)) (hk : dhas l k = true) : index (.ref n) (e k) h = some (f (dget l k)) := by
  show indexR (.ref n) (e k) h = _
  unfold indexR
  rw [itemsT_dic hn, asDic_ref hn]
  dsimp only
  rw [if_pos (Ko.ok k), lookK_map]
  obtain ⟨p, hp⟩ := find_has hk
  unfold dget
  rw [hp]; rfl
theorem i_D [Inhabited β] [Ke e] {t : Bool} [Ko e t] {l : List (α × β)} {k : α} (hk : dhas l k = true) : index (eD t e f l) (e k) h = some (f (dget l k)) := by
  show (if keyOk t (e k) then lookK _ _ (e k) else none) = _
  rw [if_pos (Ko.ok k), lookK_map]
  obtain ⟨p, hp⟩ := find_has hk
  unfold dget
  rw [hp]; rfl
theorem c_inDR [Ke e] {t : Bool} [Ko e t] {n : Nat} {l : List (α × β)} {k : α} (hn : h[n]? = some (cD t e f l)) : cop .isin (e k) (.ref n) h = some (dhas l k) := by
  show isinR (e k) (.ref n) h = _
  unfold isinR
  rw [itemsT_dic hn, asDic_ref hn]
  dsimp only
  rw [if_pos (Ko.ok k), keys_any]
theorem c_inD [Ke e] {t : Bool} [Ko e t] {l : List (α × β)} {k : α} : cop .isin (e k) (eD t e f l) h = some (dhas l k) := by
  show (if keyOk t (e k) then some (List.any _ _) else none) = _
  rw [if_pos (Ko.ok k), keys_any]
theorem repV_map [Ke e] (k : α) (v : β) : ∀ l : List (α × β), repV (l.map fun p => e p.1) (l.map fun p => f p.2) (e k) (f v) = (l.map fun p => if p.1 = k then (p.1, v) else p).map fun p => f p.2
  | [] => rfl
  | (a, b) :: r => by
    rw [List.map_cons, List.map_cons, repV, Ke.eq, List.map_cons, List.map_cons, repV_map k v r]
    by_cases h : a = k
    · subst h; simp
    · simp [h]
theorem setK_map [Ke e] (l : List (α × β)) (k : α) (v : β) : setK (l.map fun p => e p.1) (l.map fun p => f p.2) (e k) (f v) = ((dset l k v).map (fun p => e p.1), (dset l k v).map fun p => f p.2) := by
  unfold setK dset
  rw [keys_any]
  by_cases h : dhas l k = true
  · rw [if_pos h, if_pos h, repV_map]
    congr 1
    rw [List.map_map]
    refine List.map_congr_left fun p _ => ?_
    show e p.1 = e (if p.1 = k then (p.1, v) else p).1
    by_cases q : p.1 = k
    · rw [if_pos q]
    · rw [if_neg q]
  · rw [if_neg h, if_neg h]; simp
theorem st_D [Ke e] {t : Bool} [Ko e t] {n : Nat} {l : List (α × β)} {k : α} {v : β} (hn : h[n]? = some (cD t e f l)) (hl : l.length < 16777216) : storeIx (.ref n) (e k) (f v) h = some (h.set n (cD t e f (dset l k v))) := by
  show (match h[n]? with | some (.lst xs) => _ | some (.dic t ks vs) => if keyOk t (e k) && decide (ks.length < big) then some (h.set n (.dic t (setK ks vs (e k) (f v)).1 (setK ks vs (e k) (f v)).2)) else none | _ => none) = _
  rw [hn]
  show (if keyOk t (e k) && decide ((l.map fun p => e p.1).length < big) then _ else none) = _
  rw [Ko.ok k, List.length_map, decide_eq_true (show l.length < big from hl), if_pos (by rfl), setK_map]
  rfl
theorem st_D' [Ke e] {t : Bool} [Ko e t] {n : Nat} {l : List (α × β)} {k : α} {v : β} {h' : MHp} (hn : h[n]? = some (cD t e f l)) (hl : l.length < 16777216) (hh : h.set n (cD t e f (dset l k v)) = h') : storeIx (.ref n) (e k) (f v) h = some h' := by rw [st_D hn hl, hh]
variable {P : Prog} {F : Fn} {cx : Option MX} {σ : Env} {h1 h2 : MHp}
theorem ev_dc1m {t : Bool} {k v : ME} {a : α} {b : β} [Ko e false] (hk : ev P F cx k σ h = .ok (e a) h1) (hv : ev P F cx v σ h1 = .ok (f b) h2) : ev P F cx (.dc1 true k v) σ h = .ok (.ref h2.length) (h2 ++ [cD false e f [(a, b)]]) := by
  rw [ev, hk]
  dsimp only
  rw [hv]
  dsimp only
  rw [if_pos (Ko.ok a)]; rfl
theorem ev_dc0mD {t : Bool} : ev P F cx (.dc0 true t) σ h = .ok (.ref h.length) (h ++ [cD t e f ([] : List (α × β))]) := ev_dc0m
theorem evI_seqQ {α : Type} {e : α → PV} {a : ME} {q : PV} {xs : List α} (ha : ev P F cx a σ h = .ok q h1) (hq : itemsT q h1 = some (xs.map e)) : evI P F cx (.seq a) σ h = .ok ⟨xs.map e, srcOf q (xs.map e)⟩ h1 := by rw [evI, ha, Res.bind_ok, hq]; rfl
theorem rt_pD {α β : Type} {e : α → PV} {f : β → PV} [Nr e] [Nr f] {t : Bool} {l : List (α × β)} {n : Nat} {h : MHp} (hn : h[n]? = some (cD t e f l)) : RtG (Gp (eD t e f)) l (.rt (.ref n) h) := ⟨h, .inl ⟨.ref n, rfl, by
  show frzG 0 h 4 n = _
  unfold frzG
  rw [if_neg (by omega), hn]
  show (match frzTs _ _, frzTs _ _ with | some a, some b => some (PV.dic t a b) | _, _ => none) = _
  rw [frzTs_id (nors_mapf (f := fun p : α × β => e p.1) (fun a => Nr.nor _) l), frzTs_id (nors_mapf (f := fun p : α × β => f p.2) (fun a => Nr.nor _) l)]; rfl⟩⟩
end
theorem c_isNN {h : MHp} : cop .isN .non .non h = some true := by show some (decide (PV.non = PV.non)) = _; rw [decide_eq_true rfl]
theorem c_isBB {a b : Bool} {h : MHp} : cop .isN (eB a) (eB b) h = some (decide (a = b)) := rfl
theorem c_notBB {a b : Bool} {h : MHp} : cop .notN (eB a) (eB b) h = some (!decide (a = b)) := rfl
theorem c_notNN {h : MHp} : cop .notN .non .non h = some false := by show some (!decide (PV.non = PV.non)) = _; rw [decide_eq_true rfl]; rfl
theorem ev_unO {α : Type} [Inhabited α] {e : α → PV} {o : Option α} {P : Prog} {F : Fn} {cx : Option MX} {σ : Env} {h h1 : MHp} {a : ME} (ha : ev P F cx a σ h = .ok (eO e o) h1) (hs : o.isSome = true) : ev P F cx a σ h = .ok (e (o.getD default)) h1 := by
  cases o with
  | none => cases hs
  | some x => exact ha
/-! a text's character -/
def sAt (z : SV) (i : Int) : SV := ⟨⟨#[gt z.s.cps.toList i]⟩, by
  have h := z.ok
  have : gt z.s.cps.toList i < 0x110000 := by
    unfold gt
    cases e : z.s.cps.toList[(if 0 ≤ i then i.toNat else (i + z.s.cps.toList.length).toNat)]? with
    | none => decide
    | some x =>
      have hm := List.mem_of_getElem? e
      rw [Array.all_eq_true_iff_forall_mem] at h
      have := h x (by simpa using hm)
      simpa using this
  simpa using this⟩
theorem i_S {z : SV} {i : Int} {h : MHp} (r : InR z.s.cps.toList.length i) : index (eS z) (eI i) h = some (eS (sAt z i)) := by
  show (atI z.s.cps.toList i).map (fun c => PV.str ⟨#[c]⟩) = _
  have h2 := atI_gt (e := fun (c : Nat) => PV.int (c : Int)) r
  have h3 : atI (z.s.cps.toList.map fun (c : Nat) => PV.int (c : Int)) i = (atI z.s.cps.toList i).map fun (c : Nat) => PV.int (c : Int) := by
    unfold atI
    rw [List.length_map]
    cases ixN z.s.cps.toList.length i with
    | none => rfl
    | some j => exact List.getElem?_map ..
  rw [h3] at h2
  have e : atI z.s.cps.toList i = some (gt z.s.cps.toList i) := by
    cases q : atI z.s.cps.toList i with
    | none => rw [q] at h2; cases h2
    | some x =>
      rw [q] at h2
      have h4 := PV.int.inj (Option.some.inj h2)
      have : x = gt z.s.cps.toList i := by omega
      rw [this]
  rw [e]; rfl
/-! a tuple of some things -/
theorem tup2_of {α : Type} [Inhabited α] {e : α → PV} {l : List α} (h : l.length = 2) : eT e l = eP2 e e (gt l 0, gt l 1) := by
  match l, h with
  | [a, b], _ => rfl
theorem tup3_of {α : Type} [Inhabited α] {e : α → PV} {l : List α} (h : l.length = 3) : eT e l = eP3 e e e (gt l 0, gt l 1, gt l 2) := by
  match l, h with
  | [a, b, c], _ => rfl
/-! enumerate -/
def enm {α : Type} : Nat → List α → List (Int × α)
  | _, [] => []
  | n, x :: r => ((n : Int), x) :: enm (n + 1) r
theorem enumL_map {α : Type} {e : α → PV} : ∀ (l : List α) (n : Nat), enumL n (l.map e) = (enm n l).map (eP2 eI e)
  | [], _ => rfl
  | x :: r, n => by rw [List.map_cons, enumL, enm, List.map_cons, enumL_map r]; rfl
section
variable {α : Type} {e : α → PV} {P : Prog} {F : Fn} {cx : Option MX} {σ : Env} {h h1 : MHp} {a : ME} {xs : List α}
theorem evI_enuT (ha : ev P F cx a σ h = .ok (eT e xs) h1) : evI P F cx (.enu a) σ h = .ok ⟨(enm 0 xs).map (eP2 eI e), []⟩ h1 := by rw [evI, ha, Res.bind_ok, ← enumL_map]; rfl
theorem evI_enuL (ha : ev P F cx a σ h = .ok (eL e xs) h1) : evI P F cx (.enu a) σ h = .ok ⟨(enm 0 xs).map (eP2 eI e), []⟩ h1 := by rw [evI, ha, Res.bind_ok, ← enumL_map]; rfl
theorem evI_enuR {n : Nat} (ha : ev P F cx a σ h = .ok (.ref n) h1) (hn : h1[n]? = some (.lst (xs.map e))) : evI P F cx (.enu a) σ h = .ok ⟨(enm 0 xs).map (eP2 eI e), [(n, .lst (xs.map e))]⟩ h1 := by
  rw [evI, ha, Res.bind_ok, ← enumL_map]
  simp only [itemsT, hn]
  rfl
end
theorem mem_enm {α : Type} : ∀ {l : List α} {n : Nat} {q : Int × α}, q ∈ enm n l ↔ ∃ i : Nat, q.1 = ((n + i : Nat) : Int) ∧ l[i]? = some q.2
  | [], n, q => by simp [enm]
  | x :: r, n, q => by
    rw [enm, List.mem_cons, mem_enm (l := r)]
    constructor
    · rintro (h | ⟨i, h1, h2⟩)
      · subst h; exact ⟨0, rfl, rfl⟩
      · exact ⟨i + 1, by rw [h1, show n + 1 + i = n + (i + 1) from by omega], by simpa using h2⟩
    · rintro ⟨i, h1, h2⟩
      cases i with
      | zero =>
        left
        have h2 : x = q.2 := by simpa using h2
        exact Prod.ext h1 h2.symm
      | succ i => exact .inr ⟨i, by rw [h1, show n + 1 + i = n + (i + 1) from by omega], by simpa using h2⟩
/-! membership, as a test -/
section
variable {α : Type} {e : α → PV} {h : MHp}
def memb [DecidableEq α] (x : α) (l : List α) : Bool := l.any fun y => decide (y = x)
theorem memb_iff [DecidableEq α] {x : α} {l : List α} : memb x l = true ↔ x ∈ l := by
  unfold memb
  rw [List.any_eq_true]
  constructor
  · rintro ⟨y, h1, h2⟩
    have := of_decide_eq_true h2
    exact this ▸ h1
  · intro h; exact ⟨x, h, decide_eq_true rfl⟩
theorem memb_dec [DecidableEq α] (x : α) (l : List α) [i : Decidable (x ∈ l)] : memb x l = decide (x ∈ l) := by
  by_cases h : x ∈ l
  · rw [memb_iff.mpr h]; exact (decide_eq_true h).symm
  · rw [Bool.eq_false_iff.mpr fun q => h (memb_iff.mp q)]; exact (decide_eq_false h).symm
theorem c_inmT {d : Nat} [DecidableEq α] [Nr e] [Fl e d] [Ke e] {x : α} {l : List α} (hd : d ≤ 60 := by decide) : cop .isin (e x) (eT e l) h = some (memb x l) := by rw [c_inT hd, memb_dec]
theorem c_inmL {d : Nat} [DecidableEq α] [Nr e] [Fl e d] [Ke e] {x : α} {l : List α} (hd : d ≤ 60 := by decide) : cop .isin (e x) (eL e l) h = some (memb x l) := by rw [c_inL hd, memb_dec]
theorem c_inmR {d : Nat} [DecidableEq α] [Nr e] [Fl e d] [Ke e] {x : α} {n : Nat} {l : List α} (hn : h[n]? = some (.lst (l.map e))) (hd : d ≤ 60 := by decide) : cop .isin (e x) (.ref n) h = some (memb x l) := by rw [c_inR hn hd, memb_dec]
end
/-! plain facts about dicts that grow -/
section
variable {α β : Type} [DecidableEq α]
theorem dhas_map {γ : Type} (g : α → γ) (K : List α) (k : α) : dhas (K.map fun x => (x, g x)) k = decide (k ∈ K) := by
  unfold dhas
  rw [List.any_map]
  by_cases h : k ∈ K
  · rw [decide_eq_true h]
    exact List.any_eq_true.mpr ⟨k, h, by simp⟩
  · rw [decide_eq_false h]
    refine List.any_eq_false.mpr fun x hx => ?_
    simp
    exact fun e => h (e ▸ hx)
theorem dget_map [Inhabited β] (g : α → β) {K : List α} {k : α} (h : k ∈ K) : dget (K.map fun x => (x, g x)) k = g k := by
  unfold dget
  obtain ⟨p, hp⟩ := find_has (l := K.map fun x => (x, g x)) (k := k) (by rw [dhas_map]; exact decide_eq_true h)
  rw [hp]
  have h1 := List.find?_some hp
  have h2 := List.mem_of_find?_eq_some hp
  obtain ⟨x, _, rfl⟩ := List.mem_map.mp h2
  have : x = k := of_decide_eq_true h1
  subst this
  rfl
theorem dset_new {l : List (α × β)} {k : α} (v : β) (h : dhas l k = false) : dset l k v = l ++ [(k, v)] := by unfold dset; rw [if_neg (by rw [h]; decide)]
theorem dset_map {g : α → β} {K : List α} {k : α} (h : k ∉ K) : dset (K.map fun x => (x, g x)) k (g k) = (K ++ [k]).map fun x => (x, g x) := by
  rw [dset_new _ (by rw [dhas_map]; exact decide_eq_false h), List.map_append]; rfl
end
end Qm

/-! V8: laws that return within a loop; lists made within loops. -/
namespace Qm
theorem rt_true {V : Bool} {r : SRes} (h : V = true) (q : RtG (Gp eB) V r) : RtG (Gp eB) true r := h ▸ q
/-! ### cells behind what a loop left -/
section
variable {A B cells cells' : MHp} {n k : Nat} {o o0 : MO} {x : MO}
theorem gJ (hn : n = A.length) (h : cells[k]? = some o) : (A ++ cells)[n + k]? = some o := by
  subst hn
  rw [List.getElem?_append_right (by omega), Nat.add_sub_cancel_left]
  exact h
theorem gA (h : A[n]? = some o) : (A ++ B)[n]? = some o := by
  rw [List.getElem?_append_left (List.getElem?_eq_some_iff.mp h).1]
  exact h
theorem gS (h : A[n]? = some o) : (x :: A)[n + 1]? = some o := h
theorem sJ (hn : n = A.length) (h : cells.set k o = cells') : (A ++ cells).set (n + k) o = A ++ cells' := by
  subst hn
  rw [List.set_append_right _ _ (by omega), Nat.add_sub_cancel_left, h]
theorem sA {A' : MHp} (hg : A[n]? = some o0) (hs : A.set n o = A') : (A ++ B).set n o = A' ++ B := by
  rw [List.set_append_left _ _ (List.getElem?_eq_some_iff.mp hg).1, hs]
theorem sS {A' : MHp} (hs : A.set n o = A') : (x :: A).set (n + 1) o = x :: A' := by
  rw [List.set_cons_succ, hs]
theorem itG {xs : List PV} {h : MHp} (g : h[n]? = some (.lst xs)) : (itemsL (.ref n) h).isSome = true := by simp only [itemsL, g]; rfl
theorem srcG {h : MHp} (g : h[n]? = some o) : srcOk [(n, o)] h = true := by simp [srcOk, g]
theorem nJ (h : cells ++ [o] = cells') : (A ++ cells) ++ [o] = A ++ cells' := by rw [List.append_assoc, h]
theorem nSJ (h : A ++ [o] = B) : (x :: A) ++ [o] = x :: B := by rw [List.cons_append, h]
end
section
variable {P : Prog} {F : Fn} {cx : Option MX} {σ : Env} {h h1 : MHp} {Q : SRes → Prop} {r b : MSs}
/-- .. of a loop's body that leaves things behind -/
def NxGJ {S : Type} (σS : S → Jk → Env) (hS : S → MHp) (s : S) (r : SRes) : Prop := ∃ J l, r = .nx (σS s J) (hS s ++ l) ∨ r = .ct (σS s J) (hS s ++ l)
theorem nxGJ {S : Type} {σS : S → Jk → Env} {hS : S → MHp} {s : S} (J : Jk) (l : MHp) (e1 : σ = σS s J) (e2 : h = hS s ++ l) : NxGJ σS hS s (.nx σ h) := ⟨J, l, .inl (by rw [e1, e2])⟩
theorem loopF_foldJ {S α : Type} {e : α → PV} {fb : Env → MHp → SRes} {t : MT} {src : List (Nat × MO)} {σS : S → Jk → Env} {hS : S → MHp} {step : S → α → S} {D : S → α → Prop} (hsrc : ∀ s l, srcOk src (hS s ++ l) = true)
    (hb : ∀ s J l x, D s x → ∃ σ1, asgT t (e x) (σS s J) = some σ1 ∧ NxGJ σS hS (step s x) (fb σ1 ((hS s ++ l) ++ []))) : ∀ (xs : List α) (s : S) (J : Jk) (l : MHp), FoldD step D s xs → ∃ J' l', loopF fb t src (xs.map e) (σS s J) (hS s ++ l) = .nx (σS (xs.foldl step s) J') (hS (xs.foldl step s) ++ l')
  | [], s, J, l, _ => ⟨J, l, by rw [List.map_nil, loopF, if_pos (hsrc s l)]; rfl⟩
  | x :: xs, s, J, l, d => by
    obtain ⟨σ1, e1, J1, l1, e2⟩ := hb s J l x d.1
    rw [List.append_nil] at e2
    obtain ⟨J2, l2, e3⟩ := loopF_foldJ hsrc hb xs (step s x) J1 l1 d.2
    refine ⟨J2, l2, ?_⟩
    rw [List.map_cons, loopF, if_pos (hsrc s l), e1]
    dsimp only
    rcases e2 with e2 | e2 <;> rw [e2] <;> exact e3
theorem xs_forJ {S α : Type} {e : α → PV} {t : MT} {it : MI} {src : List (Nat × MO)} {xs : List α} (σS : S → Jk → Env) (hS : S → MHp) (step : S → α → S) (D : S → α → Prop) (s0 : S) (J0 : Jk)
    (hi : evI P F cx it σ h = .ok ⟨xs.map e, src⟩ h1) (hσ : σ = σS s0 J0) (hh : h1 = hS s0) (hsrc : ∀ s l, srcOk src (hS s ++ l) = true) (hD : FoldD step D s0 xs)
    (hb : ∀ s J l x, D s x → ∃ σ1, asgT t (e x) (σS s J) = some σ1 ∧ NxGJ σS hS (step s x) (exs P F cx b σ1 ((hS s ++ l) ++ [])))
    (hr : ∀ J l, Q (exs P F cx r (σS (xs.foldl step s0) J) ((hS (xs.foldl step s0) ++ l) ++ []))) : Q (exs P F cx (.cons (.for t it b) r) σ h) := by
  obtain ⟨J', l', e'⟩ := loopF_foldJ hsrc hb xs s0 J0 [] hD
  rw [exs, ex, hi]
  simp only [ofResV]
  rw [List.append_nil] at e'
  rw [hσ, hh, e']
  have := hr J' l'
  rw [List.append_nil] at this
  exact this
def NxXJ {T S : Type} (QV : T → SRes → Prop) (σS : S → Jk → Env) (hS : S → MHp) : T ⊕ S → SRes → Prop
  | .inl v, r => QV v r ∧ isExit r
  | .inr s, r => NxGJ σS hS s r
theorem nxXJ_ret {T S : Type} {QV : T → SRes → Prop} {σS : S → Jk → Env} {hS : S → MHp} {v : T} {r : SRes} (q : QV v r) (i : isExit r := by trivial) : NxXJ QV σS hS (.inl v) r := ⟨q, i⟩
theorem nxXJ_nx {T S : Type} {QV : T → SRes → Prop} {σS : S → Jk → Env} {hS : S → MHp} {s : S} {r : SRes} (q : NxGJ σS hS s r) : NxXJ QV σS hS (.inr s) r := q
theorem loopF_foldXJ {T S α : Type} {QV : T → SRes → Prop} {e : α → PV} {fb : Env → MHp → SRes} {t : MT} {src : List (Nat × MO)} {σS : S → Jk → Env} {hS : S → MHp} {step : S → α → T ⊕ S} {D : S → α → Prop} (hsrc : ∀ s l, srcOk src (hS s ++ l) = true)
    (hb : ∀ s J l x, D s x → ∃ σ1, asgT t (e x) (σS s J) = some σ1 ∧ NxXJ QV σS hS (step s x) (fb σ1 ((hS s ++ l) ++ []))) : ∀ (xs : List α) (s : S) (J : Jk) (l : MHp), FoldXD step D s xs →
      (∃ v, foldX step s xs = .inl v ∧ QV v (loopF fb t src (xs.map e) (σS s J) (hS s ++ l)) ∧ isExit (loopF fb t src (xs.map e) (σS s J) (hS s ++ l))) ∨ (∃ s' J' l', foldX step s xs = .inr s' ∧ loopF fb t src (xs.map e) (σS s J) (hS s ++ l) = .nx (σS s' J') (hS s' ++ l'))
  | [], s, J, l, _ => .inr ⟨s, J, l, rfl, by rw [List.map_nil, loopF, if_pos (hsrc s l)]⟩
  | x :: xs, s, J, l, d => by
    obtain ⟨σ1, e1, e2⟩ := hb s J l x d.1
    rw [List.append_nil] at e2
    rw [List.map_cons, loopF, if_pos (hsrc s l), e1, foldX]
    dsimp only
    have d2 := d.2
    cases es : step s x with
    | inl v =>
      rw [es] at e2
      obtain ⟨q, i⟩ := e2
      refine .inl ⟨v, rfl, ?_⟩
      cases er : fb σ1 (hS s ++ l) with
      | rt v h => rw [er] at q; exact ⟨q, trivial⟩
      | ex x σ h => rw [er] at q; exact ⟨q, trivial⟩
      | nx _ _ => rw [er] at i; exact i.elim
      | ct _ _ => rw [er] at i; exact i.elim
      | bk _ _ => rw [er] at i; exact i.elim
      | stuck => rw [er] at i; exact i.elim
    | inr s' =>
      rw [es] at e2 d2
      obtain ⟨J1, l1, e2⟩ := e2
      have := loopF_foldXJ (QV := QV) hsrc hb xs s' J1 l1 d2
      rcases e2 with e2 | e2 <;> rw [e2] <;> exact this
theorem xs_forXJ {T S α : Type} {QV : T → SRes → Prop} {e : α → PV} {t : MT} {it : MI} {src : List (Nat × MO)} {xs : List α} (σS : S → Jk → Env) (hS : S → MHp) (step : S → α → T ⊕ S) (D : S → α → Prop) (s0 : S) (J0 : Jk) {rest : S → T}
    (hi : evI P F cx it σ h = .ok ⟨xs.map e, src⟩ h1) (hσ : σ = σS s0 J0) (hh : h1 = hS s0) (hsrc : ∀ s l, srcOk src (hS s ++ l) = true) (hD : FoldXD step D s0 xs)
    (hb : ∀ s J l x, D s x → ∃ σ1, asgT t (e x) (σS s J) = some σ1 ∧ NxXJ QV σS hS (step s x) (exs P F cx b σ1 ((hS s ++ l) ++ [])))
    (hr : ∀ s J l, foldX step s0 xs = .inr s → QV (rest s) (exs P F cx r (σS s J) ((hS s ++ l) ++ []))) : QV (sumK (foldX step s0 xs) rest) (exs P F cx (.cons (.for t it b) r) σ h) := by
  rw [exs, ex, hi]
  simp only [ofResV]
  rw [hσ, hh]
  have key := loopF_foldXJ (QV := QV) hsrc hb xs s0 J0 [] hD
  rw [List.append_nil] at key
  rcases key with ⟨v, e1, q, i⟩ | ⟨s', J', l', e1, e2⟩
  · rw [e1, sumK_inl]
    generalize loopF (exs P F cx b) t src (xs.map e) (σS s0 J0) (hS s0) = R at q i
    cases R with
    | rt v h => exact q
    | ex x σ h => exact q
    | nx _ _ => exact i.elim
    | ct _ _ => exact i.elim
    | bk _ _ => exact i.elim
    | stuck => exact i.elim
  · rw [e1, e2, sumK_inr]
    have := hr s' J' l' e1
    rw [List.append_nil] at this
    exact this
end
def MapSD {S α β : Type} (f : S → α → β × S) (D : S → α → Prop) : S → List α → Prop
  | _, [] => True
  | s, x :: r => D s x ∧ MapSD f D (f s x).2 r
theorem loopC_G {S α β : Type} {e : α → PV} {g : β → PV} {fe : Env → MHp → Res PV} {ft : Env → MHp → Res Bool} {tg : MT} {σ : Env} {B : S → MHp} {f : S → α → β × S} {D : S → α → Prop} (ht : ∀ σ' h, ft σ' h = .ok true h)
    (hx : ∀ s x, D s x → ∃ σ', asgT tg (e x) σ = some σ' ∧ fe σ' (B s) = .ok (g (f s x).1) (B (f s x).2)) : ∀ (xs : List α) (s : S), MapSD f D s xs → loopC fe ft tg [] (xs.map e) σ (B s) = .ok ((mapS f s xs).1.map g) (B (mapS f s xs).2)
  | [], s, _ => by rw [List.map_nil, loopC, if_pos (by rfl)]; rfl
  | x :: xs, s, d => by
    obtain ⟨σ', e1, e2⟩ := hx s x d.1
    have ih := loopC_G ht hx xs (f s x).2 d.2
    rw [List.map_cons, loopC, if_pos (by rfl), e1]
    dsimp only
    rw [ht, Res.bind_ok, if_pos rfl, e2, Res.bind_ok, ih]
    rfl
section
variable {P : Prog} {F : Fn} {cx : Option MX} {σ : Env} {h h1 h2 : MHp}
/-- values drawn, whatever changes on the way -/
theorem ev_lcG {S α β : Type} {e : α → PV} {g : β → PV} {own : List Nat} {elt : ME} {tg : MT} {it : MI} {xs : List α} {B : S → MHp} {s : S} {f : S → α → β × S} {D : S → α → Prop}
    (hi : evI P F cx it σ h = .ok ⟨xs.map e, []⟩ (B s)) (hb : ∀ s x, D s x → ∃ σ', asgT tg (e x) (wipeE σ own) = some σ' ∧ ev P F cx elt σ' (B s) = .ok (g (f s x).1) (B (f s x).2)) (hD : MapSD f D s xs) : ev P F cx (.lc own elt tg it .nil) σ h = .ok (eL g (mapS f s xs).1) (B (mapS f s xs).2) := by
  rw [ev, hi, Res.bind_ok]
  dsimp only
  rw [loopC_G (fun σ' h => by rw [evT]) hb xs s hD]
  rfl
theorem ev_lcm {α : Type} {e : α → PV} {l : List α} {own : List Nat} {elt : ME} {tg : MT} {it : MI} {ifs : MEs} (h0 : ev P F cx (.lc own elt tg it ifs) σ h = .ok (eL e l) h2) : ev P F cx (.lcm own elt tg it ifs) σ h = .ok (.ref h2.length) (h2 ++ [.lst (l.map e)]) := by
  rw [ev.eq_def] at h0
  rw [ev.eq_def]
  dsimp only at h0 ⊢
  cases ei : evI P F cx it σ h with
  | ok r h1 =>
    rw [ei, Res.bind_ok] at h0
    rw [Res.bind_ok]
    cases el : loopC (ev P F cx elt) (evT P F cx ifs) tg r.src r.items (wipeE σ own) h1 with
    | ok ys h3 =>
      rw [el] at h0
      injection h0 with a b
      injection a with a
      subst a b
      rfl
    | exn _ _ => rw [el] at h0; cases h0
    | stuck => rw [el] at h0; cases h0
  | exn _ _ => rw [ei] at h0; cases h0
  | stuck => rw [ei] at h0; cases h0
theorem m_popAt {α : Type} [Inhabited α] {e : α → PV} {n : Nat} {l : List α} {j : Int} {h' : MHp} (hn : h[n]? = some (.lst (l.map e))) (c : InR l.length j) (hh : h.set n (.lst ((delAt l j).map e)) = h') : mth .popAt (.ref n) [eI j] h = some (e (gt l j), h') := by
  show (match h[n]? with | some (.lst xs) => (ixN xs.length j).bind fun k => (xs[k]?).map fun y => (y, h.set n (.lst (xs.eraseIdx k))) | _ => none) = _
  rw [hn]
  dsimp only
  rw [List.length_map, ixN_place c, Option.bind_some, ← hh]
  have hp := place_lt c
  have : gt l j = l[place l.length j] := by
    unfold gt place
    have := List.getElem?_eq_getElem hp
    unfold place at this
    rw [this]; rfl
  rw [this]
  simp [hp, delAt, eraseIdx_map]
end
theorem ev_and2 {P : Prog} {F : Fn} {cx : Option MX} {σ : Env} {h h1 h2 : MHp} {a b : ME} {k : Bool} {y : PV} (hk : k = true) (ha : evB P F cx a σ h = .ok k h1) (hb : ev P F cx b σ h1 = .ok y h2) : ev P F cx (.and (.cons a (.cons b .nil))) σ h = .ok y h2 := by
  subst hk
  obtain ⟨x, e1, e2⟩ := evB_inv ha
  rw [ev, evAnd, e1, Res.bind_ok]
  dsimp only
  rw [e2]
  show (ofOpt (some true) h1).bind _ = _
  simp only [ofOpt, Res.bind_ok, if_true]
  rw [evAnd, hb, Res.bind_ok]
end Qm

/-! V9: dict comprehensions; len, sorted of dicts. -/
namespace Qm
section
variable {α κ β : Type} [DecidableEq κ]
/-- the dict of a comprehension -/
def dcF (k : α → κ) (f : α → β) (xs : List α) : List (κ × β) := xs.foldl (fun d x => dset d (k x) (f x)) []
theorem dset_len (d : List (κ × β)) (k : κ) (v : β) : (dset d k v).length ≤ d.length + 1 := by
  unfold dset
  split <;> simp
theorem dhas_dset (d : List (κ × β)) (k k2 : κ) (v : β) : dhas (dset d k v) k2 = (decide (k = k2) || dhas d k2) := by
  unfold dset
  by_cases h : dhas d k = true
  · rw [if_pos h]
    unfold dhas at h ⊢
    rw [List.any_map]
    have e : ((fun p : κ × β => decide (p.1 = k2)) ∘ fun p => if p.1 = k then (p.1, v) else p) = fun p => decide (p.1 = k2) := by
      funext p
      show decide ((if p.1 = k then (p.1, v) else p).1 = k2) = _
      split <;> rfl
    rw [e]
    by_cases c : k = k2
    · subst c; rw [h]; simp
    · rw [decide_eq_false c, Bool.false_or]
  · rw [if_neg h]
    unfold dhas
    rw [List.any_append, Bool.or_comm]
    simp
theorem keys_dset (d : List (κ × β)) (k : κ) (v : β) : (dset d k v).map Prod.fst = if dhas d k = true then d.map Prod.fst else d.map Prod.fst ++ [k] := by
  unfold dset
  by_cases h : dhas d k = true
  · rw [if_pos h, if_pos h, List.map_map]
    refine List.map_congr_left fun p _ => ?_
    show (if p.1 = k then (p.1, v) else p).1 = p.1
    split <;> rfl
  · rw [if_neg h, if_neg h, List.map_append]; rfl
theorem dcF_snoc (k : α → κ) (f : α → β) (xs : List α) (x : α) : dcF k f (xs ++ [x]) = dset (dcF k f xs) (k x) (f x) := by
  unfold dcF
  rw [List.foldl_append]; rfl
theorem dhas_foldl (k : α → κ) (f : α → β) (y : κ) : ∀ (xs : List α) (d : List (κ × β)), dhas (xs.foldl (fun d x => dset d (k x) (f x)) d) y = (dhas d y || xs.any fun x => decide (k x = y))
  | [], d => by simp
  | x :: xs, d => by
    rw [List.foldl_cons, dhas_foldl k f y xs, dhas_dset, List.any_cons]
    cases decide (k x = y) <;> cases dhas d y <;> simp
theorem dhas_dcF (k : α → κ) (f : α → β) (xs : List α) (y : κ) : dhas (dcF k f xs) y = decide (y ∈ xs.map k) := by
  unfold dcF
  rw [dhas_foldl]
  by_cases h : y ∈ xs.map k
  · rw [decide_eq_true h]
    obtain ⟨x, hx, e⟩ := List.mem_map.mp h
    have : (xs.any fun x => decide (k x = y)) = true := List.any_eq_true.mpr ⟨x, hx, decide_eq_true e⟩
    rw [this]; simp
  · rw [decide_eq_false h]
    have : (xs.any fun x => decide (k x = y)) = false := by
      rw [Bool.eq_false_iff]
      intro z
      obtain ⟨x, hx, e⟩ := List.any_eq_true.mp z
      exact h (List.mem_map.mpr ⟨x, hx, of_decide_eq_true e⟩)
    rw [this]; rfl
theorem dhas_dcF_iff (k : α → κ) (f : α → β) (xs : List α) (y : κ) : dhas (dcF k f xs) y = true ↔ y ∈ xs.map k := by
  rw [dhas_dcF]; exact decide_eq_true_iff
theorem dhas_keys (d : List (κ × β)) (y : κ) : dhas d y = decide (y ∈ d.map Prod.fst) := by
  unfold dhas
  by_cases h : y ∈ d.map Prod.fst
  · rw [decide_eq_true h]
    obtain ⟨p, hp, e⟩ := List.mem_map.mp h
    exact List.any_eq_true.mpr ⟨p, hp, decide_eq_true e⟩
  · rw [decide_eq_false h, Bool.eq_false_iff]
    intro z
    obtain ⟨p, hp, e⟩ := List.any_eq_true.mp z
    exact h (List.mem_map.mpr ⟨p, hp, of_decide_eq_true e⟩)
theorem nodup_dset {d : List (κ × β)} (h : (d.map Prod.fst).Nodup) (k : κ) (v : β) : ((dset d k v).map Prod.fst).Nodup := by
  rw [keys_dset]
  by_cases c : dhas d k = true
  · rw [if_pos c]; exact h
  · rw [if_neg c]
    refine List.nodup_append.mpr ⟨h, by simp, fun a ha b hb => ?_⟩
    rw [List.mem_singleton] at hb
    subst hb
    intro e
    subst e
    rw [dhas_keys] at c
    exact c (decide_eq_true ha)
theorem nodup_foldl (k : α → κ) (f : α → β) : ∀ (xs : List α) (d : List (κ × β)), (d.map Prod.fst).Nodup → ((xs.foldl (fun d x => dset d (k x) (f x)) d).map Prod.fst).Nodup
  | [], d, h => h
  | x :: xs, d, h => by rw [List.foldl_cons]; exact nodup_foldl k f xs _ (nodup_dset h _ _)
theorem nodup_dcF (k : α → κ) (f : α → β) (xs : List α) : ((dcF k f xs).map Prod.fst).Nodup := nodup_foldl k f xs [] .nil
theorem mem_dcF (k : α → κ) (f : α → β) (xs : List α) (y : κ) : y ∈ (dcF k f xs).map Prod.fst ↔ y ∈ xs.map k := by
  have := dhas_dcF k f xs y
  rw [dhas_keys] at this
  exact decide_eq_decide.mp this
end
section
variable {P : Prog} {F : Fn} {cx : Option MX} {σ : Env} {h h1 h2 : MHp}
theorem loopD_map {α κ β : Type} [DecidableEq κ] {e : α → PV} {ek : κ → PV} {g : β → PV} [Ke ek] {t : Bool} [Ko ek t] {fk fv : Env → MHp → Res PV} {ft : Env → MHp → Res Bool} {tg : MT} {src : List (Nat × MO)} {h : MHp} {σ : Env} (hs : srcOk src h = true) (k : α → κ) (f : α → β) : ∀ {xs : List α} (d : List (κ × β)),
    (∀ x ∈ xs, ∃ σ', asgT tg (e x) σ = some σ' ∧ ft σ' h = .ok true h ∧ fk σ' h = .ok (ek (k x)) h ∧ fv σ' h = .ok (g (f x)) h) → d.length + xs.length < 16777216 →
    loopD fk fv ft t tg src (xs.map e) σ (d.map fun p => ek p.1) (d.map fun p => g p.2) h = .ok ((xs.foldl (fun d x => dset d (k x) (f x)) d).map (fun p => ek p.1), (xs.foldl (fun d x => dset d (k x) (f x)) d).map fun p => g p.2) h
  | [], d, _, _ => by rw [List.map_nil, loopD, if_pos hs]; rfl
  | x :: xs, d, hx, hl => by
    obtain ⟨σ', e1, e2, e3, e4⟩ := hx x List.mem_cons_self
    rw [List.length_cons] at hl
    have hd := dset_len d (k x) (f x)
    have ih := loopD_map (e := e) (ek := ek) (g := g) (t := t) (fk := fk) (fv := fv) (ft := ft) (tg := tg) (σ := σ) hs k f (xs := xs) (dset d (k x) (f x)) (fun y hy => hx y (List.mem_cons_of_mem _ hy)) (by omega)
    rw [List.map_cons, loopD, if_pos hs, e1]
    dsimp only
    rw [e2, Res.bind_ok, if_pos rfl, e3, Res.bind_ok, e4, Res.bind_ok, Ko.ok (k x), Bool.true_and, if_pos (decide_eq_true (by rw [List.length_map]; show _ < 16777216; omega)), setK_map, ih]
    rfl
theorem ev_dcc {α κ β : Type} [DecidableEq κ] {e : α → PV} {ek : κ → PV} {g : β → PV} [Ke ek] {t : Bool} [Ko ek t] {own : List Nat} {kx vx : ME} {tg : MT} {it : MI} {xs : List α} {src : List (Nat × MO)} {k : α → κ} {f : α → β}
    (hi : evI P F cx it σ h = .ok ⟨xs.map e, src⟩ h1) (hs : srcOk src h1 = true) (hl : xs.length < 16777216)
    (hb : ∀ x ∈ xs, ∃ σ', asgT tg (e x) (wipeE σ own) = some σ' ∧ ev P F cx kx σ' h1 = .ok (ek (k x)) h1 ∧ ev P F cx vx σ' h1 = .ok (g (f x)) h1) : ev P F cx (.dcc t own kx vx tg it .nil) σ h = .ok (eD t ek g (dcF k f xs)) h1 := by
  rw [ev, hi, Res.bind_ok]
  dsimp only
  have := loopD_map (e := e) (ek := ek) (g := g) (t := t) (fk := ev P F cx kx) (fv := ev P F cx vx) (ft := evT P F cx .nil) (tg := tg) (src := src) (h := h1) (σ := wipeE σ own) hs k f (xs := xs) [] (fun x hx => by
    obtain ⟨σ', e1, e2, e3⟩ := hb x hx
    exact ⟨σ', e1, by rw [evT], e2, e3⟩) (by simpa using hl)
  rw [List.map_nil, List.map_nil] at this
  rw [this]
  rfl
theorem b_lenD {κ β : Type} {ek : κ → PV} {g : β → PV} {t : Bool} {d : List (κ × β)} : biS .len [eD t ek g d] h = some (eI (d.length : Int)) := by
  show lenR (eD t ek g d) h = _
  show some (PV.int (((d.map fun p => ek p.1).length : Nat) : Int)) = _
  rw [List.length_map]
theorem l_sortD {β : Type} {g : β → PV} {d : List (Int × β)} (hl : d.length < 64) : blS .sorted [eD false eI g d] h = some ((sortI (d.map Prod.fst)).map eI) := by
  show sortD (eD false eI g d) h = _
  show (match intsOf (d.map fun p => eI p.1) with
    | some ns => if decide (ns.length < 64) then some ((sortI ns).map PV.int) else none
    | none => none) = _
  have e : intsOf (d.map fun p => eI p.1) = some (d.map Prod.fst) := by
    rw [show (d.map fun p => eI p.1) = (d.map Prod.fst).map eI from by rw [List.map_map]; rfl, intsOf_map]
  rw [e]
  dsimp only
  rw [if_pos (decide_eq_true (by rw [List.length_map]; exact hl))]
end
end Qm

namespace Qm
/-- is_whole(value, low, high): 0 value 1 low 2 high -/
def fd0 : FnD := ⟨3, 3, false,
  (.cons (.ret (.and (.cons (.isi .int (.var 0)) (.cons (.not (.isi .bool (.var 0))) (.cons (.chn .le .le (.var 1) (.var 0) (.var 2)) .nil))))) .nil)⟩
/-- is_whole -/
@[irreducible] def v_is_whole (value : NV) (low : Int) (high : Int) : Bool :=
  ((isY .int value) && ((!(isY .bool value)) && (decide (low ≤ (nI value)) && decide ((nI value) ≤ high))))
@[irreducible] def d_is_whole (value : NV) (low : Int) (high : Int) : Prop :=
  ((isY .int value) = true → ((!(isY .bool value)) = true → (eA value = eI (nI value)) ∧ (True)) ∧ (True)) ∧ (True)
theorem o_is_whole {P : Prog} [HasF P 0 fd0] (n : Nat) (h : MHp) (value : NV) (low : Int) (high : Int) (D : d_is_whole value low high) : callN P (n + 1) 0 [eA value, eI low, eI high] h = .ok (eB (v_is_whole value low high)) h := by
  refine call_p (fd := fd0) (e := eB) (V := v_is_whole value low high) [some (eA value), some (eI low), some (eI high)] rfl rfl (nors_c (e := eA) (nors_c (e := eI) (nors_c (e := eI) rfl))) rfl ?_
  unfold d_is_whole at D
  unfold v_is_whole
  exact xs_ret (ev_and (evA_cons (ev_isi (ev_var rfl) isY_ok) (fun hc => (fun D_ => (evA_cons (ev_not (evB_of (ev_isi (ev_var rfl) isY_ok))) (fun hc => (fun D_2 => (evA_one (ev_chn (ev_var rfl) (ev_cast (ev_var rfl) D_2.1) c_le (fun _ => ⟨(ev_var rfl), c_le⟩)))) (D_.1 hc)))) (D.1 hc)))) (rt_p)
/-- is_paper(value): 0 value 1 mark -/
def fd279 : FnD := ⟨1, 2, false,
  (.cons (.ite (.or (.cons (.not (.isi .tuple (.var 0))) (.cons (.not (.chn .le .le (.cst (.int 1)) (.bif .len (.cons (.var 0) .nil)) (.glb 2))) .nil))) (.cons (.ret (.cst (.bl false))) .nil) .nil) (.cons (.ite (.not (.bif .all (.cons (.lc [1] (.call 0 (.cons (.var 1) (.cons (.cst (.int 0)) (.cons (.bin .sub (.bif .len (.cons (.var 0) .nil)) (.cst (.int 1))) .nil)))) (.nm 1) (.seq (.var 0)) .nil) .nil))) (.cons (.ret (.cst (.bl false))) .nil) .nil) (.cons (.ret (.bif .all (.cons (.lc [1] (.cmp .eq (.ix (.var 0) (.ix (.var 0) (.var 1))) (.var 1)) (.nm 1) (.rng (.cons (.bif .len (.cons (.var 0) .nil)) .nil)) .nil) .nil))) .nil)))⟩
/-- is_paper -/
@[irreducible] def v_is_paper (value : NV) : Bool :=
  if ((!(isY .tuple value)) || (!(decide ((1 : Int) ≤ ((nT value).length : Int)) && decide (((nT value).length : Int) ≤ (6 : Int))))) = true then (false) else (if (!(((nT value).map fun mark => (v_is_whole mark (0 : Int) (((nT value).length : Int) - (1 : Int)))).all id)) = true then (false) else ((((rng 0 ((nT value).length : Int)).map fun mark2 => peq (eA (gt (nT value) (nI (gt (nT value) mark2)))) (eI mark2)).all id)))
@[irreducible] def d_is_paper (value : NV) : Prop :=
  ((!(isY .tuple value)) = false → (eA value = (eT eA) (nT value)) ∧ (True)) ∧ ((((!(isY .tuple value)) || (!(decide ((1 : Int) ≤ ((nT value).length : Int)) && decide (((nT value).length : Int) ≤ (6 : Int))))) = true → True) ∧ (((!(isY .tuple value)) || (!(decide ((1 : Int) ≤ ((nT value).length : Int)) && decide (((nT value).length : Int) ≤ (6 : Int))))) = false → (eA value = (eT eA) (nT value)) ∧ ((∀ mark ∈ (nT value), (eA value = (eT eA) (nT value)) ∧ ((d_is_whole mark (0 : Int) (((nT value).length : Int) - (1 : Int))) ∧ (True))) ∧ (((!(((nT value).map fun mark => (v_is_whole mark (0 : Int) (((nT value).length : Int) - (1 : Int)))).all id)) = true → True) ∧ ((!(((nT value).map fun mark => (v_is_whole mark (0 : Int) (((nT value).length : Int) - (1 : Int)))).all id)) = false → (eA value = (eT eA) (nT value)) ∧ ((RngOk 0 ((nT value).length : Int)) ∧ ((∀ mark2 ∈ (rng 0 ((nT value).length : Int)), (eA value = (eT eA) (nT value)) ∧ ((eA value = (eT eA) (nT value)) ∧ ((InR (nT value).length mark2) ∧ ((eA (gt (nT value) mark2) = eI (nI (gt (nT value) mark2))) ∧ ((InR (nT value).length (nI (gt (nT value) mark2))) ∧ ((flatD (eA (gt (nT value) (nI (gt (nT value) mark2)))) = true ∧ flatD (eI mark2) = true) ∧ (True))))))) ∧ (True))))))))
theorem o_is_paper {P : Prog} [HasF P 0 fd0] [HasF P 279 fd279] [HasC P 2 (.int 6)] (n : Nat) (h : MHp) (value : NV) (D : d_is_paper value) : callN P (n + 2) 279 [eA value] h = .ok (eB (v_is_paper value)) h := by
  refine call_p (fd := fd279) (e := eB) (V := v_is_paper value) [some (eA value), none] rfl rfl (nors_c (e := eA) rfl) rfl ?_
  unfold d_is_paper at D
  unfold v_is_paper
  refine xs_ite (evB_or (evBO_cons (evB_not (evB_of (ev_isi (ev_var rfl) isY_ok))) (fun hc => (fun D_ => (evBO_one (evB_not (evB_of (ev_chn ev_cst (ev_bif (evs_cons (ev_cast (ev_var rfl) D_.1) evs_nil) (b_lenT (e := eA) (l := (nT value)))) c_le (fun _ => ⟨ev_glb, c_le⟩)))))) (D.1 hc)))) (fun hc2 => ?_) (fun hc2 => ?_)
  · exact xs_ret ev_cst (rt_p)
  · have D_4 := D.2.2 hc2
    refine xs_ite (evB_not (evB_of (ev_bif (evs_cons (ev_lc (e := eA) (g := eB) (xs := (nT value)) (f := fun mark => (v_is_whole mark (0 : Int) (((nT value).length : Int) - (1 : Int)))) (evI_seqT (e := eA) (xs := (nT value)) (ev_cast (ev_var rfl) D_4.1)) rfl (fun mark hx => (fun D_5 => ⟨[some (eA value), some (eA mark)], rfl, (ev_call (evs_cons (ev_var rfl) (evs_cons ev_cst (evs_cons (ev_bin (ev_bif (evs_cons (ev_cast (ev_var rfl) D_5.1) evs_nil) (b_lenT (e := eA) (l := (nT value)))) ev_cst o_sub) evs_nil))) (o_is_whole (n + 0) _ mark (0 : Int) (((nT value).length : Int) - (1 : Int)) D_5.2.1))⟩) (D_4.2.1 mark hx))) evs_nil) (b_all (l := ((nT value).map fun mark => (v_is_whole mark (0 : Int) (((nT value).length : Int) - (1 : Int))))))))) (fun hc => ?_) (fun hc => ?_)
    · exact xs_ret ev_cst (rt_p)
    · have D_7 := D_4.2.2.2 hc
      exact xs_ret (ev_bif (evs_cons (ev_lc (e := eI) (g := eB) (xs := (rng 0 ((nT value).length : Int))) (f := fun mark2 => peq (eA (gt (nT value) (nI (gt (nT value) mark2)))) (eI mark2)) (evI_rng (evs_cons (ev_bif (evs_cons (ev_cast (ev_var rfl) D_7.1) evs_nil) (b_lenT (e := eA) (l := (nT value)))) evs_nil) (range1 D_7.2.1)) rfl (fun mark2 hx => (fun D_8 => ⟨[some (eA value), some (eI mark2)], rfl, (ev_cmp (ev_ix (ev_cast (ev_var rfl) D_8.1) (ev_cast (ev_ix (ev_cast (ev_var rfl) D_8.2.1) (ev_var rfl) (i_T (e := eA) (l := (nT value)) D_8.2.2.1)) D_8.2.2.2.1) (i_T (e := eA) (l := (nT value)) D_8.2.2.2.2.1)) (ev_var rfl) (c_eqA (Nr.nor (e := eA) (gt (nT value) (nI (gt (nT value) mark2)))) (Nr.nor (e := eI) mark2) D_8.2.2.2.2.2.1.1 D_8.2.2.2.2.2.1.2))⟩) (D_7.2.2.1 mark2 hx))) evs_nil) (b_all (l := ((rng 0 ((nT value).length : Int)).map fun mark2 => peq (eA (gt (nT value) (nI (gt (nT value) mark2)))) (eI mark2))))) (rt_p)
/-- are_marks(paper, value): 0 paper 1 value 2 mark -/
def fd280 : FnD := ⟨2, 3, false,
  (.cons (.ret (.and (.cons (.isi .tuple (.var 1)) (.cons (.bif .all (.cons (.lc [2] (.call 0 (.cons (.var 2) (.cons (.cst (.int 0)) (.cons (.bin .sub (.bif .len (.cons (.var 0) .nil)) (.cst (.int 1))) .nil)))) (.nm 2) (.seq (.var 1)) .nil) .nil)) .nil)))) .nil)⟩
/-- are_marks -/
@[irreducible] def v_are_marks (paper : List Int) (value : NV) : Bool :=
  ((isY .tuple value) && (((nT value).map fun mark => (v_is_whole mark (0 : Int) ((paper.length : Int) - (1 : Int)))).all id))
@[irreducible] def d_are_marks (paper : List Int) (value : NV) : Prop :=
  ((isY .tuple value) = true → (eA value = (eT eA) (nT value)) ∧ ((∀ mark ∈ (nT value), (d_is_whole mark (0 : Int) ((paper.length : Int) - (1 : Int))) ∧ (True)) ∧ (True))) ∧ (True)
theorem o_are_marks {P : Prog} [HasF P 0 fd0] [HasF P 280 fd280] (n : Nat) (h : MHp) (paper : List Int) (value : NV) (D : d_are_marks paper value) : callN P (n + 2) 280 [(eT eI) paper, eA value] h = .ok (eB (v_are_marks paper value)) h := by
  refine call_p (fd := fd280) (e := eB) (V := v_are_marks paper value) [some ((eT eI) paper), some (eA value), none] rfl rfl (nors_c (e := (eT eI)) (nors_c (e := eA) rfl)) rfl ?_
  unfold d_are_marks at D
  unfold v_are_marks
  exact xs_ret (ev_and (evA_cons (ev_isi (ev_var rfl) isY_ok) (fun hc => (fun D_ => (evA_one (ev_bif (evs_cons (ev_lc (e := eA) (g := eB) (xs := (nT value)) (f := fun mark => (v_is_whole mark (0 : Int) ((paper.length : Int) - (1 : Int)))) (evI_seqT (e := eA) (xs := (nT value)) (ev_cast (ev_var rfl) D_.1)) rfl (fun mark hx => (fun D_2 => ⟨[some ((eT eI) paper), some (eA value), some (eA mark)], rfl, (ev_call (evs_cons (ev_var rfl) (evs_cons ev_cst (evs_cons (ev_bin (ev_bif (evs_cons (ev_var rfl) evs_nil) (b_lenT (e := eI) (l := paper))) ev_cst o_sub) evs_nil))) (o_is_whole (n + 0) _ mark (0 : Int) ((paper.length : Int) - (1 : Int)) D_2.1))⟩) (D_.2.1 mark hx))) evs_nil) (b_all (l := ((nT value).map fun mark => (v_is_whole mark (0 : Int) ((paper.length : Int) - (1 : Int))))))))) (D.1 hc)))) (rt_p)
/-- is_sequence(paper, value): 0 paper 1 value -/
def fd281 : FnD := ⟨2, 2, false,
  (.cons (.ret (.and (.cons (.call 280 (.cons (.var 0) (.cons (.var 1) .nil))) (.cons (.cmp .le (.bif .len (.cons (.var 1) .nil)) (.glb 3)) .nil)))) .nil)⟩
/-- is_sequence -/
@[irreducible] def v_is_sequence (paper : List Int) (value : NV) : Bool :=
  ((v_are_marks paper value) && decide (((nT value).length : Int) ≤ (16 : Int)))
@[irreducible] def d_is_sequence (paper : List Int) (value : NV) : Prop :=
  (d_are_marks paper value) ∧ (((v_are_marks paper value) = true → (eA value = (eT eA) (nT value)) ∧ (True)) ∧ (True))
theorem o_is_sequence {P : Prog} [HasF P 0 fd0] [HasF P 280 fd280] [HasF P 281 fd281] [HasC P 3 (.int 16)] (n : Nat) (h : MHp) (paper : List Int) (value : NV) (D : d_is_sequence paper value) : callN P (n + 3) 281 [(eT eI) paper, eA value] h = .ok (eB (v_is_sequence paper value)) h := by
  refine call_p (fd := fd281) (e := eB) (V := v_is_sequence paper value) [some ((eT eI) paper), some (eA value)] rfl rfl (nors_c (e := (eT eI)) (nors_c (e := eA) rfl)) rfl ?_
  unfold d_is_sequence at D
  unfold v_is_sequence
  exact xs_ret (ev_and (evA_cons (ev_call (evs_cons (ev_var rfl) (evs_cons (ev_var rfl) evs_nil)) (o_are_marks (n + 0) _ paper value D.1)) (fun hc => (fun D_ => (evA_one (ev_cmp (ev_bif (evs_cons (ev_cast (ev_var rfl) D_.1) evs_nil) (b_lenT (e := eA) (l := (nT value)))) ev_glb c_le))) (D.2.1 hc)))) (rt_p)
/-- check_paper(paper): 0 paper -/
def fd285 : FnD := ⟨1, 1, false,
  (.cons (.ite (.not (.call 279 (.cons (.var 0) .nil))) (.cons (.rai 1 (.cons (.cst (.str "paper")) .nil)) .nil) .nil) .nil)⟩
/-- check_paper -/
@[irreducible] def v_check_paper (paper : List Int) : Unit :=
  if (!(v_is_paper (toA (eT eI) paper))) = true then ((default : Unit)) else (())
@[irreducible] def d_check_paper (paper : List Int) : Prop :=
  (d_is_paper (toA (eT eI) paper)) ∧ (((!(v_is_paper (toA (eT eI) paper))) = true → False) ∧ ((!(v_is_paper (toA (eT eI) paper))) = false → True))
theorem o_check_paper {P : Prog} [HasF P 0 fd0] [HasF P 279 fd279] [HasF P 285 fd285] [HasC P 2 (.int 6)] (n : Nat) (h : MHp) (paper : List Int) (D : d_check_paper paper) : callN P (n + 3) 285 [(eT eI) paper] h = .ok (eN (v_check_paper paper)) h := by
  refine call_p (fd := fd285) (e := eN) (V := v_check_paper paper) [some ((eT eI) paper)] rfl rfl (nors_c (e := (eT eI)) rfl) rfl ?_
  unfold d_check_paper at D
  unfold v_check_paper
  refine xs_ite (evB_not (evB_of (ev_call (evs_cons (ev_var rfl) evs_nil) (o_is_paper (n + 0) _ (toA (eT eI) paper) D.1)))) (fun hc => ?_) (fun hc => ?_)
  · have D_ := D.2.1 hc
    exact D_.elim
  · exact xs_nil rt_pN
/-- check_sequence(paper, sequence): 0 paper 1 sequence -/
def fd286 : FnD := ⟨2, 2, false,
  (.cons (.exp (.call 285 (.cons (.var 0) .nil))) (.cons (.ite (.not (.call 281 (.cons (.var 0) (.cons (.var 1) .nil)))) (.cons (.rai 1 (.cons (.cst (.str "sequence")) .nil)) .nil) .nil) .nil))⟩
/-- check_sequence -/
@[irreducible] def v_check_sequence (paper : List Int) (sequence : List Int) : Unit :=
  if (!(v_is_sequence paper (toA (eT eI) sequence))) = true then ((default : Unit)) else (())
@[irreducible] def d_check_sequence (paper : List Int) (sequence : List Int) : Prop :=
  (d_check_paper paper) ∧ ((d_is_sequence paper (toA (eT eI) sequence)) ∧ (((!(v_is_sequence paper (toA (eT eI) sequence))) = true → False) ∧ ((!(v_is_sequence paper (toA (eT eI) sequence))) = false → True)))
theorem o_check_sequence {P : Prog} [HasF P 0 fd0] [HasF P 279 fd279] [HasF P 280 fd280] [HasF P 281 fd281] [HasF P 285 fd285] [HasF P 286 fd286] [HasC P 2 (.int 6)] [HasC P 3 (.int 16)] (n : Nat) (h : MHp) (paper : List Int) (sequence : List Int) (D : d_check_sequence paper sequence) : callN P (n + 4) 286 [(eT eI) paper, (eT eI) sequence] h = .ok (eN (v_check_sequence paper sequence)) h := by
  refine call_p (fd := fd286) (e := eN) (V := v_check_sequence paper sequence) [some ((eT eI) paper), some ((eT eI) sequence)] rfl rfl (nors_c (e := (eT eI)) (nors_c (e := (eT eI)) rfl)) rfl ?_
  unfold d_check_sequence at D
  unfold v_check_sequence
  refine xs_exp (ev_call (evs_cons (ev_var rfl) evs_nil) (o_check_paper (n + 0) _ paper D.1)) ?_
  refine xs_ite (evB_not (evB_of (ev_call (evs_cons (ev_var rfl) (evs_cons (ev_var rfl) evs_nil)) (o_is_sequence (n + 0) _ paper (toA (eT eI) sequence) D.2.1)))) (fun hc => ?_) (fun hc => ?_)
  · have D_ := D.2.2.1 hc
    exact D_.elim
  · exact xs_nil rt_pN
/-- reflected_of(paper, sequence): 0 paper 1 sequence 2 mark -/
def fd315 : FnD := ⟨2, 3, false,
  (.cons (.ret (.bif .tuple (.cons (.lc [2] (.ix (.var 0) (.var 2)) (.nm 2) (.seq (.rev (.var 1))) .nil) .nil))) .nil)⟩
/-- reflected_of -/
@[irreducible] def v_reflected_of (paper : List Int) (sequence : List Int) : List Int :=
  (sequence.reverse.map fun mark => (gt paper mark))
@[irreducible] def d_reflected_of (paper : List Int) (sequence : List Int) : Prop :=
  (∀ mark ∈ sequence.reverse, (InR paper.length mark) ∧ (True)) ∧ (True)
theorem o_reflected_of {P : Prog} [HasF P 315 fd315] (n : Nat) (h : MHp) (paper : List Int) (sequence : List Int) (D : d_reflected_of paper sequence) : callN P (n + 1) 315 [(eT eI) paper, (eT eI) sequence] h = .ok ((eT eI) (v_reflected_of paper sequence)) h := by
  refine call_p (fd := fd315) (e := (eT eI)) (V := v_reflected_of paper sequence) [some ((eT eI) paper), some ((eT eI) sequence), none] rfl rfl (nors_c (e := (eT eI)) (nors_c (e := (eT eI)) rfl)) rfl ?_
  unfold d_reflected_of at D
  unfold v_reflected_of
  exact xs_ret (ev_bif (evs_cons (ev_lc (e := eI) (g := eI) (xs := sequence.reverse) (f := fun mark => (gt paper mark)) (evI_seqT (e := eI) (xs := sequence.reverse) (ev_rev (ev_var rfl) (r_T (e := eI) (l := sequence)))) rfl (fun mark hx => (fun D_ => ⟨[some ((eT eI) paper), some ((eT eI) sequence), some (eI mark)], rfl, (ev_ix (ev_var rfl) (ev_var rfl) (i_T (e := eI) (l := paper) D_.1))⟩) (D.1 mark hx))) evs_nil) (b_tupL (e := eI) (l := (sequence.reverse.map fun mark => (gt paper mark))))) (rt_p)
/-- reflected(paper, sequence): 0 paper 1 sequence -/
def fd316 : FnD := ⟨2, 2, false,
  (.cons (.exp (.call 286 (.cons (.var 0) (.cons (.var 1) .nil)))) (.cons (.ret (.call 315 (.cons (.var 0) (.cons (.var 1) .nil)))) .nil))⟩
/-- reflected -/
@[irreducible] def v_reflected (paper : List Int) (sequence : List Int) : List Int :=
  (v_reflected_of paper sequence)
@[irreducible] def d_reflected (paper : List Int) (sequence : List Int) : Prop :=
  (d_check_sequence paper sequence) ∧ ((d_reflected_of paper sequence) ∧ (True))
theorem o_reflected {P : Prog} [HasF P 0 fd0] [HasF P 279 fd279] [HasF P 280 fd280] [HasF P 281 fd281] [HasF P 285 fd285] [HasF P 286 fd286] [HasF P 315 fd315] [HasF P 316 fd316] [HasC P 2 (.int 6)] [HasC P 3 (.int 16)] (n : Nat) (h : MHp) (paper : List Int) (sequence : List Int) (D : d_reflected paper sequence) : callN P (n + 5) 316 [(eT eI) paper, (eT eI) sequence] h = .ok ((eT eI) (v_reflected paper sequence)) h := by
  refine call_p (fd := fd316) (e := (eT eI)) (V := v_reflected paper sequence) [some ((eT eI) paper), some ((eT eI) sequence)] rfl rfl (nors_c (e := (eT eI)) (nors_c (e := (eT eI)) rfl)) rfl ?_
  unfold d_reflected at D
  unfold v_reflected
  refine xs_exp (ev_call (evs_cons (ev_var rfl) (evs_cons (ev_var rfl) evs_nil)) (o_check_sequence (n + 0) _ paper sequence D.1)) ?_
  exact xs_ret (ev_call (evs_cons (ev_var rfl) (evs_cons (ev_var rfl) evs_nil)) (o_reflected_of (n + 3) _ paper sequence D.2.1)) (rt_p)
/-- own_marks(paper): 0 paper 1 mark -/
def fd349 : FnD := ⟨1, 2, false,
  (.cons (.exp (.call 285 (.cons (.var 0) .nil))) (.cons (.ret (.bif .tuple (.cons (.lc [1] (.var 1) (.nm 1) (.rng (.cons (.bif .len (.cons (.var 0) .nil)) .nil)) (.cons (.cmp .eq (.ix (.var 0) (.var 1)) (.var 1)) .nil)) .nil))) .nil))⟩
/-- own_marks -/
@[irreducible] def v_own_marks (paper : List Int) : List Int :=
  (((rng 0 (paper.length : Int)).filter fun mark => decide ((gt paper mark) = mark)).map fun mark => mark)
@[irreducible] def d_own_marks (paper : List Int) : Prop :=
  (d_check_paper paper) ∧ ((RngOk 0 (paper.length : Int)) ∧ ((∀ mark ∈ (rng 0 (paper.length : Int)), (InR paper.length mark) ∧ (True)) ∧ (True)))
theorem o_own_marks {P : Prog} [HasF P 0 fd0] [HasF P 279 fd279] [HasF P 285 fd285] [HasF P 349 fd349] [HasC P 2 (.int 6)] (n : Nat) (h : MHp) (paper : List Int) (D : d_own_marks paper) : callN P (n + 4) 349 [(eT eI) paper] h = .ok ((eT eI) (v_own_marks paper)) h := by
  refine call_p (fd := fd349) (e := (eT eI)) (V := v_own_marks paper) [some ((eT eI) paper), none] rfl rfl (nors_c (e := (eT eI)) rfl) rfl ?_
  unfold d_own_marks at D
  unfold v_own_marks
  refine xs_exp (ev_call (evs_cons (ev_var rfl) evs_nil) (o_check_paper (n + 0) _ paper D.1)) ?_
  exact xs_ret (ev_bif (evs_cons (ev_lcf (e := eI) (g := eI) (xs := (rng 0 (paper.length : Int))) (p := fun mark => decide ((gt paper mark) = mark)) (f := fun mark => mark) (evI_rng (evs_cons (ev_bif (evs_cons (ev_var rfl) evs_nil) (b_lenT (e := eI) (l := paper))) evs_nil) (range1 D.2.1)) rfl (fun mark hx => (fun D_ => ⟨[some ((eT eI) paper), some (eI mark)], rfl, (evB_of (ev_cmp (ev_ix (ev_var rfl) (ev_var rfl) (i_T (e := eI) (l := paper) D_.1)) (ev_var rfl) (c_eq (e := eI) (a := (gt paper mark)) (b := mark)))), (fun _ => (ev_var rfl))⟩) (D.2.2.1 mark hx))) evs_nil) (b_tupL (e := eI) (l := (((rng 0 (paper.length : Int)).filter fun mark => decide ((gt paper mark) = mark)).map fun mark => mark)))) (rt_p)
/-- mark_pairs(paper): 0 paper 1 mark -/
def fd350 : FnD := ⟨1, 2, false,
  (.cons (.exp (.call 285 (.cons (.var 0) .nil))) (.cons (.ret (.bif .tuple (.cons (.lc [1] (.tup (.cons (.var 1) (.cons (.ix (.var 0) (.var 1)) .nil))) (.nm 1) (.rng (.cons (.bif .len (.cons (.var 0) .nil)) .nil)) (.cons (.cmp .lt (.var 1) (.ix (.var 0) (.var 1))) .nil)) .nil))) .nil))⟩
/-- mark_pairs -/
@[irreducible] def v_mark_pairs (paper : List Int) : List (Int × Int) :=
  (((rng 0 (paper.length : Int)).filter fun mark => decide (mark < (gt paper mark))).map fun mark => (mark, (gt paper mark)))
@[irreducible] def d_mark_pairs (paper : List Int) : Prop :=
  (d_check_paper paper) ∧ ((RngOk 0 (paper.length : Int)) ∧ ((∀ mark ∈ (rng 0 (paper.length : Int)), (InR paper.length mark) ∧ (((decide (mark < (gt paper mark))) = true → (InR paper.length mark) ∧ (True)) ∧ (True))) ∧ (True)))
theorem o_mark_pairs {P : Prog} [HasF P 0 fd0] [HasF P 279 fd279] [HasF P 285 fd285] [HasF P 350 fd350] [HasC P 2 (.int 6)] (n : Nat) (h : MHp) (paper : List Int) (D : d_mark_pairs paper) : callN P (n + 4) 350 [(eT eI) paper] h = .ok ((eT (eP2 eI eI)) (v_mark_pairs paper)) h := by
  refine call_p (fd := fd350) (e := (eT (eP2 eI eI))) (V := v_mark_pairs paper) [some ((eT eI) paper), none] rfl rfl (nors_c (e := (eT eI)) rfl) rfl ?_
  unfold d_mark_pairs at D
  unfold v_mark_pairs
  refine xs_exp (ev_call (evs_cons (ev_var rfl) evs_nil) (o_check_paper (n + 0) _ paper D.1)) ?_
  exact xs_ret (ev_bif (evs_cons (ev_lcf (e := eI) (g := (eP2 eI eI)) (xs := (rng 0 (paper.length : Int))) (p := fun mark => decide (mark < (gt paper mark))) (f := fun mark => (mark, (gt paper mark))) (evI_rng (evs_cons (ev_bif (evs_cons (ev_var rfl) evs_nil) (b_lenT (e := eI) (l := paper))) evs_nil) (range1 D.2.1)) rfl (fun mark hx => (fun D_ => ⟨[some ((eT eI) paper), some (eI mark)], rfl, (evB_of (ev_cmp (ev_var rfl) (ev_ix (ev_var rfl) (ev_var rfl) (i_T (e := eI) (l := paper) D_.1)) c_lt)), (fun hc => (fun D_2 => (ev_tup (evs_cons (ev_var rfl) (evs_cons (ev_ix (ev_var rfl) (ev_var rfl) (i_T (e := eI) (l := paper) D_2.1)) evs_nil)))) (D_.2.1 hc))⟩) (D.2.2.1 mark hx))) evs_nil) (b_tupL (e := (eP2 eI eI)) (l := (((rng 0 (paper.length : Int)).filter fun mark => decide (mark < (gt paper mark))).map fun mark => (mark, (gt paper mark)))))) (rt_p)
/-- _law_paper(_law_stream_here, _law_most): 0 _law_stream_here 1 _law_most 2 _law_many 3 _law_left 4 _law_paper_here 5 _law_turn 6 _law_one 7 _law_other -/
def fd233 : FnD := ⟨2, 8, false,
  (.cons (.asg (.nm 2) (.bin .add (.cst (.int 1)) (.call 230 (.cons (.var 0) (.cons (.var 1) .nil))))) (.cons (.asg (.nm 3) (.lrg true (.cons (.var 2) .nil))) (.cons (.asg (.nm 4) (.lrg true (.cons (.var 2) .nil))) (.cons (.for (.nm 5) (.rng (.cons (.bin .fdv (.var 2) (.cst (.int 2))) .nil)) (.cons (.ite (.cmp .eq (.call 230 (.cons (.var 0) (.cons (.cst (.int 2)) .nil))) (.cst (.int 1))) (.cons (.asg (.nm 6) (.mth .popAt (.var 3) (.cons (.call 230 (.cons (.var 0) (.cons (.bif .len (.cons (.var 3) .nil)) .nil))) .nil))) (.cons (.asg (.nm 7) (.mth .popAt (.var 3) (.cons (.call 230 (.cons (.var 0) (.cons (.bif .len (.cons (.var 3) .nil)) .nil))) .nil))) (.cons (.stx (.var 4) (.var 6) (.var 7)) (.cons (.stx (.var 4) (.var 7) (.var 6)) .nil)))) .nil) .nil)) (.cons (.ret (.bif .tuple (.cons (.var 4) .nil))) .nil)))))⟩
@[irreducible] def v_l_paper_L_ (st_ : (List Int) × (List Int) × Sm) (turn : Int) : (List Int) × (List Int) × Sm :=
  let r2 : Int × Sm := nx st_.2.2 (2 : Int); let q : (List Int) × (List Int) × Sm := if (decide (r2.1 = (1 : Int))) = true then (let r7 : Int × Sm := nx r2.2 (st_.1.length : Int); let one3 : Int := (gt st_.1 r7.1); let left6 : List Int := (delAt st_.1 r7.1); let r8 : Int × Sm := nx r7.2 (left6.length : Int); let other3 : Int := (gt left6 r8.1); let left7 : List Int := (delAt left6 r8.1); let paper_here6 : List Int := (setAt st_.2.1 one3 other3); let paper_here7 : List Int := (setAt paper_here6 other3 one3); (left7, paper_here7, r8.2)) else ((st_.1, st_.2.1, r2.2)); (q.1, q.2.1, q.2.2)
@[irreducible] def d_l_paper_L_ (st_ : (List Int) × (List Int) × Sm) (turn : Int) : Prop :=
  let r2 : Int × Sm := nx st_.2.2 (2 : Int); (((decide (r2.1 = (1 : Int))) = true → (DrOk (st_.1.length : Int)) ∧ (let r7 : Int × Sm := nx r2.2 (st_.1.length : Int); (InR st_.1.length r7.1) ∧ (let one3 : Int := (gt st_.1 r7.1); let left6 : List Int := (delAt st_.1 r7.1); (DrOk (left6.length : Int)) ∧ (let r8 : Int × Sm := nx r7.2 (left6.length : Int); (InR left6.length r8.1) ∧ (let other3 : Int := (gt left6 r8.1); let left7 : List Int := (delAt left6 r8.1); (InR st_.2.1.length one3) ∧ (let paper_here6 : List Int := (setAt st_.2.1 one3 other3); (InR paper_here6.length other3) ∧ (let paper_here7 : List Int := (setAt paper_here6 other3 one3); True))))))) ∧ ((decide (r2.1 = (1 : Int))) = false → True)) ∧ (let q : (List Int) × (List Int) × Sm := if (decide (r2.1 = (1 : Int))) = true then (let r7 : Int × Sm := nx r2.2 (st_.1.length : Int); let one3 : Int := (gt st_.1 r7.1); let left6 : List Int := (delAt st_.1 r7.1); let r8 : Int × Sm := nx r7.2 (left6.length : Int); let other3 : Int := (gt left6 r8.1); let left7 : List Int := (delAt left6 r8.1); let paper_here6 : List Int := (setAt st_.2.1 one3 other3); let paper_here7 : List Int := (setAt paper_here6 other3 one3); (left7, paper_here7, r8.2)) else ((st_.1, st_.2.1, r2.2)); True)
/-- _law_paper -/
@[irreducible] def v_l_paper (s : Sm) (most : Int) : (List Int) × Sm :=
  let r : Int × Sm := nx s most; let many : Int := ((1 : Int) + r.1); let left : List Int := (rng 0 many); let paper_here : List Int := (rng 0 many); let q2 : (List Int) × (List Int) × Sm := List.foldl v_l_paper_L_ ((left, paper_here, r.2) : (List Int) × (List Int) × Sm) (rng 0 (many / (2 : Int))); (q2.2.1, q2.2.2)
@[irreducible] def d_l_paper (s : Sm) (most : Int) : Prop :=
  (DrOk most) ∧ (let r : Int × Sm := nx s most; let many : Int := ((1 : Int) + r.1); (RngOk 0 many) ∧ (let left : List Int := (rng 0 many); (RngOk 0 many) ∧ (let paper_here : List Int := (rng 0 many); (RngOk 0 (many / (2 : Int))) ∧ ((FoldD v_l_paper_L_ d_l_paper_L_ ((left, paper_here, r.2) : (List Int) × (List Int) × Sm) (rng 0 (many / (2 : Int)))) ∧ (let q2 : (List Int) × (List Int) × Sm := List.foldl v_l_paper_L_ ((left, paper_here, r.2) : (List Int) × (List Int) × Sm) (rng 0 (many / (2 : Int))); True)))))
theorem o_l_paper {P : Prog} [HasF P 230 fdNext] [HasF P 233 fd233] (n : Nat) (rest : MHp) (s : Sm) (most : Int) (D : d_l_paper s most) : callN P (n + 2) 233 [.ref 0, eI most] (eM s :: rest) = .ok ((eT eI) (v_l_paper s most).1) (eM (v_l_paper s most).2 :: rest) := by
  refine call_s (fd := fd233) (e := (eT eI)) (V := v_l_paper s most) [some (.ref 0), some (eI most), none, none, none, none, none, none] rfl rfl rfl rfl ?_
  rw [show (eM s :: rest) = eM s :: (rest ++ []) from by rw [List.append_nil]]
  unfold d_l_paper at D
  unfold v_l_paper
  let r : Int × Sm := nx s most
  let many : Int := ((1 : Int) + r.1)
  refine xs_asg [some (.ref 0), some (eI most), some (eI many), none, none, none, none, none] (ev_bin ev_cst (ev_call (evs_cons (ev_var rfl) (evs_cons (ev_var rfl) evs_nil)) (o_next D.1)) o_add) rfl ?_
  let left : List Int := (rng 0 many)
  refine xs_asg_new [some (.ref 0), some (eI most), some (eI many), some (.ref (rest.length + 1)), none, none, none, none] (.ref (rest.length + 1)) (eM r.2 :: (rest ++ [.lst (left.map eI)])) (ev_lrgm (evs_cons (ev_var rfl) evs_nil) (range1 D.2.1)) (cref 0 rfl) (cnew rfl) rfl ?_
  let paper_here : List Int := (rng 0 many)
  refine xs_asg_new [some (.ref 0), some (eI most), some (eI many), some (.ref (rest.length + 1)), some (.ref (rest.length + 2)), none, none, none] (.ref (rest.length + 2)) (eM r.2 :: (rest ++ [.lst (left.map eI), .lst (paper_here.map eI)])) (ev_lrgm (evs_cons (ev_var rfl) evs_nil) (range1 D.2.2.1)) (cref 1 rfl) (cnew rfl) rfl ?_
  refine xs_for (e := eI) (xs := (rng 0 (many / (2 : Int)))) (fun (w2 : (List Int) × (List Int) × Sm) (J : Jk) => [some (.ref 0), some (eI most), some (eI many), some (.ref (rest.length + 1)), some (.ref (rest.length + 2)), J 5, J 6, J 7]) (fun (w2 : (List Int) × (List Int) × Sm) => (eM w2.2.2 :: (rest ++ [.lst (List.map eI w2.1), .lst (List.map eI w2.2.1)]))) v_l_paper_L_ d_l_paper_L_ ((left, paper_here, r.2) : (List Int) × (List Int) × Sm) (fun n => ([some (.ref 0), some (eI most), some (eI many), some (.ref (rest.length + 1)), some (.ref (rest.length + 2)), none, none, none] : Env).getD n none) (evI_rng (evs_cons (ev_bin (ev_var rfl) ev_cst (o_fdv (by decide))) evs_nil) (range1 D.2.2.2.1)) rfl rfl (fun _ => rfl) D.2.2.2.2.1 ?_ ?_
  · intro st_ J_ turn D
    refine ⟨[some (.ref 0), some (eI most), some (eI many), some (.ref (rest.length + 1)), some (.ref (rest.length + 2)), some (eI turn), J_ 6, J_ 7], rfl, ?_⟩
    unfold d_l_paper_L_ at D
    unfold v_l_paper_L_
    let r2 : Int × Sm := nx st_.2.2 (2 : Int)
    refine xs_join (S1 := (let r7 : Int × Sm := nx r2.2 (st_.1.length : Int); let one3 : Int := (gt st_.1 r7.1); let left6 : List Int := (delAt st_.1 r7.1); let r8 : Int × Sm := nx r7.2 (left6.length : Int); let other3 : Int := (gt left6 r8.1); let left7 : List Int := (delAt left6 r8.1); let paper_here6 : List Int := (setAt st_.2.1 one3 other3); let paper_here7 : List Int := (setAt paper_here6 other3 one3); (left7, paper_here7, r8.2))) (S2 := ((st_.1, st_.2.1, r2.2))) (fun (w : (List Int) × (List Int) × Sm) (J : Jk) => [some (.ref 0), some (eI most), some (eI many), some (.ref (rest.length + 1)), some (.ref (rest.length + 2)), some (eI turn), J 6, J 7]) (fun (w : (List Int) × (List Int) × Sm) => (eM w.2.2 :: (rest ++ [.lst (List.map eI w.1), .lst (List.map eI w.2.1)]))) (evB_of (ev_cmp (ev_call (evs_cons (ev_var rfl) (evs_cons ev_cst evs_nil)) (o_next (⟨by decide, by decide⟩))) ev_cst (c_eq (e := eI) (a := r2.1) (b := (1 : Int))))) (fun hc => ?_) (fun hc => ?_) ?_
    · have D_6 := D.1.1 hc
      let r7 : Int × Sm := nx r2.2 (st_.1.length : Int)
      let one3 : Int := (gt st_.1 r7.1)
      let left6 : List Int := (delAt st_.1 r7.1)
      refine xs_popAt (e := eI) (l := st_.1) [some (.ref 0), some (eI most), some (eI many), some (.ref (rest.length + 1)), some (.ref (rest.length + 2)), some (eI turn), some (eI one3), J_ 7] (eM r7.2 :: (rest ++ [.lst (left6.map eI), .lst (List.map eI st_.2.1)])) rfl (ev_call (evs_cons (ev_var rfl) (evs_cons (ev_bif (evs_cons (ev_var rfl) evs_nil) (b_lenR (e := eI) (l := st_.1) (cget 0 rfl))) evs_nil)) (o_next D_6.1)) (citems 0 rfl) (cget 0 rfl) D_6.2.1 rfl (cset 0 rfl) ?_
      let r8 : Int × Sm := nx r7.2 (left6.length : Int)
      let other3 : Int := (gt left6 r8.1)
      let left7 : List Int := (delAt left6 r8.1)
      refine xs_popAt (e := eI) (l := left6) [some (.ref 0), some (eI most), some (eI many), some (.ref (rest.length + 1)), some (.ref (rest.length + 2)), some (eI turn), some (eI one3), some (eI other3)] (eM r8.2 :: (rest ++ [.lst (left7.map eI), .lst (List.map eI st_.2.1)])) rfl (ev_call (evs_cons (ev_var rfl) (evs_cons (ev_bif (evs_cons (ev_var rfl) evs_nil) (b_lenR (e := eI) (l := left6) (cget 0 rfl))) evs_nil)) (o_next D_6.2.2.1)) (citems 0 rfl) (cget 0 rfl) D_6.2.2.2.1 rfl (cset 0 rfl) ?_
      let paper_here6 : List Int := (setAt st_.2.1 one3 other3)
      refine xs_setAt (e := eI) (l := st_.2.1) (y := other3) (eM r8.2 :: (rest ++ [.lst (left7.map eI), .lst (paper_here6.map eI)])) (ev_var rfl) (ev_var rfl) (ev_var rfl) (cget 1 rfl) D_6.2.2.2.2.1 (cset 1 rfl) ?_
      let paper_here7 : List Int := (setAt paper_here6 other3 one3)
      refine xs_setAt (e := eI) (l := paper_here6) (y := one3) (eM r8.2 :: (rest ++ [.lst (left7.map eI), .lst (paper_here7.map eI)])) (ev_var rfl) (ev_var rfl) (ev_var rfl) (cget 1 rfl) D_6.2.2.2.2.2.1 (cset 1 rfl) ?_
      exact xs_nil (nxJ (fun n => ([some (.ref 0), some (eI most), some (eI many), some (.ref (rest.length + 1)), some (.ref (rest.length + 2)), some (eI turn), some (eI one3), some (eI other3)] : Env).getD n none) rfl rfl)
    · exact xs_nil (nxJ (fun n => ([some (.ref 0), some (eI most), some (eI many), some (.ref (rest.length + 1)), some (.ref (rest.length + 2)), some (eI turn), J_ 6, J_ 7] : Env).getD n none) rfl rfl)
    let q : (List Int) × (List Int) × Sm := if (decide (r2.1 = (1 : Int))) = true then (let r7 : Int × Sm := nx r2.2 (st_.1.length : Int); let one3 : Int := (gt st_.1 r7.1); let left6 : List Int := (delAt st_.1 r7.1); let r8 : Int × Sm := nx r7.2 (left6.length : Int); let other3 : Int := (gt left6 r8.1); let left7 : List Int := (delAt left6 r8.1); let paper_here6 : List Int := (setAt st_.2.1 one3 other3); let paper_here7 : List Int := (setAt paper_here6 other3 one3); (left7, paper_here7, r8.2)) else ((st_.1, st_.2.1, r2.2))
    intro J_2
    exact xs_nil (nxG (fun n => ([some (.ref 0), some (eI most), some (eI many), some (.ref (rest.length + 1)), some (.ref (rest.length + 2)), some (eI turn), J_2 6, J_2 7] : Env).getD n none) rfl rfl)
  let q2 : (List Int) × (List Int) × Sm := List.foldl v_l_paper_L_ ((left, paper_here, r.2) : (List Int) × (List Int) × Sm) (rng 0 (many / (2 : Int)))
  intro J_3
  exact xs_ret (ev_bif (evs_cons (ev_var rfl) evs_nil) (b_tupR (e := eI) (l := q2.2.1) (cget 1 rfl))) (rt_s [.lst (List.map eI q2.1), .lst (List.map eI q2.2.1)])
/-- _law_sequence(_law_stream_here, _law_paper_here, _law_most): 0 _law_stream_here 1 _law_paper_here 2 _law_most 3 _law_k -/
def fd283 : FnD := ⟨3, 4, false,
  (.cons (.ret (.bif .tuple (.cons (.lc [3] (.call 230 (.cons (.var 0) (.cons (.bif .len (.cons (.var 1) .nil)) .nil))) (.nm 3) (.rng (.cons (.call 230 (.cons (.var 0) (.cons (.bin .add (.var 2) (.cst (.int 1))) .nil))) .nil)) .nil) .nil))) .nil)⟩
/-- _law_sequence -/
@[irreducible] def v_l_sequence (s : Sm) (paper_here : List Int) (most : Int) : (List Int) × Sm :=
  let r : Int × Sm := nx s (most + (1 : Int)); let r3 : (List Int) × Sm := mapS (fun (s2 : Sm) (k : Int) => let r2 : Int × Sm := nx s2 (paper_here.length : Int); (r2.1, r2.2)) r.2 (rng 0 r.1); (r3.1, r3.2)
@[irreducible] def d_l_sequence (s : Sm) (paper_here : List Int) (most : Int) : Prop :=
  (DrOk (most + (1 : Int))) ∧ (let r : Int × Sm := nx s (most + (1 : Int)); (RngOk 0 r.1) ∧ ((∀ k ∈ (rng 0 r.1), ∀ s2 : Sm, (DrOk (paper_here.length : Int)) ∧ (let r2 : Int × Sm := nx s2 (paper_here.length : Int); True)) ∧ (let r3 : (List Int) × Sm := mapS (fun (s2 : Sm) (k : Int) => let r2 : Int × Sm := nx s2 (paper_here.length : Int); (r2.1, r2.2)) r.2 (rng 0 r.1); True)))
theorem o_l_sequence {P : Prog} [HasF P 230 fdNext] [HasF P 283 fd283] (n : Nat) (rest : MHp) (s : Sm) (paper_here : List Int) (most : Int) (D : d_l_sequence s paper_here most) : callN P (n + 2) 283 [.ref 0, (eT eI) paper_here, eI most] (eM s :: rest) = .ok ((eT eI) (v_l_sequence s paper_here most).1) (eM (v_l_sequence s paper_here most).2 :: rest) := by
  refine call_s (fd := fd283) (e := (eT eI)) (V := v_l_sequence s paper_here most) [some (.ref 0), some ((eT eI) paper_here), some (eI most), none] rfl rfl rfl rfl ?_
  rw [show (eM s :: rest) = eM s :: (rest ++ []) from by rw [List.append_nil]]
  unfold d_l_sequence at D
  unfold v_l_sequence
  let r : Int × Sm := nx s (most + (1 : Int))
  let r3 : (List Int) × Sm := mapS (fun (s2 : Sm) (k : Int) => let r2 : Int × Sm := nx s2 (paper_here.length : Int); (r2.1, r2.2)) r.2 (rng 0 r.1)
  exact xs_ret (ev_bif (evs_cons (ev_lcS (e := eI) (g := eI) (B := (fun s => (eM s :: (rest ++ [])))) (f := (fun (s2 : Sm) (k : Int) => let r2 : Int × Sm := nx s2 (paper_here.length : Int); (r2.1, r2.2))) (evI_rng (evs_cons (ev_call (evs_cons (ev_var rfl) (evs_cons (ev_bin (ev_var rfl) ev_cst o_add) evs_nil)) (o_next D.1)) evs_nil) (range1 D.2.1)) (fun k hx => ⟨[some (.ref 0), some ((eT eI) paper_here), some (eI most), some (eI k)], rfl, fun s2 => (fun D_ => let r2 : Int × Sm := nx s2 (paper_here.length : Int); (ev_call (evs_cons (ev_var rfl) (evs_cons (ev_bif (evs_cons (ev_var rfl) evs_nil) (b_lenT (e := eI) (l := paper_here))) evs_nil)) (o_next D_.1))) (D.2.2.1 k hx s2)⟩)) evs_nil) (b_tupL (e := eI) (l := r3.1))) (rt_s [])
/-- _law_reflected(_law_paper_here, _law_sequence_here): 0 _law_paper_here 1 _law_sequence_here 2 _law_mark -/
def fd322 : FnD := ⟨2, 3, false,
  (.cons (.ret (.rev (.bif .tuple (.cons (.lc [2] (.ix (.var 0) (.var 2)) (.nm 2) (.seq (.var 1)) .nil) .nil)))) .nil)⟩
/-- _law_reflected -/
@[irreducible] def v_l_reflected (paper_here : List Int) (sequence_here : List Int) : List Int :=
  (sequence_here.map fun mark => (gt paper_here mark)).reverse
@[irreducible] def d_l_reflected (paper_here : List Int) (sequence_here : List Int) : Prop :=
  (∀ mark ∈ sequence_here, (InR paper_here.length mark) ∧ (True)) ∧ (True)
theorem o_l_reflected {P : Prog} [HasF P 322 fd322] (n : Nat) (h : MHp) (paper_here : List Int) (sequence_here : List Int) (D : d_l_reflected paper_here sequence_here) : callN P (n + 1) 322 [(eT eI) paper_here, (eT eI) sequence_here] h = .ok ((eT eI) (v_l_reflected paper_here sequence_here)) h := by
  refine call_p (fd := fd322) (e := (eT eI)) (V := v_l_reflected paper_here sequence_here) [some ((eT eI) paper_here), some ((eT eI) sequence_here), none] rfl rfl (nors_c (e := (eT eI)) (nors_c (e := (eT eI)) rfl)) rfl ?_
  unfold d_l_reflected at D
  unfold v_l_reflected
  exact xs_ret (ev_rev (ev_bif (evs_cons (ev_lc (e := eI) (g := eI) (xs := sequence_here) (f := fun mark => (gt paper_here mark)) (evI_seqT (e := eI) (xs := sequence_here) (ev_var rfl)) rfl (fun mark hx => (fun D_ => ⟨[some ((eT eI) paper_here), some ((eT eI) sequence_here), some (eI mark)], rfl, (ev_ix (ev_var rfl) (ev_var rfl) (i_T (e := eI) (l := paper_here) D_.1))⟩) (D.1 mark hx))) evs_nil) (b_tupL (e := eI) (l := (sequence_here.map fun mark => (gt paper_here mark))))) (r_T (e := eI) (l := (sequence_here.map fun mark => (gt paper_here mark))))) (rt_p)
end Qm

namespace Qm
/-- keeps(paper, names): 0 paper 1 names 2 last 3 other -/
def fd305 : FnD := ⟨2, 4, false,
  (.cons (.asg (.nm 2) (.bin .sub (.bif .len (.cons (.var 1) .nil)) (.cst (.int 1)))) (.cons (.ite (.cmp .isin (.ix (.var 1) (.var 2)) (.sl (.var 1) .no (.some (.var 2)))) (.cons (.ret (.cst (.bl false))) .nil) .nil) (.cons (.asg (.nm 3) (.ix (.var 0) (.var 2))) (.cons (.ret (.or (.cons (.cmp .gt (.var 3) (.var 2)) (.cons (.cmp .eq (.ix (.var 0) (.ix (.var 1) (.var 2))) (.ix (.var 1) (.var 3))) .nil)))) .nil))))⟩
/-- renamings_of(paper): 0 paper 1 rows 2 turn 3 longer 4 row 5 mark -/
def fd306 : FnD := ⟨1, 6, false,
  (.cons (.asg (.nm 1) (.lst false (.cons (.tup .nil) .nil))) (.cons (.for (.nm 2) (.rng (.cons (.bif .len (.cons (.var 0) .nil)) .nil)) (.cons (.asg (.nm 3) (.lst true .nil)) (.cons (.for (.nm 4) (.seq (.var 1)) (.cons (.exp (.mth .extend (.var 3) (.cons (.lc [5] (.bin .add (.var 4) (.tup (.cons (.var 5) .nil))) (.nm 5) (.rng (.cons (.bif .len (.cons (.var 0) .nil)) .nil)) (.cons (.call 305 (.cons (.var 0) (.cons (.bin .add (.var 4) (.tup (.cons (.var 5) .nil))) .nil))) .nil)) .nil))) .nil)) (.cons (.asg (.nm 1) (.var 3)) .nil)))) (.cons (.ret (.var 1)) .nil)))⟩
/-- count_renamings(paper): 0 paper -/
def fd351 : FnD := ⟨1, 1, false,
  (.cons (.exp (.call 285 (.cons (.var 0) .nil))) (.cons (.ret (.bif .len (.cons (.call 306 (.cons (.var 0) .nil)) .nil))) .nil))⟩
/-- nth_renaming(paper, index): 0 paper 1 index 2 found -/
def fd352 : FnD := ⟨2, 3, false,
  (.cons (.exp (.call 285 (.cons (.var 0) .nil))) (.cons (.asg (.nm 2) (.call 306 (.cons (.var 0) .nil))) (.cons (.ite (.not (.call 0 (.cons (.var 1) (.cons (.cst (.int 0)) (.cons (.bin .sub (.bif .len (.cons (.var 2) .nil)) (.cst (.int 1))) .nil))))) (.cons (.rai 1 (.cons (.cst (.str "index")) .nil)) .nil) .nil) (.cons (.ret (.ix (.var 2) (.var 1))) .nil))))⟩
/-- renamed_by(sequence, names): 0 sequence 1 names 2 mark -/
def fd307 : FnD := ⟨2, 3, false,
  (.cons (.ret (.bif .tuple (.cons (.lc [2] (.ix (.var 1) (.var 2)) (.nm 2) (.seq (.var 0)) .nil) .nil))) .nil)⟩
/-- first_alike(paper, sequence): 0 paper 1 sequence 2 names -/
def fd353 : FnD := ⟨2, 3, false,
  (.cons (.exp (.call 286 (.cons (.var 0) (.cons (.var 1) .nil)))) (.cons (.ret (.bif .min1 (.cons (.lc [2] (.call 307 (.cons (.var 1) (.cons (.var 2) .nil))) (.nm 2) (.seq (.call 306 (.cons (.var 0) .nil))) .nil) .nil))) .nil))⟩
/-- count_alike(paper, sequence): 0 paper 1 sequence 2 names -/
def fd488 : FnD := ⟨2, 3, false,
  (.cons (.exp (.call 286 (.cons (.var 0) (.cons (.var 1) .nil)))) (.cons (.ret (.bif .len (.cons (.dcc true [2] (.call 307 (.cons (.var 1) (.cons (.var 2) .nil))) (.cst (.bl true)) (.nm 2) (.seq (.call 306 (.cons (.var 0) .nil))) .nil) .nil))) .nil))⟩
/-- check_two(paper, first, second): 0 paper 1 first 2 second -/
def fd308 : FnD := ⟨3, 3, false,
  (.cons (.exp (.call 285 (.cons (.var 0) .nil))) (.cons (.ite (.not (.call 281 (.cons (.var 0) (.cons (.var 1) .nil)))) (.cons (.rai 1 (.cons (.cst (.str "first")) .nil)) .nil) .nil) (.cons (.ite (.not (.call 281 (.cons (.var 0) (.cons (.var 2) .nil)))) (.cons (.rai 1 (.cons (.cst (.str "second")) .nil)) .nil) .nil) .nil)))⟩
/-- renaming(paper, first, second): 0 paper 1 first 2 second 3 names -/
def fd309 : FnD := ⟨3, 4, false,
  (.cons (.exp (.call 308 (.cons (.var 0) (.cons (.var 1) (.cons (.var 2) .nil))))) (.cons (.for (.nm 3) (.seq (.call 306 (.cons (.var 0) .nil))) (.cons (.ite (.cmp .eq (.call 307 (.cons (.var 1) (.cons (.var 3) .nil))) (.var 2)) (.cons (.ret (.var 3)) .nil) .nil) .nil)) (.cons (.ret (.cst .non)) .nil)))⟩
/-- accepts_renaming(paper, first, second, value): 0 paper 1 first 2 second 3 value 4 mark 5 many -/
def fd310 : FnD := ⟨4, 6, false,
  (.cons (.exp (.call 308 (.cons (.var 0) (.cons (.var 1) (.cons (.var 2) .nil))))) (.cons (.ite (.or (.cons (.not (.isi .tuple (.var 3))) (.cons (.cmp .ne (.bif .len (.cons (.var 3) .nil)) (.bif .len (.cons (.var 0) .nil))) .nil))) (.cons (.ret (.cst (.bl false))) .nil) .nil) (.cons (.ite (.not (.bif .all (.cons (.lc [4] (.call 0 (.cons (.var 4) (.cons (.cst (.int 0)) (.cons (.bin .sub (.bif .len (.cons (.var 0) .nil)) (.cst (.int 1))) .nil)))) (.nm 4) (.seq (.var 3)) .nil) .nil))) (.cons (.ret (.cst (.bl false))) .nil) .nil) (.cons (.ite (.not (.bif .all (.cons (.lc [5] (.call 305 (.cons (.var 0) (.cons (.sl (.var 3) .no (.some (.bin .add (.var 5) (.cst (.int 1))))) .nil))) (.nm 5) (.rng (.cons (.bif .len (.cons (.var 0) .nil)) .nil)) .nil) .nil))) (.cons (.ret (.cst (.bl false))) .nil) .nil) (.cons (.ret (.cmp .eq (.call 307 (.cons (.var 1) (.cons (.var 3) .nil))) (.var 2))) .nil)))))⟩
/-- _law_ask(_law_word, _law_parts): 0 _law_word 1 _law_parts -/
def fd491 : FnD := ⟨2, 2, false,
  (.cons (.ite (.cmp .eq (.var 0) (.cst (.str "reflected"))) (.cons (.exp (.call 316 (.cons (.ix (.var 1) (.cst (.int 0))) (.cons (.ix (.var 1) (.cst (.int 1))) .nil)))) .nil) (.cons (.ite (.cmp .eq (.var 0) (.cst (.str "own"))) (.cons (.exp (.call 349 (.cons (.ix (.var 1) (.cst (.int 0))) .nil))) .nil) (.cons (.ite (.cmp .eq (.var 0) (.cst (.str "pairs"))) (.cons (.exp (.call 350 (.cons (.ix (.var 1) (.cst (.int 0))) .nil))) .nil) (.cons (.ite (.cmp .eq (.var 0) (.cst (.str "count"))) (.cons (.exp (.call 351 (.cons (.ix (.var 1) (.cst (.int 0))) .nil))) .nil) (.cons (.ite (.cmp .eq (.var 0) (.cst (.str "nth"))) (.cons (.exp (.call 352 (.cons (.ix (.var 1) (.cst (.int 0))) (.cons (.ix (.var 1) (.cst (.int 1))) .nil)))) .nil) (.cons (.ite (.cmp .eq (.var 0) (.cst (.str "first"))) (.cons (.exp (.call 353 (.cons (.ix (.var 1) (.cst (.int 0))) (.cons (.ix (.var 1) (.cst (.int 1))) .nil)))) .nil) (.cons (.exp (.call 490 (.cons (.var 0) (.cons (.var 1) .nil)))) .nil)) .nil)) .nil)) .nil)) .nil)) .nil)) .nil)⟩
/-- _law_last(_law_word, _law_parts): 0 _law_word 1 _law_parts -/
def fd490 : FnD := ⟨2, 2, false,
  (.cons (.ite (.cmp .eq (.var 0) (.cst (.str "alike"))) (.cons (.exp (.call 488 (.cons (.ix (.var 1) (.cst (.int 0))) (.cons (.ix (.var 1) (.cst (.int 1))) .nil)))) .nil) (.cons (.ite (.cmp .eq (.var 0) (.cst (.str "renaming"))) (.cons (.exp (.call 309 (.cons (.ix (.var 1) (.cst (.int 0))) (.cons (.ix (.var 1) (.cst (.int 1))) (.cons (.ix (.var 1) (.cst (.int 2))) .nil))))) .nil) (.cons (.exp (.call 310 (.cons (.ix (.var 1) (.cst (.int 0))) (.cons (.ix (.var 1) (.cst (.int 1))) (.cons (.ix (.var 1) (.cst (.int 2))) (.cons (.cst .non) .nil)))))) .nil)) .nil)) .nil)⟩
/-- _law_told(_law_word, _law_parts): 0 _law_word 1 _law_parts 2 problem -/
def fd492 : FnD := ⟨2, 3, false,
  (.cons (.try (.cons (.exp (.call 491 (.cons (.var 0) (.cons (.var 1) .nil)))) .nil) 1 (some 2) (.cons (.ret (.ife (.and (.cons (.xis 2 0) (.cons (.xis 2 6) .nil))) (.xfl 2 0) (.cst .non))) .nil)) (.cons (.ret (.cst (.str ""))) .nil))⟩
end Qm

/-! FT: defs whose answers the kernel works out, argument by argument. -/
namespace Qm
/-- the answer v, whatever more fuel there is -/
def FT (A : Prog) (K f : Nat) (args : List PV) (v : PV) : Prop := ∀ n, callN A (n + K) f args [] = .ok v []
open Classical in
noncomputable def ftv (A : Prog) (K f : Nat) (args : List PV) : NV := if h : ∃ v : NV, FT A K f args (eA v) then h.choose else toA eN ()
def ftd (A : Prog) (K f : Nat) (args : List PV) : Prop := ∃ v : NV, FT A K f args (eA v)
theorem ftv_ok {A : Prog} {K f : Nat} {args : List PV} (D : ftd A K f args) : FT A K f args (eA (ftv A K f args)) := by
  have D' : ∃ v : NV, FT A K f args (eA v) := D
  unfold ftv
  rw [dif_pos D']
  exact D'.choose_spec
theorem ftv_eq {A : Prog} {K f : Nat} {args : List PV} {v : NV} (h : FT A K f args (eA v)) : ftd A K f args ∧ ftv A K f args = v := by
  have D : ftd A K f args := ⟨v, h⟩
  refine ⟨D, ?_⟩
  have e := ftv_ok D 0
  rw [h 0] at e
  injection e with e _
  exact (NV.ext' e).symm
/-- a call of trees alone, at any heap -/
theorem ft_call {A : Prog} {K f : Nat} {fd : FnD} (hf : A.fns f = some fd) (hr : fd.raw = false) {args : List PV} (hn : nors args = true) {v : PV} (h : FT A (K + 1) f args v) (n : Nat) (hp : MHp) : callN A (n + (K + 1)) f args hp = .ok v hp := by
  have e := h n
  rw [show n + (K + 1) = (n + K) + 1 from rfl, callN] at e ⊢
  dsimp only at e ⊢
  rw [hf] at e ⊢
  dsimp only at e ⊢
  unfold runFn at e ⊢
  by_cases hl : args.length = fd.np
  · rw [if_pos hl, hr, hn, show (!false && true) = true from rfl, if_pos rfl] at e ⊢
    revert e
    cases exs A (callN A (n + K)) none fd.body (args.map some ++ List.replicate (fd.nl - fd.np) none) [] with
    | nx σ h' =>
      intro e
      dsimp only at e ⊢
      unfold leaveT at e ⊢
      cases q : frz 0 h' .non with
      | none => rw [q] at e; cases e
      | some w => rw [q] at e; injection e with e1; subst e1; rfl
    | rt x h' =>
      intro e
      dsimp only at e ⊢
      unfold leaveT at e ⊢
      cases q : frz 0 h' x with
      | none => rw [q] at e; cases e
      | some w => rw [q] at e; injection e with e1; subst e1; rfl
    | ex x σ h' =>
      intro e
      dsimp only at e
      unfold leaveTX at e
      split at e <;> cases e
    | bk σ h' => intro e; cases e
    | ct σ h' => intro e; cases e
    | stuck => intro e; cases e
  · rw [if_neg hl] at e; cases e
/-- a Bool test of an answer -/
def isR (r : Res PV) (v : PV) : Bool := match r with | .ok w h => decide (w = v) && h.isEmpty | _ => false
theorem isR_ok {r : Res PV} {v : PV} (h : isR r v = true) : r = .ok v [] := by
  unfold isR at h
  split at h
  · rename_i w hp
    rw [Bool.and_eq_true] at h
    obtain ⟨a, b⟩ := h
    have := of_decide_eq_true a
    subst this
    cases hp with
    | nil => rfl
    | cons _ _ => cases b
  · cases h
end Qm

/-! H07: what k07 is told: worked out by the kernel. -/
namespace Qm
def fdLA07 : FnD := ⟨1, 15, false,
  (.cons (.asg (.nm 1) (.call 229 (.cons (.var 0) .nil))) (.cons (.asg (.nm 2) (.tup (.cons (.cst (.int 1)) (.cons (.cst (.int 0)) (.cons (.cst (.int 2)) .nil))))) (.cons (.asg (.nm 3) (.lst false (.cons (.cst .non) (.cons (.lst false (.cons (.cst (.int 1)) (.cons (.cst (.int 0)) .nil))) (.cons (.tup .nil) (.cons (.tup (.cons (.cst (.int 1)) .nil)) (.cons (.tup (.cons (.cst (.int 1)) (.cons (.cst (.int 2)) (.cons (.cst (.int 0)) .nil)))) (.cons (.tup (.cons (.cst (.int 0)) (.cons (.cst (.int 1)) (.cons (.cst (.int 2)) (.cons (.cst (.int 3)) (.cons (.cst (.int 4)) (.cons (.cst (.int 5)) (.cons (.cst (.int 6)) .nil)))))))) (.cons (.tup (.cons (.cst (.int 1)) (.cons (.cst (.bl true)) .nil))) (.cons (.tup (.cons (.cst (.str "0")) .nil)) (.cons (.tup (.cons (.cst (.int 0)) (.cons (.cst (.int 0)) .nil))) (.cons (.cst (.int 0)) (.cons (.tup (.cons (.neg (.cst (.int 1))) .nil)) (.cons (.tup (.cons (.cst (.int 0)) (.cons (.cst (.int 2)) .nil))) .nil)))))))))))))) (.cons (.asg (.nm 4) (.lst false (.cons (.cst .non) (.cons (.lst false (.cons (.cst (.int 0)) .nil)) (.cons (.tup (.cons (.cst (.int 3)) .nil)) (.cons (.tup (.cons (.neg (.cst (.int 1))) .nil)) (.cons (.tup (.cons (.cst (.bl true)) .nil)) (.cons (.tup (.cons (.cst .non) .nil)) (.cons (.tup (.cons (.cst (.str "0")) .nil)) (.cons (.bin .mul (.tup (.cons (.cst (.int 0)) .nil)) (.cst (.int 17))) (.cons (.cst (.int 0)) (.cons (.cst (.str "")) (.cons (.tup (.cons (.cst (.int 0)) (.cons (.cst (.int 1)) (.cons (.cst (.int 3)) .nil)))) .nil))))))))))))) (.cons (.asg (.nm 5) (.call 232 (.cons (.var 1) (.cons (.lst false (.cons (.tup .nil) (.cons (.tup (.cons (.cst (.int 0)) (.cons (.cst (.int 2)) .nil))) (.cons (.bin .mul (.tup (.cons (.cst (.int 1)) .nil)) (.cst (.int 16))) .nil)))) .nil)))) (.cons (.asg (.nm 6) (.lcm [7] (.tup (.cons (.var 7) (.cons (.lst false (.cons (.var 2) (.cons (.var 5) .nil))) (.cons (.lst false (.cons (.var 3) (.cons (.var 4) .nil))) (.cons (.lst false (.cons (.cst (.str "paper")) (.cons (.cst (.str "sequence")) .nil))) .nil))))) (.nm 7) (.seq (.lst false (.cons (.cst (.str "reflected")) (.cons (.cst (.str "first")) (.cons (.cst (.str "alike")) .nil))))) .nil)) (.cons (.exp (.mth .extend (.var 6) (.cons (.lc [7] (.tup (.cons (.var 7) (.cons (.lst false (.cons (.var 2) .nil)) (.cons (.lst false (.cons (.var 3) .nil)) (.cons (.lst false (.cons (.cst (.str "paper")) .nil)) .nil))))) (.nm 7) (.seq (.lst false (.cons (.cst (.str "own")) (.cons (.cst (.str "pairs")) (.cons (.cst (.str "count")) .nil))))) .nil) .nil))) (.cons (.exp (.mth .append (.var 6) (.cons (.tup (.cons (.cst (.str "nth")) (.cons (.lst false (.cons (.var 2) (.cons (.call 230 (.cons (.var 1) (.cons (.cst (.int 2)) .nil))) .nil))) (.cons (.lst false (.cons (.var 3) (.cons (.lst false (.cons (.cst (.int 2)) (.cons (.neg (.cst (.int 1))) (.cons (.cst .non) (.cons (.cst (.bl true)) (.cons (.cst (.str "0")) .nil)))))) .nil))) (.cons (.lst false (.cons (.cst (.str "paper")) (.cons (.cst (.str "index")) .nil))) .nil))))) .nil))) (.cons (.exp (.mth .extend (.var 6) (.cons (.lc [7] (.tup (.cons (.var 7) (.cons (.lst false (.cons (.var 2) (.cons (.var 5) (.cons (.tup (.cons (.cst (.int 0)) .nil)) .nil)))) (.cons (.lst false (.cons (.var 3) (.cons (.var 4) (.cons (.var 4) .nil)))) (.cons (.lst false (.cons (.cst (.str "paper")) (.cons (.cst (.str "first")) (.cons (.cst (.str "second")) .nil)))) .nil))))) (.nm 7) (.seq (.lst false (.cons (.cst (.str "renaming")) (.cons (.cst (.str "accepts")) .nil)))) .nil) .nil))) (.cons (.for (.tp (.cons (.nm 7) (.cons (.nm 8) (.cons (.nm 9) (.cons (.nm 10) .nil))))) (.seq (.var 6)) (.cons (.ite (.cmp .ne (.call 492 (.cons (.var 7) (.cons (.var 8) .nil))) (.cst (.str ""))) (.cons (.ret (.cst (.bl false))) .nil) .nil) (.cons (.for (.nm 11) (.rng (.cons (.bif .len (.cons (.var 8) .nil)) .nil)) (.cons (.asg (.nm 12) (.lc [13] (.call 232 (.cons (.var 1) (.cons (.var 13) .nil))) (.nm 13) (.seq (.var 9)) .nil)) (.cons (.asg (.nm 14) (.bin .add (.bin .add (.sl (.var 8) .no (.some (.var 11))) (.lst false (.cons (.ix (.var 12) (.var 11)) .nil))) (.sl (.var 8) (.some (.bin .add (.var 11) (.cst (.int 1)))) .no))) (.cons (.ite (.or (.cons (.cmp .ne (.call 492 (.cons (.var 7) (.cons (.var 14) .nil))) (.ix (.var 10) (.var 11))) (.cons (.cmp .ne (.call 492 (.cons (.var 7) (.cons (.bin .add (.sl (.var 8) .no (.some (.var 11))) (.sl (.var 12) (.some (.var 11)) .no)) .nil))) (.ix (.var 10) (.var 11))) .nil))) (.cons (.ret (.cst (.bl false))) .nil) .nil) .nil)))) .nil))) (.cons (.ret (.cst (.bl true))) .nil)))))))))))⟩
def conA07 : Nat → Option PV
  | 2 => some (.int 6)
  | 3 => some (.int 16)
  | _ => none
def tbA07 : List (Nat × FnD) := [(0, fd0), (279, fd279), (280, fd280), (281, fd281), (285, fd285), (286, fd286), (315, fd315), (316, fd316), (349, fd349), (350, fd350), (305, fd305), (306, fd306), (351, fd351), (352, fd352), (307, fd307), (353, fd353), (488, fd488), (308, fd308), (309, fd309), (310, fd310), (229, fd229), (230, fdNext), (232, fd232), (491, fd491), (490, fd490), (492, fd492), (493, fdLA07)]
def fnsA07 (k : Nat) : Option FnD := tbA07.lookup k
def subA07 : Nat → Nat → Bool := fun a b => a == b || (b == 0 && decide (a < 5)) || b == 6
def fldNA07 : Nat → List Nat
  | 1 => [0] | 2 => [1] | 3 => [2] | 4 => [3, 4] | 5 => [5] | _ => []
def progA07 : Prog := ⟨conA07, fldNA07, subA07, fnsA07⟩
class IsP (P : Prog) : Prop where
  e : P = progA07
noncomputable def v_told07 (w : SV) (ps : List NV) : NV := ftv progA07 30 492 [eS w, (eL eA) ps]
def d_told07 (w : SV) (ps : List NV) : Prop := ftd progA07 30 492 [eS w, (eL eA) ps]
theorem o_told07 {P : Prog} [I : IsP P] (n : Nat) (h : MHp) (w : SV) (ps : List NV) (D : d_told07 w ps) : callN P (n + 30) 492 [eS w, (eL eA) ps] h = .ok (eA (v_told07 w ps)) h := by
  rw [I.e]
  exact ft_call (K := 29) (fd := fd492) rfl rfl (nors_c (e := eS) (nors_c (e := eL eA) rfl)) (ftv_ok D) n h
/-- told, as a Bool -/
def tk07 (n : Nat) (w : SV) (ps : List NV) (z : SV) : Bool := isR (callN progA07 (n + 30) 492 [eS w, (eL eA) ps] []) (eS z)
theorem tk07_ok {w : SV} {ps : List NV} {z : SV} (h : ∀ n, tk07 n w ps z = true) : d_told07 w ps ∧ v_told07 w ps = toA eS z := ftv_eq (v := toA eS z) fun n => isR_ok (h n)
end Qm

namespace Qm
noncomputable section
/-- law(_law_script): 0 _law_script 1 _law_stream_here 2 _law_paper 3 _law_bad_paper 4 _law_bad_sequence 5 _law_sequence 6 _law_rows 7 _law_word 8 _law_good 9 _law_bad 10 _law_names 11 _law_k 12 _law_wrong 13 _law_options 14 _law_alone -/
def fd493 : FnD := ⟨1, 15, false,
  (.cons (.asg (.nm 1) (.call 229 (.cons (.var 0) .nil))) (.cons (.asg (.nm 2) (.tup (.cons (.cst (.int 1)) (.cons (.cst (.int 0)) (.cons (.cst (.int 2)) .nil))))) (.cons (.asg (.nm 3) (.lst false (.cons (.cst .non) (.cons (.lst false (.cons (.cst (.int 1)) (.cons (.cst (.int 0)) .nil))) (.cons (.tup .nil) (.cons (.tup (.cons (.cst (.int 1)) .nil)) (.cons (.tup (.cons (.cst (.int 1)) (.cons (.cst (.int 2)) (.cons (.cst (.int 0)) .nil)))) (.cons (.tup (.cons (.cst (.int 0)) (.cons (.cst (.int 1)) (.cons (.cst (.int 2)) (.cons (.cst (.int 3)) (.cons (.cst (.int 4)) (.cons (.cst (.int 5)) (.cons (.cst (.int 6)) .nil)))))))) (.cons (.tup (.cons (.cst (.int 1)) (.cons (.cst (.bl true)) .nil))) (.cons (.tup (.cons (.cst (.str "0")) .nil)) (.cons (.tup (.cons (.cst (.int 0)) (.cons (.cst (.int 0)) .nil))) (.cons (.cst (.int 0)) (.cons (.tup (.cons (.neg (.cst (.int 1))) .nil)) (.cons (.tup (.cons (.cst (.int 0)) (.cons (.cst (.int 2)) .nil))) .nil)))))))))))))) (.cons (.asg (.nm 4) (.lst false (.cons (.cst .non) (.cons (.lst false (.cons (.cst (.int 0)) .nil)) (.cons (.tup (.cons (.cst (.int 3)) .nil)) (.cons (.tup (.cons (.neg (.cst (.int 1))) .nil)) (.cons (.tup (.cons (.cst (.bl true)) .nil)) (.cons (.tup (.cons (.cst .non) .nil)) (.cons (.tup (.cons (.cst (.str "0")) .nil)) (.cons (.bin .mul (.tup (.cons (.cst (.int 0)) .nil)) (.cst (.int 17))) (.cons (.cst (.int 0)) (.cons (.cst (.str "")) (.cons (.tup (.cons (.cst (.int 0)) (.cons (.cst (.int 1)) (.cons (.cst (.int 3)) .nil)))) .nil))))))))))))) (.cons (.asg (.nm 5) (.call 232 (.cons (.var 1) (.cons (.lst false (.cons (.tup .nil) (.cons (.tup (.cons (.cst (.int 0)) (.cons (.cst (.int 2)) .nil))) (.cons (.bin .mul (.tup (.cons (.cst (.int 1)) .nil)) (.cst (.int 16))) .nil)))) .nil)))) (.cons (.asg (.nm 6) (.lcm [7] (.tup (.cons (.var 7) (.cons (.lst false (.cons (.var 2) (.cons (.var 5) .nil))) (.cons (.lst false (.cons (.var 3) (.cons (.var 4) .nil))) (.cons (.lst false (.cons (.cst (.str "paper")) (.cons (.cst (.str "sequence")) .nil))) .nil))))) (.nm 7) (.seq (.lst false (.cons (.cst (.str "reflected")) (.cons (.cst (.str "first")) (.cons (.cst (.str "alike")) .nil))))) .nil)) (.cons (.exp (.mth .extend (.var 6) (.cons (.lc [7] (.tup (.cons (.var 7) (.cons (.lst false (.cons (.var 2) .nil)) (.cons (.lst false (.cons (.var 3) .nil)) (.cons (.lst false (.cons (.cst (.str "paper")) .nil)) .nil))))) (.nm 7) (.seq (.lst false (.cons (.cst (.str "own")) (.cons (.cst (.str "pairs")) (.cons (.cst (.str "count")) .nil))))) .nil) .nil))) (.cons (.exp (.mth .append (.var 6) (.cons (.tup (.cons (.cst (.str "nth")) (.cons (.lst false (.cons (.var 2) (.cons (.call 230 (.cons (.var 1) (.cons (.cst (.int 2)) .nil))) .nil))) (.cons (.lst false (.cons (.var 3) (.cons (.lst false (.cons (.cst (.int 2)) (.cons (.neg (.cst (.int 1))) (.cons (.cst .non) (.cons (.cst (.bl true)) (.cons (.cst (.str "0")) .nil)))))) .nil))) (.cons (.lst false (.cons (.cst (.str "paper")) (.cons (.cst (.str "index")) .nil))) .nil))))) .nil))) (.cons (.exp (.mth .extend (.var 6) (.cons (.lc [7] (.tup (.cons (.var 7) (.cons (.lst false (.cons (.var 2) (.cons (.var 5) (.cons (.tup (.cons (.cst (.int 0)) .nil)) .nil)))) (.cons (.lst false (.cons (.var 3) (.cons (.var 4) (.cons (.var 4) .nil)))) (.cons (.lst false (.cons (.cst (.str "paper")) (.cons (.cst (.str "first")) (.cons (.cst (.str "second")) .nil)))) .nil))))) (.nm 7) (.seq (.lst false (.cons (.cst (.str "renaming")) (.cons (.cst (.str "accepts")) .nil)))) .nil) .nil))) (.cons (.for (.tp (.cons (.nm 7) (.cons (.nm 8) (.cons (.nm 9) (.cons (.nm 10) .nil))))) (.seq (.var 6)) (.cons (.ite (.cmp .ne (.call 492 (.cons (.var 7) (.cons (.var 8) .nil))) (.cst (.str ""))) (.cons (.ret (.cst (.bl false))) .nil) .nil) (.cons (.for (.nm 11) (.rng (.cons (.bif .len (.cons (.var 8) .nil)) .nil)) (.cons (.asg (.nm 12) (.lc [13] (.call 232 (.cons (.var 1) (.cons (.var 13) .nil))) (.nm 13) (.seq (.var 9)) .nil)) (.cons (.asg (.nm 14) (.bin .add (.bin .add (.sl (.var 8) .no (.some (.var 11))) (.lst false (.cons (.ix (.var 12) (.var 11)) .nil))) (.sl (.var 8) (.some (.bin .add (.var 11) (.cst (.int 1)))) .no))) (.cons (.ite (.or (.cons (.cmp .ne (.call 492 (.cons (.var 7) (.cons (.var 14) .nil))) (.ix (.var 10) (.var 11))) (.cons (.cmp .ne (.call 492 (.cons (.var 7) (.cons (.bin .add (.sl (.var 8) .no (.some (.var 11))) (.sl (.var 12) (.some (.var 11)) .no)) .nil))) (.ix (.var 10) (.var 11))) .nil))) (.cons (.ret (.cst (.bl false))) .nil) .nil) .nil)))) .nil))) (.cons (.ret (.cst (.bl true))) .nil)))))))))))⟩
@[irreducible] def v_law_k07_L_ (p : SV × (List NV) × (List (List NV)) × (List SV)) (st_2 : Sm) (k : Int) : Sm :=
  let r4 : (List NV) × Sm := mapS (fun (s2 : Sm) (options : List NV) => let r3 : NV × Sm := pick s2 options; (r3.1, r3.2)) st_2 p.2.2.1; let wrong : List NV := r4.1; let alone : List NV := (((cut p.2.1 none (some k)) ++ [(gt wrong k)]) ++ (cut p.2.1 (some (k + (1 : Int))) none)); if (!peq (eA (v_told07 p.1 alone)) (eS (gt p.2.2.2 k)) || !peq (eA (v_told07 p.1 ((cut p.2.1 none (some k)) ++ (cut wrong (some k) none)))) (eS (gt p.2.2.2 k))) = true then ((default : Sm)) else (r4.2)
@[irreducible] def d_law_k07_L_ (p : SV × (List NV) × (List (List NV)) × (List SV)) (st_2 : Sm) (k : Int) : Prop :=
  (∀ options ∈ p.2.2.1, ∀ s2 : Sm, (DrOk options.length) ∧ (let r3 : NV × Sm := pick s2 options; True)) ∧ (let r4 : (List NV) × Sm := mapS (fun (s2 : Sm) (options : List NV) => let r3 : NV × Sm := pick s2 options; (r3.1, r3.2)) st_2 p.2.2.1; let wrong : List NV := r4.1; (InR wrong.length k) ∧ ((BigOk (cut p.2.1 none (some k)).length [(gt wrong k)].length) ∧ ((BigOk ((cut p.2.1 none (some k)) ++ [(gt wrong k)]).length (cut p.2.1 (some (k + (1 : Int))) none).length) ∧ (let alone : List NV := (((cut p.2.1 none (some k)) ++ [(gt wrong k)]) ++ (cut p.2.1 (some (k + (1 : Int))) none)); (d_told07 p.1 alone) ∧ ((InR p.2.2.2.length k) ∧ ((flatD (eA (v_told07 p.1 alone)) = true ∧ flatD (eS (gt p.2.2.2 k)) = true) ∧ (((!peq (eA (v_told07 p.1 alone)) (eS (gt p.2.2.2 k))) = false → (BigOk (cut p.2.1 none (some k)).length (cut wrong (some k) none).length) ∧ ((d_told07 p.1 ((cut p.2.1 none (some k)) ++ (cut wrong (some k) none))) ∧ ((InR p.2.2.2.length k) ∧ ((flatD (eA (v_told07 p.1 ((cut p.2.1 none (some k)) ++ (cut wrong (some k) none)))) = true ∧ flatD (eS (gt p.2.2.2 k)) = true) ∧ (True))))) ∧ (((!peq (eA (v_told07 p.1 alone)) (eS (gt p.2.2.2 k)) || !peq (eA (v_told07 p.1 ((cut p.2.1 none (some k)) ++ (cut wrong (some k) none)))) (eS (gt p.2.2.2 k))) = true → False) ∧ ((!peq (eA (v_told07 p.1 alone)) (eS (gt p.2.2.2 k)) || !peq (eA (v_told07 p.1 ((cut p.2.1 none (some k)) ++ (cut wrong (some k) none)))) (eS (gt p.2.2.2 k))) = false → True)))))))))
@[irreducible] def v_law_k07_L_2 (st_ : Sm) (p : SV × (List NV) × (List (List NV)) × (List SV)) : Sm :=
  if (!peq (eA (v_told07 p.1 p.2.1)) (eS (sv ""))) = true then ((default : Sm)) else (let q : Sm := List.foldl (v_law_k07_L_ p) (st_ : Sm) (rng 0 (p.2.1.length : Int)); q)
@[irreducible] def d_law_k07_L_2 (st_ : Sm) (p : SV × (List NV) × (List (List NV)) × (List SV)) : Prop :=
  (d_told07 p.1 p.2.1) ∧ ((flatD (eA (v_told07 p.1 p.2.1)) = true ∧ flatD (eS (sv "")) = true) ∧ (((!peq (eA (v_told07 p.1 p.2.1)) (eS (sv ""))) = true → False) ∧ ((!peq (eA (v_told07 p.1 p.2.1)) (eS (sv ""))) = false → (RngOk 0 (p.2.1.length : Int)) ∧ ((FoldD (v_law_k07_L_ p) (d_law_k07_L_ p) (st_ : Sm) (rng 0 (p.2.1.length : Int))) ∧ (let q : Sm := List.foldl (v_law_k07_L_ p) (st_ : Sm) (rng 0 (p.2.1.length : Int)); True)))))
def g_law_k07 (ns : List Int) : Prop :=
  let s : Sm := st0 ns; let paper : Int × Int × Int := ((1 : Int), (0 : Int), (2 : Int)); let bad_paper : List NV := [(toA eN ()), (toA (eL eI) [(1 : Int), (0 : Int)]), (toA (eT eI) []), (toA (eT eI) [(1 : Int)]), (toA (eP3 eI eI eI) ((1 : Int), (2 : Int), (0 : Int))), (toA (eT eI) [(0 : Int), (1 : Int), (2 : Int), (3 : Int), (4 : Int), (5 : Int), (6 : Int)]), (toA (eP2 eI eB) ((1 : Int), true)), (toA (eT eS) [(sv "0")]), (toA (eP2 eI eI) ((0 : Int), (0 : Int))), (toA eI (0 : Int)), (toA (eT eI) [(-(1 : Int))]), (toA (eP2 eI eI) ((0 : Int), (2 : Int)))]; let bad_sequence : List NV := [(toA eN ()), (toA (eL eI) [(0 : Int)]), (toA (eT eI) [(3 : Int)]), (toA (eT eI) [(-(1 : Int))]), (toA (eT eB) [true]), (toA (eT eN) [()]), (toA (eT eS) [(sv "0")]), (toA (eT eI) (rep [(0 : Int)] (17 : Int).toNat)), (toA eI (0 : Int)), (toA eS (sv "")), (toA (eP3 eI eI eI) ((0 : Int), (1 : Int), (3 : Int)))]; (DrOk [([] : List Int), [(0 : Int), (2 : Int)], (rep [(1 : Int)] (16 : Int).toNat)].length) ∧ (let r : (List Int) × Sm := pick s [([] : List Int), [(0 : Int), (2 : Int)], (rep [(1 : Int)] (16 : Int).toNat)]; let sequence : List Int := r.1; let rows : List (SV × (List NV) × (List (List NV)) × (List SV)) := ([(sv "reflected"), (sv "first"), (sv "alike")].map fun word => (word, [(toA (eP3 eI eI eI) paper), (toA (eT eI) sequence)], [bad_paper, bad_sequence], [(sv "paper"), (sv "sequence")])); (BigOk rows.length ([(sv "own"), (sv "pairs"), (sv "count")].map fun word2 => (word2, [(toA (eP3 eI eI eI) paper)], [bad_paper], [(sv "paper")])).length) ∧ (let rows2 : List (SV × (List NV) × (List (List NV)) × (List SV)) := rows ++ ([(sv "own"), (sv "pairs"), (sv "count")].map fun word2 => (word2, [(toA (eP3 eI eI eI) paper)], [bad_paper], [(sv "paper")])); let r2 : Int × Sm := nx r.2 (2 : Int); (rows2.length < 16777216) ∧ (let rows3 : List (SV × (List NV) × (List (List NV)) × (List SV)) := rows2 ++ [((sv "nth"), [(toA (eP3 eI eI eI) paper), (toA eI r2.1)], [bad_paper, [(toA eI (2 : Int)), (toA eI (-(1 : Int))), (toA eN ()), (toA eB true), (toA eS (sv "0"))]], [(sv "paper"), (sv "index")])]; (BigOk rows3.length ([(sv "renaming"), (sv "accepts")].map fun word3 => (word3, [(toA (eP3 eI eI eI) paper), (toA (eT eI) sequence), (toA (eT eI) [(0 : Int)])], [bad_paper, bad_sequence, bad_sequence], [(sv "paper"), (sv "first"), (sv "second")])).length) ∧ (let rows4 : List (SV × (List NV) × (List (List NV)) × (List SV)) := rows3 ++ ([(sv "renaming"), (sv "accepts")].map fun word3 => (word3, [(toA (eP3 eI eI eI) paper), (toA (eT eI) sequence), (toA (eT eI) [(0 : Int)])], [bad_paper, bad_sequence, bad_sequence], [(sv "paper"), (sv "first"), (sv "second")])); (FoldD v_law_k07_L_2 d_law_k07_L_2 (r2.2 : Sm) rows4) ∧ (let q2 : Sm := List.foldl v_law_k07_L_2 (r2.2 : Sm) rows4; True)))))
theorem o_law_k07 {P : Prog} [HasF P 229 fd229] [HasF P 230 fd230] [HasF P 232 fd232] [HasF P 493 fd493] [IsP P] (n : Nat) (ns : List Int) (D : g_law_k07 ns) : callN P (n + 31) 493 [.scr ns] [] = .ok (.bl true) [] := by
  refine call_law (fd := fd493) (V := true) [some (.scr ns), none, none, none, none, none, none, none, none, none, none, none, none, none, none] rfl rfl rfl ?_
  unfold g_law_k07 at D
  let s : Sm := st0 ns
  refine xs_asg [some (.scr ns), some (.ref 0), none, none, none, none, none, none, none, none, none, none, none, none, none] (ev_call (evs_cons (ev_var rfl) evs_nil) o_stream) rfl ?_
  let paper : Int × Int × Int := ((1 : Int), (0 : Int), (2 : Int))
  refine xs_asg [some (.scr ns), some (.ref 0), some ((eP3 eI eI eI) paper), none, none, none, none, none, none, none, none, none, none, none, none] (ev_tup (evs_cons ev_cst (evs_cons ev_cst (evs_cons ev_cst evs_nil)))) rfl ?_
  let bad_paper : List NV := [(toA eN ()), (toA (eL eI) [(1 : Int), (0 : Int)]), (toA (eT eI) []), (toA (eT eI) [(1 : Int)]), (toA (eP3 eI eI eI) ((1 : Int), (2 : Int), (0 : Int))), (toA (eT eI) [(0 : Int), (1 : Int), (2 : Int), (3 : Int), (4 : Int), (5 : Int), (6 : Int)]), (toA (eP2 eI eB) ((1 : Int), true)), (toA (eT eS) [(sv "0")]), (toA (eP2 eI eI) ((0 : Int), (0 : Int))), (toA eI (0 : Int)), (toA (eT eI) [(-(1 : Int))]), (toA (eP2 eI eI) ((0 : Int), (2 : Int)))]
  refine xs_asg [some (.scr ns), some (.ref 0), some ((eP3 eI eI eI) paper), some ((eL eA) bad_paper), none, none, none, none, none, none, none, none, none, none, none] (ev_lst (evs_cons ev_cst (evs_cons (ev_lst (evs_cons ev_cst (evs_cons ev_cst evs_nil))) (evs_cons (ev_tup evs_nil) (evs_cons (ev_tup (evs_cons ev_cst evs_nil)) (evs_cons (ev_tup (evs_cons ev_cst (evs_cons ev_cst (evs_cons ev_cst evs_nil)))) (evs_cons (ev_tup (evs_cons ev_cst (evs_cons ev_cst (evs_cons ev_cst (evs_cons ev_cst (evs_cons ev_cst (evs_cons ev_cst (evs_cons ev_cst evs_nil)))))))) (evs_cons (ev_tup (evs_cons ev_cst (evs_cons ev_cst evs_nil))) (evs_cons (ev_tup (evs_cons ev_cst evs_nil)) (evs_cons (ev_tup (evs_cons ev_cst (evs_cons ev_cst evs_nil))) (evs_cons ev_cst (evs_cons (ev_tup (evs_cons (ev_neg ev_cst) evs_nil)) (evs_cons (ev_tup (evs_cons ev_cst (evs_cons ev_cst evs_nil))) evs_nil))))))))))))) rfl ?_
  let bad_sequence : List NV := [(toA eN ()), (toA (eL eI) [(0 : Int)]), (toA (eT eI) [(3 : Int)]), (toA (eT eI) [(-(1 : Int))]), (toA (eT eB) [true]), (toA (eT eN) [()]), (toA (eT eS) [(sv "0")]), (toA (eT eI) (rep [(0 : Int)] (17 : Int).toNat)), (toA eI (0 : Int)), (toA eS (sv "")), (toA (eP3 eI eI eI) ((0 : Int), (1 : Int), (3 : Int)))]
  refine xs_asg [some (.scr ns), some (.ref 0), some ((eP3 eI eI eI) paper), some ((eL eA) bad_paper), some ((eL eA) bad_sequence), none, none, none, none, none, none, none, none, none, none] (ev_lst (evs_cons ev_cst (evs_cons (ev_lst (evs_cons ev_cst evs_nil)) (evs_cons (ev_tup (evs_cons ev_cst evs_nil)) (evs_cons (ev_tup (evs_cons (ev_neg ev_cst) evs_nil)) (evs_cons (ev_tup (evs_cons ev_cst evs_nil)) (evs_cons (ev_tup (evs_cons ev_cst evs_nil)) (evs_cons (ev_tup (evs_cons ev_cst evs_nil)) (evs_cons (ev_bin (ev_tup (evs_cons ev_cst evs_nil)) ev_cst (o_mulT (e := eI) (a := [(0 : Int)]) (by unfold RepT; decide))) (evs_cons ev_cst (evs_cons ev_cst (evs_cons (ev_tup (evs_cons ev_cst (evs_cons ev_cst (evs_cons ev_cst evs_nil)))) evs_nil)))))))))))) rfl ?_
  let r : (List Int) × Sm := pick s [([] : List Int), [(0 : Int), (2 : Int)], (rep [(1 : Int)] (16 : Int).toNat)]
  let sequence : List Int := r.1
  refine xs_asg [some (.scr ns), some (.ref 0), some ((eP3 eI eI eI) paper), some ((eL eA) bad_paper), some ((eL eA) bad_sequence), some ((eT eI) sequence), none, none, none, none, none, none, none, none, none] (ev_call (evs_cons (ev_var rfl) (evs_cons (ev_lst (evs_cons (ev_tup evs_nil) (evs_cons (ev_tup (evs_cons ev_cst (evs_cons ev_cst evs_nil))) (evs_cons (ev_bin (ev_tup (evs_cons ev_cst evs_nil)) ev_cst (o_mulT (e := eI) (a := [(1 : Int)]) (by unfold RepT; decide))) evs_nil)))) evs_nil)) (o_pickL (e := (eT eI)) (l := [([] : List Int), [(0 : Int), (2 : Int)], (rep [(1 : Int)] (16 : Int).toNat)]) (n + 28) D.1)) rfl ?_
  let rows : List (SV × (List NV) × (List (List NV)) × (List SV)) := ([(sv "reflected"), (sv "first"), (sv "alike")].map fun word => (word, [(toA (eP3 eI eI eI) paper), (toA (eT eI) sequence)], [bad_paper, bad_sequence], [(sv "paper"), (sv "sequence")]))
  refine xs_asg [some (.scr ns), some (.ref 0), some ((eP3 eI eI eI) paper), some ((eL eA) bad_paper), some ((eL eA) bad_sequence), some ((eT eI) sequence), some (.ref 1), none, none, none, none, none, none, none, none] (ev_lcm (e := (eP4 eS (eL eA) (eL (eL eA)) (eL eS))) (l := ([(sv "reflected"), (sv "first"), (sv "alike")].map fun word => (word, [(toA (eP3 eI eI eI) paper), (toA (eT eI) sequence)], [bad_paper, bad_sequence], [(sv "paper"), (sv "sequence")]))) (ev_lc (e := eS) (g := (eP4 eS (eL eA) (eL (eL eA)) (eL eS))) (xs := [(sv "reflected"), (sv "first"), (sv "alike")]) (f := fun word => (word, [(toA (eP3 eI eI eI) paper), (toA (eT eI) sequence)], [bad_paper, bad_sequence], [(sv "paper"), (sv "sequence")])) (evI_seqL (e := eS) (xs := [(sv "reflected"), (sv "first"), (sv "alike")]) (ev_lst (evs_cons ev_cst (evs_cons ev_cst (evs_cons ev_cst evs_nil))))) rfl (fun word _ => ⟨[some (.scr ns), some (.ref 0), some ((eP3 eI eI eI) paper), some ((eL eA) bad_paper), some ((eL eA) bad_sequence), some ((eT eI) sequence), none, some (eS word), none, none, none, none, none, none, none], rfl, (ev_tup (evs_cons (ev_var rfl) (evs_cons (ev_lst (evs_cons (ev_var rfl) (evs_cons (ev_var rfl) evs_nil))) (evs_cons (ev_lst (evs_cons (ev_var rfl) (evs_cons (ev_var rfl) evs_nil))) (evs_cons (ev_lst (evs_cons ev_cst (evs_cons ev_cst evs_nil))) evs_nil)))))⟩))) rfl ?_
  let rows2 : List (SV × (List NV) × (List (List NV)) × (List SV)) := rows ++ ([(sv "own"), (sv "pairs"), (sv "count")].map fun word2 => (word2, [(toA (eP3 eI eI eI) paper)], [bad_paper], [(sv "paper")]))
  refine xs_extT (e := (eP4 eS (eL eA) (eL (eL eA)) (eL eS))) (l := rows) (l2 := ([(sv "own"), (sv "pairs"), (sv "count")].map fun word2 => (word2, [(toA (eP3 eI eI eI) paper)], [bad_paper], [(sv "paper")]))) (eM r.2 :: [.lst (rows2.map (eP4 eS (eL eA) (eL (eL eA)) (eL eS)))]) rfl (ev_lc (e := eS) (g := (eP4 eS (eL eA) (eL (eL eA)) (eL eS))) (xs := [(sv "own"), (sv "pairs"), (sv "count")]) (f := fun word2 => (word2, [(toA (eP3 eI eI eI) paper)], [bad_paper], [(sv "paper")])) (evI_seqL (e := eS) (xs := [(sv "own"), (sv "pairs"), (sv "count")]) (ev_lst (evs_cons ev_cst (evs_cons ev_cst (evs_cons ev_cst evs_nil))))) rfl (fun word2 _ => ⟨[some (.scr ns), some (.ref 0), some ((eP3 eI eI eI) paper), some ((eL eA) bad_paper), some ((eL eA) bad_sequence), some ((eT eI) sequence), some (.ref 1), some (eS word2), none, none, none, none, none, none, none], rfl, (ev_tup (evs_cons (ev_var rfl) (evs_cons (ev_lst (evs_cons (ev_var rfl) evs_nil)) (evs_cons (ev_lst (evs_cons (ev_var rfl) evs_nil)) (evs_cons (ev_lst (evs_cons ev_cst evs_nil)) evs_nil)))))⟩)) rfl rfl D.2.1 rfl ?_
  let r2 : Int × Sm := nx r.2 (2 : Int)
  let rows3 : List (SV × (List NV) × (List (List NV)) × (List SV)) := rows2 ++ [((sv "nth"), [(toA (eP3 eI eI eI) paper), (toA eI r2.1)], [bad_paper, [(toA eI (2 : Int)), (toA eI (-(1 : Int))), (toA eN ()), (toA eB true), (toA eS (sv "0"))]], [(sv "paper"), (sv "index")])]
  refine xs_appT (e := (eP4 eS (eL eA) (eL (eL eA)) (eL eS))) (l := rows2) (y := ((sv "nth"), [(toA (eP3 eI eI eI) paper), (toA eI r2.1)], [bad_paper, [(toA eI (2 : Int)), (toA eI (-(1 : Int))), (toA eN ()), (toA eB true), (toA eS (sv "0"))]], [(sv "paper"), (sv "index")])) (eM r2.2 :: [.lst (rows3.map (eP4 eS (eL eA) (eL (eL eA)) (eL eS)))]) rfl (ev_tup (evs_cons ev_cst (evs_cons (ev_lst (evs_cons (ev_var rfl) (evs_cons (ev_call (evs_cons (ev_var rfl) (evs_cons ev_cst evs_nil)) (o_next (⟨by decide, by decide⟩))) evs_nil))) (evs_cons (ev_lst (evs_cons (ev_var rfl) (evs_cons (ev_lst (evs_cons ev_cst (evs_cons (ev_neg ev_cst) (evs_cons ev_cst (evs_cons ev_cst (evs_cons ev_cst evs_nil)))))) evs_nil))) (evs_cons (ev_lst (evs_cons ev_cst (evs_cons ev_cst evs_nil))) evs_nil))))) rfl rfl D.2.2.1 rfl ?_
  let rows4 : List (SV × (List NV) × (List (List NV)) × (List SV)) := rows3 ++ ([(sv "renaming"), (sv "accepts")].map fun word3 => (word3, [(toA (eP3 eI eI eI) paper), (toA (eT eI) sequence), (toA (eT eI) [(0 : Int)])], [bad_paper, bad_sequence, bad_sequence], [(sv "paper"), (sv "first"), (sv "second")]))
  refine xs_extT (e := (eP4 eS (eL eA) (eL (eL eA)) (eL eS))) (l := rows3) (l2 := ([(sv "renaming"), (sv "accepts")].map fun word3 => (word3, [(toA (eP3 eI eI eI) paper), (toA (eT eI) sequence), (toA (eT eI) [(0 : Int)])], [bad_paper, bad_sequence, bad_sequence], [(sv "paper"), (sv "first"), (sv "second")]))) (eM r2.2 :: [.lst (rows4.map (eP4 eS (eL eA) (eL (eL eA)) (eL eS)))]) rfl (ev_lc (e := eS) (g := (eP4 eS (eL eA) (eL (eL eA)) (eL eS))) (xs := [(sv "renaming"), (sv "accepts")]) (f := fun word3 => (word3, [(toA (eP3 eI eI eI) paper), (toA (eT eI) sequence), (toA (eT eI) [(0 : Int)])], [bad_paper, bad_sequence, bad_sequence], [(sv "paper"), (sv "first"), (sv "second")])) (evI_seqL (e := eS) (xs := [(sv "renaming"), (sv "accepts")]) (ev_lst (evs_cons ev_cst (evs_cons ev_cst evs_nil)))) rfl (fun word3 _ => ⟨[some (.scr ns), some (.ref 0), some ((eP3 eI eI eI) paper), some ((eL eA) bad_paper), some ((eL eA) bad_sequence), some ((eT eI) sequence), some (.ref 1), some (eS word3), none, none, none, none, none, none, none], rfl, (ev_tup (evs_cons (ev_var rfl) (evs_cons (ev_lst (evs_cons (ev_var rfl) (evs_cons (ev_var rfl) (evs_cons (ev_tup (evs_cons ev_cst evs_nil)) evs_nil)))) (evs_cons (ev_lst (evs_cons (ev_var rfl) (evs_cons (ev_var rfl) (evs_cons (ev_var rfl) evs_nil)))) (evs_cons (ev_lst (evs_cons ev_cst (evs_cons ev_cst (evs_cons ev_cst evs_nil)))) evs_nil)))))⟩)) rfl rfl D.2.2.2.1 rfl ?_
  refine xs_for (e := (eP4 eS (eL eA) (eL (eL eA)) (eL eS))) (xs := rows4) (fun (w2 : Sm) (J : Jk) => [some (.scr ns), some (.ref 0), some ((eP3 eI eI eI) paper), some ((eL eA) bad_paper), some ((eL eA) bad_sequence), some ((eT eI) sequence), some (.ref 1), J 7, J 8, J 9, J 10, J 11, J 12, none, J 14]) (fun (w2 : Sm) => (eM w2 :: [.lst (rows4.map (eP4 eS (eL eA) (eL (eL eA)) (eL eS)))])) v_law_k07_L_2 d_law_k07_L_2 (r2.2 : Sm) (fun n => ([some (.scr ns), some (.ref 0), some ((eP3 eI eI eI) paper), some ((eL eA) bad_paper), some ((eL eA) bad_sequence), some ((eT eI) sequence), some (.ref 1), none, none, none, none, none, none, none, none] : Env).getD n none) (evI_seqR (e := (eP4 eS (eL eA) (eL (eL eA)) (eL eS))) (xs := rows4) (ev_var rfl) rfl) rfl rfl (fun _ => by simp [srcOk]) D.2.2.2.2.1 ?_ ?_
  · intro st_ J_ p D
    refine ⟨[some (.scr ns), some (.ref 0), some ((eP3 eI eI eI) paper), some ((eL eA) bad_paper), some ((eL eA) bad_sequence), some ((eT eI) sequence), some (.ref 1), some (eS p.1), some ((eL eA) p.2.1), some ((eL (eL eA)) p.2.2.1), some ((eL eS) p.2.2.2), J_ 11, J_ 12, none, J_ 14], rfl, ?_⟩
    unfold d_law_k07_L_2 at D
    unfold v_law_k07_L_2
    refine xs_ite (evB_of (ev_cmp (ev_call (evs_cons (ev_var rfl) (evs_cons (ev_var rfl) evs_nil)) (o_told07 (n + 0) _ p.1 p.2.1 D.1)) ev_cst (c_neA (Nr.nor (e := eA) (v_told07 p.1 p.2.1)) (Nr.nor (e := eS) (sv "")) D.2.1.1 D.2.1.2))) (fun hc2 => ?_) (fun hc2 => ?_)
    · have D_5 := D.2.2.1 hc2
      exact D_5.elim
    · have D_6 := D.2.2.2 hc2
      refine xs_for (e := eI) (xs := (rng 0 (p.2.1.length : Int))) (fun (w : Sm) (J : Jk) => [some (.scr ns), some (.ref 0), some ((eP3 eI eI eI) paper), some ((eL eA) bad_paper), some ((eL eA) bad_sequence), some ((eT eI) sequence), some (.ref 1), some (eS p.1), some ((eL eA) p.2.1), some ((eL (eL eA)) p.2.2.1), some ((eL eS) p.2.2.2), J 11, J 12, none, J 14]) (fun (w : Sm) => (eM w :: [.lst (rows4.map (eP4 eS (eL eA) (eL (eL eA)) (eL eS)))])) (v_law_k07_L_ p) (d_law_k07_L_ p) (st_ : Sm) (fun n => ([some (.scr ns), some (.ref 0), some ((eP3 eI eI eI) paper), some ((eL eA) bad_paper), some ((eL eA) bad_sequence), some ((eT eI) sequence), some (.ref 1), some (eS p.1), some ((eL eA) p.2.1), some ((eL (eL eA)) p.2.2.1), some ((eL eS) p.2.2.2), J_ 11, J_ 12, none, J_ 14] : Env).getD n none) (evI_rng (evs_cons (ev_bif (evs_cons (ev_var rfl) evs_nil) (b_lenL (e := eA) (l := p.2.1))) evs_nil) (range1 D_6.1)) rfl rfl (fun _ => rfl) D_6.2.1 ?_ ?_
      · intro st_2 J_2 k D
        refine ⟨[some (.scr ns), some (.ref 0), some ((eP3 eI eI eI) paper), some ((eL eA) bad_paper), some ((eL eA) bad_sequence), some ((eT eI) sequence), some (.ref 1), some (eS p.1), some ((eL eA) p.2.1), some ((eL (eL eA)) p.2.2.1), some ((eL eS) p.2.2.2), some (eI k), J_2 12, none, J_2 14], rfl, ?_⟩
        unfold d_law_k07_L_ at D
        unfold v_law_k07_L_
        let r4 : (List NV) × Sm := mapS (fun (s2 : Sm) (options : List NV) => let r3 : NV × Sm := pick s2 options; (r3.1, r3.2)) st_2 p.2.2.1
        let wrong : List NV := r4.1
        refine xs_asg [some (.scr ns), some (.ref 0), some ((eP3 eI eI eI) paper), some ((eL eA) bad_paper), some ((eL eA) bad_sequence), some ((eT eI) sequence), some (.ref 1), some (eS p.1), some ((eL eA) p.2.1), some ((eL (eL eA)) p.2.2.1), some ((eL eS) p.2.2.2), some (eI k), some ((eL eA) wrong), none, J_2 14] (ev_lcS (e := (eL eA)) (g := eA) (B := (fun s => (eM s :: [.lst (rows4.map (eP4 eS (eL eA) (eL (eL eA)) (eL eS)))]))) (f := (fun (s2 : Sm) (options : List NV) => let r3 : NV × Sm := pick s2 options; (r3.1, r3.2))) (evI_seqL (e := (eL eA)) (xs := p.2.2.1) (ev_var rfl)) (fun options hx => ⟨[some (.scr ns), some (.ref 0), some ((eP3 eI eI eI) paper), some ((eL eA) bad_paper), some ((eL eA) bad_sequence), some ((eT eI) sequence), some (.ref 1), some (eS p.1), some ((eL eA) p.2.1), some ((eL (eL eA)) p.2.2.1), some ((eL eS) p.2.2.2), some (eI k), J_2 12, some ((eL eA) options), J_2 14], rfl, fun s2 => (fun D_8 => let r3 : NV × Sm := pick s2 options; (ev_call (evs_cons (ev_var rfl) (evs_cons (ev_var rfl) evs_nil)) (o_pickL (e := eA) (l := options) (n + 28) D_8.1))) (D.1 options hx s2)⟩)) rfl ?_
        let alone : List NV := (((cut p.2.1 none (some k)) ++ [(gt wrong k)]) ++ (cut p.2.1 (some (k + (1 : Int))) none))
        refine xs_asg [some (.scr ns), some (.ref 0), some ((eP3 eI eI eI) paper), some ((eL eA) bad_paper), some ((eL eA) bad_sequence), some ((eT eI) sequence), some (.ref 1), some (eS p.1), some ((eL eA) p.2.1), some ((eL (eL eA)) p.2.2.1), some ((eL eS) p.2.2.2), some (eI k), some ((eL eA) wrong), none, some ((eL eA) alone)] (ev_bin (ev_bin (ev_sl (ev_var rfl) evO_no (evO_some (ev_var rfl)) (s_L (e := eA) (l := p.2.1))) (ev_lst (evs_cons (ev_ix (ev_var rfl) (ev_var rfl) (i_L (e := eA) (l := wrong) D.2.1)) evs_nil)) (o_addL (e := eA) (a := (cut p.2.1 none (some k))) (b := [(gt wrong k)]) D.2.2.1)) (ev_sl (ev_var rfl) (evO_some (ev_bin (ev_var rfl) ev_cst o_add)) evO_no (s_L (e := eA) (l := p.2.1))) (o_addL (e := eA) (a := ((cut p.2.1 none (some k)) ++ [(gt wrong k)])) (b := (cut p.2.1 (some (k + (1 : Int))) none)) D.2.2.2.1)) rfl ?_
        refine xs_ite (evB_or (evBO_cons (evB_of (ev_cmp (ev_call (evs_cons (ev_var rfl) (evs_cons (ev_var rfl) evs_nil)) (o_told07 (n + 0) _ p.1 alone D.2.2.2.2.1)) (ev_ix (ev_var rfl) (ev_var rfl) (i_L (e := eS) (l := p.2.2.2) D.2.2.2.2.2.1)) (c_neA (Nr.nor (e := eA) (v_told07 p.1 alone)) (Nr.nor (e := eS) (gt p.2.2.2 k)) D.2.2.2.2.2.2.1.1 D.2.2.2.2.2.2.1.2))) (fun hc => (fun D_9 => (evBO_one (evB_of (ev_cmp (ev_call (evs_cons (ev_var rfl) (evs_cons (ev_bin (ev_sl (ev_var rfl) evO_no (evO_some (ev_var rfl)) (s_L (e := eA) (l := p.2.1))) (ev_sl (ev_var rfl) (evO_some (ev_var rfl)) evO_no (s_L (e := eA) (l := wrong))) (o_addL (e := eA) (a := (cut p.2.1 none (some k))) (b := (cut wrong (some k) none)) D_9.1)) evs_nil)) (o_told07 (n + 0) _ p.1 ((cut p.2.1 none (some k)) ++ (cut wrong (some k) none)) D_9.2.1)) (ev_ix (ev_var rfl) (ev_var rfl) (i_L (e := eS) (l := p.2.2.2) D_9.2.2.1)) (c_neA (Nr.nor (e := eA) (v_told07 p.1 ((cut p.2.1 none (some k)) ++ (cut wrong (some k) none)))) (Nr.nor (e := eS) (gt p.2.2.2 k)) D_9.2.2.2.1.1 D_9.2.2.2.1.2))))) (D.2.2.2.2.2.2.2.1 hc)))) (fun hc => ?_) (fun hc => ?_)
        · have D_10 := D.2.2.2.2.2.2.2.2.1 hc
          exact D_10.elim
        · exact xs_nil (nxG (fun n => ([some (.scr ns), some (.ref 0), some ((eP3 eI eI eI) paper), some ((eL eA) bad_paper), some ((eL eA) bad_sequence), some ((eT eI) sequence), some (.ref 1), some (eS p.1), some ((eL eA) p.2.1), some ((eL (eL eA)) p.2.2.1), some ((eL eS) p.2.2.2), some (eI k), some ((eL eA) wrong), none, some ((eL eA) alone)] : Env).getD n none) rfl rfl)
      let q : Sm := List.foldl (v_law_k07_L_ p) (st_ : Sm) (rng 0 (p.2.1.length : Int))
      intro J_3
      exact xs_nil (nxG (fun n => ([some (.scr ns), some (.ref 0), some ((eP3 eI eI eI) paper), some ((eL eA) bad_paper), some ((eL eA) bad_sequence), some ((eT eI) sequence), some (.ref 1), some (eS p.1), some ((eL eA) p.2.1), some ((eL (eL eA)) p.2.2.1), some ((eL eS) p.2.2.2), J_3 11, J_3 12, none, J_3 14] : Env).getD n none) rfl rfl)
  let q2 : Sm := List.foldl v_law_k07_L_2 (r2.2 : Sm) rows4
  intro J_4
  exact xs_ret ev_cst (rt_p (congrArg eB rfl))
def lawK_k07 : Nat := 31
end
end Qm

/-! K0: lists, papers, sequences: plain facts. -/
namespace Qm
section
variable {α β : Type}
theorem mem_rng {a b x : Int} : x ∈ rng a b ↔ a ≤ x ∧ x < b := by
  unfold rng
  rw [List.mem_map]
  constructor
  · rintro ⟨k, hk, rfl⟩
    have := List.mem_range.mp hk
    omega
  · rintro ⟨h1, h2⟩
    exact ⟨(x - a).toNat, List.mem_range.mpr (by omega), by omega⟩
@[simp] theorem len_rng {a b : Int} : (rng a b).length = (b - a).toNat := by simp [rng]
theorem rngOk {a b : Int} (h1 : -1000000 ≤ a) (h2 : a ≤ 1000000) (h3 : -1000000 ≤ b) (h4 : b ≤ 1000000) : RngOk a b := ⟨by omega, by omega, by omega, by omega, by omega⟩
theorem rng_nil {a b : Int} (h : b ≤ a) : rng a b = [] := by
  have : (b - a).toNat = 0 := by omega
  unfold rng
  rw [this]; rfl
theorem rng_cons {a b : Int} (h : a < b) : rng a b = a :: rng (a + 1) b := by
  unfold rng
  have : (b - a).toNat = (b - (a + 1)).toNat + 1 := by omega
  rw [this, List.range_succ_eq_map, List.map_cons, List.map_map]
  congr 1
  · simp
  · refine List.map_congr_left fun k _ => ?_
    show a + ((k + 1 : Nat) : Int) = a + 1 + (k : Int)
    omega
theorem rng_snoc {a b : Int} (h : a ≤ b) : rng a (b + 1) = rng a b ++ [b] := by
  unfold rng
  have : (b + 1 - a).toNat = (b - a).toNat + 1 := by omega
  rw [this, List.range_succ, List.map_append]
  congr 1
  show [a + (((b - a).toNat : Nat) : Int)] = [b]
  congr 1
  omega
theorem nodup_rng (a b : Int) : (rng a b).Nodup := by
  unfold rng
  refine List.Pairwise.map _ ?_ List.nodup_range
  intro x y h
  omega
theorem gt_nn [Inhabited α] {l : List α} {i : Int} (h0 : 0 ≤ i) (h1 : i < l.length) : gt l i = l[i.toNat]'(by omega) := by
  unfold gt
  rw [if_pos h0, List.getElem?_eq_getElem (by omega)]; rfl
theorem gt_nat [Inhabited α] {l : List α} {i : Nat} (h1 : i < l.length) : gt l (i : Int) = l[i] := by
  rw [gt_nn (by omega) (by omega)]
  simp
theorem gt_getD [Inhabited α] (l : List α) {i : Int} (h0 : 0 ≤ i) : gt l i = (l[i.toNat]?).getD default := by
  unfold gt; rw [if_pos h0]
theorem gt_mem [Inhabited α] {l : List α} {i : Int} (h : InR l.length i) : gt l i ∈ l := by
  obtain ⟨h1, h2⟩ := h
  unfold gt
  split
  · rw [List.getElem?_eq_getElem (by omega)]; exact List.getElem_mem _
  · rw [List.getElem?_eq_getElem (by omega)]; exact List.getElem_mem _
theorem inR {n : Nat} {i : Int} (h0 : 0 ≤ i) (h1 : i < n) : InR n i := ⟨by omega, h1⟩
theorem mem_gt [Inhabited α] {l : List α} {x : α} (h : x ∈ l) : ∃ i : Int, 0 ≤ i ∧ i < l.length ∧ gt l i = x := by
  obtain ⟨i, hi, rfl⟩ := List.getElem_of_mem h
  exact ⟨i, by omega, by omega, gt_nat hi⟩
theorem pick_mem [Inhabited α] {l : List α} {s : Sm} (h : DrOk l.length) : (pick s l).1 ∈ l := gt_mem (pick_in h)
theorem drOk {m : Int} (h0 : 0 < m) (h1 : m ≤ 1000000) : DrOk m := ⟨h0, by omega⟩
theorem bigOk {n m : Nat} (h0 : n ≤ 1000000) (h1 : m ≤ 1000000) : BigOk n m := by unfold BigOk; omega
theorem place_nn {n : Nat} {i : Int} (h0 : 0 ≤ i) : place n i = i.toNat := by unfold place; rw [if_pos h0]
theorem sIx_no {n d : Nat} : sIx n d none = d := rfl
theorem sIx_nn {n d : Nat} {k : Int} (h0 : 0 ≤ k) : sIx n d (some k) = min k.toNat n := by
  show (if k < 0 then _ else _) = _
  rw [if_neg (by omega)]
theorem cut_take (l : List α) {k : Int} (h0 : 0 ≤ k) : cut l none (some k) = l.take k.toNat := by
  unfold cut
  rw [sIx_no, sIx_nn h0]
  simp
theorem cut_drop (l : List α) {k : Int} (h0 : 0 ≤ k) : cut l (some k) none = l.drop k.toNat := by
  unfold cut
  rw [sIx_no, sIx_nn h0]
  by_cases h : k.toNat ≤ l.length
  · rw [Nat.min_eq_left h, List.take_of_length_le (by simp)]
  · rw [Nat.min_eq_right (by omega), List.drop_eq_nil_of_le (Nat.le_refl _), List.drop_eq_nil_of_le (by omega)]
    simp
theorem cut_mid (l : List α) {i k : Int} (h0 : 0 ≤ i) (h1 : 0 ≤ k) : cut l (some i) (some k) = (l.drop i.toNat).take (k.toNat - i.toNat) := by
  unfold cut
  rw [sIx_nn h0, sIx_nn h1]
  by_cases h : i.toNat ≤ l.length
  · rw [Nat.min_eq_left h]
    by_cases h2 : k.toNat ≤ l.length
    · rw [Nat.min_eq_left h2]
    · rw [Nat.min_eq_right (by omega), List.take_of_length_le (by simp), List.take_of_length_le (by simp; omega)]
  · rw [Nat.min_eq_right (show l.length ≤ i.toNat by omega), List.drop_eq_nil_of_le (Nat.le_refl _), List.drop_eq_nil_of_le (show l.length ≤ i.toNat by omega)]
    simp
theorem cut_all (l : List α) : cut l none none = l := by
  unfold cut; simp [sIx_no]
theorem mem_cut {l : List α} {a b : Option Int} {x : α} (h : x ∈ cut l a b) : x ∈ l := List.mem_of_mem_drop (List.mem_of_mem_take h)
theorem len_cut {l : List α} {a b : Option Int} : (cut l a b).length ≤ l.length := by unfold cut; rw [List.length_take, List.length_drop]; omega
theorem all_id_map (f : α → Bool) (l : List α) : (l.map f).all id = l.all f := by rw [List.all_map]; rfl
theorem any_id_map (f : α → Bool) (l : List α) : (l.map f).any id = l.any f := by rw [List.any_map]; rfl
end
/-! ### trees of typed values -/
theorem nv_ext {x y : NV} (h : eA x = eA y) : x = y := NV.ext' h
@[simp] theorem nI_toA (i : Int) : nI (toA eI i) = i := rfl
@[simp] theorem isInt_I (i : Int) : isInt (toA eI i) = true := rfl
@[simp] theorem isInt_B (b : Bool) : isInt (toA eB b) = false := rfl
@[simp] theorem isInt_N : isInt (toA eN ()) = false := rfl
@[simp] theorem isInt_S (s : SV) : isInt (toA eS s) = false := rfl
@[simp] theorem isInt_T {α : Type} {e : α → PV} [Nr e] (l : List α) : isInt (toA (eT e) l) = false := rfl
@[simp] theorem isInt_L {α : Type} {e : α → PV} [Nr e] (l : List α) : isInt (toA (eL e) l) = false := rfl
@[simp] theorem isTup_T {α : Type} {e : α → PV} [Nr e] (l : List α) : isTup (toA (eT e) l) = true := rfl
theorem liftN_of {α : Type} {e : α → PV} [Nr e] : ∀ (l : List α) (h : nors (l.map e) = true), liftN (l.map e) h = l.map (toA e)
  | [], _ => rfl
  | x :: r, h => by
    show (⟨e x, _⟩ : NV) :: liftN (r.map e) _ = _
    rw [liftN_of r]; rfl
@[simp] theorem nT_toA {α : Type} {e : α → PV} [Nr e] (l : List α) : nT (toA (eT e) l) = l.map (toA e) := liftN_of l _
theorem toA_eA (x : NV) : toA eA x = x := rfl
@[simp] theorem nT_toAA (l : List NV) : nT (toA (eT eA) l) = l := by
  rw [nT_toA]
  exact (List.map_congr_left (g := id) fun _ _ => rfl).trans (List.map_id _)
@[simp] theorem nTI_toA (l : List Int) : nTI (toA (eT eI) l) = l := by
  unfold nTI
  rw [nT_toA, List.map_map]
  exact (List.map_congr_left (g := id) fun _ _ => rfl).trans (List.map_id _)
theorem isY_tup (x : NV) : isY .tuple x = isTup x := by obtain ⟨v, n⟩ := x; cases v <;> first | rfl | (rw [nor] at n; cases n)
theorem isY_int (x : NV) : (isY .int x && !isY .bool x) = isInt x := by obtain ⟨v, n⟩ := x; cases v <;> first | rfl | (rw [nor] at n; cases n)
theorem toA_of_isInt {x : NV} (h : isInt x = true) : x = toA eI (nI x) := nv_ext (nI_eq h)
/-! ### lists of a bounded length -/
theorem bzs_map {α : Type} {e : α → PV} : ∀ {l : List α}, (∀ x ∈ l, bz (e x) = true) → bzs (l.map e) = true
  | [], _ => rfl
  | x :: r, h => by rw [List.map_cons, bzs, h x List.mem_cons_self, bzs_map fun y m => h y (List.mem_cons_of_mem _ m)]; rfl
theorem bz_T {α : Type} {e : α → PV} {l : List α} (hl : l.length ≤ 1000000) (h : ∀ x ∈ l, bz (e x) = true) : bz (eT e l) = true := by
  rw [eT, bz, bzs_map h, List.length_map, decide_eq_true (by omega)]; rfl
theorem bz_L {α : Type} {e : α → PV} {l : List α} (hl : l.length ≤ 1000000) (h : ∀ x ∈ l, bz (e x) = true) : bz (eL e l) = true := by
  rw [eL, bz, bzs_map h, List.length_map, decide_eq_true (by omega)]; rfl
theorem bz_TI {l : List Int} (hl : l.length ≤ 1000000) : bz (eT eI l) = true := bz_T hl fun _ _ => rfl
theorem bz_LI {l : List Int} (hl : l.length ≤ 1000000) : bz (eL eI l) = true := bz_L hl fun _ _ => rfl
theorem bz_t2 {a b : PV} (h1 : bz a = true) (h2 : bz b = true) : bz (.tup [a, b]) = true := by simp [bz, bzs, h1, h2]
theorem bz_l2 {a b : PV} (h1 : bz a = true) (h2 : bz b = true) : bz (.lst [a, b]) = true := by simp [bz, bzs, h1, h2]
theorem bz_l3 {a b c : PV} (h1 : bz a = true) (h2 : bz b = true) (h3 : bz c = true) : bz (.lst [a, b, c]) = true := by simp [bz, bzs, h1, h2, h3]
/-! ### is_whole, is_paper, is_sequence -/
theorem isW_eq (x : NV) (a b : Int) : v_is_whole x a b = (isInt x && (decide (a ≤ nI x) && decide (nI x ≤ b))) := by
  unfold v_is_whole
  rw [← isY_int]
  cases isY .int x <;> cases isY .bool x <;> rfl
@[simp] theorem isW_I (i a b : Int) : v_is_whole (toA eI i) a b = (decide (a ≤ i) && decide (i ≤ b)) := by rw [isW_eq]; rfl
theorem isW_no {x : NV} (h : isInt x = false) (a b : Int) : v_is_whole x a b = false := by rw [isW_eq, h]; rfl
theorem dW (x : NV) (a b : Int) : d_is_whole x a b := by
  unfold d_is_whole
  refine ⟨fun h1 => ⟨fun h2 => ⟨nI_eq ?_, trivial⟩, trivial⟩, trivial⟩
  rw [← isY_int, h1]
  simpa using h2
theorem isW_true {x : NV} {a b : Int} (h : v_is_whole x a b = true) : isInt x = true ∧ a ≤ nI x ∧ nI x ≤ b := by
  rw [isW_eq, Bool.and_eq_true, Bool.and_eq_true] at h
  exact ⟨h.1, of_decide_eq_true h.2.1, of_decide_eq_true h.2.2⟩
theorem dMarks (p : List Int) (x : NV) : d_are_marks p x := by
  unfold d_are_marks
  refine ⟨fun h => ⟨nT_eq (by rw [← isY_tup]; exact h), fun _ _ => ⟨dW _ _ _, trivial⟩, trivial⟩, trivial⟩
theorem marks_tup {p : List Int} {x : NV} (h : v_are_marks p x = true) : isTup x = true := by
  unfold v_are_marks at h
  rw [Bool.and_eq_true] at h
  rw [← isY_tup]; exact h.1
theorem dSeq (p : List Int) (x : NV) : d_is_sequence p x := by
  unfold d_is_sequence
  exact ⟨dMarks p x, fun h => ⟨nT_eq (marks_tup h), trivial⟩, trivial⟩
theorem dPaper (x : NV) : d_is_paper x := by
  unfold d_is_paper
  have t : (!isY .tuple x) = false → eA x = (eT eA) (nT x) := fun h => nT_eq (by rw [← isY_tup]; simpa using h)
  refine ⟨fun h => ⟨t h, trivial⟩, fun _ => trivial, fun h => ?_⟩
  rw [Bool.or_eq_false_iff] at h
  obtain ⟨h1, h2⟩ := h
  have hl : (1 : Int) ≤ (nT x).length ∧ ((nT x).length : Int) ≤ 6 := by simpa using h2
  refine ⟨t h1, fun m _ => ⟨t h1, dW _ _ _, trivial⟩, fun _ => trivial, fun h3 => ?_⟩
  have h3 : ∀ m ∈ nT x, v_is_whole m 0 ((nT x).length - 1) = true := by
    rw [all_id_map] at h3
    have : (nT x).all (fun m => v_is_whole m 0 ((nT x).length - 1)) = true := by simpa using h3
    exact List.all_eq_true.mp this
  refine ⟨t h1, rngOk (by omega) (by omega) (by omega) (by omega), fun m hm => ?_, trivial⟩
  obtain ⟨m0, m1⟩ := mem_rng.mp hm
  have r1 : InR (nT x).length m := inR m0 m1
  obtain ⟨q1, q2, q3⟩ := isW_true (h3 _ (gt_mem r1))
  have r2 : InR (nT x).length (nI (gt (nT x) m)) := inR q2 (by omega)
  obtain ⟨w1, w2, w3⟩ := isW_true (h3 _ (gt_mem r2))
  refine ⟨t h1, t h1, r1, nI_eq q1, r2, ⟨?_, rfl⟩, trivial⟩
  rw [nI_eq w1]; rfl
/-- a paper -/
structure GoodP (p : List Int) : Prop where
  l1 : 1 ≤ p.length
  l6 : p.length ≤ 6
  rg : ∀ x ∈ p, 0 ≤ x ∧ x < p.length
  iv : ∀ i : Int, 0 ≤ i → i < p.length → gt p (gt p i) = i
/-- a sequence's marks -/
def GoodS (p s : List Int) : Prop := ∀ x ∈ s, 0 ≤ x ∧ x < p.length
theorem gt_map {α β : Type} [Inhabited α] [Inhabited β] (f : α → β) {l : List α} {i : Int} (h : InR l.length i) : gt (l.map f) i = f (gt l i) := by
  obtain ⟨h1, h2⟩ := h
  unfold gt
  rw [List.length_map]
  split
  · rw [List.getElem?_map, List.getElem?_eq_getElem (by omega)]; rfl
  · rw [List.getElem?_map, List.getElem?_eq_getElem (by omega)]; rfl
theorem paper_true {p : List Int} (g : GoodP p) : v_is_paper (toA (eT eI) p) = true := by
  unfold v_is_paper
  have h1 : isY .tuple (toA (eT eI) p) = true := rfl
  have a1 : (1 : Int) ≤ p.length := by have := g.l1; omega
  have a2 : (p.length : Int) ≤ 6 := by have := g.l6; omega
  simp only [h1, nT_toA, List.length_map]
  have h2 : ((p.map (toA eI)).map fun m => v_is_whole m 0 ((p.length : Int) - 1)).all id = true := by
    rw [all_id_map, List.all_eq_true]
    intro m hm
    obtain ⟨i, hi, rfl⟩ := List.mem_map.mp hm
    obtain ⟨r1, r2⟩ := g.rg i hi
    have : i ≤ (p.length : Int) - 1 := by omega
    simp [r1, this]
  rw [h2]
  simp only [a1, a2, decide_true, Bool.and_self, Bool.not_true, Bool.or_self, Bool.false_eq_true, if_false]
  rw [all_id_map, List.all_eq_true]
  intro m hm
  obtain ⟨m0, m1⟩ := mem_rng.mp hm
  have r1 : InR p.length m := inR m0 m1
  obtain ⟨q2, q3⟩ := g.rg _ (gt_mem r1)
  have r2 : InR p.length (gt p m) := inR q2 q3
  rw [gt_map (toA eI) r1, nI_toA, gt_map (toA eI) r2]
  show (gt p (gt p m) == m) = true
  rw [g.iv m m0 m1]
  simp
theorem seq_true {p s : List Int} (g : GoodS p s) (h : s.length ≤ 16) : v_is_sequence p (toA (eT eI) s) = true := by
  unfold v_is_sequence v_are_marks
  have h1 : isY .tuple (toA (eT eI) s) = true := rfl
  simp only [h1, nT_toA, List.length_map, Bool.true_and]
  have h2 : ((s.map (toA eI)).map fun m => v_is_whole m 0 ((p.length : Int) - 1)).all id = true := by
    rw [all_id_map, List.all_eq_true]
    intro m hm
    obtain ⟨i, hi, rfl⟩ := List.mem_map.mp hm
    obtain ⟨r1, r2⟩ := g i hi
    have : i ≤ (p.length : Int) - 1 := by omega
    simp [r1, this]
  rw [h2]
  have : (s.length : Int) ≤ 16 := by omega
  simp [this]
theorem dCheckP {p : List Int} (g : GoodP p) : d_check_paper p := by
  unfold d_check_paper
  refine ⟨dPaper _, ?_, fun _ => trivial⟩
  rw [paper_true g]
  exact fun h => nomatch h
theorem dCheckS {p s : List Int} (g : GoodP p) (gs : GoodS p s) (h : s.length ≤ 16) : d_check_sequence p s := by
  unfold d_check_sequence
  refine ⟨dCheckP g, dSeq _ _, ?_, fun _ => trivial⟩
  rw [seq_true gs h]
  exact fun h => nomatch h
end Qm

/-! K1: what is drawn: papers, sequences. -/
namespace Qm
theorem fold_inv {S α : Type} {step : S → α → S} {D : S → α → Prop} (I : List α → S → Prop) : ∀ {xs : List α} {s : S}, I xs s → (∀ x r s, I (x :: r) s → D s x ∧ I r (step s x)) → FoldD step D s xs ∧ I [] (xs.foldl step s)
  | [], _, i, _ => ⟨trivial, i⟩
  | x :: r, s, i, hs => by
    obtain ⟨h1, h2⟩ := hs x r s i
    obtain ⟨h3, h4⟩ := fold_inv I h2 hs
    exact ⟨⟨h1, h3⟩, h4⟩
theorem gt_setAt {α : Type} [Inhabited α] {l : List α} {i j : Int} {v : α} (hj : 0 ≤ j) (hi : 0 ≤ i) (hi2 : i < l.length) : gt (setAt l j v) i = if i = j then v else gt l i := by
  unfold setAt
  rw [place_nn hj, gt_nn hi (by rw [List.length_set]; exact hi2), List.getElem_set]
  by_cases h : i = j
  · subst h; simp
  · rw [if_neg h, if_neg (by omega), gt_nn hi hi2]
@[simp] theorem len_setAt {α : Type} {l : List α} {j : Int} {v : α} : (setAt l j v).length = l.length := by unfold setAt; rw [List.length_set]
theorem delAt_nn {α : Type} {l : List α} {j : Int} (h : 0 ≤ j) : delAt l j = l.eraseIdx j.toNat := by unfold delAt; rw [place_nn h]
theorem len_delAt {α : Type} {l : List α} {j : Int} (h : InR l.length j) : (delAt l j).length = l.length - 1 := by
  unfold delAt; rw [List.length_eraseIdx_of_lt (place_lt h)]
theorem mem_delAt {α : Type} {l : List α} {j : Int} {x : α} (h : x ∈ delAt l j) : x ∈ l := List.mem_of_mem_eraseIdx h
theorem nodup_delAt {α : Type} {l : List α} {j : Int} (h : l.Nodup) : (delAt l j).Nodup := h.sublist (List.eraseIdx_sublist ..)
theorem not_delAt {α : Type} [Inhabited α] {l : List α} {j : Int} (h : l.Nodup) (h0 : 0 ≤ j) (h1 : j < l.length) : gt l j ∉ delAt l j := by
  rw [delAt_nn h0, gt_nn h0 h1]
  intro m
  obtain ⟨i, hi, e⟩ := List.getElem_of_mem m
  have hlt : j.toNat < l.length := by omega
  rw [List.length_eraseIdx_of_lt hlt] at hi
  rw [List.getElem_eraseIdx] at e
  split at e
  · have := (List.getElem_inj h).mp e; omega
  · have := (List.getElem_inj h).mp e; omega
/-- a paper in the making -/
structure PInv (N : Int) (k : Nat) (left p : List Int) : Prop where
  len : (p.length : Int) = N
  ok : ∀ i, 0 ≤ i → i < N → 0 ≤ gt p i ∧ gt p i < N ∧ gt p (gt p i) = i
  nd : left.Nodup
  fx : ∀ x ∈ left, 0 ≤ x ∧ x < N ∧ gt p x = x
  sz : 2 * k ≤ left.length
  lz : (left.length : Int) ≤ N
theorem PInv.start {N : Int} (h : 0 ≤ N) (k : Nat) (hk : 2 * (k : Int) ≤ N) : PInv N k (rng 0 N) (rng 0 N) := by
  have g : ∀ i, 0 ≤ i → i < N → gt (rng 0 N) i = i := fun i h0 h1 => by
    rw [gt_nn h0 (by rw [len_rng]; omega)]
    unfold rng
    rw [List.getElem_map, List.getElem_range]
    omega
  refine ⟨by rw [len_rng]; omega, fun i h0 h1 => ?_, nodup_rng _ _, fun x hx => ?_, by rw [len_rng]; omega, by rw [len_rng]; omega⟩
  · rw [g i h0 h1]; exact ⟨h0, h1, g i h0 h1⟩
  · obtain ⟨a, b⟩ := mem_rng.mp hx
    exact ⟨a, b, g x a b⟩
theorem PInv.less {N : Int} {k : Nat} {left p : List Int} (I : PInv N (k + 1) left p) : PInv N k left p := ⟨I.len, I.ok, I.nd, I.fx, by have := I.sz; omega, I.lz⟩
theorem PInv.pair {N : Int} {k : Nat} {left p : List Int} (I : PInv N (k + 1) left p) {d1 d2 : Int} (a0 : 0 ≤ d1) (a1 : d1 < left.length) (b0 : 0 ≤ d2) (b1 : d2 < (delAt left d1).length) :
    PInv N k (delAt (delAt left d1) d2) (setAt (setAt p (gt left d1) (gt (delAt left d1) d2)) (gt (delAt left d1) d2) (gt left d1)) ∧ InR p.length (gt left d1) ∧ InR p.length (gt (delAt left d1) d2) := by
  have r1 : InR left.length d1 := inR a0 a1
  have r2 : InR (delAt left d1).length d2 := inR b0 b1
  obtain ⟨x0, x1, xf⟩ := I.fx _ (gt_mem r1)
  have om := mem_delAt (gt_mem r2)
  obtain ⟨y0, y1, yf⟩ := I.fx _ om
  have ne : gt left d1 ≠ gt (delAt left d1) d2 := fun e => not_delAt I.nd a0 a1 (e ▸ gt_mem r2)
  have nd1 := nodup_delAt (j := d1) I.nd
  have no2 := not_delAt nd1 b0 b1
  have no1 : gt left d1 ∉ delAt (delAt left d1) d2 := fun m => not_delAt I.nd a0 a1 (mem_delAt m)
  have hl := I.len
  generalize gt left d1 = x at *
  generalize gt (delAt left d1) d2 = y at *
  have g : ∀ i, 0 ≤ i → i < N → gt (setAt (setAt p x y) y x) i = if i = y then x else if i = x then y else gt p i := fun i h0 h1 => by
    rw [gt_setAt y0 h0 (by rw [len_setAt]; omega), gt_setAt x0 h0 (by omega)]
  refine ⟨⟨by rw [len_setAt, len_setAt]; exact hl, fun i h0 h1 => ?_, nodup_delAt nd1, fun z hz => ?_, ?_, ?_⟩, inR x0 (by omega), inR y0 (by omega)⟩
  · rw [g i h0 h1]
    by_cases c1 : i = y
    · rw [if_pos c1]
      refine ⟨x0, x1, ?_⟩
      rw [g x x0 x1, if_neg ne, if_pos rfl, c1]
    · rw [if_neg c1]
      by_cases c2 : i = x
      · rw [if_pos c2]
        refine ⟨y0, y1, ?_⟩
        rw [g y y0 y1, if_pos rfl, c2]
      · rw [if_neg c2]
        obtain ⟨o1, o2, o3⟩ := I.ok i h0 h1
        refine ⟨o1, o2, ?_⟩
        rw [g _ o1 o2, if_neg, if_neg, o3]
        · intro e; rw [e, xf] at o3; exact c2 o3.symm
        · intro e; rw [e, yf] at o3; exact c1 o3.symm
  · obtain ⟨z0, z1, zf⟩ := I.fx z (mem_delAt (mem_delAt hz))
    refine ⟨z0, z1, ?_⟩
    rw [g z z0 z1, if_neg, if_neg, zf]
    · intro e; exact no1 (e ▸ hz)
    · intro e; exact no2 (e ▸ hz)
  · rw [len_delAt r2, len_delAt r1]
    have := I.sz
    omega
  · rw [len_delAt r2, len_delAt r1]
    have := I.lz
    omega
theorem PInv.good {N : Int} {k : Nat} {left p : List Int} (I : PInv N k left p) (h1 : 1 ≤ N) (h6 : N ≤ 6) : GoodP p := by
  have hl := I.len
  refine ⟨by omega, by omega, fun x hx => ?_, fun i h0 h1 => (I.ok i h0 (by omega)).2.2⟩
  obtain ⟨i, i0, i1, rfl⟩ := mem_gt hx
  obtain ⟨a, b, _⟩ := I.ok i i0 (by omega)
  exact ⟨a, by omega⟩
theorem l_paper_ok (s : Sm) {most : Int} (h1 : 1 ≤ most) (h6 : most ≤ 6) : d_l_paper s most ∧ GoodP (v_l_paper s most).1 ∧ (v_l_paper s most).1.length ≤ most := by
  have m0 := nx_ge s (m := most) (by omega)
  have m1 := nx_lt s (m := most) (by omega)
  have key := fold_inv (step := v_l_paper_L_) (D := d_l_paper_L_) (fun xs st => PInv (1 + (nx s most).1) xs.length st.1 st.2.1) (xs := rng 0 ((1 + (nx s most).1) / 2)) (s := (rng 0 (1 + (nx s most).1), rng 0 (1 + (nx s most).1), (nx s most).2))
    (PInv.start (by omega) _ (by rw [len_rng]; omega)) (fun x r st I => by
      obtain ⟨left, p, t⟩ := st
      have e2 := I.sz
      simp only [List.length_cons] at I e2
      have b0 := nx_ge (nx t 2).2 (m := left.length) (by omega)
      have b1 := nx_lt (nx t 2).2 (m := left.length) (by omega)
      have hl : (delAt left (nx (nx t 2).2 left.length).1).length = left.length - 1 := len_delAt (inR b0 b1)
      have c0 := nx_ge (nx (nx t 2).2 left.length).2 (m := (delAt left (nx (nx t 2).2 left.length).1).length) (by omega)
      have c1 := nx_lt (nx (nx t 2).2 left.length).2 (m := (delAt left (nx (nx t 2).2 left.length).1).length) (by omega)
      obtain ⟨J, q1, q2⟩ := I.pair b0 b1 c0 c1
      have hp : p.length ≤ 1000 := by have := I.len; omega
      have hlt : (left.length : Int) ≤ 6 := by have := I.lz; omega
      constructor
      · unfold d_l_paper_L_
        dsimp only
        exact ⟨⟨fun _ => ⟨drOk (by omega) (by omega), inR b0 b1, drOk (by omega) (by omega), inR c0 c1, q1, by rw [len_setAt]; exact q2, trivial⟩, fun _ => trivial⟩, trivial⟩
      · unfold v_l_paper_L_
        dsimp only
        by_cases h : (nx t 2).1 = 1
        · simp only [h, decide_true, if_true]
          exact J
        · simp only [h, decide_false, Bool.false_eq_true, if_false]
          exact I.less)
  obtain ⟨k1, k2⟩ := key
  refine ⟨?_, by unfold v_l_paper; exact k2.good (by omega) (by omega), ?_⟩
  · unfold d_l_paper
    exact ⟨drOk (by omega) (by omega), rngOk (by omega) (by omega) (by omega) (by omega), rngOk (by omega) (by omega) (by omega) (by omega), rngOk (by omega) (by omega) (by omega) (by omega), k1, trivial⟩
  · have := k2.len
    show ((v_l_paper s most).1.length : Int) ≤ most
    unfold v_l_paper
    dsimp only
    omega
theorem mapS_len {S α β : Type} {f : S → α → β × S} : ∀ (l : List α) (s : S), (mapS f s l).1.length = l.length
  | [], _ => rfl
  | x :: r, s => by rw [mapS, List.length_cons, List.length_cons, mapS_len r]
theorem mapS_all {S α β : Type} {f : S → α → β × S} {Q : β → Prop} : ∀ {l : List α} {s : S}, (∀ s, ∀ x ∈ l, Q (f s x).1) → ∀ y ∈ (mapS f s l).1, Q y
  | [], _, _, y, m => by simp [mapS] at m
  | x :: r, s, h, y, m => by
    rw [mapS] at m
    rcases List.mem_cons.mp m with rfl | m
    · exact h s x List.mem_cons_self
    · exact mapS_all (fun s z hz => h s z (List.mem_cons_of_mem _ hz)) y m
theorem l_sequence_ok (s : Sm) {p : List Int} {most : Int} (hp : 1 ≤ p.length) (hp2 : p.length ≤ 1000) (h1 : 0 ≤ most) (h6 : most ≤ 1000) : d_l_sequence s p most ∧ GoodS p (v_l_sequence s p most).1 ∧ ((v_l_sequence s p most).1.length : Int) ≤ most := by
  have m0 := nx_ge s (m := most + 1) (by omega)
  have m1 := nx_lt s (m := most + 1) (by omega)
  refine ⟨?_, ?_, ?_⟩
  · unfold d_l_sequence
    exact ⟨drOk (by omega) (by omega), rngOk (by omega) (by omega) (by omega) (by omega), fun k _ t => ⟨drOk (by omega) (by omega), trivial⟩, trivial⟩
  · unfold v_l_sequence
    dsimp only
    exact mapS_all fun t k _ => ⟨nx_ge t (by omega), nx_lt t (by omega)⟩
  · unfold v_l_sequence
    dsimp only
    rw [mapS_len, len_rng]
    omega
end Qm

/-! K07: what the kernel works out for k07. -/
namespace Qm
namespace k07
theorem FoldD.all {S α : Type} {step : S → α → S} {D : S → α → Prop} {xs : List α} {s : S} (h : ∀ s, ∀ x ∈ xs, D s x) : FoldD step D s xs :=
  FoldD.of_inv (fun (ys : List α) (_ : S) => ∀ y ∈ ys, y ∈ xs) (fun _ h => h) fun x r s I => ⟨h s x (I x List.mem_cons_self), fun y hy => I y (List.mem_cons_of_mem _ hy)⟩
abbrev P0 : NV := toA (eP3 eI eI eI) ((1 : Int), (0 : Int), (2 : Int))
abbrev bp : List NV := [(toA eN ()), (toA (eL eI) [(1 : Int), (0 : Int)]), (toA (eT eI) []), (toA (eT eI) [(1 : Int)]), (toA (eP3 eI eI eI) ((1 : Int), (2 : Int), (0 : Int))), (toA (eT eI) [(0 : Int), (1 : Int), (2 : Int), (3 : Int), (4 : Int), (5 : Int), (6 : Int)]), (toA (eP2 eI eB) ((1 : Int), true)), (toA (eT eS) [(sv "0")]), (toA (eP2 eI eI) ((0 : Int), (0 : Int))), (toA eI (0 : Int)), (toA (eT eI) [(-(1 : Int))]), (toA (eP2 eI eI) ((0 : Int), (2 : Int)))]
abbrev bs : List NV := [(toA eN ()), (toA (eL eI) [(0 : Int)]), (toA (eT eI) [(3 : Int)]), (toA (eT eI) [(-(1 : Int))]), (toA (eT eB) [true]), (toA (eT eN) [()]), (toA (eT eS) [(sv "0")]), (toA (eT eI) (rep [(0 : Int)] (17 : Int).toNat)), (toA eI (0 : Int)), (toA eS (sv "")), (toA (eP3 eI eI eI) ((0 : Int), (1 : Int), (3 : Int)))]
abbrev bi : List NV := [(toA eI (2 : Int)), (toA eI (-(1 : Int))), (toA eN ()), (toA eB true), (toA eS (sv "0"))]
abbrev sqs : List (List Int) := [([] : List Int), [(0 : Int), (2 : Int)], (rep [(1 : Int)] (16 : Int).toNat)]
abbrev f1 : List SV := [sv "own", sv "pairs", sv "count"]
abbrev f2 : List SV := [sv "reflected", sv "first", sv "alike"]
abbrev f3 : List SV := [sv "renaming", sv "accepts"]
abbrev q0 : NV := toA (eT eI) [(0 : Int)]
theorem x1 (n : Nat) : (f1.all fun f => tk07 n f [P0] (sv "") && bp.all fun w => tk07 n f [w] (sv "paper")) = true := by kernel_rfl
theorem x2a (n : Nat) : (f2.all fun f => sqs.all fun s => tk07 n f [P0, toA (eT eI) s] (sv "") && bp.all fun w => tk07 n f [w, toA (eT eI) s] (sv "paper")) = true := by kernel_rfl
theorem x2b (n : Nat) : (f2.all fun f => bs.all fun v => tk07 n f [P0, v] (sv "sequence") && bp.all fun w => tk07 n f [w, v] (sv "paper")) = true := by kernel_rfl
theorem xn (n : Nat) : (([0, 1].all fun i => tk07 n (sv "nth") [P0, toA eI i] (sv "") && bp.all fun w => tk07 n (sv "nth") [w, toA eI i] (sv "paper")) && bi.all fun v => tk07 n (sv "nth") [P0, v] (sv "index") && bp.all fun w => tk07 n (sv "nth") [w, v] (sv "paper")) = true := by kernel_rfl
theorem x3a (n : Nat) : (f3.all fun f => sqs.all fun s => tk07 n f [P0, toA (eT eI) s, q0] (sv "") && (bp.all fun w => tk07 n f [w, toA (eT eI) s, q0] (sv "paper")) && bs.all fun u => tk07 n f [P0, toA (eT eI) s, u] (sv "second")) = true := by kernel_rfl
def c3 (n : Nat) (f : SV) (v : NV) : Bool := tk07 n f [P0, v, q0] (sv "first") && bs.all fun u => tk07 n f [P0, v, u] (sv "first") && bp.all fun w => tk07 n f [w, v, u] (sv "paper")
theorem x3b_0_0 (n : Nat) : c3 n (sv "renaming") (toA eN ()) = true := by kernel_rfl
theorem x3b_0_1 (n : Nat) : c3 n (sv "renaming") (toA (eL eI) [(0 : Int)]) = true := by kernel_rfl
theorem x3b_0_2 (n : Nat) : c3 n (sv "renaming") (toA (eT eI) [(3 : Int)]) = true := by kernel_rfl
theorem x3b_0_3 (n : Nat) : c3 n (sv "renaming") (toA (eT eI) [(-(1 : Int))]) = true := by kernel_rfl
theorem x3b_0_4 (n : Nat) : c3 n (sv "renaming") (toA (eT eB) [true]) = true := by kernel_rfl
theorem x3b_0_5 (n : Nat) : c3 n (sv "renaming") (toA (eT eN) [()]) = true := by kernel_rfl
theorem x3b_0_6 (n : Nat) : c3 n (sv "renaming") (toA (eT eS) [(sv "0")]) = true := by kernel_rfl
theorem x3b_0_7 (n : Nat) : c3 n (sv "renaming") (toA (eT eI) (rep [(0 : Int)] (17 : Int).toNat)) = true := by kernel_rfl
theorem x3b_0_8 (n : Nat) : c3 n (sv "renaming") (toA eI (0 : Int)) = true := by kernel_rfl
theorem x3b_0_9 (n : Nat) : c3 n (sv "renaming") (toA eS (sv "")) = true := by kernel_rfl
theorem x3b_0_10 (n : Nat) : c3 n (sv "renaming") (toA (eP3 eI eI eI) ((0 : Int), (1 : Int), (3 : Int))) = true := by kernel_rfl
theorem x3b_1_0 (n : Nat) : c3 n (sv "accepts") (toA eN ()) = true := by kernel_rfl
theorem x3b_1_1 (n : Nat) : c3 n (sv "accepts") (toA (eL eI) [(0 : Int)]) = true := by kernel_rfl
theorem x3b_1_2 (n : Nat) : c3 n (sv "accepts") (toA (eT eI) [(3 : Int)]) = true := by kernel_rfl
theorem x3b_1_3 (n : Nat) : c3 n (sv "accepts") (toA (eT eI) [(-(1 : Int))]) = true := by kernel_rfl
theorem x3b_1_4 (n : Nat) : c3 n (sv "accepts") (toA (eT eB) [true]) = true := by kernel_rfl
theorem x3b_1_5 (n : Nat) : c3 n (sv "accepts") (toA (eT eN) [()]) = true := by kernel_rfl
theorem x3b_1_6 (n : Nat) : c3 n (sv "accepts") (toA (eT eS) [(sv "0")]) = true := by kernel_rfl
theorem x3b_1_7 (n : Nat) : c3 n (sv "accepts") (toA (eT eI) (rep [(0 : Int)] (17 : Int).toNat)) = true := by kernel_rfl
theorem x3b_1_8 (n : Nat) : c3 n (sv "accepts") (toA eI (0 : Int)) = true := by kernel_rfl
theorem x3b_1_9 (n : Nat) : c3 n (sv "accepts") (toA eS (sv "")) = true := by kernel_rfl
theorem x3b_1_10 (n : Nat) : c3 n (sv "accepts") (toA (eP3 eI eI eI) ((0 : Int), (1 : Int), (3 : Int))) = true := by kernel_rfl
theorem x3b (n : Nat) : ∀ f ∈ f3, ∀ v ∈ bs, c3 n f v = true := by
  intro f hf v hv
  rcases List.mem_cons.mp hf with rfl | hf
  · rcases List.mem_cons.mp hv with rfl | hv
    · exact x3b_0_0 n
    rcases List.mem_cons.mp hv with rfl | hv
    · exact x3b_0_1 n
    rcases List.mem_cons.mp hv with rfl | hv
    · exact x3b_0_2 n
    rcases List.mem_cons.mp hv with rfl | hv
    · exact x3b_0_3 n
    rcases List.mem_cons.mp hv with rfl | hv
    · exact x3b_0_4 n
    rcases List.mem_cons.mp hv with rfl | hv
    · exact x3b_0_5 n
    rcases List.mem_cons.mp hv with rfl | hv
    · exact x3b_0_6 n
    rcases List.mem_cons.mp hv with rfl | hv
    · exact x3b_0_7 n
    rcases List.mem_cons.mp hv with rfl | hv
    · exact x3b_0_8 n
    rcases List.mem_cons.mp hv with rfl | hv
    · exact x3b_0_9 n
    rcases List.mem_cons.mp hv with rfl | hv
    · exact x3b_0_10 n
    cases hv
  · rw [List.mem_singleton] at hf
    subst hf
    rcases List.mem_cons.mp hv with rfl | hv
    · exact x3b_1_0 n
    rcases List.mem_cons.mp hv with rfl | hv
    · exact x3b_1_1 n
    rcases List.mem_cons.mp hv with rfl | hv
    · exact x3b_1_2 n
    rcases List.mem_cons.mp hv with rfl | hv
    · exact x3b_1_3 n
    rcases List.mem_cons.mp hv with rfl | hv
    · exact x3b_1_4 n
    rcases List.mem_cons.mp hv with rfl | hv
    · exact x3b_1_5 n
    rcases List.mem_cons.mp hv with rfl | hv
    · exact x3b_1_6 n
    rcases List.mem_cons.mp hv with rfl | hv
    · exact x3b_1_7 n
    rcases List.mem_cons.mp hv with rfl | hv
    · exact x3b_1_8 n
    rcases List.mem_cons.mp hv with rfl | hv
    · exact x3b_1_9 n
    rcases List.mem_cons.mp hv with rfl | hv
    · exact x3b_1_10 n
    cases hv
end k07
end Qm

/-! Mk_k07: the mathematics of k07. -/
namespace Qm
namespace k07
abbrev Row := SV × (List NV) × (List (List NV)) × (List SV)
def Ch : List NV → List (List NV) → Prop
  | [], [] => True
  | w :: ws, o :: os => w ∈ o ∧ Ch ws os
  | _, _ => False
theorem Ch.len : ∀ {ws : List NV} {os : List (List NV)}, Ch ws os → ws.length = os.length
  | [], [], _ => rfl
  | _ :: _, _ :: _, h => by rw [List.length_cons, List.length_cons, Ch.len h.2]
  | [], _ :: _, h => h.elim
  | _ :: _, [], h => h.elim
theorem Ch.drop : ∀ (k : Nat) {ws : List NV} {os : List (List NV)}, Ch ws os → Ch (ws.drop k) (os.drop k)
  | 0, _, _, h => h
  | k + 1, [], [], h => h
  | k + 1, _ :: _, _ :: _, h => Ch.drop k h.2
  | k + 1, [], _ :: _, h => h.elim
  | k + 1, _ :: _, [], h => h.elim
theorem Ch.at_ : ∀ {k : Nat} {ws : List NV} {os : List (List NV)}, Ch ws os → ∀ (h1 : k < ws.length) (h2 : k < os.length), ws[k] ∈ os[k]
  | 0, _ :: _, _ :: _, h, _, _ => h.1
  | k + 1, _ :: _, _ :: _, h, h1, h2 => Ch.at_ (k := k) h.2 (by simpa using h1) (by simpa using h2)
abbrev pickF (s2 : Sm) (options : List NV) : NV × Sm := let r3 : NV × Sm := pick s2 options; (r3.1, r3.2)
theorem picks : ∀ (os : List (List NV)) (s : Sm), (∀ o ∈ os, 0 < o.length ∧ o.length ≤ 100) → Ch (mapS pickF s os).1 os
  | [], _, _ => trivial
  | o :: os, s, h => by
    have := h o List.mem_cons_self
    exact ⟨pick_mem (drOk (by omega) (by omega)), picks os _ fun x hx => h x (List.mem_cons_of_mem _ hx)⟩
structure RowOk (p : Row) : Prop where
  l : p.2.2.1.length = p.2.1.length
  m : p.2.2.2.length = p.2.1.length
  l3 : p.2.1.length ≤ 3
  ne : ∀ o ∈ p.2.2.1, 0 < o.length ∧ o.length ≤ 100
  g : ∀ n, tk07 n p.1 p.2.1 (sv "") = true
  a : ∀ (k : Nat) (h1 : k < p.2.2.1.length) (h2 : k < p.2.2.2.length), ∀ w ∈ p.2.2.1[k], ∀ n, tk07 n p.1 ((p.2.1.take k ++ [w]) ++ p.2.1.drop (k + 1)) p.2.2.2[k] = true
  b : ∀ (k : Nat) (h1 : k < p.2.2.1.length) (h2 : k < p.2.2.2.length), ∀ ws, Ch ws (p.2.2.1.drop k) → ∀ n, tk07 n p.1 (p.2.1.take k ++ ws) p.2.2.2[k] = true
theorem flS (z : SV) : flatD (eS z) = true := fl_flat (e := eS) (d := 0) (by decide) z
theorem pqS (z : SV) : peq (eS z) (eS z) = true := by rw [Ke.eq (e := eS)]; exact decide_eq_true rfl
theorem turn {p : Row} (h : RowOk p) (st : Sm) {k : Int} (k0 : 0 ≤ k) (k1 : k < p.2.1.length) : d_law_k07_L_ p st k := by
  obtain ⟨hl, hm, h3, hne, hg, ha, hb⟩ := h
  obtain ⟨j, rfl⟩ : ∃ j : Nat, k = j := ⟨k.toNat, by omega⟩
  have c1 := picks p.2.2.1 st hne
  have cl := c1.len
  have hin : gt p.2.2.2 (j : Int) = p.2.2.2[j]'(by omega) := gt_nat (by omega)
  unfold d_law_k07_L_
  refine ⟨fun o ho s2 => ⟨drOk (by have := hne o ho; omega) (by have := hne o ho; omega), trivial⟩, ?_⟩
  intro r4 wrong
  have hw : Ch wrong p.2.2.1 := c1
  have hwl : wrong.length = p.2.2.1.length := cl
  clear_value wrong
  have gw : gt wrong (j : Int) = wrong[j]'(by omega) := gt_nat (by omega)
  have hwm := hw.at_ (k := j) (by omega) (by omega)
  rw [hin, gw]
  have e1 : cut p.2.1 none (some (j : Int)) = p.2.1.take j := by rw [cut_take _ (by omega)]; rfl
  have e2 : cut p.2.1 (some ((j : Int) + 1)) none = p.2.1.drop (j + 1) := by rw [cut_drop _ (by omega)]; congr 1
  have e3 : cut wrong (some (j : Int)) none = wrong.drop j := by rw [cut_drop _ (by omega)]; rfl
  rw [e1, e2, e3]
  obtain ⟨t1, t2⟩ := tk07_ok (ha j (by omega) (by omega) _ hwm)
  obtain ⟨u1, u2⟩ := tk07_ok (hb j (by omega) (by omega) _ (hw.drop j))
  refine ⟨inR (by omega) (by omega), bigOk (by rw [List.length_take]; omega) (by simp), bigOk (by rw [List.length_append, List.length_take, List.length_singleton]; omega) (by rw [List.length_drop]; omega), ?_⟩
  intro alone
  have hal : alone = (p.2.1.take j ++ [wrong[j]'(by omega)]) ++ p.2.1.drop (j + 1) := rfl
  clear_value alone
  subst hal
  rw [t2, u2, eA_toA, pqS]
  refine ⟨t1, inR (by omega) (by omega), ⟨flS _, flS _⟩, fun _ => ⟨bigOk (by rw [List.length_take]; omega) (by rw [List.length_drop]; omega), u1, inR (by omega) (by omega), ⟨flS _, flS _⟩, trivial⟩, fun w => (by cases w), fun _ => trivial⟩
theorem row {p : Row} (h : RowOk p) (st : Sm) : d_law_k07_L_2 st p := by
  obtain ⟨t1, t2⟩ := tk07_ok h.g
  unfold d_law_k07_L_2
  rw [t2, eA_toA, pqS]
  have := h.l3
  exact ⟨t1, ⟨flS _, flS _⟩, fun w => (by cases w), fun _ => ⟨rngOk (by decide) (by decide) (by omega) (by omega), FoldD.all fun s k hk => turn h s (mem_rng.mp hk).1 (mem_rng.mp hk).2, trivial⟩⟩
theorem all2 {α : Type} {f : α → Bool} {l : List α} (h : l.all f = true) {x : α} (hx : x ∈ l) : f x = true := List.all_eq_true.mp h x hx
theorem and' {a b : Bool} (h : (a && b) = true) : a = true ∧ b = true := by rwa [Bool.and_eq_true] at h
theorem k2 {k : Nat} (h : k < 2) : k = 0 ∨ k = 1 := by omega
theorem k3 {k : Nat} (h : k < 3) : k = 0 ∨ k = 1 ∨ k = 2 := by omega
theorem bpl : 0 < bp.length ∧ bp.length ≤ 100 := by decide
theorem bsl : 0 < bs.length ∧ bs.length ≤ 100 := by decide
theorem bil : 0 < bi.length ∧ bi.length ≤ 100 := by decide
theorem row1 {f : SV} (hf : f ∈ f1) : RowOk (f, [P0], [bp], [sv "paper"]) := by
  have key : ∀ n, tk07 n f [P0] (sv "") = true ∧ ∀ w ∈ bp, tk07 n f [w] (sv "paper") = true := fun n => by
    obtain ⟨a, b⟩ := and' (all2 (x1 n) hf)
    exact ⟨a, fun w hw => all2 b hw⟩
  refine ⟨rfl, rfl, by simp, fun o ho => by rw [List.mem_singleton] at ho; rw [ho]; exact bpl, fun n => (key n).1, fun k h1 h2 w hw n => ?_, fun k h1 h2 ws hws n => ?_⟩
  · have : k = 0 := by simp at h1; omega
    subst this
    exact (key n).2 w hw
  · have : k = 0 := by simp at h1; omega
    subst this
    match ws, hws with
    | [w], ⟨hw, _⟩ => exact (key n).2 w hw
theorem row2 {f : SV} {x : NV} {bx : List NV} {nx_ : SV} (hbl : 0 < bx.length ∧ bx.length ≤ 100) (h0 : ∀ n, tk07 n f [P0, x] (sv "") = true) (h1 : ∀ n, ∀ w ∈ bp, tk07 n f [w, x] (sv "paper") = true) (h2 : ∀ n, ∀ v ∈ bx, tk07 n f [P0, v] nx_ = true) (h3 : ∀ n, ∀ v ∈ bx, ∀ w ∈ bp, tk07 n f [w, v] (sv "paper") = true) :
    RowOk (f, [P0, x], [bp, bx], [sv "paper", nx_]) := by
  refine ⟨rfl, rfl, by simp, fun o ho => ?_, h0, fun k l1 l2 w hw n => ?_, fun k l1 l2 ws hws n => ?_⟩
  · rcases List.mem_cons.mp ho with rfl | ho
    · exact bpl
    · rw [List.mem_singleton] at ho; rw [ho]; exact hbl
  · rcases k2 l1 with rfl | rfl
    · exact h1 n w hw
    · exact h2 n w hw
  · rcases k2 l1 with rfl | rfl
    · match ws, hws with
      | [w, v], ⟨hw, hv, _⟩ => exact h3 n v hv w hw
    · match ws, hws with
      | [v], ⟨hv, _⟩ => exact h2 n v hv
theorem row3 {f : SV} (hf : f ∈ f3) {s : List Int} (hs : s ∈ sqs) : RowOk (f, [P0, toA (eT eI) s, q0], [bp, bs, bs], [sv "paper", sv "first", sv "second"]) := by
  have ka : ∀ n, tk07 n f [P0, toA (eT eI) s, q0] (sv "") = true ∧ (∀ w ∈ bp, tk07 n f [w, toA (eT eI) s, q0] (sv "paper") = true) ∧ ∀ u ∈ bs, tk07 n f [P0, toA (eT eI) s, u] (sv "second") = true := fun n => by
    obtain ⟨a, b⟩ := and' (all2 (all2 (x3a n) hf) hs)
    obtain ⟨a, c⟩ := and' a
    exact ⟨a, fun w hw => all2 c hw, fun u hu => all2 b hu⟩
  have kb : ∀ n, ∀ v ∈ bs, tk07 n f [P0, v, q0] (sv "first") = true ∧ ∀ u ∈ bs, tk07 n f [P0, v, u] (sv "first") = true ∧ ∀ w ∈ bp, tk07 n f [w, v, u] (sv "paper") = true := fun n v hv => by
    obtain ⟨a, b⟩ := and' (x3b n f hf v hv)
    refine ⟨a, fun u hu => ?_⟩
    obtain ⟨c, d⟩ := and' (all2 b hu)
    exact ⟨c, fun w hw => all2 d hw⟩
  refine ⟨rfl, rfl, by simp, fun o ho => ?_, fun n => (ka n).1, fun k l1 l2 w hw n => ?_, fun k l1 l2 ws hws n => ?_⟩
  · rcases List.mem_cons.mp ho with rfl | ho
    · exact bpl
    · rcases List.mem_cons.mp ho with rfl | ho
      · exact bsl
      · rw [List.mem_singleton] at ho; rw [ho]; exact bsl
  · rcases k3 l1 with rfl | rfl | rfl
    · exact (ka n).2.1 w hw
    · exact (kb n w hw).1
    · exact (ka n).2.2 w hw
  · rcases k3 l1 with rfl | rfl | rfl
    · match ws, hws with
      | [w, v, u], ⟨hw, hv, hu, _⟩ => exact ((kb n v hv).2 u hu).2 w hw
    · match ws, hws with
      | [v, u], ⟨hv, hu, _⟩ => exact ((kb n v hv).2 u hu).1
    · match ws, hws with
      | [u], ⟨hu, _⟩ => exact (ka n).2.2 u hu
theorem good (ns : List Int) : g_law_k07 ns := by
  unfold g_law_k07
  intro s0 paper bad_paper bad_sequence
  refine ⟨drOk (by decide) (by decide), ?_⟩
  intro r sq
  have hsq : sq ∈ sqs := pick_mem (drOk (by decide) (by decide))
  clear_value sq
  intro rows
  have R1 : ∀ p ∈ rows, RowOk p := fun p hp => by
    obtain ⟨f, hf, rfl⟩ := List.mem_map.mp hp
    have key : ∀ n, tk07 n f [P0, toA (eT eI) sq] (sv "") = true ∧ ∀ w ∈ bp, tk07 n f [w, toA (eT eI) sq] (sv "paper") = true := fun n => by
      obtain ⟨a, b⟩ := and' (all2 (all2 (x2a n) hf) hsq)
      exact ⟨a, fun w hw => all2 b hw⟩
    have kb : ∀ n, ∀ v ∈ bs, tk07 n f [P0, v] (sv "sequence") = true ∧ ∀ w ∈ bp, tk07 n f [w, v] (sv "paper") = true := fun n v hv => by
      obtain ⟨a, b⟩ := and' (all2 (all2 (x2b n) hf) hv)
      exact ⟨a, fun w hw => all2 b hw⟩
    exact row2 bsl (fun n => (key n).1) (fun n => (key n).2) (fun n v hv => (kb n v hv).1) (fun n v hv => (kb n v hv).2)
  have hl1 : rows.length = 3 := rfl
  clear_value rows
  refine ⟨bigOk (by omega) (by rw [List.length_map]; decide), ?_⟩
  intro rows2
  have R2 : ∀ p ∈ rows2, RowOk p := fun p hp => by
    rcases List.mem_append.mp hp with hp | hp
    · exact R1 p hp
    · obtain ⟨f, hf, rfl⟩ := List.mem_map.mp hp
      exact row1 hf
  have hl2 : rows2.length = 6 := by
    show (rows ++ _).length = 6
    rw [List.length_append, hl1]; rfl
  clear_value rows2
  intro r2
  have i0 : 0 ≤ r2.1 := nx_ge _ (by decide)
  have i1 : r2.1 < 2 := nx_lt _ (by decide)
  refine ⟨by omega, ?_⟩
  intro rows3
  have R3 : ∀ p ∈ rows3, RowOk p := fun p hp => by
    rcases List.mem_append.mp hp with hp | hp
    · exact R2 p hp
    · rw [List.mem_singleton] at hp
      subst hp
      have hi : r2.1 ∈ [(0 : Int), 1] := by
        have : r2.1 = 0 ∨ r2.1 = 1 := by omega
        rcases this with e | e <;> rw [e] <;> decide
      have ka : ∀ n, tk07 n (sv "nth") [P0, toA eI r2.1] (sv "") = true ∧ ∀ w ∈ bp, tk07 n (sv "nth") [w, toA eI r2.1] (sv "paper") = true := fun n => by
        obtain ⟨a, b⟩ := and' (all2 (and' (xn n)).1 hi)
        exact ⟨a, fun w hw => all2 b hw⟩
      have kb : ∀ n, ∀ v ∈ bi, tk07 n (sv "nth") [P0, v] (sv "index") = true ∧ ∀ w ∈ bp, tk07 n (sv "nth") [w, v] (sv "paper") = true := fun n v hv => by
        obtain ⟨a, b⟩ := and' (all2 (and' (xn n)).2 hv)
        exact ⟨a, fun w hw => all2 b hw⟩
      exact row2 bil (fun n => (ka n).1) (fun n => (ka n).2) (fun n v hv => (kb n v hv).1) (fun n v hv => (kb n v hv).2)
  have hl3 : rows3.length = 7 := by
    show (rows2 ++ _).length = 7
    rw [List.length_append, hl2]; rfl
  clear_value rows3
  refine ⟨bigOk (by omega) (by rw [List.length_map]; decide), ?_⟩
  intro rows4
  have R4 : ∀ p ∈ rows4, RowOk p := fun p hp => by
    rcases List.mem_append.mp hp with hp | hp
    · exact R3 p hp
    · obtain ⟨f, hf, rfl⟩ := List.mem_map.mp hp
      exact row3 hf hsq
  clear_value rows4
  exact ⟨FoldD.all fun st p hp => row (R4 p hp) st, trivial⟩
end k07
end Qm

/-! the defs of law k07 as Qm terms (printed by gen.py) -/
namespace Qm
def conk07 : Nat → Option PV
  | 2 => some (.int 6)
  | 3 => some (.int 16)
  | _ => none
def fnsk07 : Nat → Option FnD
  | 0 => some fd0
  | 279 => some fd279
  | 280 => some fd280
  | 281 => some fd281
  | 285 => some fd285
  | 286 => some fd286
  | 315 => some fd315
  | 316 => some fd316
  | 349 => some fd349
  | 350 => some fd350
  | 305 => some fd305
  | 306 => some fd306
  | 351 => some fd351
  | 352 => some fd352
  | 307 => some fd307
  | 353 => some fd353
  | 488 => some fd488
  | 308 => some fd308
  | 309 => some fd309
  | 310 => some fd310
  | 229 => some fd229
  | 230 => some fd230
  | 232 => some fd232
  | 491 => some fd491
  | 490 => some fd490
  | 492 => some fd492
  | 493 => some fd493
  | _ => none
def sub : Nat → Nat → Bool := fun a b => a == b || (b == 0 && decide (a < 5)) || b == 6
def fldN : Nat → List Nat
  | 1 => [0] | 2 => [1] | 3 => [2] | 4 => [3, 4] | 5 => [5] | _ => []
def progk07 : Prog := ⟨conk07, fldN, sub, fnsk07⟩
abbrev lawIdk07 : Nat := 493
end Qm

namespace Qm
namespace k07
open PySem PySem.Spec PyProof.Rows L2
def top (i : Nat) : Stmt := PySem.Challenge.pw_quiremarks_k07_refusals_of_papers.main.body.getD i (.Pass ⟨0, 0, 0, 0⟩)
def dm0 : DM := ⟨"is_whole", top 6, ["value", "low", "high"], ["value", "low", "high"]⟩
def dm279 : DM := ⟨"is_paper", top 7, ["value", "mark"], ["value"]⟩
def dm280 : DM := ⟨"are_marks", top 8, ["paper", "value", "mark"], ["paper", "value"]⟩
def dm281 : DM := ⟨"is_sequence", top 9, ["paper", "value"], ["paper", "value"]⟩
def dm285 : DM := ⟨"check_paper", top 10, ["paper"], ["paper"]⟩
def dm286 : DM := ⟨"check_sequence", top 11, ["paper", "sequence"], ["paper", "sequence"]⟩
def dm315 : DM := ⟨"reflected_of", top 12, ["paper", "sequence", "mark"], ["paper", "sequence"]⟩
def dm316 : DM := ⟨"reflected", top 13, ["paper", "sequence"], ["paper", "sequence"]⟩
def dm349 : DM := ⟨"own_marks", top 14, ["paper", "mark"], ["paper"]⟩
def dm350 : DM := ⟨"mark_pairs", top 15, ["paper", "mark"], ["paper"]⟩
def dm305 : DM := ⟨"keeps", top 17, ["paper", "names", "last", "other"], ["paper", "names"]⟩
def dm306 : DM := ⟨"renamings_of", top 18, ["paper", "rows", "turn", "longer", "row", "mark"], ["paper"]⟩
def dm351 : DM := ⟨"count_renamings", top 19, ["paper"], ["paper"]⟩
def dm352 : DM := ⟨"nth_renaming", top 20, ["paper", "index", "found"], ["paper", "index"]⟩
def dm307 : DM := ⟨"renamed_by", top 21, ["sequence", "names", "mark"], ["sequence", "names"]⟩
def dm353 : DM := ⟨"first_alike", top 22, ["paper", "sequence", "names"], ["paper", "sequence"]⟩
def dm488 : DM := ⟨"count_alike", top 23, ["paper", "sequence", "names"], ["paper", "sequence"]⟩
def dm308 : DM := ⟨"check_two", top 24, ["paper", "first", "second"], ["paper", "first", "second"]⟩
def dm309 : DM := ⟨"renaming", top 25, ["paper", "first", "second", "names"], ["paper", "first", "second"]⟩
def dm310 : DM := ⟨"accepts_renaming", top 26, ["paper", "first", "second", "value", "mark", "many"], ["paper", "first", "second", "value"]⟩
def dm229 : DM := ⟨"_law_stream", top 28, ["_law_script"], ["_law_script"]⟩
def dm230 : DM := ⟨"_law_next", top 29, ["_law_stream_here", "_law_many", "_law_k", "_law_cell", "_law_digit"], ["_law_stream_here", "_law_many"]⟩
def dm232 : DM := ⟨"_law_pick", top 30, ["_law_stream_here", "_law_rows"], ["_law_stream_here", "_law_rows"]⟩
def dm491 : DM := ⟨"_law_ask", top 31, ["_law_word", "_law_parts"], ["_law_word", "_law_parts"]⟩
def dm490 : DM := ⟨"_law_last", top 32, ["_law_word", "_law_parts"], ["_law_word", "_law_parts"]⟩
def dm492 : DM := ⟨"_law_told", top 33, ["_law_word", "_law_parts", "problem"], ["_law_word", "_law_parts"]⟩
def dm493 : DM := ⟨"law", top 34, ["_law_script", "_law_stream_here", "_law_paper", "_law_bad_paper", "_law_bad_sequence", "_law_sequence", "_law_rows", "_law_word", "_law_good", "_law_bad", "_law_names", "_law_k", "_law_wrong", "_law_options", "_law_alone"], ["_law_script"]⟩
def gl : List (Str × GK) := [(("QuireError" : Str), GK.cls 0), (("BadValue" : Str), GK.cls 1), (("MOST_MARKS" : Str), GK.con 2), (("MOST_LEAVES" : Str), GK.con 3), (("is_whole" : Str), GK.fn 0), (("is_paper" : Str), GK.fn 279), (("are_marks" : Str), GK.fn 280), (("is_sequence" : Str), GK.fn 281), (("check_paper" : Str), GK.fn 285), (("check_sequence" : Str), GK.fn 286), (("reflected_of" : Str), GK.fn 315), (("reflected" : Str), GK.fn 316), (("own_marks" : Str), GK.fn 349), (("mark_pairs" : Str), GK.fn 350), (("keeps" : Str), GK.fn 305), (("renamings_of" : Str), GK.fn 306), (("count_renamings" : Str), GK.fn 351), (("nth_renaming" : Str), GK.fn 352), (("renamed_by" : Str), GK.fn 307), (("first_alike" : Str), GK.fn 353), (("count_alike" : Str), GK.fn 488), (("check_two" : Str), GK.fn 308), (("renaming" : Str), GK.fn 309), (("accepts_renaming" : Str), GK.fn 310), (("_law_stream" : Str), GK.fn 229), (("_law_next" : Str), GK.fn 230), (("_law_pick" : Str), GK.fn 232), (("_law_ask" : Str), GK.fn 491), (("_law_last" : Str), GK.fn 490), (("_law_told" : Str), GK.fn 492), (("law" : Str), GK.fn 493), (("ValueError" : Str), GK.bi), (("abs" : Str), GK.bi), (("all" : Str), GK.bi), (("bool" : Str), GK.bi), (("int" : Str), GK.bi), (("isinstance" : Str), GK.bi), (("len" : Str), GK.bi), (("list" : Str), GK.bi), (("min" : Str), GK.bi), (("range" : Str), GK.bi), (("tuple" : Str), GK.bi)]
def tb : List (Nat × FnD × DM) := [(0, fd0, dm0), (279, fd279, dm279), (280, fd280, dm280), (281, fd281, dm281), (285, fd285, dm285), (286, fd286, dm286), (315, fd315, dm315), (316, fd316, dm316), (349, fd349, dm349), (350, fd350, dm350), (305, fd305, dm305), (306, fd306, dm306), (351, fd351, dm351), (352, fd352, dm352), (307, fd307, dm307), (353, fd353, dm353), (488, fd488, dm488), (308, fd308, dm308), (309, fd309, dm309), (310, fd310, dm310), (229, fd229, dm229), (230, fd230, dm230), (232, fd232, dm232), (491, fd491, dm491), (490, fd490, dm490), (492, fd492, dm492), (493, fd493, dm493)]
abbrev TR : Bool := true
def prog : Prog := ⟨conk07, fldN, sub, fnsL tb⟩
theorem tx0 : Txt TR gl dm0 fd0 := ⟨by rfl, by decide +kernel, ⟨rfl, rfl, rfl, by decide +kernel, rfl, by decide +kernel, by decide +kernel⟩, rfl, rfl⟩
theorem tx279 : Txt TR gl dm279 fd279 := ⟨by rfl, by decide +kernel, ⟨rfl, rfl, rfl, by decide +kernel, rfl, by decide +kernel, by decide +kernel⟩, rfl, rfl⟩
theorem tx280 : Txt TR gl dm280 fd280 := ⟨by rfl, by decide +kernel, ⟨rfl, rfl, rfl, by decide +kernel, rfl, by decide +kernel, by decide +kernel⟩, rfl, rfl⟩
theorem tx281 : Txt TR gl dm281 fd281 := ⟨by rfl, by decide +kernel, ⟨rfl, rfl, rfl, by decide +kernel, rfl, by decide +kernel, by decide +kernel⟩, rfl, rfl⟩
theorem tx285 : Txt TR gl dm285 fd285 := ⟨by rfl, by decide +kernel, ⟨rfl, rfl, rfl, by decide +kernel, rfl, by decide +kernel, by decide +kernel⟩, rfl, rfl⟩
theorem tx286 : Txt TR gl dm286 fd286 := ⟨by rfl, by decide +kernel, ⟨rfl, rfl, rfl, by decide +kernel, rfl, by decide +kernel, by decide +kernel⟩, rfl, rfl⟩
theorem tx315 : Txt TR gl dm315 fd315 := ⟨by rfl, by decide +kernel, ⟨rfl, rfl, rfl, by decide +kernel, rfl, by decide +kernel, by decide +kernel⟩, rfl, rfl⟩
theorem tx316 : Txt TR gl dm316 fd316 := ⟨by rfl, by decide +kernel, ⟨rfl, rfl, rfl, by decide +kernel, rfl, by decide +kernel, by decide +kernel⟩, rfl, rfl⟩
theorem tx349 : Txt TR gl dm349 fd349 := ⟨by rfl, by decide +kernel, ⟨rfl, rfl, rfl, by decide +kernel, rfl, by decide +kernel, by decide +kernel⟩, rfl, rfl⟩
theorem tx350 : Txt TR gl dm350 fd350 := ⟨by rfl, by decide +kernel, ⟨rfl, rfl, rfl, by decide +kernel, rfl, by decide +kernel, by decide +kernel⟩, rfl, rfl⟩
theorem tx305 : Txt TR gl dm305 fd305 := ⟨by rfl, by decide +kernel, ⟨rfl, rfl, rfl, by decide +kernel, rfl, by decide +kernel, by decide +kernel⟩, rfl, rfl⟩
theorem tx306 : Txt TR gl dm306 fd306 := ⟨by rfl, by decide +kernel, ⟨rfl, rfl, rfl, by decide +kernel, rfl, by decide +kernel, by decide +kernel⟩, rfl, rfl⟩
theorem tx351 : Txt TR gl dm351 fd351 := ⟨by rfl, by decide +kernel, ⟨rfl, rfl, rfl, by decide +kernel, rfl, by decide +kernel, by decide +kernel⟩, rfl, rfl⟩
theorem tx352 : Txt TR gl dm352 fd352 := ⟨by rfl, by decide +kernel, ⟨rfl, rfl, rfl, by decide +kernel, rfl, by decide +kernel, by decide +kernel⟩, rfl, rfl⟩
theorem tx307 : Txt TR gl dm307 fd307 := ⟨by rfl, by decide +kernel, ⟨rfl, rfl, rfl, by decide +kernel, rfl, by decide +kernel, by decide +kernel⟩, rfl, rfl⟩
theorem tx353 : Txt TR gl dm353 fd353 := ⟨by rfl, by decide +kernel, ⟨rfl, rfl, rfl, by decide +kernel, rfl, by decide +kernel, by decide +kernel⟩, rfl, rfl⟩
theorem tx488 : Txt TR gl dm488 fd488 := ⟨by rfl, by decide +kernel, ⟨rfl, rfl, rfl, by decide +kernel, rfl, by decide +kernel, by decide +kernel⟩, rfl, rfl⟩
theorem tx308 : Txt TR gl dm308 fd308 := ⟨by rfl, by decide +kernel, ⟨rfl, rfl, rfl, by decide +kernel, rfl, by decide +kernel, by decide +kernel⟩, rfl, rfl⟩
theorem tx309 : Txt TR gl dm309 fd309 := ⟨by rfl, by decide +kernel, ⟨rfl, rfl, rfl, by decide +kernel, rfl, by decide +kernel, by decide +kernel⟩, rfl, rfl⟩
theorem tx310 : Txt TR gl dm310 fd310 := ⟨by rfl, by decide +kernel, ⟨rfl, rfl, rfl, by decide +kernel, rfl, by decide +kernel, by decide +kernel⟩, rfl, rfl⟩
theorem tx229 : Txt TR gl dm229 fd229 := ⟨by rfl, by decide +kernel, ⟨rfl, rfl, rfl, by decide +kernel, rfl, by decide +kernel, by decide +kernel⟩, rfl, rfl⟩
theorem tx230 : Txt TR gl dm230 fd230 := ⟨by rfl, by decide +kernel, ⟨rfl, rfl, rfl, by decide +kernel, rfl, by decide +kernel, by decide +kernel⟩, rfl, rfl⟩
theorem tx232 : Txt TR gl dm232 fd232 := ⟨by rfl, by decide +kernel, ⟨rfl, rfl, rfl, by decide +kernel, rfl, by decide +kernel, by decide +kernel⟩, rfl, rfl⟩
theorem tx491 : Txt TR gl dm491 fd491 := ⟨by rfl, by decide +kernel, ⟨rfl, rfl, rfl, by decide +kernel, rfl, by decide +kernel, by decide +kernel⟩, rfl, rfl⟩
theorem tx490 : Txt TR gl dm490 fd490 := ⟨by rfl, by decide +kernel, ⟨rfl, rfl, rfl, by decide +kernel, rfl, by decide +kernel, by decide +kernel⟩, rfl, rfl⟩
theorem tx492 : Txt TR gl dm492 fd492 := ⟨by rfl, by decide +kernel, ⟨rfl, rfl, rfl, by decide +kernel, rfl, by decide +kernel, by decide +kernel⟩, rfl, rfl⟩
theorem tx493 : Txt TR gl dm493 fd493 := ⟨by rfl, by decide +kernel, ⟨rfl, rfl, rfl, by decide +kernel, rfl, by decide +kernel, by decide +kernel⟩, rfl, rfl⟩
theorem txs : AllTxt TR gl tb := ⟨tx0, tx279, tx280, tx281, tx285, tx286, tx315, tx316, tx349, tx350, tx305, tx306, tx351, tx352, tx307, tx353, tx488, tx308, tx309, tx310, tx229, tx230, tx232, tx491, tx490, tx492, tx493, trivial⟩
def inBadValue : Stmt := inClass (top 2) 0
theorem all_mk {p : Program} {w : World} {K : PySem.W.Frag} {h : Heap} {mg : Str → Option Value} {fa : Addr} (n : Nat) (X : K.In h) (G : h.Ns mainGlobals mg) (hfa : mg "law" = some (.ref fa))
    {od0 an0 : Option Addr} {sl0 : Array (Option Value)} {oc0 kV0 dc0 pm0 cd0 ct0 : Value} {f0 : Addr}
    {od279 an279 : Option Addr} {sl279 : Array (Option Value)} {oc279 kV279 dc279 pm279 cd279 ct279 : Value} {f279 : Addr}
    {od280 an280 : Option Addr} {sl280 : Array (Option Value)} {oc280 kV280 dc280 pm280 cd280 ct280 : Value} {f280 : Addr}
    {od281 an281 : Option Addr} {sl281 : Array (Option Value)} {oc281 kV281 dc281 pm281 cd281 ct281 : Value} {f281 : Addr}
    {od285 an285 : Option Addr} {sl285 : Array (Option Value)} {oc285 kV285 dc285 pm285 cd285 ct285 : Value} {f285 : Addr}
    {od286 an286 : Option Addr} {sl286 : Array (Option Value)} {oc286 kV286 dc286 pm286 cd286 ct286 : Value} {f286 : Addr}
    {od315 an315 : Option Addr} {sl315 : Array (Option Value)} {oc315 kV315 dc315 pm315 cd315 ct315 : Value} {f315 : Addr}
    {od316 an316 : Option Addr} {sl316 : Array (Option Value)} {oc316 kV316 dc316 pm316 cd316 ct316 : Value} {f316 : Addr}
    {od349 an349 : Option Addr} {sl349 : Array (Option Value)} {oc349 kV349 dc349 pm349 cd349 ct349 : Value} {f349 : Addr}
    {od350 an350 : Option Addr} {sl350 : Array (Option Value)} {oc350 kV350 dc350 pm350 cd350 ct350 : Value} {f350 : Addr}
    {od305 an305 : Option Addr} {sl305 : Array (Option Value)} {oc305 kV305 dc305 pm305 cd305 ct305 : Value} {f305 : Addr}
    {od306 an306 : Option Addr} {sl306 : Array (Option Value)} {oc306 kV306 dc306 pm306 cd306 ct306 : Value} {f306 : Addr}
    {od351 an351 : Option Addr} {sl351 : Array (Option Value)} {oc351 kV351 dc351 pm351 cd351 ct351 : Value} {f351 : Addr}
    {od352 an352 : Option Addr} {sl352 : Array (Option Value)} {oc352 kV352 dc352 pm352 cd352 ct352 : Value} {f352 : Addr}
    {od307 an307 : Option Addr} {sl307 : Array (Option Value)} {oc307 kV307 dc307 pm307 cd307 ct307 : Value} {f307 : Addr}
    {od353 an353 : Option Addr} {sl353 : Array (Option Value)} {oc353 kV353 dc353 pm353 cd353 ct353 : Value} {f353 : Addr}
    {od488 an488 : Option Addr} {sl488 : Array (Option Value)} {oc488 kV488 dc488 pm488 cd488 ct488 : Value} {f488 : Addr}
    {od308 an308 : Option Addr} {sl308 : Array (Option Value)} {oc308 kV308 dc308 pm308 cd308 ct308 : Value} {f308 : Addr}
    {od309 an309 : Option Addr} {sl309 : Array (Option Value)} {oc309 kV309 dc309 pm309 cd309 ct309 : Value} {f309 : Addr}
    {od310 an310 : Option Addr} {sl310 : Array (Option Value)} {oc310 kV310 dc310 pm310 cd310 ct310 : Value} {f310 : Addr}
    {od229 an229 : Option Addr} {sl229 : Array (Option Value)} {oc229 kV229 dc229 pm229 cd229 ct229 : Value} {f229 : Addr}
    {od230 an230 : Option Addr} {sl230 : Array (Option Value)} {oc230 kV230 dc230 pm230 cd230 ct230 : Value} {f230 : Addr}
    {od232 an232 : Option Addr} {sl232 : Array (Option Value)} {oc232 kV232 dc232 pm232 cd232 ct232 : Value} {f232 : Addr}
    {od491 an491 : Option Addr} {sl491 : Array (Option Value)} {oc491 kV491 dc491 pm491 cd491 ct491 : Value} {f491 : Addr}
    {od490 an490 : Option Addr} {sl490 : Array (Option Value)} {oc490 kV490 dc490 pm490 cd490 ct490 : Value} {f490 : Addr}
    {od492 an492 : Option Addr} {sl492 : Array (Option Value)} {oc492 kV492 dc492 pm492 cd492 ct492 : Value} {f492 : Addr}
    {od493 an493 : Option Addr} {sl493 : Array (Option Value)} {oc493 kV493 dc493 pm493 cd493 ct493 : Value} {f493 : Addr}
    {CQuireError : Addr}
    {CBadValue : Addr}
    {nmBadValue qnBadValue : Str} {NBadValue : Addr} {bsBadValue bmBadValue : List Value} {snBadValue : List Str} {subBadValue : List Value} {abBadValue : Bool} {colBadValue : Option Bool} {ddBadValue : Option Addr} {m0BadValue m1BadValue m2BadValue m3BadValue m5BadValue : Option Value}
    {odBadValue anBadValue : Option Addr} {slBadValue : Array (Option Value)} {ocBadValue kVBadValue dcBadValue pmBadValue cdBadValue ctBadValue : Value} {fBadValue : Addr}
    {tMOST_MARKS : Tok}
    {tMOST_LEAVES : Tok}
    (a0 : PySem.W.nsIn K mainGlobals "is_whole" = some (some (.ref f0)))
    (l0 : K.lookup f0 = some ⟨oc0, od0, .func (PySem.W.fnOf "is_whole" "is_whole" (defArgs dm0.st) (defBody dm0.st) (defScope dm0.st) .none kV0 dc0 pm0 an0 cd0 ct0), sl0⟩)
    (c0 : PySem.W.codeIn K cd0 "is_whole" = true)
    (k0 : PySem.W.keepIn K (.ref f0) = true)
    (a279 : PySem.W.nsIn K mainGlobals "is_paper" = some (some (.ref f279)))
    (l279 : K.lookup f279 = some ⟨oc279, od279, .func (PySem.W.fnOf "is_paper" "is_paper" (defArgs dm279.st) (defBody dm279.st) (defScope dm279.st) .none kV279 dc279 pm279 an279 cd279 ct279), sl279⟩)
    (c279 : PySem.W.codeIn K cd279 "is_paper" = true)
    (k279 : PySem.W.keepIn K (.ref f279) = true)
    (a280 : PySem.W.nsIn K mainGlobals "are_marks" = some (some (.ref f280)))
    (l280 : K.lookup f280 = some ⟨oc280, od280, .func (PySem.W.fnOf "are_marks" "are_marks" (defArgs dm280.st) (defBody dm280.st) (defScope dm280.st) .none kV280 dc280 pm280 an280 cd280 ct280), sl280⟩)
    (c280 : PySem.W.codeIn K cd280 "are_marks" = true)
    (k280 : PySem.W.keepIn K (.ref f280) = true)
    (a281 : PySem.W.nsIn K mainGlobals "is_sequence" = some (some (.ref f281)))
    (l281 : K.lookup f281 = some ⟨oc281, od281, .func (PySem.W.fnOf "is_sequence" "is_sequence" (defArgs dm281.st) (defBody dm281.st) (defScope dm281.st) .none kV281 dc281 pm281 an281 cd281 ct281), sl281⟩)
    (c281 : PySem.W.codeIn K cd281 "is_sequence" = true)
    (k281 : PySem.W.keepIn K (.ref f281) = true)
    (a285 : PySem.W.nsIn K mainGlobals "check_paper" = some (some (.ref f285)))
    (l285 : K.lookup f285 = some ⟨oc285, od285, .func (PySem.W.fnOf "check_paper" "check_paper" (defArgs dm285.st) (defBody dm285.st) (defScope dm285.st) .none kV285 dc285 pm285 an285 cd285 ct285), sl285⟩)
    (c285 : PySem.W.codeIn K cd285 "check_paper" = true)
    (k285 : PySem.W.keepIn K (.ref f285) = true)
    (a286 : PySem.W.nsIn K mainGlobals "check_sequence" = some (some (.ref f286)))
    (l286 : K.lookup f286 = some ⟨oc286, od286, .func (PySem.W.fnOf "check_sequence" "check_sequence" (defArgs dm286.st) (defBody dm286.st) (defScope dm286.st) .none kV286 dc286 pm286 an286 cd286 ct286), sl286⟩)
    (c286 : PySem.W.codeIn K cd286 "check_sequence" = true)
    (k286 : PySem.W.keepIn K (.ref f286) = true)
    (a315 : PySem.W.nsIn K mainGlobals "reflected_of" = some (some (.ref f315)))
    (l315 : K.lookup f315 = some ⟨oc315, od315, .func (PySem.W.fnOf "reflected_of" "reflected_of" (defArgs dm315.st) (defBody dm315.st) (defScope dm315.st) .none kV315 dc315 pm315 an315 cd315 ct315), sl315⟩)
    (c315 : PySem.W.codeIn K cd315 "reflected_of" = true)
    (k315 : PySem.W.keepIn K (.ref f315) = true)
    (a316 : PySem.W.nsIn K mainGlobals "reflected" = some (some (.ref f316)))
    (l316 : K.lookup f316 = some ⟨oc316, od316, .func (PySem.W.fnOf "reflected" "reflected" (defArgs dm316.st) (defBody dm316.st) (defScope dm316.st) .none kV316 dc316 pm316 an316 cd316 ct316), sl316⟩)
    (c316 : PySem.W.codeIn K cd316 "reflected" = true)
    (k316 : PySem.W.keepIn K (.ref f316) = true)
    (a349 : PySem.W.nsIn K mainGlobals "own_marks" = some (some (.ref f349)))
    (l349 : K.lookup f349 = some ⟨oc349, od349, .func (PySem.W.fnOf "own_marks" "own_marks" (defArgs dm349.st) (defBody dm349.st) (defScope dm349.st) .none kV349 dc349 pm349 an349 cd349 ct349), sl349⟩)
    (c349 : PySem.W.codeIn K cd349 "own_marks" = true)
    (k349 : PySem.W.keepIn K (.ref f349) = true)
    (a350 : PySem.W.nsIn K mainGlobals "mark_pairs" = some (some (.ref f350)))
    (l350 : K.lookup f350 = some ⟨oc350, od350, .func (PySem.W.fnOf "mark_pairs" "mark_pairs" (defArgs dm350.st) (defBody dm350.st) (defScope dm350.st) .none kV350 dc350 pm350 an350 cd350 ct350), sl350⟩)
    (c350 : PySem.W.codeIn K cd350 "mark_pairs" = true)
    (k350 : PySem.W.keepIn K (.ref f350) = true)
    (a305 : PySem.W.nsIn K mainGlobals "keeps" = some (some (.ref f305)))
    (l305 : K.lookup f305 = some ⟨oc305, od305, .func (PySem.W.fnOf "keeps" "keeps" (defArgs dm305.st) (defBody dm305.st) (defScope dm305.st) .none kV305 dc305 pm305 an305 cd305 ct305), sl305⟩)
    (c305 : PySem.W.codeIn K cd305 "keeps" = true)
    (k305 : PySem.W.keepIn K (.ref f305) = true)
    (a306 : PySem.W.nsIn K mainGlobals "renamings_of" = some (some (.ref f306)))
    (l306 : K.lookup f306 = some ⟨oc306, od306, .func (PySem.W.fnOf "renamings_of" "renamings_of" (defArgs dm306.st) (defBody dm306.st) (defScope dm306.st) .none kV306 dc306 pm306 an306 cd306 ct306), sl306⟩)
    (c306 : PySem.W.codeIn K cd306 "renamings_of" = true)
    (k306 : PySem.W.keepIn K (.ref f306) = true)
    (a351 : PySem.W.nsIn K mainGlobals "count_renamings" = some (some (.ref f351)))
    (l351 : K.lookup f351 = some ⟨oc351, od351, .func (PySem.W.fnOf "count_renamings" "count_renamings" (defArgs dm351.st) (defBody dm351.st) (defScope dm351.st) .none kV351 dc351 pm351 an351 cd351 ct351), sl351⟩)
    (c351 : PySem.W.codeIn K cd351 "count_renamings" = true)
    (k351 : PySem.W.keepIn K (.ref f351) = true)
    (a352 : PySem.W.nsIn K mainGlobals "nth_renaming" = some (some (.ref f352)))
    (l352 : K.lookup f352 = some ⟨oc352, od352, .func (PySem.W.fnOf "nth_renaming" "nth_renaming" (defArgs dm352.st) (defBody dm352.st) (defScope dm352.st) .none kV352 dc352 pm352 an352 cd352 ct352), sl352⟩)
    (c352 : PySem.W.codeIn K cd352 "nth_renaming" = true)
    (k352 : PySem.W.keepIn K (.ref f352) = true)
    (a307 : PySem.W.nsIn K mainGlobals "renamed_by" = some (some (.ref f307)))
    (l307 : K.lookup f307 = some ⟨oc307, od307, .func (PySem.W.fnOf "renamed_by" "renamed_by" (defArgs dm307.st) (defBody dm307.st) (defScope dm307.st) .none kV307 dc307 pm307 an307 cd307 ct307), sl307⟩)
    (c307 : PySem.W.codeIn K cd307 "renamed_by" = true)
    (k307 : PySem.W.keepIn K (.ref f307) = true)
    (a353 : PySem.W.nsIn K mainGlobals "first_alike" = some (some (.ref f353)))
    (l353 : K.lookup f353 = some ⟨oc353, od353, .func (PySem.W.fnOf "first_alike" "first_alike" (defArgs dm353.st) (defBody dm353.st) (defScope dm353.st) .none kV353 dc353 pm353 an353 cd353 ct353), sl353⟩)
    (c353 : PySem.W.codeIn K cd353 "first_alike" = true)
    (k353 : PySem.W.keepIn K (.ref f353) = true)
    (a488 : PySem.W.nsIn K mainGlobals "count_alike" = some (some (.ref f488)))
    (l488 : K.lookup f488 = some ⟨oc488, od488, .func (PySem.W.fnOf "count_alike" "count_alike" (defArgs dm488.st) (defBody dm488.st) (defScope dm488.st) .none kV488 dc488 pm488 an488 cd488 ct488), sl488⟩)
    (c488 : PySem.W.codeIn K cd488 "count_alike" = true)
    (k488 : PySem.W.keepIn K (.ref f488) = true)
    (a308 : PySem.W.nsIn K mainGlobals "check_two" = some (some (.ref f308)))
    (l308 : K.lookup f308 = some ⟨oc308, od308, .func (PySem.W.fnOf "check_two" "check_two" (defArgs dm308.st) (defBody dm308.st) (defScope dm308.st) .none kV308 dc308 pm308 an308 cd308 ct308), sl308⟩)
    (c308 : PySem.W.codeIn K cd308 "check_two" = true)
    (k308 : PySem.W.keepIn K (.ref f308) = true)
    (a309 : PySem.W.nsIn K mainGlobals "renaming" = some (some (.ref f309)))
    (l309 : K.lookup f309 = some ⟨oc309, od309, .func (PySem.W.fnOf "renaming" "renaming" (defArgs dm309.st) (defBody dm309.st) (defScope dm309.st) .none kV309 dc309 pm309 an309 cd309 ct309), sl309⟩)
    (c309 : PySem.W.codeIn K cd309 "renaming" = true)
    (k309 : PySem.W.keepIn K (.ref f309) = true)
    (a310 : PySem.W.nsIn K mainGlobals "accepts_renaming" = some (some (.ref f310)))
    (l310 : K.lookup f310 = some ⟨oc310, od310, .func (PySem.W.fnOf "accepts_renaming" "accepts_renaming" (defArgs dm310.st) (defBody dm310.st) (defScope dm310.st) .none kV310 dc310 pm310 an310 cd310 ct310), sl310⟩)
    (c310 : PySem.W.codeIn K cd310 "accepts_renaming" = true)
    (k310 : PySem.W.keepIn K (.ref f310) = true)
    (a229 : PySem.W.nsIn K mainGlobals "_law_stream" = some (some (.ref f229)))
    (l229 : K.lookup f229 = some ⟨oc229, od229, .func (PySem.W.fnOf "_law_stream" "_law_stream" (defArgs dm229.st) (defBody dm229.st) (defScope dm229.st) .none kV229 dc229 pm229 an229 cd229 ct229), sl229⟩)
    (c229 : PySem.W.codeIn K cd229 "_law_stream" = true)
    (k229 : PySem.W.keepIn K (.ref f229) = true)
    (a230 : PySem.W.nsIn K mainGlobals "_law_next" = some (some (.ref f230)))
    (l230 : K.lookup f230 = some ⟨oc230, od230, .func (PySem.W.fnOf "_law_next" "_law_next" (defArgs dm230.st) (defBody dm230.st) (defScope dm230.st) .none kV230 dc230 pm230 an230 cd230 ct230), sl230⟩)
    (c230 : PySem.W.codeIn K cd230 "_law_next" = true)
    (k230 : PySem.W.keepIn K (.ref f230) = true)
    (a232 : PySem.W.nsIn K mainGlobals "_law_pick" = some (some (.ref f232)))
    (l232 : K.lookup f232 = some ⟨oc232, od232, .func (PySem.W.fnOf "_law_pick" "_law_pick" (defArgs dm232.st) (defBody dm232.st) (defScope dm232.st) .none kV232 dc232 pm232 an232 cd232 ct232), sl232⟩)
    (c232 : PySem.W.codeIn K cd232 "_law_pick" = true)
    (k232 : PySem.W.keepIn K (.ref f232) = true)
    (a491 : PySem.W.nsIn K mainGlobals "_law_ask" = some (some (.ref f491)))
    (l491 : K.lookup f491 = some ⟨oc491, od491, .func (PySem.W.fnOf "_law_ask" "_law_ask" (defArgs dm491.st) (defBody dm491.st) (defScope dm491.st) .none kV491 dc491 pm491 an491 cd491 ct491), sl491⟩)
    (c491 : PySem.W.codeIn K cd491 "_law_ask" = true)
    (k491 : PySem.W.keepIn K (.ref f491) = true)
    (a490 : PySem.W.nsIn K mainGlobals "_law_last" = some (some (.ref f490)))
    (l490 : K.lookup f490 = some ⟨oc490, od490, .func (PySem.W.fnOf "_law_last" "_law_last" (defArgs dm490.st) (defBody dm490.st) (defScope dm490.st) .none kV490 dc490 pm490 an490 cd490 ct490), sl490⟩)
    (c490 : PySem.W.codeIn K cd490 "_law_last" = true)
    (k490 : PySem.W.keepIn K (.ref f490) = true)
    (a492 : PySem.W.nsIn K mainGlobals "_law_told" = some (some (.ref f492)))
    (l492 : K.lookup f492 = some ⟨oc492, od492, .func (PySem.W.fnOf "_law_told" "_law_told" (defArgs dm492.st) (defBody dm492.st) (defScope dm492.st) .none kV492 dc492 pm492 an492 cd492 ct492), sl492⟩)
    (c492 : PySem.W.codeIn K cd492 "_law_told" = true)
    (k492 : PySem.W.keepIn K (.ref f492) = true)
    (a493 : PySem.W.nsIn K mainGlobals "law" = some (some (.ref f493)))
    (l493 : K.lookup f493 = some ⟨oc493, od493, .func (PySem.W.fnOf "law" "law" (defArgs dm493.st) (defBody dm493.st) (defScope dm493.st) .none kV493 dc493 pm493 an493 cd493 ct493), sl493⟩)
    (c493 : PySem.W.codeIn K cd493 "law" = true)
    (k493 : PySem.W.keepIn K (.ref f493) = true)
    (gQuireError : PySem.W.nsIn K mainGlobals "QuireError" = some (some (.ref CQuireError)))
    (gBadValue : PySem.W.nsIn K mainGlobals "BadValue" = some (some (.ref CBadValue)))
    (xBadValue : K.lookup CBadValue = some (excClassObj nmBadValue qnBadValue CBadValue NBadValue bsBadValue bmBadValue true snBadValue subBadValue abBadValue colBadValue ddBadValue m0BadValue m1BadValue m2BadValue m3BadValue m5BadValue "ValueError.__new__"))
    (vBadValue : PySem.HandSPX.refsVE bmBadValue = true)
    (saBadValue : PySem.W.findIn K (.ref CBadValue) "__setattr__" = some (some (.builtin "object.__setattr__")))
    (eCBadValue : PySem.W.subIn K (.ref CBadValue) (.type "BaseException") = some true) (tCBadValue : PySem.W.typeIn K (.ref CBadValue) = some (.type "type")) (kCBadValue : PySem.W.keepIn K (.ref CBadValue) = true)
    (nbBadValue : PySem.W.findIn K (.ref CBadValue) "name" = some none)
    (aBadValue : PySem.W.findIn K (.ref CBadValue) "__init__" = some (some (.ref fBadValue))) (tBadValue : PySem.W.typeIn K (.ref fBadValue) = some (.type "function"))
    (lBadValue : K.lookup fBadValue = some ⟨ocBadValue, odBadValue, .func (PySem.W.fnOf "__init__" "BadValue.__init__" (defArgs inBadValue) (defBody inBadValue) (defScope inBadValue) .none kVBadValue dcBadValue pmBadValue anBadValue cdBadValue ctBadValue), slBadValue⟩)
    (cBadValue : PySem.W.codeIn K cdBadValue "BadValue.__init__" = true)
    (gMOST_MARKS : PySem.W.nsIn K mainGlobals "MOST_MARKS" = some (some (.int 6 tMOST_MARKS)))
    (gMOST_LEAVES : PySem.W.nsIn K mainGlobals "MOST_LEAVES" = some (some (.int 16 tMOST_LEAVES)))
    (zValueError : PySem.W.nsIn K mainGlobals "ValueError" = some none)
    (zabs : PySem.W.nsIn K mainGlobals "abs" = some none)
    (zall : PySem.W.nsIn K mainGlobals "all" = some none)
    (zbool : PySem.W.nsIn K mainGlobals "bool" = some none)
    (zint : PySem.W.nsIn K mainGlobals "int" = some none)
    (zisinstance : PySem.W.nsIn K mainGlobals "isinstance" = some none)
    (zlen : PySem.W.nsIn K mainGlobals "len" = some none)
    (zlist : PySem.W.nsIn K mainGlobals "list" = some none)
    (zmin : PySem.W.nsIn K mainGlobals "min" = some none)
    (zrange : PySem.W.nsIn K mainGlobals "range" = some none)
    (ztuple : PySem.W.nsIn K mainGlobals "tuple" = some none)
    (ygQuireError : PySem.W.findIn K (.ref CQuireError) "__getattribute__" = some (some (.builtin "BaseException.__getattribute__"))) (yhQuireError : PySem.W.findIn K (.ref CQuireError) "__getattr__" = some none) (ysQuireError : PySem.W.subIn K (.ref CQuireError) (.type "BaseException") = some true) (ydQuireError : PySem.W.hasDictIn K CQuireError = true)
    (ycQuireError : PySem.W.findIn K (.ref CQuireError) "__class__" = some (some (.builtin "object.__class__"))) (ymQuireError : PySem.W.mroIn K CQuireError (.type "object") = some true) (yvQuireError : PySem.W.subIn K (.ref CQuireError) (.type "ValueError") = some true) (ytQuireError : PySem.W.typeIn K (.ref CQuireError) = some (.type "type"))
    (ykQuireErrorQuireError : PySem.W.subIn K (.ref CQuireError) (.ref CQuireError) = some true)
    (ykQuireErrorBadValue : PySem.W.subIn K (.ref CQuireError) (.ref CBadValue) = some false)
    (ygBadValue : PySem.W.findIn K (.ref CBadValue) "__getattribute__" = some (some (.builtin "BaseException.__getattribute__"))) (yhBadValue : PySem.W.findIn K (.ref CBadValue) "__getattr__" = some none) (ysBadValue : PySem.W.subIn K (.ref CBadValue) (.type "BaseException") = some true) (ydBadValue : PySem.W.hasDictIn K CBadValue = true)
    (ycBadValue : PySem.W.findIn K (.ref CBadValue) "__class__" = some (some (.builtin "object.__class__"))) (ymBadValue : PySem.W.mroIn K CBadValue (.type "object") = some true) (yvBadValue : PySem.W.subIn K (.ref CBadValue) (.type "ValueError") = some true) (ytBadValue : PySem.W.typeIn K (.ref CBadValue) = some (.type "type"))
    (ykBadValueQuireError : PySem.W.subIn K (.ref CBadValue) (.ref CQuireError) = some true)
    (ykBadValueBadValue : PySem.W.subIn K (.ref CBadValue) (.ref CBadValue) = some true)
    (yhn : PySem.W.specialIn K (.builtin "object.__class__") "__get__" = some (some (.builtin "getset_descriptor.__get__"))) (yht : PySem.W.takesIn K (.builtin "object.__class__") = some true)
    : ∃ fd : FuncData, (∀ (s : Shared) (v : Value), BindsTo s fd ⟨[v], []⟩ [("_law_script", v)]) ∧ ∀ base : Heap, K.In base → base.Ns mainGlobals mg → FnOk p w K mg base (L2.CX p w) (n + 3) fa fd ["_law_script"] (spLaw K (callN prog n 493)) := by
  have e := hfa.symm.trans (PySem.W.mg_of X G a493)
  cases e
  refine ⟨_, fun s v => .of_eq rfl, fun base _ _ => FnOk.weak (fns_ok (tab := tabL tb) (mg := mg) (base := base) (gl := gl) (C := ⟨⟨K, [], none⟩, fun k => List.lookup k [(0, CQuireError), (1, CBadValue)], fldC, none⟩) (top_mk rfl txs ?_ ?_) n 493 dm493 fd493 _ _ rfl rfl (fun_mk (st := dm493.st) l493 c493 k493)) law_weak⟩
  · exact ⟨⟨CQuireError, rfl, PySem.W.mg_of X G gQuireError, fun h => absurd rfl h⟩, ⟨CBadValue, rfl, PySem.W.mg_of X G gBadValue, fun _ => ⟨fBadValue, _, ["self", "name"], ⟨⟨nmBadValue, qnBadValue, NBadValue, bsBadValue, bmBadValue, snBadValue, subBadValue, abBadValue, colBadValue, ddBadValue, m0BadValue, m1BadValue, m2BadValue, m3BadValue, m5BadValue, xBadValue, vBadValue⟩, saBadValue, eCBadValue, tCBadValue, kCBadValue⟩, aBadValue, tBadValue, init1_ok (st := inBadValue) ⟨⟨nmBadValue, qnBadValue, NBadValue, bsBadValue, bmBadValue, snBadValue, subBadValue, abBadValue, colBadValue, ddBadValue, m0BadValue, m1BadValue, m2BadValue, m3BadValue, m5BadValue, xBadValue, vBadValue⟩, saBadValue, eCBadValue, tCBadValue, kCBadValue⟩ nbBadValue lBadValue cBadValue ⟨rfl, rfl, rfl, by decide +kernel, rfl, by decide +kernel, by decide +kernel⟩ ⟨by rfl, by rfl⟩ ⟨by rfl, by rfl⟩ (by rfl), .all fun us hl => match us, hl with | [_, _], _ => rfl⟩⟩, ⟨_, .int 6, .int 6, PySem.W.mg_of X G gMOST_MARKS, ⟨_, rfl⟩, rfl, fun _ _ _ => rv_i⟩, ⟨_, .int 16, .int 16, PySem.W.mg_of X G gMOST_LEAVES, ⟨_, rfl⟩, rfl, fun _ _ _ => rv_i⟩, ⟨fd0, dm0, _, _, rfl, rfl, PySem.W.mg_of X G a0, fun_mk (st := dm0.st) l0 c0 k0, (fun_mk (st := dm0.st) l0 c0 k0).binds (ps := dm0.ps) fun _ _ _ _ _ _ us hl => match us, hl with | [_, _, _], _ => rfl⟩, ⟨fd279, dm279, _, _, rfl, rfl, PySem.W.mg_of X G a279, fun_mk (st := dm279.st) l279 c279 k279, (fun_mk (st := dm279.st) l279 c279 k279).binds (ps := dm279.ps) fun _ _ _ _ _ _ us hl => match us, hl with | [_], _ => rfl⟩, ⟨fd280, dm280, _, _, rfl, rfl, PySem.W.mg_of X G a280, fun_mk (st := dm280.st) l280 c280 k280, (fun_mk (st := dm280.st) l280 c280 k280).binds (ps := dm280.ps) fun _ _ _ _ _ _ us hl => match us, hl with | [_, _], _ => rfl⟩, ⟨fd281, dm281, _, _, rfl, rfl, PySem.W.mg_of X G a281, fun_mk (st := dm281.st) l281 c281 k281, (fun_mk (st := dm281.st) l281 c281 k281).binds (ps := dm281.ps) fun _ _ _ _ _ _ us hl => match us, hl with | [_, _], _ => rfl⟩, ⟨fd285, dm285, _, _, rfl, rfl, PySem.W.mg_of X G a285, fun_mk (st := dm285.st) l285 c285 k285, (fun_mk (st := dm285.st) l285 c285 k285).binds (ps := dm285.ps) fun _ _ _ _ _ _ us hl => match us, hl with | [_], _ => rfl⟩, ⟨fd286, dm286, _, _, rfl, rfl, PySem.W.mg_of X G a286, fun_mk (st := dm286.st) l286 c286 k286, (fun_mk (st := dm286.st) l286 c286 k286).binds (ps := dm286.ps) fun _ _ _ _ _ _ us hl => match us, hl with | [_, _], _ => rfl⟩, ⟨fd315, dm315, _, _, rfl, rfl, PySem.W.mg_of X G a315, fun_mk (st := dm315.st) l315 c315 k315, (fun_mk (st := dm315.st) l315 c315 k315).binds (ps := dm315.ps) fun _ _ _ _ _ _ us hl => match us, hl with | [_, _], _ => rfl⟩, ⟨fd316, dm316, _, _, rfl, rfl, PySem.W.mg_of X G a316, fun_mk (st := dm316.st) l316 c316 k316, (fun_mk (st := dm316.st) l316 c316 k316).binds (ps := dm316.ps) fun _ _ _ _ _ _ us hl => match us, hl with | [_, _], _ => rfl⟩, ⟨fd349, dm349, _, _, rfl, rfl, PySem.W.mg_of X G a349, fun_mk (st := dm349.st) l349 c349 k349, (fun_mk (st := dm349.st) l349 c349 k349).binds (ps := dm349.ps) fun _ _ _ _ _ _ us hl => match us, hl with | [_], _ => rfl⟩, ⟨fd350, dm350, _, _, rfl, rfl, PySem.W.mg_of X G a350, fun_mk (st := dm350.st) l350 c350 k350, (fun_mk (st := dm350.st) l350 c350 k350).binds (ps := dm350.ps) fun _ _ _ _ _ _ us hl => match us, hl with | [_], _ => rfl⟩, ⟨fd305, dm305, _, _, rfl, rfl, PySem.W.mg_of X G a305, fun_mk (st := dm305.st) l305 c305 k305, (fun_mk (st := dm305.st) l305 c305 k305).binds (ps := dm305.ps) fun _ _ _ _ _ _ us hl => match us, hl with | [_, _], _ => rfl⟩, ⟨fd306, dm306, _, _, rfl, rfl, PySem.W.mg_of X G a306, fun_mk (st := dm306.st) l306 c306 k306, (fun_mk (st := dm306.st) l306 c306 k306).binds (ps := dm306.ps) fun _ _ _ _ _ _ us hl => match us, hl with | [_], _ => rfl⟩, ⟨fd351, dm351, _, _, rfl, rfl, PySem.W.mg_of X G a351, fun_mk (st := dm351.st) l351 c351 k351, (fun_mk (st := dm351.st) l351 c351 k351).binds (ps := dm351.ps) fun _ _ _ _ _ _ us hl => match us, hl with | [_], _ => rfl⟩, ⟨fd352, dm352, _, _, rfl, rfl, PySem.W.mg_of X G a352, fun_mk (st := dm352.st) l352 c352 k352, (fun_mk (st := dm352.st) l352 c352 k352).binds (ps := dm352.ps) fun _ _ _ _ _ _ us hl => match us, hl with | [_, _], _ => rfl⟩, ⟨fd307, dm307, _, _, rfl, rfl, PySem.W.mg_of X G a307, fun_mk (st := dm307.st) l307 c307 k307, (fun_mk (st := dm307.st) l307 c307 k307).binds (ps := dm307.ps) fun _ _ _ _ _ _ us hl => match us, hl with | [_, _], _ => rfl⟩, ⟨fd353, dm353, _, _, rfl, rfl, PySem.W.mg_of X G a353, fun_mk (st := dm353.st) l353 c353 k353, (fun_mk (st := dm353.st) l353 c353 k353).binds (ps := dm353.ps) fun _ _ _ _ _ _ us hl => match us, hl with | [_, _], _ => rfl⟩, ⟨fd488, dm488, _, _, rfl, rfl, PySem.W.mg_of X G a488, fun_mk (st := dm488.st) l488 c488 k488, (fun_mk (st := dm488.st) l488 c488 k488).binds (ps := dm488.ps) fun _ _ _ _ _ _ us hl => match us, hl with | [_, _], _ => rfl⟩, ⟨fd308, dm308, _, _, rfl, rfl, PySem.W.mg_of X G a308, fun_mk (st := dm308.st) l308 c308 k308, (fun_mk (st := dm308.st) l308 c308 k308).binds (ps := dm308.ps) fun _ _ _ _ _ _ us hl => match us, hl with | [_, _, _], _ => rfl⟩, ⟨fd309, dm309, _, _, rfl, rfl, PySem.W.mg_of X G a309, fun_mk (st := dm309.st) l309 c309 k309, (fun_mk (st := dm309.st) l309 c309 k309).binds (ps := dm309.ps) fun _ _ _ _ _ _ us hl => match us, hl with | [_, _, _], _ => rfl⟩, ⟨fd310, dm310, _, _, rfl, rfl, PySem.W.mg_of X G a310, fun_mk (st := dm310.st) l310 c310 k310, (fun_mk (st := dm310.st) l310 c310 k310).binds (ps := dm310.ps) fun _ _ _ _ _ _ us hl => match us, hl with | [_, _, _, _], _ => rfl⟩, ⟨fd229, dm229, _, _, rfl, rfl, PySem.W.mg_of X G a229, fun_mk (st := dm229.st) l229 c229 k229, (fun_mk (st := dm229.st) l229 c229 k229).binds (ps := dm229.ps) fun _ _ _ _ _ _ us hl => match us, hl with | [_], _ => rfl⟩, ⟨fd230, dm230, _, _, rfl, rfl, PySem.W.mg_of X G a230, fun_mk (st := dm230.st) l230 c230 k230, (fun_mk (st := dm230.st) l230 c230 k230).binds (ps := dm230.ps) fun _ _ _ _ _ _ us hl => match us, hl with | [_, _], _ => rfl⟩, ⟨fd232, dm232, _, _, rfl, rfl, PySem.W.mg_of X G a232, fun_mk (st := dm232.st) l232 c232 k232, (fun_mk (st := dm232.st) l232 c232 k232).binds (ps := dm232.ps) fun _ _ _ _ _ _ us hl => match us, hl with | [_, _], _ => rfl⟩, ⟨fd491, dm491, _, _, rfl, rfl, PySem.W.mg_of X G a491, fun_mk (st := dm491.st) l491 c491 k491, (fun_mk (st := dm491.st) l491 c491 k491).binds (ps := dm491.ps) fun _ _ _ _ _ _ us hl => match us, hl with | [_, _], _ => rfl⟩, ⟨fd490, dm490, _, _, rfl, rfl, PySem.W.mg_of X G a490, fun_mk (st := dm490.st) l490 c490 k490, (fun_mk (st := dm490.st) l490 c490 k490).binds (ps := dm490.ps) fun _ _ _ _ _ _ us hl => match us, hl with | [_, _], _ => rfl⟩, ⟨fd492, dm492, _, _, rfl, rfl, PySem.W.mg_of X G a492, fun_mk (st := dm492.st) l492 c492 k492, (fun_mk (st := dm492.st) l492 c492 k492).binds (ps := dm492.ps) fun _ _ _ _ _ _ us hl => match us, hl with | [_, _], _ => rfl⟩, ⟨fd493, dm493, _, _, rfl, rfl, PySem.W.mg_of X G a493, fun_mk (st := dm493.st) l493 c493 k493, (fun_mk (st := dm493.st) l493 c493 k493).binds (ps := dm493.ps) fun _ _ _ _ _ _ us hl => match us, hl with | [_], _ => rfl⟩, PySem.W.mg_none_of X G zValueError, PySem.W.mg_none_of X G zabs, PySem.W.mg_none_of X G zall, PySem.W.mg_none_of X G zbool, PySem.W.mg_none_of X G zint, PySem.W.mg_none_of X G zisinstance, PySem.W.mg_none_of X G zlen, PySem.W.mg_none_of X G zlist, PySem.W.mg_none_of X G zmin, PySem.W.mg_none_of X G zrange, PySem.W.mg_none_of X G ztuple, trivial⟩
  · exact fun _ => ⟨lookAll (Q := fun k a => ClsK K a (fldC k)) ⟨⟨ygQuireError, yhQuireError, ysQuireError, ydQuireError, ycQuireError, ymQuireError, fun n hn => by simp [fldC] at hn⟩, ⟨ygBadValue, yhBadValue, ysBadValue, ydBadValue, ycBadValue, ymBadValue, fun n hn => by simp [fldC] at hn; subst hn; exact nbBadValue⟩, trivial⟩, yhn, yht, lookAll2 (Q := fun k a k2 a2 => PySem.W.exmOne K (.ref a) (.ref a2) = some (prog.sub k k2)) ⟨⟨PySem.W.exm_ref ysQuireError ydQuireError ytQuireError ykQuireErrorQuireError, PySem.W.exm_ref ysBadValue ydBadValue ytBadValue ykQuireErrorBadValue, trivial⟩, ⟨PySem.W.exm_ref ysQuireError ydQuireError ytQuireError ykBadValueQuireError, PySem.W.exm_ref ysBadValue ydBadValue ytBadValue ykBadValueBadValue, trivial⟩, trivial⟩, lookAll2 (Q := fun k a k2 a2 => PySem.W.kitOne K (.ref a) (.ref a2) = some (prog.sub k k2)) ⟨⟨kit_ref ykQuireErrorQuireError ykQuireErrorQuireError ydQuireError ytQuireError, kit_ref ykQuireErrorBadValue ykQuireErrorQuireError ydBadValue ytBadValue, trivial⟩, ⟨kit_ref ykBadValueQuireError ykBadValueBadValue ydQuireError ytQuireError, kit_ref ykBadValueBadValue ykBadValueBadValue ydBadValue ytBadValue, trivial⟩, trivial⟩, lookAll (Q := fun k a => PySem.W.kitOne K (.ref a) (.type "ValueError") = some (prog.sub k 6)) ⟨kit_ty' yvQuireError (by decide +kernel), kit_ty' yvBadValue (by decide +kernel), trivial⟩, fun k => by rcases k with _ | _ | _ | _ | _ | _ | k <;> rfl⟩
end k07
end Qm

namespace Qm
namespace k07
instance : HasF prog 0 fd0 := ⟨rfl⟩
instance : HasF prog 279 fd279 := ⟨rfl⟩
instance : HasF prog 280 fd280 := ⟨rfl⟩
instance : HasF prog 281 fd281 := ⟨rfl⟩
instance : HasF prog 285 fd285 := ⟨rfl⟩
instance : HasF prog 286 fd286 := ⟨rfl⟩
instance : HasF prog 315 fd315 := ⟨rfl⟩
instance : HasF prog 316 fd316 := ⟨rfl⟩
instance : HasF prog 349 fd349 := ⟨rfl⟩
instance : HasF prog 350 fd350 := ⟨rfl⟩
instance : HasF prog 305 fd305 := ⟨rfl⟩
instance : HasF prog 306 fd306 := ⟨rfl⟩
instance : HasF prog 351 fd351 := ⟨rfl⟩
instance : HasF prog 352 fd352 := ⟨rfl⟩
instance : HasF prog 307 fd307 := ⟨rfl⟩
instance : HasF prog 353 fd353 := ⟨rfl⟩
instance : HasF prog 488 fd488 := ⟨rfl⟩
instance : HasF prog 308 fd308 := ⟨rfl⟩
instance : HasF prog 309 fd309 := ⟨rfl⟩
instance : HasF prog 310 fd310 := ⟨rfl⟩
instance : HasF prog 229 fd229 := ⟨rfl⟩
instance : HasF prog 230 fd230 := ⟨rfl⟩
instance : HasF prog 232 fd232 := ⟨rfl⟩
instance : HasF prog 491 fd491 := ⟨rfl⟩
instance : HasF prog 490 fd490 := ⟨rfl⟩
instance : HasF prog 492 fd492 := ⟨rfl⟩
instance : HasF prog 493 fd493 := ⟨rfl⟩
instance : HasC prog 2 (.int 6) := ⟨rfl⟩
instance : HasC prog 3 (.int 16) := ⟨rfl⟩
theorem lk_map : (l : List (Nat × FnD × DM)) → (k : Nat) → fnsL l k = (l.map fun e => (e.1, e.2.1)).lookup k
  | [], _ => rfl
  | (a, b) :: l, k => by
    have ih := lk_map l k
    unfold fnsL at ih ⊢
    rw [List.map_cons, List.lookup_cons, List.lookup_cons]
    cases h : k == a with
    | true => rfl
    | false => exact ih
theorem prog_fns : prog.fns = fnsA07 := funext fun k => (lk_map tb k).trans (congrArg (fun l => List.lookup k l) (rfl : (tb.map fun e => (e.1, e.2.1)) = tbA07))
instance : IsP prog := ⟨(congrArg (fun f => (⟨conA07, fldN, sub, f⟩ : Prog)) prog_fns : prog = _).trans rfl⟩
theorem math (ns : List Int) (_ : ns.length ≤ 63) : ∃ h, callN prog 60 493 [.scr ns] [] = .ok (.bl true) h := ⟨[], o_law_k07 29 ns (good ns)⟩
end k07
end Qm
open PySem PySem.W PyProof.Rows
set_option maxRecDepth 100000 in
set_option maxHeartbeats 0 in
theorem PySem.Challenge.cw_quiremarks_k07_refusals_of_papers_holds : PySem.Challenge.rw_quiremarks_k07_refusals_of_papers.Holds := by
  w_on; o_law; k_head; (case hw => w_witness2)
  k_fill
  refine L2.walk_of (l := PySem.Challenge.rw_quiremarks_k07_refusals_of_papers) (n := 63) (k := 63) (x := "_law_script") (CX := fun w => L2.CX (PySem.Challenge.rw_quiremarks_k07_refusals_of_papers).prog w) (sp := fun w => Qm.spLaw _ (Qm.callN Qm.k07.prog 60 493)) rfl (by decide) rfl (Qm.room_top (n := 60) (Nat.le_refl _)) (fun w h Y => PySem.W.kIn_of Y) ?F (fun _ _ a ns hl hO hS => Qm.law_sp (Qm.k07.math ns hl) (Nat.le_trans hl (by decide)) hS) (fun _ _ _ _ _ h => Qm.cx_never h)
  case F =>
    intro w mg fa h KX G hmg
    refine' Qm.k07.all_mk 60 KX G hmg ?a0 ?l0 ?c0 ?k0 ?a279 ?l279 ?c279 ?k279 ?a280 ?l280 ?c280 ?k280 ?a281 ?l281 ?c281 ?k281 ?a285 ?l285 ?c285 ?k285 ?a286 ?l286 ?c286 ?k286 ?a315 ?l315 ?c315 ?k315 ?a316 ?l316 ?c316 ?k316 ?a349 ?l349 ?c349 ?k349 ?a350 ?l350 ?c350 ?k350 ?a305 ?l305 ?c305 ?k305 ?a306 ?l306 ?c306 ?k306 ?a351 ?l351 ?c351 ?k351 ?a352 ?l352 ?c352 ?k352 ?a307 ?l307 ?c307 ?k307 ?a353 ?l353 ?c353 ?k353 ?a488 ?l488 ?c488 ?k488 ?a308 ?l308 ?c308 ?k308 ?a309 ?l309 ?c309 ?k309 ?a310 ?l310 ?c310 ?k310 ?a229 ?l229 ?c229 ?k229 ?a230 ?l230 ?c230 ?k230 ?a232 ?l232 ?c232 ?k232 ?a491 ?l491 ?c491 ?k491 ?a490 ?l490 ?c490 ?k490 ?a492 ?l492 ?c492 ?k492 ?a493 ?l493 ?c493 ?k493 ?gQuireError ?gBadValue ?xBadValue ?vBadValue ?saBadValue ?eCBadValue ?tCBadValue ?kCBadValue ?nbBadValue ?aBadValue ?tBadValue ?lBadValue ?cBadValue ?gMOST_MARKS ?gMOST_LEAVES ?zValueError ?zabs ?zall ?zbool ?zint ?zisinstance ?zlen ?zlist ?zmin ?zrange ?ztuple ?ygQuireError ?yhQuireError ?ysQuireError ?ydQuireError ?ycQuireError ?ymQuireError ?yvQuireError ?ytQuireError ?ykQuireErrorQuireError ?ykQuireErrorBadValue ?ygBadValue ?yhBadValue ?ysBadValue ?ydBadValue ?ycBadValue ?ymBadValue ?yvBadValue ?ytBadValue ?ykBadValueQuireError ?ykBadValueBadValue ?yhn ?yht
    (case a0 => k_is); (case l0 => k_is); (case c0 => k_is); (case k0 => k_is); (case a279 => k_is); (case l279 => k_is); (case c279 => k_is); (case k279 => k_is); (case a280 => k_is); (case l280 => k_is); (case c280 => k_is); (case k280 => k_is); (case a281 => k_is); (case l281 => k_is); (case c281 => k_is); (case k281 => k_is); (case a285 => k_is); (case l285 => k_is); (case c285 => k_is); (case k285 => k_is); (case a286 => k_is); (case l286 => k_is); (case c286 => k_is); (case k286 => k_is); (case a315 => k_is); (case l315 => k_is); (case c315 => k_is); (case k315 => k_is); (case a316 => k_is); (case l316 => k_is); (case c316 => k_is); (case k316 => k_is); (case a349 => k_is); (case l349 => k_is); (case c349 => k_is); (case k349 => k_is); (case a350 => k_is); (case l350 => k_is); (case c350 => k_is); (case k350 => k_is); (case a305 => k_is); (case l305 => k_is); (case c305 => k_is); (case k305 => k_is); (case a306 => k_is); (case l306 => k_is); (case c306 => k_is); (case k306 => k_is); (case a351 => k_is); (case l351 => k_is); (case c351 => k_is); (case k351 => k_is); (case a352 => k_is); (case l352 => k_is); (case c352 => k_is); (case k352 => k_is); (case a307 => k_is); (case l307 => k_is); (case c307 => k_is); (case k307 => k_is); (case a353 => k_is); (case l353 => k_is); (case c353 => k_is); (case k353 => k_is); (case a488 => k_is); (case l488 => k_is); (case c488 => k_is); (case k488 => k_is); (case a308 => k_is); (case l308 => k_is); (case c308 => k_is); (case k308 => k_is); (case a309 => k_is); (case l309 => k_is); (case c309 => k_is); (case k309 => k_is); (case a310 => k_is); (case l310 => k_is); (case c310 => k_is); (case k310 => k_is); (case a229 => k_is); (case l229 => k_is); (case c229 => k_is); (case k229 => k_is); (case a230 => k_is); (case l230 => k_is); (case c230 => k_is); (case k230 => k_is); (case a232 => k_is); (case l232 => k_is); (case c232 => k_is); (case k232 => k_is); (case a491 => k_is); (case l491 => k_is); (case c491 => k_is); (case k491 => k_is); (case a490 => k_is); (case l490 => k_is); (case c490 => k_is); (case k490 => k_is); (case a492 => k_is); (case l492 => k_is); (case c492 => k_is); (case k492 => k_is); (case a493 => k_is); (case l493 => k_is); (case c493 => k_is); (case k493 => k_is); (case gQuireError => k_is); (case gBadValue => k_is); (case xBadValue => k_is); (case saBadValue => k_is); (case eCBadValue => k_is); (case tCBadValue => k_is); (case kCBadValue => k_is); (case nbBadValue => k_is); (case aBadValue => k_is); (case tBadValue => k_is); (case lBadValue => k_is); (case cBadValue => k_is); (case gMOST_MARKS => k_is); (case gMOST_LEAVES => k_is); (case zValueError => k_is); (case zabs => k_is); (case zall => k_is); (case zbool => k_is); (case zint => k_is); (case zisinstance => k_is); (case zlen => k_is); (case zlist => k_is); (case zmin => k_is); (case zrange => k_is); (case ztuple => k_is); (case ygQuireError => k_is); (case yhQuireError => k_is); (case ysQuireError => k_is); (case ydQuireError => k_is); (case ycQuireError => k_is); (case ymQuireError => k_is); (case yvQuireError => k_is); (case ytQuireError => k_is); (case ykQuireErrorQuireError => k_is); (case ykQuireErrorBadValue => k_is); (case ygBadValue => k_is); (case yhBadValue => k_is); (case ysBadValue => k_is); (case ydBadValue => k_is); (case ycBadValue => k_is); (case ymBadValue => k_is); (case yvBadValue => k_is); (case ytBadValue => k_is); (case ykBadValueQuireError => k_is); (case ykBadValueBadValue => k_is); (case yhn => k_is); (case yht => k_is); (case vBadValue => decide +kernel)

