import PyProof.Rows.All
import Wide.All
import OpenK.AllK
import Wide.FinOn
import HandS.ForMost
import HandS.ForExc
import HandS.Wide
import HandS.IsInst
import HandS.Iter
import HandS.Zip
import HandS.Flow
import HandS.ExcOwn
import HandS.CallLocal
import HandS.Conv
import HandS.More
import HandS.Small
import HandS.Dict
import KE.GoesMore
import HandS.HeadHook2
import PySem.Syntax
import HandS.TupAny
import KE.DataCmp
import KE.SortData
import KE.KTupSum
import HandS.TupMul
import HandS.ExcSuper
import HandS.ExcInit
import HandS.ExcField
import KE.KSuper
import KE.KExcInit
import KE.KExcSuper
import HandS.Exc
import HandS.HeadEnd
import KE.KStateDown
import HandS.Ends
import HandS.Words
import HandS.WordsExc
import HandS.Head0
import HandS.Head1
import HandS.Head2
import PySem.Challenge.RW_eachsecond_k07_whole_seconds_in_bands
set_option Elab.async false
set_option linter.all false
namespace Ap
open PySem (Str)

/-! ### data -/
/-- what never changes and names no object -/
inductive D where
  | non
  | bl (b : Bool)
  | int (i : Int)
  | str (s : Str)
  | tup (ds : List D)
deriving Inhabited

/-- a value: data; an object of the store; a tuple that names objects; a global function -/
inductive Val where
  | dat (d : D)
  | ref (i : Nat)
  | tup (xs : List Val)
  | fn (g : Str)
  | scr (ns : List Int)
deriving Inhabited

inductive Obj where
  | lst (xs : List Val)
  | dct (kvs : List (D × Val))
  | ins (C : Str) (fs : List (Str × Val))
deriving Inhabited

/-- what an expression gives: a value, or a new object that nobody else holds -/
inductive TV where
  | val (x : Val)
  | new (o : Obj)
deriving Inhabited

mutual
def D.beq : D → D → Bool
  | .non, .non => true
  | .bl a, .bl b => a == b
  | .int a, .int b => decide (a = b)
  | .str a, .str b => decide (a = b)
  | .tup a, .tup b => D.beqs a b
  | _, _ => false
def D.beqs : List D → List D → Bool
  | [], [] => true
  | x :: xs, y :: ys => D.beq x y && D.beqs xs ys
  | _, _ => false
end
mutual
theorem D.beq_eq : ∀ (x y : D), D.beq x y = true → x = y
  | .non, y, h => by cases y <;> simp [D.beq] at h; rfl
  | .bl a, y, h => by cases y <;> simp [D.beq] at h; subst h; rfl
  | .int a, y, h => by cases y <;> simp [D.beq] at h; subst h; rfl
  | .str a, y, h => by cases y <;> simp [D.beq] at h; subst h; rfl
  | .tup a, y, h => by cases y <;> simp [D.beq] at h; rw [D.beqs_eq a _ h]
theorem D.beqs_eq : ∀ (x y : List D), D.beqs x y = true → x = y
  | [], y, h => by cases y <;> simp [D.beqs] at h; rfl
  | a :: x, y, h => by
    cases y with
    | nil => simp [D.beqs] at h
    | cons b y =>
      simp [D.beqs] at h
      rw [D.beq_eq a b h.1, D.beqs_eq x y h.2]
end
mutual
theorem D.beq_self : ∀ x : D, D.beq x x = true
  | .non => rfl
  | .bl a => by simp [D.beq]
  | .int a => by simp [D.beq]
  | .str a => by simp [D.beq]
  | .tup a => by simp [D.beq]; exact D.beqs_self a
theorem D.beqs_self : ∀ x : List D, D.beqs x x = true
  | [] => rfl
  | a :: x => by simp [D.beqs]; exact ⟨D.beq_self a, D.beqs_self x⟩
end
instance : DecidableEq D := fun x y => if h : D.beq x y = true then .isTrue (D.beq_eq x y h) else .isFalse fun e => h (e ▸ D.beq_self x)

mutual
def Val.beq : Val → Val → Bool
  | .dat a, .dat b => D.beq a b
  | .ref a, .ref b => a == b
  | .tup a, .tup b => Val.beqs a b
  | .fn a, .fn b => decide (a = b)
  | .scr a, .scr b => decide (a = b)
  | _, _ => false
def Val.beqs : List Val → List Val → Bool
  | [], [] => true
  | x :: xs, y :: ys => Val.beq x y && Val.beqs xs ys
  | _, _ => false
end
mutual
theorem Val.beq_eq : ∀ (x y : Val), Val.beq x y = true → x = y
  | .dat a, y, h => by cases y <;> simp [Val.beq] at h; rw [D.beq_eq _ _ h]
  | .ref a, y, h => by cases y <;> simp [Val.beq] at h; subst h; rfl
  | .fn a, y, h => by cases y <;> simp [Val.beq] at h; subst h; rfl
  | .scr a, y, h => by cases y <;> simp [Val.beq] at h; subst h; rfl
  | .tup a, y, h => by cases y <;> simp [Val.beq] at h; rw [Val.beqs_eq a _ h]
theorem Val.beqs_eq : ∀ (x y : List Val), Val.beqs x y = true → x = y
  | [], y, h => by cases y <;> simp [Val.beqs] at h; rfl
  | a :: x, y, h => by
    cases y with
    | nil => simp [Val.beqs] at h
    | cons b y =>
      simp [Val.beqs] at h
      rw [Val.beq_eq a b h.1, Val.beqs_eq x y h.2]
end
mutual
theorem Val.beq_self : ∀ x : Val, Val.beq x x = true
  | .dat a => by simp [Val.beq]; exact D.beq_self a
  | .ref a => by simp [Val.beq]
  | .fn a => by simp [Val.beq]
  | .scr a => by simp [Val.beq]
  | .tup a => by simp [Val.beq]; exact Val.beqs_self a
theorem Val.beqs_self : ∀ x : List Val, Val.beqs x x = true
  | [] => rfl
  | a :: x => by simp [Val.beqs]; exact ⟨Val.beq_self a, Val.beqs_self x⟩
end
instance : DecidableEq Val := fun x y => if h : Val.beq x y = true then .isTrue (Val.beq_eq x y h) else .isFalse fun e => h (e ▸ Val.beq_self x)
instance : DecidableEq Obj := fun x y => match x, y with
  | .lst a, .lst b => if h : a = b then .isTrue (by rw [h]) else .isFalse fun e => h (by injection e)
  | .dct a, .dct b => if h : a = b then .isTrue (by rw [h]) else .isFalse fun e => h (by injection e)
  | .ins c a, .ins d b => if h : c = d ∧ a = b then .isTrue (by rw [h.1, h.2]) else .isFalse fun e => h (by injection e with e1 e2; exact ⟨e1, e2⟩)
  | .lst _, .dct _ | .lst _, .ins _ _ | .dct _, .lst _ | .dct _, .ins _ _ | .ins _ _, .lst _ | .ins _ _, .dct _ => .isFalse nofun
end Ap
set_option Elab.async false
set_option linter.all false
namespace Ap
open PySem (Str)

def line : Nat := 16777216

/-! ### the store -/
abbrev Store := List Obj

mutual
/-- one more than the greatest object that is named -/
def Val.mx : Val → Nat
  | .dat _ => 0
  | .ref i => i + 1
  | .tup xs => Val.mxs xs
  | .fn _ => 0
  | .scr _ => 0
def Val.mxs : List Val → Nat
  | [] => 0
  | x :: xs => max x.mx (Val.mxs xs)
end
def mxP {α : Type} : List (α × Val) → Nat
  | [] => 0
  | p :: r => max p.2.mx (mxP r)
def Obj.mx : Obj → Nat
  | .lst xs => Val.mxs xs
  | .dct kvs => mxP kvs
  | .ins _ fs => mxP fs
def TV.mx : TV → Nat
  | .val x => x.mx
  | .new o => o.mx
/-- nothing names an object at n or above -/
def closed (n : Nat) (S : Store) : Bool := S.all fun o => decide (o.mx ≤ n)

/-! ### results -/
structure Exc where
  cls : Str
  fs : List (Str × Val)
deriving Inhabited
inductive R (α : Type) where
  | ok (a : α) (S : Store)
  | exc (x : Exc) (S : Store)
  | bad
deriving Inhabited
def R.bind {α β : Type} (r : R α) (k : α → Store → R β) : R β := match r with
  | .ok a S => k a S
  | .exc x S => .exc x S
  | .bad => .bad
def orBad {α β : Type} (o : Option α) (k : α → R β) : R β := match o with
  | some a => k a
  | none => .bad

abbrev Env := List (Option Val)

/-! ### values -/
def datsOf : List Val → Option (List D)
  | [] => some []
  | .dat d :: r => (datsOf r).map (d :: ·)
  | _ :: _ => none
def mkTup (xs : List Val) : Val := match datsOf xs with
  | some ds => .dat (.tup ds)
  | none => .tup xs
def prom (t : TV) (S : Store) : Val × Store := match t with
  | .val x => (x, S)
  | .new o => (.ref S.length, S ++ [o])
def proms : List TV → Store → List Val × Store
  | [], S => ([], S)
  | t :: r, S => ((prom t S).1 :: (proms r (prom t S).2).1, (proms r (prom t S).2).2)
def signs (s : Str) : List D := s.cps.toList.map fun c => .str ⟨#[c]⟩

def D.truth : D → Bool
  | .non => false
  | .bl b => b
  | .int i => i != 0
  | .str s => (s.length : Int) != 0
  | .tup ds => !ds.isEmpty
def Obj.truth : Obj → Option Bool
  | .lst xs => some (!xs.isEmpty)
  | .dct kvs => some (!kvs.isEmpty)
  | .ins _ _ => none
def truth (t : TV) (S : Store) : Option Bool := match t with
  | .val (.dat d) => some d.truth
  | .val (.tup xs) => some (!xs.isEmpty)
  | .val (.ref i) => (S[i]?).bind Obj.truth
  | .val (.fn _) => none
  | .val (.scr ns) => some (!ns.isEmpty)
  | .new o => o.truth

/-- the object behind a value -/
def objOf (t : TV) (S : Store) : Option Obj := match t with
  | .val (.ref i) => S[i]?
  | .new o => some o
  | _ => none
def lstOf (t : TV) (S : Store) : Option (List Val) := match t with
  | .val (.scr ns) => some (ns.map fun i => .dat (.int i))
  | _ => match objOf t S with
    | some (.lst xs) => some xs
    | _ => none
/-- the items of a list or tuple -/
def seqOf (t : TV) (S : Store) : Option (List Val) := match t with
  | .val (.dat (.tup ds)) => some (ds.map .dat)
  | .val (.tup xs) => some xs
  | _ => lstOf t S
/-- what is walked, and what must stand as it is -/
structure Src where
  xs : List Val
  lv : List (Nat × Obj) := []
def srcOf (t : TV) (S : Store) : Option Src := match t with
  | .val (.dat (.tup ds)) => some ⟨ds.map .dat, []⟩
  | .val (.dat (.str s)) => some ⟨(signs s).map .dat, []⟩
  | .val (.tup xs) => some ⟨xs, []⟩
  | .val (.ref i) => match S[i]? with
    | some (.lst xs) => some ⟨xs, [(i, .lst xs)]⟩
    | _ => none
  | .val (.scr ns) => some ⟨ns.map fun i => .dat (.int i), []⟩
  | .new (.lst xs) => some ⟨xs, []⟩
  | _ => none
def sqSrc (t : TV) (S : Store) : Option Src := match t with
  | .val (.dat (.str _)) => none
  | _ => srcOf t S
def Src.still (s : Src) (S : Store) : Bool := s.lv.all fun p => decide (S[p.1]? = some p.2)
/-- lo, lo + 1, .. -/
def upto (lo : Int) : Nat → List Val
  | 0 => []
  | n + 1 => .dat (.int lo) :: upto (lo + 1) n
def zipV : List Val → List Val → List Val
  | x :: xs, y :: ys => mkTup [x, y] :: zipV xs ys
  | _, _ => []
def enmV (k : Int) : List Val → List Val
  | [] => []
  | x :: xs => mkTup [.dat (.int k), x] :: enmV (k + 1) xs

/-! ### order -/
mutual
def D.alike : D → D → Bool
  | .non, .non => true
  | .bl _, .bl _ => true
  | .int _, .int _ => true
  | .str _, .str _ => true
  | .tup a, .tup b => D.alikes a b
  | _, _ => false
def D.alikes : List D → List D → Bool
  | x :: xs, y :: ys => D.alike x y && D.alikes xs ys
  | [], _ => true
  | _ :: _, [] => true
end
mutual
/-- <, of alike data -/
def D.lt : D → D → Bool
  | .bl a, .bl b => !a && b
  | .int a, .int b => decide (a < b)
  | .str a, .str b => decide (a.cps.toList < b.cps.toList)
  | .tup a, .tup b => D.lts a b
  | _, _ => false
def D.lts : List D → List D → Bool
  | x :: xs, y :: ys => if D.beq x y then D.lts xs ys else D.lt x y
  | [], _ :: _ => true
  | _, [] => false
end
mutual
/-- == -/
def D.eqv : D → D → Bool
  | .non, .non => true
  | .bl a, .bl b => a == b
  | .bl a, .int j => decide ((if a then (1 : Int) else 0) = j)
  | .int i, .bl b => decide (i = if b then (1 : Int) else 0)
  | .int i, .int j => decide (i = j)
  | .str a, .str b => decide (a = b)
  | .tup a, .tup b => D.eqvs a b
  | _, _ => false
def D.eqvs : List D → List D → Bool
  | [], [] => true
  | x :: xs, y :: ys => D.eqv x y && D.eqvs xs ys
  | _, _ => false
end
mutual
def D.depth : D → Nat
  | .tup ds => D.depths ds + 1
  | _ => 0
def D.depths : List D → Nat
  | [] => 0
  | x :: xs => max x.depth (D.depths xs)
end
def allAlike (ds : List D) : Bool := ds.all fun x => ds.all fun y => D.alike x y
def isTup1 : D → Bool
  | .tup (_ :: _) => true
  | _ => false
def isPlain : D → Bool
  | .tup _ => false
  | .non => false
  | _ => true
def sortable (ds : List D) : Bool := ds.all isTup1 || ds.all isPlain
def leD (a b : D) : Bool := !D.lt b a
def sortD (ds : List D) : Option (List D) := if allAlike ds && sortable ds && ds.all (fun d => decide (d.depth ≤ 60)) then some (ds.mergeSort leD) else none

/-! ### operators -/
inductive Bop where
  | add | sub | mul | fdiv | mod | pow
deriving DecidableEq
inductive Cop where
  | lt | le | gt | ge | eq | ne | is | isnot | isin | notin
deriving DecidableEq

def mulOk (i j : Int) : Bool := decide (i.natAbs < 2 ^ 64) || decide (j.natAbs < 2 ^ 64) || (decide (i.natAbs < 2 ^ 4000) && decide (j.natAbs < 2 ^ 4000))
def binD (op : Bop) (a b : D) : Option D := match op, a, b with
  | .add, .int i, .int j => some (.int (i + j))
  | .sub, .int i, .int j => some (.int (i - j))
  | .mul, .int i, .int j => if mulOk i j then some (.int (i * j)) else none
  | .fdiv, .int i, .int j => if decide (0 < j) && decide (j.natAbs < 2 ^ 8000) then some (.int (i / j)) else none
  | .mod, .int i, .int j => if 0 < j then some (.int (i % j)) else none
  | .pow, .int i, .int j => if decide (0 ≤ j) && decide (j ≤ 1000) && decide (i.natAbs < 2 ^ 64) then some (.int (i ^ j.toNat)) else none
  | .add, .str a, .str b => if a.length + b.length ≤ line then some (.str (a ++ b)) else none
  | .add, .tup a, .tup b => if a.length + b.length ≤ line then some (.tup (a ++ b)) else none
  | .mul, .tup a, .int k => if !a.isEmpty && decide (2 ≤ k) && decide (k ≤ 1000) && decide (a.length ≤ 1000) then some (.tup (List.replicate k.toNat a).flatten) else none
  | _, _, _ => none
def bin (op : Bop) (a b : TV) (S : Store) : Option TV := match a, b with
  | .val (.dat x), .val (.dat y) => (binD op x y).map fun d => .val (.dat d)
  | _, _ => match op, objOf a S, objOf b S with
    | .add, some (.lst xs), some (.lst ys) => if xs.length + ys.length ≤ line then some (.new (.lst (xs ++ ys))) else none
    | .mul, some (.lst xs), _ => match b with
      | .val (.dat (.int k)) => if decide (k < 2 ^ 62) && decide (-(2 ^ 62) < k) && decide (xs.length * k.toNat ≤ line) then some (.new (.lst (List.replicate k.toNat xs).flatten)) else none
      | _ => none
    | _, _, _ => none

def Val.isNon : Val → Bool
  | .dat .non => true
  | _ => false
def TV.isNon : TV → Bool
  | .val x => x.isNon
  | _ => false
def inStr (a b : Str) : Bool := decide (a.length = 1) && b.cps.toList.contains (a.cps.getD 0 0)
def ordOk (a b : D) : Bool := D.alike a b && !(match a with | .non => true | _ => false) && decide (a.depth ≤ 60)
def cmpD (op : Cop) (a b : D) : Option Bool := match op with
  | .lt => if ordOk a b then some (D.lt a b) else none
  | .le => if ordOk a b then some (!D.lt b a) else none
  | .gt => if ordOk a b then some (D.lt b a) else none
  | .ge => if ordOk a b then some (!D.lt a b) else none
  | .eq => if decide (a.depth ≤ 60) && decide (b.depth ≤ 60) then some (D.eqv a b) else none
  | .ne => if decide (a.depth ≤ 60) && decide (b.depth ≤ 60) then some (!D.eqv a b) else none
  | _ => none
def D.flat : D → Bool
  | .tup _ => false
  | _ => true
/-- x in a list or tuple -/
def inSeq (x : TV) (b : TV) (S : Store) : Option Bool := match x with
  | .val (.dat d) => (seqOf b S).bind fun xs => (datsOf xs).bind fun ds => if d.flat && ds.all D.flat then some (ds.any fun y => D.eqv y d) else none
  | _ => none
def cmp (op : Cop) (a b : TV) (S : Store) : Option Bool := match op with
  | .is => match b with
    | .val (.dat .non) => some a.isNon
    | _ => none
  | .isnot => match b with
    | .val (.dat .non) => some (!a.isNon)
    | _ => none
  | .isin => match a, b with
    | .val (.dat (.str x)), .val (.dat (.str y)) => if x.length = 1 then some (inStr x y) else none
    | _, _ => inSeq a b S
  | .notin => match a, b with
    | .val (.dat (.str x)), .val (.dat (.str y)) => if x.length = 1 then some (!inStr x y) else none
    | _, _ => (inSeq a b S).map (!·)
  | _ => match a, b with
    | .val (.dat x), .val (.dat y) => cmpD op x y
    | _, _ => none

/-- the place that an index means -/
def place (n : Nat) (i : Int) : Option Nat := if 0 ≤ i then (if i < n then some i.toNat else none) else if -(n : Int) ≤ i then some (i + n).toNat else none
def item {α : Type} (xs : List α) (i : Int) : Option α := (place xs.length i).bind fun j => xs[j]?
def index (a i : TV) (S : Store) : Option TV := match i with
  | .val (.dat (.int k)) => match a with
    | .val (.dat (.str s)) => (item (signs s) k).map fun d => .val (.dat d)
    | _ => (seqOf a S).bind fun xs => (item xs k).map .val
  | _ => none
def cutIx (n d : Nat) : Option Int → Nat
  | none => d
  | some v => if v < 0 then (v + (n : Int)).toNat else min v.toNat n
def cut {α : Type} (xs : List α) (lo hi : Option Int) : List α := (xs.drop (cutIx xs.length 0 lo)).take (cutIx xs.length xs.length hi - cutIx xs.length 0 lo)
def slice (a : TV) (lo hi : Option Int) (S : Store) : Option TV := match a with
  | .val (.dat (.tup ds)) => some (.val (.dat (.tup (cut ds lo hi))))
  | .val (.tup xs) => some (.val (mkTup (cut xs lo hi)))
  | .val (.dat _) => none
  | _ => (lstOf a S).map fun xs => .new (.lst (cut xs lo hi))

/-! ### built-in functions -/
inductive Ty where
  | int | str | bool | list | tuple
deriving DecidableEq
inductive Bi where
  | len | int | sum | tuple | list | all | any | min2 | max2 | sorted
deriving DecidableEq
def isTy (t : TV) (S : Store) : Ty → Option Bool := fun ty => match t with
  | .val (.dat d) => some (match d, ty with
    | .int _, .int => true
    | .bl _, .int => true
    | .bl _, .bool => true
    | .str _, .str => true
    | .tup _, .tuple => true
    | _, _ => false)
  | .val (.tup _) => some (decide (ty = .tuple))
  | .val (.fn _) => none
  | .val (.scr _) => some (decide (ty = .list))
  | _ => match objOf t S with
    | some (.lst _) => some (decide (ty = .list))
    | _ => none
def intsOf : List Val → Option (List Int)
  | [] => some []
  | .dat (.int i) :: r => (intsOf r).map (i :: ·)
  | _ :: _ => none
def blsOf : List Val → Option (List Bool)
  | [] => some []
  | .dat (.bl i) :: r => (blsOf r).map (i :: ·)
  | _ :: _ => none
def vI (i : Int) : TV := .val (.dat (.int i))
def vB (b : Bool) : TV := .val (.dat (.bl b))
def lenT (t : TV) (S : Store) : Option Nat := match t with
  | .val (.dat (.str s)) => some s.length
  | _ => (seqOf t S).map List.length
def intT (t : TV) : Option Int := match t with
  | .val (.dat (.int i)) => some i
  | _ => none
def keyT (t : TV) : Option D := match t with
  | .val (.dat (.int i)) => some (.int i)
  | .val (.dat (.str x)) => some (.str x)
  | _ => none
def getD (ps : List (D × Val)) (d : D) : Option Val := (ps.find? fun p => decide (p.1 = d)).map (·.2)
def putD (ps : List (D × Val)) (d : D) (x : Val) : List (D × Val) := if (ps.any fun p => decide (p.1 = d)) = true then ps.map (fun p => if p.1 = d then (p.1, x) else p) else ps ++ [(d, x)]
def mergeD (ps : List (D × Val)) : List (D × Val) := ps.foldl (fun acc p => putD acc p.1 p.2) []
def dctOf (t : TV) (S : Store) : Option (List (D × Val)) := match objOf t S with
  | some (.dct ps) => some ps
  | _ => none
def intKeys : List (D × Val) → Option (List Int)
  | [] => some []
  | (.int i, _) :: r => (intKeys r).map (i :: ·)
  | _ :: _ => none
def sortK (ps : List (D × Val)) : Option TV := (intKeys ps).bind fun ns => if ns.length < 64 then some (.new (.lst ((ns.mergeSort fun a b => decide (a ≤ b)).map fun i => .dat (.int i)))) else none
/-- the least, the greatest of ints -/
def minI : List Int → Option Int
  | [] => none
  | a :: r => some (r.foldl (fun m x => if x < m then x else m) a)
def maxI : List Int → Option Int
  | [] => none
  | a :: r => some (r.foldl (fun m x => if m < x then x else m) a)
def sortL (xs : List Val) : Option TV := (datsOf xs).bind fun ds => (sortD ds).map fun ys => .new (.lst (ys.map .dat))
def bi1 (f : Bi) (a : TV) (S : Store) : Option TV := match f with
  | .len => (lenT a S).map fun (n : Nat) => vI (n : Int)
  | .int => (intT a).map vI
  | .sum => (seqOf a S).bind fun xs => (intsOf xs).map fun ns => vI ns.sum
  | .tuple => (seqOf a S).map fun xs => .val (mkTup xs)
  | .list => (seqOf a S).map fun xs => .new (.lst xs)
  | .all => (lstOf a S).bind fun xs => (blsOf xs).map fun bs => vB (bs.all id)
  | .any => (lstOf a S).bind fun xs => (blsOf xs).map fun bs => vB (bs.any id)
  | .sorted => match dctOf a S with
    | some ps => sortK ps
    | none => (lstOf a S).bind sortL
  | .min2 => (lstOf a S).bind fun xs => (intsOf xs).bind fun ns => (minI ns).map vI
  | .max2 => (lstOf a S).bind fun xs => (intsOf xs).bind fun ns => (maxI ns).map vI
def bi2 (f : Bi) (a b : TV) : Option TV := match f with
  | .min2 => (intT a).bind fun i => (intT b).map fun j => vI (if j < i then j else i)
  | .max2 => (intT a).bind fun i => (intT b).map fun j => vI (if j > i then j else i)
  | _ => none
def biF (f : Bi) (as : List TV) (S : Store) : Option TV := match as with
  | [a] => bi1 f a S
  | [a, b] => bi2 f a b
  | _ => none
end Ap
set_option Elab.async false
set_option linter.all false
namespace Ap
open PySem (Str)

/-! ### the text -/
mutual
inductive Tg where
  | nm (i : Nat)
  | tp (ts : Tgs)
inductive Tgs where
  | nil
  | cons (t : Tg) (r : Tgs)
end
mutual
inductive E where
  | c (d : D)
  | v (i : Nat)
  | g (x : Str)
  | bin (op : Bop) (a b : E)
  | neg (a : E)
  | cmp (op : Cop) (a b : E)
  | cmp2 (o1 o2 : Cop) (a b c : E)
  | no (a : E)
  | and (es : Es)
  | or (es : Es)
  | ife (t a b : E)
  | tup (es : Es)
  | lst (es : Es)
  | dct (ps : Ps)
  | call (f : Str) (es ks : Es)
  | bi (f : Bi) (es : Es)
  | ix (a i : E)
  | sl (a : E) (lo hi : Oe)
  | isi (a : E) (tys : List Ty)
  | lc (elt : E) (own : List Nat) (tg : Tg) (it : It) (ifs : Es)
inductive Es where
  | nil
  | cons (e : E) (r : Es)
inductive Ps where
  | nil
  | cons (k v : E) (r : Ps)
inductive It where
  | e (a : E)
  | rg1 (a : E)
  | rg2 (a b : E)
  | zip (a b : E)
  | enm (a : E)
inductive Oe where
  | no
  | so (e : E)
end
mutual
inductive S where
  | ex (e : E)
  | as (i : Nat) (e : E)
  | un (t : Tg) (e : E)
  | par (i j : Nat) (es : Es)
  | ix (o i e : E)
  | aun (i : Nat) (sub : Bool) (e : E)
  | app (o e : E)
  | ret (e : E)
  | ret0
  | if_ (t : E) (a b : Ss)
  | for_ (t : Tg) (it : It) (b : Ss)
  | whl (t : E) (b : Ss)
  | brk
  | cnt
  | pas
  | nev
  | fg (js : List Nat)
  | rais (C : Str) (e : E)
  | tr (e : E) (C : Str) (j : Nat) (s f : Str)
inductive Ss where
  | nil
  | cons (s : S) (r : Ss)
end

/-! ### what it means -/
abbrev Or := Str → List Val → Store → R TV
structure Ctx where
  consts : Str → Option D
  fns : Str → Bool
  cl : Or
  fuel : Nat
  cls : Str → Option Str := fun _ => none

/-- the items of a tuple -/
def tupOf : Val → Option (List Val)
  | .dat (.tup ds) => some (ds.map .dat)
  | .tup xs => some xs
  | _ => none
mutual
/-- a target takes a value -/
def asg : Tg → Val → Env → Option Env
  | .nm i, x, ρ => if i < ρ.length then some (ρ.set i (some x)) else none
  | .tp ts, x, ρ => (tupOf x).bind fun xs => asgs ts xs ρ
def asgs : Tgs → List Val → Env → Option Env
  | .nil, [], ρ => some ρ
  | .cons t r, x :: xs, ρ => (asg t x ρ).bind fun ρ' => asgs r xs ρ'
  | _, _, _ => none
end
mutual
def Tg.slots : Tg → List Nat
  | .nm i => [i]
  | .tp ts => Tgs.slots ts
def Tgs.slots : Tgs → List Nat
  | .nil => []
  | .cons t r => t.slots ++ r.slots
end
def wipe (ρ : Env) : List Nat → Env
  | [] => ρ
  | v :: vs => (wipe ρ vs).set v none
/-- behind a call: what is new is given up where it can be -/
def settle (n : Nat) (t : TV) (S : Store) : R TV :=
  if closed n (S.take n) then
    match t with
    | .val (.ref i) =>
      if i < n then .ok t (S.take n) else
        match S[i]? with
        | some o => if o.mx ≤ n then .ok (.new o) (S.take n) else .ok t S
        | none => .bad
    | _ => if t.mx ≤ n then .ok t (S.take n) else .ok t S
  else .ok t S
def settleX (n : Nat) (x : Exc) (S : Store) : R TV :=
  if closed n (S.take n) && decide (mxP x.fs ≤ n) then .exc x (S.take n) else .exc x S
def called (cl : Or) (f : Str) (ts : List TV) (S : Store) : R TV :=
  match cl f (proms ts S).1 (proms ts S).2 with
  | .ok t S' => settle S.length t S'
  | .exc x S' => settleX S.length x S'
  | .bad => .bad
def lcLoop (step : Val → Store → R (Option Val)) (src : Src) : List Val → Store → R (List Val)
  | [], S => if src.still S then .ok [] S else .bad
  | x :: xs, S => if src.still S then
      match step x S with
      | .ok (some y) S' => (lcLoop step src xs S').bind fun ys S'' => .ok (y :: ys) S''
      | .ok none S' => lcLoop step src xs S'
      | _ => .bad
    else .bad
def bound : Int := 2 ^ 62
@[irreducible] def okR (i : Int) : Bool := decide (-bound ≤ i) && decide (i < bound)

/-! ### how expressions run -/
abbrev ME := Env → Store → R TV
abbrev MT := Env → Store → R Bool
abbrev MA := Env → Store → R (List TV)
abbrev MO := Env → Store → R (Option Int)
abbrev MI := Env → Store → R Src
def mVar (i : Nat) : ME := fun ρ S => match ρ[i]? with
  | some (some x) => .ok (.val x) S
  | _ => .bad
def mBin (f : TV → TV → Store → Option TV) (ma mb : ME) : ME := fun ρ S => (ma ρ S).bind fun x S1 => (mb ρ S1).bind fun y S2 => orBad (f x y S2) fun z => .ok z S2
def mNeg (ma : ME) : ME := fun ρ S => (ma ρ S).bind fun x S1 => orBad (intT x) fun i => .ok (vI (-i)) S1
def blT (t : TV) : Option Bool := match t with
  | .val (.dat (.bl b)) => some b
  | _ => none
def mNot (ma : ME) : ME := fun ρ S => (ma ρ S).bind fun x S1 => orBad (blT x) fun b => .ok (vB (!b)) S1
def mAnd (ma mb : ME) : ME := fun ρ S => (ma ρ S).bind fun x S1 => orBad (blT x) fun k => if k then mb ρ S1 else .ok (vB false) S1
def mOr (ma mb : ME) : ME := fun ρ S => (ma ρ S).bind fun x S1 => orBad (blT x) fun k => if k then .ok (vB true) S1 else mb ρ S1
def cmpT (op : Cop) : TV → TV → Store → Option TV := fun x y S => (cmp op x y S).map vB
def mChain (o1 o2 : Cop) (ma mb mc : ME) : ME := fun ρ S => (ma ρ S).bind fun x S1 => (mb ρ S1).bind fun y S2 => orBad (cmp o1 x y S2) fun z =>
  if z then (mc ρ S2).bind fun u S3 => orBad (cmp o2 y u S3) fun z' => .ok (vB z') S3 else .ok (vB false) S2
def mIfe (t : MT) (ma mb : ME) : ME := fun ρ S => (t ρ S).bind fun c S1 => if c then ma ρ S1 else mb ρ S1
/-- a test of any value, of a bool -/
def mT (m : ME) : MT := fun ρ S => (m ρ S).bind fun t S1 => orBad (truth t S1) fun b => .ok b S1
def mTb (m : ME) : MT := fun ρ S => (m ρ S).bind fun t S1 => orBad (blT t) fun b => .ok b S1
def mTNot (t : MT) : MT := fun ρ S => (t ρ S).bind fun b S1 => .ok (!b) S1
def mTAnd (t u : MT) : MT := fun ρ S => (t ρ S).bind fun b S1 => if b then u ρ S1 else .ok false S1
def mTOr (t u : MT) : MT := fun ρ S => (t ρ S).bind fun b S1 => if b then .ok true S1 else u ρ S1
def mTIfe (t a b : MT) : MT := fun ρ S => (t ρ S).bind fun c S1 => if c then a ρ S1 else b ρ S1
def mNil : MA := fun _ S => .ok [] S
def mCons (m : ME) (r : MA) : MA := fun ρ S => (m ρ S).bind fun t S1 => (r ρ S1).bind fun ts S2 => .ok (t :: ts) S2
def mApp (m1 m2 : MA) : MA := fun ρ S => (m1 ρ S).bind fun ts S1 => (m2 ρ S1).bind fun us S2 => .ok (ts ++ us) S2
def mTup (m : MA) : ME := fun ρ S => (m ρ S).bind fun ts S1 => if ts.length ≤ line then .ok (.val (mkTup (proms ts S1).1)) (proms ts S1).2 else .bad
def mLst (m : MA) : ME := fun ρ S => (m ρ S).bind fun ts S1 => if ts.length ≤ line then .ok (.new (.lst (proms ts S1).1)) (proms ts S1).2 else .bad
def mPair (mk mv : ME) (mr : Env → Store → R (List (D × Val))) : Env → Store → R (List (D × Val)) := fun ρ S => (mk ρ S).bind fun t S1 => orBad (keyT t) fun d => (mv ρ S1).bind fun u S2 => (mr ρ (prom u S2).2).bind fun ps S3 => .ok ((d, (prom u S2).1) :: ps) S3
def mDct (m : Env → Store → R (List (D × Val))) : ME := fun ρ S => (m ρ S).bind fun ps S1 => if ps.length ≤ 15 then .ok (.new (.dct (mergeD ps))) S1 else .bad
def mCall (cl : Or) (f : Str) (m : MA) : ME := fun ρ S => (m ρ S).bind fun ts S1 => called cl f ts S1
def mBi (f : Bi) (m : MA) : ME := fun ρ S => (m ρ S).bind fun ts S1 => orBad (biF f ts S1) fun z => .ok z S1
def mONo : MO := fun _ S => .ok none S
def mOSo (m : ME) : MO := fun ρ S => (m ρ S).bind fun t S1 => orBad (intT t) fun i => .ok (some i) S1
def mSl (m : ME) (lo hi : MO) : ME := fun ρ S => (m ρ S).bind fun x S1 => (lo ρ S1).bind fun l S2 => (hi ρ S2).bind fun h S3 => orBad (slice x l h S3) fun z => .ok z S3
def isTys (x : TV) (S : Store) : List Ty → Option Bool
  | [] => some false
  | t :: r => (isTy x S t).bind fun b => if b then some true else isTys x S r
def mIsi (m : ME) (tys : List Ty) : ME := fun ρ S => (m ρ S).bind fun x S1 => orBad (isTys x S1 tys) fun b => .ok (vB b) S1
def mLc (elt : ME) (own : List Nat) (tg : Tg) (it : MI) (t : MT) : ME := fun ρ S => (it ρ S).bind fun src S1 =>
      (lcLoop (fun x S2 => orBad (asg tg x (wipe ρ own)) fun ρ' => (t ρ' S2).bind fun b S3 =>
        if b then (elt ρ' S3).bind fun t S4 => .ok (some (prom t S4).1) (prom t S4).2 else .ok none S3) src src.xs S1).bind fun ys S2 => if ys.length ≤ line then .ok (.new (.lst ys)) S2 else .bad
def mRg1 (m : ME) : MI := fun ρ S => (m ρ S).bind fun t S1 => orBad (intT t) fun j => if okR j then .ok ⟨upto 0 j.toNat, []⟩ S1 else .bad
def mRg2 (m m' : ME) : MI := fun ρ S => (m ρ S).bind fun t S1 => (m' ρ S1).bind fun u S2 => orBad (intT t) fun i => orBad (intT u) fun j => if okR i && okR j then .ok ⟨upto i (j - i).toNat, []⟩ S2 else .bad
def mIt (m : ME) : MI := fun ρ S => (m ρ S).bind fun t S1 => orBad (srcOf t S1) fun s => .ok s S1
def mZip (m m' : ME) : MI := fun ρ S => (m ρ S).bind fun t S1 => (m' ρ S1).bind fun u S2 => orBad (sqSrc t S2) fun s => orBad (sqSrc u S2) fun s' => .ok ⟨zipV s.xs s'.xs, s.lv ++ s'.lv⟩ S2
def mEnm (m : ME) : MI := fun ρ S => (m ρ S).bind fun t S1 => orBad (srcOf t S1) fun s => .ok ⟨enmV 0 s.xs, s.lv⟩ S1

mutual
def ev (Γ : Ctx) : E → ME
  | .c d => fun _ S => .ok (.val (.dat d)) S
  | .v i => mVar i
  | .g x => fun _ S => match Γ.consts x with
    | some d => .ok (.val (.dat d)) S
    | none => if Γ.fns x then .ok (.val (.fn x)) S else .bad
  | .bin op a b => mBin (bin op) (ev Γ a) (ev Γ b)
  | .neg a => mNeg (ev Γ a)
  | .cmp op a b => mBin (cmpT op) (ev Γ a) (ev Γ b)
  | .cmp2 o1 o2 a b c => mChain o1 o2 (ev Γ a) (ev Γ b) (ev Γ c)
  | .no a => mNot (ev Γ a)
  | .and es => evAnd Γ es
  | .or es => evOr Γ es
  | .ife t a b => mIfe (evT Γ t) (ev Γ a) (ev Γ b)
  | .tup es => mTup (evs Γ es)
  | .lst es => mLst (evs Γ es)
  | .dct ps => mDct (evPs Γ ps)
  | .call f es ks => mCall Γ.cl f (mApp (evs Γ es) (evs Γ ks))
  | .bi f es => mBi f (evs Γ es)
  | .ix a i => mBin index (ev Γ a) (ev Γ i)
  | .sl a lo hi => mSl (ev Γ a) (evO Γ lo) (evO Γ hi)
  | .isi a tys => mIsi (ev Γ a) tys
  | .lc elt own tg it ifs => mLc (ev Γ elt) own tg (evI Γ it) (evTs Γ ifs)
def evs (Γ : Ctx) : Es → MA
  | .nil => mNil
  | .cons e r => mCons (ev Γ e) (evs Γ r)
def evPs (Γ : Ctx) : Ps → Env → Store → R (List (D × Val))
  | .nil => fun _ S => .ok [] S
  | .cons k v r => mPair (ev Γ k) (ev Γ v) (evPs Γ r)
def evAnd (Γ : Ctx) : Es → ME
  | .nil => fun _ _ => .bad
  | .cons e r => match r with
    | .nil => ev Γ e
    | .cons _ _ => mAnd (ev Γ e) (evAnd Γ r)
def evOr (Γ : Ctx) : Es → ME
  | .nil => fun _ _ => .bad
  | .cons e r => match r with
    | .nil => ev Γ e
    | .cons _ _ => mOr (ev Γ e) (evOr Γ r)
/-- a test -/
def evT (Γ : Ctx) : E → MT
  | .no a => mTNot (evT Γ a)
  | .and es => evTAnd Γ es
  | .or es => evTOr Γ es
  | .ife t a b => mTIfe (evT Γ t) (evT Γ a) (evT Γ b)
  | .cmp op a b => mTb (mBin (cmpT op) (ev Γ a) (ev Γ b))
  | .cmp2 o1 o2 a b c => mTb (mChain o1 o2 (ev Γ a) (ev Γ b) (ev Γ c))
  | .v i => mT (mVar i)
  | .call f es ks => mT (mCall Γ.cl f (mApp (evs Γ es) (evs Γ ks)))
  | .bi f es => mT (mBi f (evs Γ es))
  | .ix a i => mT (mBin index (ev Γ a) (ev Γ i))
  | .isi a tys => mT (mIsi (ev Γ a) tys)
  | _ => fun _ _ => .bad
def evTAnd (Γ : Ctx) : Es → MT
  | .nil => fun _ _ => .bad
  | .cons e r => match r with
    | .nil => evT Γ e
    | .cons _ _ => mTAnd (evT Γ e) (evTAnd Γ r)
def evTOr (Γ : Ctx) : Es → MT
  | .nil => fun _ _ => .bad
  | .cons e r => match r with
    | .nil => evT Γ e
    | .cons _ _ => mTOr (evT Γ e) (evTOr Γ r)
/-- a comprehension's tests: none or one -/
def evTs (Γ : Ctx) : Es → MT
  | .nil => fun _ S => .ok true S
  | .cons e _ => evT Γ e
def evO (Γ : Ctx) : Oe → MO
  | .no => mONo
  | .so e => mOSo (ev Γ e)
def evI (Γ : Ctx) : It → MI
  | .e a => mIt (ev Γ a)
  | .rg1 a => mRg1 (ev Γ a)
  | .rg2 a b => mRg2 (ev Γ a) (ev Γ b)
  | .zip a b => mZip (ev Γ a) (ev Γ b)
  | .enm a => mEnm (ev Γ a)
end

/-! ### statements -/
inductive Fl where
  | next (ρ : Env)
  | ret (t : TV)
  | brk (ρ : Env)
  | cnt (ρ : Env)
inductive SR where
  | ok (f : Fl) (S : Store)
  | exc (x : Exc) (ρ : Env) (S : Store)
  | bad
/-- an expression within a statement -/
def R.st {α : Type} (r : R α) (ρ : Env) (k : α → Store → SR) : SR := match r with
  | .ok a S => k a S
  | .exc x S => .exc x ρ S
  | .bad => .bad
def orBadS {α : Type} (o : Option α) (k : α → SR) : SR := match o with
  | some a => k a
  | none => .bad
def SR.seq (r : SR) (k : Env → Store → SR) : SR := match r with
  | .ok (.next ρ) S => k ρ S
  | r => r
def forLoop (step : Val → Env → Store → SR) (src : Src) : List Val → Env → Store → SR
  | [], ρ, S => if src.still S then .ok (.next ρ) S else .bad
  | x :: xs, ρ, S => if src.still S then
      match step x ρ S with
      | .ok (.next ρ') S' => forLoop step src xs ρ' S'
      | .ok (.cnt ρ') S' => forLoop step src xs ρ' S'
      | .ok (.brk ρ') S' => .ok (.next ρ') S'
      | r => r
    else .bad
def mxE : Env → Nat
  | [] => 0
  | some x :: r => max x.mx (mxE r)
  | none :: r => mxE r
abbrev MS : Type := Nat → Env → Store → SR
def xExpr (m : ME) : MS := fun _ ρ S => (m ρ S).st ρ fun _ S1 => .ok (.next ρ) S1
def xAs (i : Nat) (m : ME) : MS := fun _ ρ S => (m ρ S).st ρ fun t S1 => orBadS (asg (.nm i) (prom t S1).1 ρ) fun ρ' => .ok (.next ρ') (prom t S1).2
def xUn (tg : Tg) (m : ME) : MS := fun _ ρ S => (m ρ S).st ρ fun t S1 => orBadS (asg tg (prom t S1).1 ρ) fun ρ' => .ok (.next ρ') (prom t S1).2
def xRet (m : ME) : MS := fun _ ρ S => (m ρ S).st ρ fun t S1 => .ok (.ret t) S1
def xRet0 : MS := fun _ _ S => .ok (.ret (.val (.dat .non))) S
def xSkip : MS := fun _ ρ S => .ok (.next ρ) S
def xBrk : MS := fun _ ρ S => .ok (.brk ρ) S
def xCnt : MS := fun _ ρ S => .ok (.cnt ρ) S
def xNev : MS := fun _ _ _ => .bad
def xSeq (x y : MS) : MS := fun n ρ S => (x n ρ S).seq fun ρ' S' => y n ρ' S'
def xFg (js : List Nat) : MS := fun n0 ρ S =>
    if closed (max n0 (mxE (wipe ρ js))) (S.take (max n0 (mxE (wipe ρ js)))) then .ok (.next (wipe ρ js)) (S.take (max n0 (mxE (wipe ρ js)))) else .ok (.next (wipe ρ js)) S
def xIf (t : MT) (x y : MS) : MS := fun n ρ S => (t ρ S).st ρ fun c S1 => if c then x n ρ S1 else y n ρ S1
def xFor (tg : Tg) (it : MI) (b : MS) : MS := fun _ ρ S => (it ρ S).st ρ fun src S1 => forLoop (fun x ρ' S' => orBadS (asg tg x ρ') fun ρ2 => b S1.length ρ2 S') src src.xs ρ S1
def lstIx (a : TV) (S : Store) : Option Nat := match a with
  | .val (.ref i) => match S[i]? with
    | some (.lst _) => some i
    | _ => none
  | _ => none
def xApp (mo m : ME) : MS := fun _ ρ S => (mo ρ S).st ρ fun a S1 => orBadS (lstIx a S1) fun i => (m ρ S1).st ρ fun t S2 => match (prom t S2).2[i]? with
  | some (.lst xs) => if xs.length < line then .ok (.next ρ) ((prom t S2).2.set i (.lst (xs ++ [(prom t S2).1]))) else .bad
  | _ => .bad
def setIx (o i : TV) (x : Val) (S : Store) : Option Store := match o with
  | .val (.ref a) => match S[a]? with
    | some (.lst xs) => (intT i).bind fun k => (place xs.length k).map fun j => S.set a (.lst (xs.set j x))
    | some (.dct ps) => (keyT i).bind fun d => if ps.length < line then some (S.set a (.dct (putD ps d x))) else none
    | _ => none
  | _ => none
def xIx (mo mi m : ME) : MS := fun _ ρ S => (m ρ S).st ρ fun t S1 => (mo ρ (prom t S1).2).st ρ fun a S2 => (mi ρ S2).st ρ fun k S3 => orBadS (setIx a k (prom t S1).1 S3) fun S4 => .ok (.next ρ) S4
def aug (sub : Bool) (x y : TV) : Option TV := (intT x).bind fun i => (intT y).map fun j => vI (if sub then i - j else i + j)
def xAun (i : Nat) (op : Bool) (m : ME) : MS := fun _ ρ S => match ρ[i]? with
  | some (some x) => (m ρ S).st ρ fun t S1 => orBadS (aug op (.val x) t) fun z => orBadS (asg (.nm i) (prom z S1).1 ρ) fun ρ' => .ok (.next ρ') (prom z S1).2
  | _ => .bad
def asg2 (i j : Nat) (xs : List Val) (ρ : Env) : Option Env := match xs with
  | [x, y] => if i < ρ.length ∧ j < ρ.length then some ((ρ.set i (some x)).set j (some y)) else none
  | _ => none
def xPar (i j : Nat) (m : MA) : MS := fun _ ρ S => (m ρ S).st ρ fun ts S1 => orBadS (asg2 i j (proms ts S1).1 ρ) fun ρ' => .ok (.next ρ') (proms ts S1).2
def whLoop (t : MT) (b : MS) (n0 : Nat) : Nat → Env → Store → SR
  | 0, _, _ => .bad
  | k + 1, ρ, S => (t ρ S).st ρ fun c S1 => if c then
      match b n0 ρ S1 with
      | .ok (.next ρ') S' => whLoop t b n0 k ρ' S'
      | .ok (.cnt ρ') S' => whLoop t b n0 k ρ' S'
      | .ok (.brk ρ') S' => .ok (.next ρ') S'
      | r => r
    else .ok (.next ρ) S1
def xWh (fuel : Nat) (t : MT) (b : MS) : MS := fun _ ρ S => whLoop t b S.length fuel ρ S

/-- raise C(e) -/
def xRaise (C : Str) (o : Option Str) (m : ME) : MS := fun _ ρ S => orBadS o fun f => (m ρ S).st ρ fun t S1 => .exc ⟨C, [(f, (prom t S1).1)]⟩ ρ (prom t S1).2
/-- try: return e; except C as x: return (s, x.f) -/
def xTry (cls : Str → Option Str) (C s f : Str) (j : Nat) (m : ME) : MS := fun _ ρ S => if decide (cls C = some f) && decide (j < ρ.length) then
    match m ρ S with
    | .ok t S1 => .ok (.ret t) S1
    | .exc x S1 => if (cls x.cls).isSome then
        (if x.cls = C then orBadS (x.fs.lookup f) fun v => .ok (.ret (.val (mkTup [.dat (.str s), v]))) S1 else .exc x ρ S1)
      else .bad
    | .bad => .bad
  else .bad
mutual
def ex (Γ : Ctx) : S → MS
  | .ex e => xExpr (ev Γ e)
  | .as i e => xAs i (ev Γ e)
  | .un tg e => xUn tg (ev Γ e)
  | .par i j es => xPar i j (evs Γ es)
  | .ix o i e => xIx (ev Γ o) (ev Γ i) (ev Γ e)
  | .aun i sub e => xAun i sub (ev Γ e)
  | .app o e => xApp (ev Γ o) (ev Γ e)
  | .ret e => xRet (ev Γ e)
  | .ret0 => xRet0
  | .if_ t a b => xIf (evT Γ t) (exs Γ a) (exs Γ b)
  | .for_ tg it b => xFor tg (evI Γ it) (exs Γ b)
  | .whl t b => xWh Γ.fuel (evT Γ t) (exs Γ b)
  | .brk => xBrk
  | .cnt => xCnt
  | .pas => xSkip
  | .nev => xNev
  | .fg js => xFg js
  | .rais C e => xRaise C (Γ.cls C) (ev Γ e)
  | .tr e C j s f => xTry Γ.cls C s f j (ev Γ e)
def exs (Γ : Ctx) : Ss → MS
  | .nil => xSkip
  | .cons s r => xSeq (ex Γ s) (exs Γ r)
end

/-! ### defs -/
structure Fn where
  ps : Nat
  ns : Nat
  body : Ss
structure Tb where
  consts : List (Str × D)
  fns : List (Str × Fn)
  fuel : Nat := 0
  excs : List (Str × Str) := []
def start (ns : Nat) (xs : List Val) : Env := xs.map some ++ List.replicate (ns - xs.length) none
def run (Γ : Ctx) (f : Fn) (xs : List Val) (S : Store) : R TV :=
  if xs.length = f.ps then
    match exs Γ f.body S.length (start f.ns xs) S with
    | .ok (.ret t) S' => .ok t S'
    | .ok (.next _) S' => .ok (.val (.dat .non)) S'
    | .exc x _ S' => .exc x S'
    | _ => .bad
  else .bad
def Tb.ctx (T : Tb) (cl : Or) : Ctx := ⟨fun x => T.consts.lookup x, fun x => (T.fns.lookup x).isSome, cl, T.fuel, fun x => T.excs.lookup x⟩
def callF (T : Tb) : Nat → Or
  | 0 => fun _ _ _ => .bad
  | n + 1 => fun f xs S => match T.fns.lookup f with
    | some d => run (T.ctx (callF T n)) d xs S
    | none => .bad
end Ap
set_option Elab.async false
set_option linter.all false
set_option maxRecDepth 100000
set_option maxHeartbeats 1000000
namespace Ap
open PySem L2
end Ap
namespace Ap
open PySem L2
/-! ### what the interpreter's things are in the abstract heap -/
mutual
def RD (K : PySem.W.Frag) (H : Hp) : V → D → Prop
  | v, .non => v = .non
  | v, .bl b => v = .bl b
  | v, .int i => v = .int i
  | v, .str s => v = .str s ∧ s.length ≤ sizeLine ∧ s.cps.all (· < 0x110000) = true
  | v, .tup ds => ∃ a vs, v = .ref a ∧ SqT K H a vs ∧ vs.length ≤ sizeLine ∧ RDs K H vs ds
def RDs (K : PySem.W.Frag) (H : Hp) : List V → List D → Prop
  | vs, [] => vs = []
  | vs, d :: ds => ∃ v r, vs = v :: r ∧ RD K H v d ∧ RDs K H r ds
end
mutual
def RV (K : PySem.W.Frag) (H : Hp) (μ : List Addr) : V → Val → Prop
  | v, .dat d => RD K H v d
  | v, .ref i => ∃ a, μ[i]? = some a ∧ v = .ref a
  | v, .tup xs => ∃ a vs, v = .ref a ∧ SqT K H a vs ∧ vs.length ≤ sizeLine ∧ RVs K H μ vs xs
  | v, .fn g => v = .ref (He.ga K g)
  | v, .scr ns => ∃ a, v = .ref a ∧ ns.length ≤ sizeLine ∧ ((∀ H2 : Hp, SqL K H2 a (ns.map V.int)) ∨ ∃ o, H a = some (.frz o (.lst (ns.map V.int))))
def RVs (K : PySem.W.Frag) (H : Hp) (μ : List Addr) : List V → List Val → Prop
  | vs, [] => vs = []
  | vs, x :: xs => ∃ v r, vs = v :: r ∧ RV K H μ v x ∧ RVs K H μ r xs
end
end Ap

namespace Ap
open PySem L2
/-! ### dicts whose keys are ints and texts -/
def kD : Key → D
  | .inl i => .int i
  | .inr x => .str x
def KOk : Key → Prop
  | .inl _ => True
  | .inr x => x.length ≤ sizeLine ∧ x.cps.all (· < 0x110000) = true
def RKs (K : PySem.W.Frag) (H : Hp) (μ : List Addr) : List (Key × V) → List (D × Val) → Prop
  | ks, [] => ks = []
  | ks, p :: ps => ∃ k v r, ks = (k, v) :: r ∧ kD k = p.1 ∧ KOk k ∧ RV K H μ v p.2 ∧ RKs K H μ r ps
theorem RKs.mono {K : PySem.W.Frag} {H H' : Hp} {μ μ' : List Addr} : ∀ {ps : List (D × Val)} {ks : List (Key × V)}, (∀ p ∈ ps, ∀ v, RV K H μ v p.2 → RV K H' μ' v p.2) → RKs K H μ ks ps → RKs K H' μ' ks ps
  | [], ks, _, h => h
  | p :: ps, ks, f, h => by
    obtain ⟨k, v, r, e, h1, h2, h3, h4⟩ := h
    exact ⟨k, v, r, e, h1, h2, f p (by simp) v h3, RKs.mono (fun q hq => f q (by simp [hq])) h4⟩
/-- what may stand at an object's address -/
def Mo : HO → Prop
  | .lst _ => True
  | .dK _ => True
  | .ins _ _ _ => True
  | _ => False
section
variable {K : PySem.W.Frag} {H H' : Hp} {μ μ' : List Addr} {S S' : Store}
/-- what stands at an object's address -/
def ROat (K : PySem.W.Frag) (H : Hp) (μ : List Addr) (a : Addr) : Obj → Prop
  | .lst xs => ∃ vs, H a = some (.lst vs) ∧ vs.length ≤ sizeLine ∧ RVs K H μ vs xs
  | .dct ps => ∃ ks, H a = some (.dK ks) ∧ ks.length ≤ sizeLine ∧ RKs K H μ ks ps
  | .ins _ _ => False
/-- the store is held: object i stands at the i-th address -/
structure Wd (K : PySem.W.Frag) (H : Hp) (μ : List Addr) (S : Store) : Prop where
  len : μ.length = S.length
  nd : μ.Nodup
  ob : ∀ (i : Nat) (a : Addr) (o : Obj), μ[i]? = some a → S[i]? = some o → ROat K H μ a o
/-- how a run goes on: the objects stay objects, all else that was tracked stands, new objects are new -/
structure Ext (H : Hp) (μ : List Addr) (H' : Hp) (μ' : List Addr) : Prop where
  pre : ∃ t, μ' = μ ++ t
  fr : ∀ a o, H a = some o → a ∉ μ → H' a = some o
  nw : ∀ a, a ∈ μ' → a ∉ μ → H a = none
def RT (K : PySem.W.Frag) (H : Hp) (μ : List Addr) (v : V) : TV → Prop
  | .val x => RV K H μ v x
  | .new o => ∃ a, v = .ref a ∧ a ∉ μ ∧ ROat K H μ a o
def frs (H : Hp) (v : V) : TV → Prop
  | .val _ => True
  | .new _ => ∀ a, v = .ref a → H a = none
/-- the names' values -/
structure Sl (K : PySem.W.Frag) (H : Hp) (μ : List Addr) (σ : St) (ρ : Env) : Prop where
  len : σ.length = ρ.length
  at_ : ∀ (i : Nat) (x : Val), ρ[i]? = some (some x) → ∃ v, σ[i]? = some (some v) ∧ RV K H μ v x

theorem ROat.there {a : Addr} {o : Obj} (h : ROat K H μ a o) : ∃ u, H a = some u ∧ Mo u := by
  cases o with
  | lst xs => obtain ⟨vs, e, _⟩ := h; exact ⟨_, e, trivial⟩
  | dct _ => obtain ⟨vs, e, _⟩ := h; exact ⟨_, e, trivial⟩
  | ins _ _ => exact h.elim
theorem Wd.there (w : Wd K H μ S) {a : Addr} (ha : a ∈ μ) : ∃ u, H a = some u ∧ Mo u := by
  obtain ⟨i, hi⟩ := List.mem_iff_getElem?.mp ha
  have hl : i < S.length := by rw [← w.len]; exact (List.getElem?_eq_some_iff.mp hi).1
  exact (w.ob i a _ hi (List.getElem?_eq_getElem hl)).there
theorem Ext.refl : Ext H μ H μ := ⟨⟨[], by simp⟩, fun _ _ h _ => h, fun _ h n => absurd h n⟩
theorem Ext.mem (e : Ext H μ H' μ') {a : Addr} (h : a ∈ μ) : a ∈ μ' := by
  obtain ⟨t, rfl⟩ := e.pre
  exact List.mem_append_left _ h
theorem Ext.at (e : Ext H μ H' μ') {i : Nat} {a : Addr} (h : μ[i]? = some a) : μ'[i]? = some a := by
  obtain ⟨t, rfl⟩ := e.pre
  rw [List.getElem?_append_left (List.getElem?_eq_some_iff.mp h).1]; exact h
theorem Ext.trans {H2 : Hp} {μ2 : List Addr} (e : Ext H μ H' μ') (e2 : Ext H' μ' H2 μ2) : Ext H μ H2 μ2 := by
  obtain ⟨t, h1⟩ := e.pre
  obtain ⟨u, h2⟩ := e2.pre
  refine ⟨⟨t ++ u, by rw [h2, h1, List.append_assoc]⟩, fun a o h n => ?_, fun a h n => ?_⟩
  · refine e2.fr a o (e.fr a o h n) fun q => ?_
    have := e.nw a q n
    rw [h] at this; cases this
  · by_cases q : a ∈ μ'
    · exact e.nw a q n
    · have := e2.nw a h q
      cases r : H a with
      | none => rfl
      | some o => rw [e.fr a o r n] at this; cases this
/-- an address that was new for a later state was new before -/
theorem Ext.new (e : Ext H μ H' μ') (w : Wd K H' μ' S') {a : Addr} (h : H' a = none) : H a = none := by
  cases r : H a with
  | none => rfl
  | some o =>
    by_cases q : a ∈ μ
    · obtain ⟨vs, z, _⟩ := w.there (e.mem q)
      rw [z] at h; cases h
    · rw [e.fr a o r q] at h; cases h
theorem Ext.tup (e : Ext H μ H' μ') (w : Wd K H μ S) {a : Addr} {vs : List V} (h : SqT K H a vs) : SqT K H' a vs := by
  rcases h with (h | ⟨o, h⟩) | h
  · refine .inl (.inl (e.fr a _ h fun q => ?_))
    obtain ⟨us, z, m⟩ := w.there q
    rw [z] at h; cases h; exact m.elim
  · refine .inl (.inr ⟨o, e.fr a _ h fun q => ?_⟩)
    obtain ⟨us, z, m⟩ := w.there q
    rw [z] at h; cases h; exact m.elim
  · exact .inr h
mutual
theorem RD.ext (e : Ext H μ H' μ') (w : Wd K H μ S) : ∀ (d : D) (v : V), RD K H v d → RD K H' v d
  | .non, v, h => by simpa [RD] using h
  | .bl _, v, h => by simpa [RD] using h
  | .int _, v, h => by simpa [RD] using h
  | .str _, v, h => by simpa [RD] using h
  | .tup ds, v, h => by
    simp only [RD] at h ⊢
    obtain ⟨a, vs, e1, h1, h2, h3⟩ := h
    exact ⟨a, vs, e1, e.tup w h1, h2, RDs.ext e w ds vs h3⟩
theorem RDs.ext (e : Ext H μ H' μ') (w : Wd K H μ S) : ∀ (ds : List D) (vs : List V), RDs K H vs ds → RDs K H' vs ds
  | [], vs, h => by simpa [RDs] using h
  | d :: ds, vs, h => by
    simp only [RDs] at h ⊢
    obtain ⟨v, r, e1, h1, h2⟩ := h
    exact ⟨v, r, e1, RD.ext e w d v h1, RDs.ext e w ds r h2⟩
end
mutual
theorem RV.ext (e : Ext H μ H' μ') (w : Wd K H μ S) : ∀ (x : Val) (v : V), RV K H μ v x → RV K H' μ' v x
  | .dat d, v, h => by
    simp only [RV] at h ⊢
    exact RD.ext e w d v h
  | .ref i, v, h => by
    simp only [RV] at h ⊢
    obtain ⟨a, h1, h2⟩ := h
    exact ⟨a, e.at h1, h2⟩
  | .tup xs, v, h => by
    simp only [RV] at h ⊢
    obtain ⟨a, vs, e1, h1, h2, h3⟩ := h
    exact ⟨a, vs, e1, e.tup w h1, h2, RVs.ext e w xs vs h3⟩
  | .fn g, v, h => by simpa [RV] using h
  | .scr ns, v, h => by
    simp only [RV] at h ⊢
    obtain ⟨a, e1, h1, h2⟩ := h
    refine ⟨a, e1, h1, ?_⟩
    rcases h2 with h2 | ⟨o, h2⟩
    · exact .inl h2
    · refine .inr ⟨o, e.fr a _ h2 fun q => ?_⟩
      obtain ⟨us, z, m⟩ := w.there q
      rw [z] at h2; cases h2; exact m.elim
theorem RVs.ext (e : Ext H μ H' μ') (w : Wd K H μ S) : ∀ (xs : List Val) (vs : List V), RVs K H μ vs xs → RVs K H' μ' vs xs
  | [], vs, h => by simpa [RVs] using h
  | x :: xs, vs, h => by
    simp only [RVs] at h ⊢
    obtain ⟨v, r, e1, h1, h2⟩ := h
    exact ⟨v, r, e1, RV.ext e w x v h1, RVs.ext e w xs r h2⟩
end
theorem ROat.ext (e : Ext H μ H' μ') (w : Wd K H μ S) {a : Addr} (n : a ∉ μ) {o : Obj} (h : ROat K H μ a o) : ROat K H' μ' a o := by
  cases o with
  | lst xs =>
    obtain ⟨vs, h1, h2, h3⟩ := h
    exact ⟨vs, e.fr a _ h1 n, h2, RVs.ext e w xs vs h3⟩
  | dct ps =>
    obtain ⟨vs, h1, h2, h3⟩ := h
    exact ⟨vs, e.fr a _ h1 n, h2, h3.mono fun p _ v q => RV.ext e w p.2 v q⟩
  | ins _ _ => exact h.elim
theorem RT.ext (e : Ext H μ H' μ') (w : Wd K H μ S) {v : V} {t : TV} (h : RT K H μ v t) : RT K H' μ' v t := by
  cases t with
  | val x => exact RV.ext e w x v h
  | new o =>
    obtain ⟨a, h1, h2, h3⟩ := h
    refine ⟨a, h1, fun q => ?_, h3.ext e w h2⟩
    have := e.nw a q h2
    obtain ⟨vs, z, _⟩ := h3.there
    rw [z] at this; cases this
theorem frs.ext (e : Ext H μ H' μ') (w : Wd K H' μ' S') {v : V} {t : TV} (h : frs H' v t) : frs H v t := by
  cases t with
  | val x => trivial
  | new o => exact fun a ha => e.new w (h a ha)
theorem Sl.ext (e : Ext H μ H' μ') (w : Wd K H μ S) {σ : St} {ρ : Env} (h : Sl K H μ σ ρ) : Sl K H' μ' σ ρ :=
  ⟨h.len, fun i x hx => let ⟨v, h1, h2⟩ := h.at_ i x hx; ⟨v, h1, RV.ext e w x v h2⟩⟩
end
end Ap
set_option Elab.async false
set_option linter.all false
set_option maxRecDepth 100000
set_option maxHeartbeats 1000000
namespace Ap
open PySem L2
section
variable {K : PySem.W.Frag} {H H' H0 H1 H2 : Hp} {μ μ' μ0 μ1 μ2 : List Addr} {S S' : Store}

/-! ### new objects, kept objects -/
theorem Wd.ne (w : Wd K H μ S) {p : Addr} (h : H p = none) : p ∉ μ := fun q => by
  obtain ⟨vs, z, _⟩ := w.there q
  rw [z] at h; cases h
theorem Wd.keep (w : Wd K H μ S) (k : ∀ a o, H a = some o → H' a = some o) : Wd K H' μ S := by
  have e : Ext H μ H' μ := ⟨⟨[], by simp⟩, fun a o h _ => k a o h, fun a h n => absurd h n⟩
  refine ⟨w.len, w.nd, fun i a o h1 h2 => ?_⟩
  have r := w.ob i a o h1 h2
  cases o with
  | lst xs =>
    obtain ⟨vs, q1, q2, q3⟩ := r
    exact ⟨vs, k _ _ q1, q2, RVs.ext e w xs vs q3⟩
  | dct ps =>
    obtain ⟨vs, q1, q2, q3⟩ := r
    exact ⟨vs, k _ _ q1, q2, q3.mono fun p _ v q => RV.ext e w p.2 v q⟩
  | ins _ _ => exact r.elim
theorem Ext.keep (e : Ext H0 μ0 H μ) (k : ∀ a o, H a = some o → H' a = some o) : Ext H0 μ0 H' μ :=
  ⟨e.pre, fun a o h n => k a o (e.fr a o h n), e.nw⟩
theorem ext_keep (k : ∀ a o, H a = some o → H' a = some o) : Ext H μ H' μ := ⟨⟨[], by simp⟩, fun a o h _ => k a o h, fun a h n => absurd h n⟩
theorem upd_keep {p : Addr} {o : HO} (h : H p = none) : ∀ a u, H a = some u → upd H p o a = some u := fun a u q => by
  rw [upd_ne (ne_of_none q h)]; exact q
mutual
theorem RV.grow (t : List Addr) : ∀ (x : Val) (v : V), RV K H μ v x → RV K H (μ ++ t) v x
  | .dat d, v, h => by simpa only [RV] using h
  | .ref i, v, h => by
    simp only [RV] at h ⊢
    obtain ⟨a, h1, h2⟩ := h
    exact ⟨a, by rw [List.getElem?_append_left (List.getElem?_eq_some_iff.mp h1).1]; exact h1, h2⟩
  | .tup xs, v, h => by
    simp only [RV] at h ⊢
    obtain ⟨a, vs, e1, h1, h2, h3⟩ := h
    exact ⟨a, vs, e1, h1, h2, RVs.grow t xs vs h3⟩
  | .fn g, v, h => by simpa only [RV] using h
  | .scr ns, v, h => by simpa only [RV] using h
theorem RVs.grow (t : List Addr) : ∀ (xs : List Val) (vs : List V), RVs K H μ vs xs → RVs K H (μ ++ t) vs xs
  | [], vs, h => by simpa only [RVs] using h
  | x :: xs, vs, h => by
    simp only [RVs] at h ⊢
    obtain ⟨v, r, e1, h1, h2⟩ := h
    exact ⟨v, r, e1, RV.grow t x v h1, RVs.grow t xs r h2⟩
end
theorem ROat.grow (t : List Addr) {a : Addr} {o : Obj} (h : ROat K H μ a o) : ROat K H (μ ++ t) a o := by
  cases o with
  | lst xs =>
    obtain ⟨vs, q1, q2, q3⟩ := h
    exact ⟨vs, q1, q2, RVs.grow t xs vs q3⟩
  | dct ps =>
    obtain ⟨vs, q1, q2, q3⟩ := h
    exact ⟨vs, q1, q2, q3.mono fun p _ v q => RV.grow t p.2 v q⟩
  | ins _ _ => exact h.elim
/-- a new object becomes the store's -/
theorem Wd.push (w : Wd K H μ S) {a : Addr} {o : Obj} (n : a ∉ μ) (r : ROat K H μ a o) : Wd K H (μ ++ [a]) (S ++ [o]) := by
  refine ⟨by simp [w.len], ?_, fun i b u h1 h2 => ?_⟩
  · rw [List.nodup_append]
    exact ⟨w.nd, by simp, fun x hx y hy => by simp at hy; subst hy; exact fun q => n (q ▸ hx)⟩
  · by_cases hi : i < μ.length
    · rw [List.getElem?_append_left hi] at h1
      rw [List.getElem?_append_left (by rw [← w.len]; exact hi)] at h2
      exact (w.ob i b u h1 h2).grow [a]
    · have hm : i < (μ ++ [a]).length := (List.getElem?_eq_some_iff.mp h1).1
      have e : i = μ.length := by simp at hm; omega
      subst e
      rw [List.getElem?_append_right (Nat.le_refl _)] at h1
      rw [w.len, List.getElem?_append_right (Nat.le_refl _)] at h2
      simp at h1 h2
      subst h1 h2
      exact r.grow [a]
theorem Ext.push (e : Ext H0 μ0 H μ) {a : Addr} (h : H0 a = none) : Ext H0 μ0 H (μ ++ [a]) := by
  obtain ⟨t, ht⟩ := e.pre
  refine ⟨⟨t ++ [a], by rw [ht, List.append_assoc]⟩, e.fr, fun b hb n => ?_⟩
  rcases List.mem_append.mp hb with hb | hb
  · exact e.nw b hb n
  · simp at hb; subst hb; exact h

/-! ### several values -/
def RTs (K : PySem.W.Frag) (H : Hp) (μ : List Addr) : List V → List TV → Prop
  | vs, [] => vs = []
  | vs, t :: ts => ∃ v r, vs = v :: r ∧ RT K H μ v t ∧ RTs K H μ r ts
/-- where the new ones stand -/
def newA : List V → List TV → List V
  | v :: vs, .new _ :: ts => v :: newA vs ts
  | _ :: vs, _ :: ts => newA vs ts
  | _, _ => []
theorem RTs.ext (e : Ext H μ H' μ') (w : Wd K H μ S) : ∀ {ts : List TV} {vs : List V}, RTs K H μ vs ts → RTs K H' μ' vs ts
  | [], vs, h => h
  | t :: ts, vs, h => by
    obtain ⟨v, r, e1, h1, h2⟩ := h
    exact ⟨v, r, e1, h1.ext e w, RTs.ext e w h2⟩
structure RA (K : PySem.W.Frag) (H0 H : Hp) (μ : List Addr) (vs : List V) (ts : List TV) : Prop where
  r : RTs K H μ vs ts
  nd : (newA vs ts).Nodup
  nw : ∀ v ∈ newA vs ts, ∀ a, v = .ref a → H0 a = none
theorem RT.grow_ne {v : V} {t : TV} {a : Addr} (h : RT K H μ v t) (n : ∀ o, t = .new o → v ≠ .ref a) : RT K H (μ ++ [a]) v t := by
  cases t with
  | val x => exact RV.grow [a] x v h
  | new o =>
    obtain ⟨b, h1, h2, h3⟩ := h
    refine ⟨b, h1, fun q => ?_, h3.grow [a]⟩
    rcases List.mem_append.mp q with q | q
    · exact h2 q
    · simp at q; subst q; exact n o rfl h1
theorem RTs.grow_ne {a : Addr} : ∀ {ts : List TV} {vs : List V}, RTs K H μ vs ts → V.ref a ∉ newA vs ts → RTs K H (μ ++ [a]) vs ts
  | [], vs, h, _ => h
  | t :: ts, vs, h, n => by
    obtain ⟨v, r, e1, h1, h2⟩ := h
    subst e1
    cases t with
    | val x => exact ⟨v, r, rfl, RV.grow [a] x v h1, RTs.grow_ne h2 (by simpa [newA] using n)⟩
    | new o =>
      simp only [newA, List.mem_cons, not_or] at n
      exact ⟨v, r, rfl, h1.grow_ne (fun _ _ q => n.1 q.symm), RTs.grow_ne h2 n.2⟩
/-- one value is kept -/
theorem prom_ok (w : Wd K H μ S) (e : Ext H0 μ0 H μ) {v : V} {t : TV} (r : RT K H μ v t) (f : frs H0 v t) :
    ∃ μ', Ext H0 μ0 H μ' ∧ Wd K H μ' (prom t S).2 ∧ RV K H μ' v (prom t S).1 ∧ (∃ u, μ' = μ ++ u) := by
  cases t with
  | val x => exact ⟨μ, e, w, r, [], by simp⟩
  | new o =>
    obtain ⟨a, h1, h2, h3⟩ := r
    refine ⟨μ ++ [a], e.push (f a h1), w.push h2 h3, ?_, [a], rfl⟩
    show RV K H (μ ++ [a]) v (.ref S.length)
    simp only [RV]
    exact ⟨a, by rw [← w.len]; simp, h1⟩
theorem proms_ok : ∀ {ts : List TV} {vs : List V} {μ : List Addr} {S : Store}, Wd K H μ S → Ext H0 μ0 H μ → RA K H0 H μ vs ts →
    ∃ μ', Ext H0 μ0 H μ' ∧ Wd K H μ' (proms ts S).2 ∧ RVs K H μ' vs (proms ts S).1 ∧ (∃ u, μ' = μ ++ u)
  | [], vs, μ, S, w, e, r => ⟨μ, e, w, by simpa [proms, RVs, RTs] using r.r, [], by simp⟩
  | t :: ts, vs, μ, S, w, e, r => by
    obtain ⟨⟨v, rest, e1, h1, h2⟩, nd, nw⟩ := r
    subst e1
    cases t with
    | val x =>
      obtain ⟨μ', a1, a2, a3, u, rfl⟩ := proms_ok (ts := ts) (vs := rest) w e ⟨h2, nd, nw⟩
      refine ⟨μ ++ u, a1, a2, ?_, u, rfl⟩
      simp only [proms, RVs, prom]
      exact ⟨v, rest, rfl, RV.grow u x v h1, a3⟩
    | new o =>
      obtain ⟨a, q1, q2, q3⟩ := h1
      subst q1
      simp only [newA, List.nodup_cons] at nd
      have w' := w.push q2 q3
      have e' := e.push (nw (.ref a) (by simp [newA]) a rfl)
      obtain ⟨μ', a1, a2, a3, u, rfl⟩ := proms_ok (ts := ts) (vs := rest) w' e' ⟨h2.grow_ne nd.1, nd.2, fun v hv => nw v (by simp [newA, hv])⟩
      refine ⟨_, a1, a2, ?_, [a] ++ u, by simp⟩
      simp only [proms, RVs, prom]
      refine ⟨_, _, rfl, ?_, a3⟩
      simp only [RV]
      exact ⟨a, by rw [← w.len]; simp, rfl⟩
end

/-! ### what must hold behind a run -/
section
variable {K : PySem.W.Frag} {H H' H0 H1 H2 : Hp} {μ μ' μ0 μ1 μ2 : List Addr} {S S' : Store} {W : WX} {σ : St} {ρ : Env}
def RFs (K : PySem.W.Frag) (H : Hp) (μ : List Addr) : List (Str × V) → List (Str × Val) → Prop
  | fs, [] => fs = []
  | fs, p :: ps => ∃ v r, fs = (p.1, v) :: r ∧ RV K H μ v p.2 ∧ RFs K H μ r ps
/-- an exception: its class, its own dict -/
def RX (K : PySem.W.Frag) (H : Hp) (μ : List Addr) (c : Value) (d : Option Addr) (x : Exc) : Prop :=
  c = .ref (He.ga K x.cls) ∧ ((x.fs = [] ∧ d = none) ∨ ∃ dd fs, d = some dd ∧ H dd = some (.xd fs) ∧ RFs K H μ fs x.fs)
def Post {α β : Type} (RR : Hp → Hp → List Addr → β → α → Prop) (K : PySem.W.Frag) (W : WX) (σ : St) (H0 : Hp) (μ0 : List Addr) (r : R α) (Q : β → Hp → Prop) : Prop := match r with
  | .ok a S' => ∀ b H' μ', Ext H0 μ0 H' μ' → Wd K H' μ' S' → RR H0 H' μ' b a → Q b H'
  | .exc x S' => ∀ c d H' μ', Ext H0 μ0 H' μ' → Wd K H' μ' S' → RX K H' μ' c d x → W c d σ H'
  | .bad => False
theorem Post.mono {α β : Type} {RR : Hp → Hp → List Addr → β → α → Prop} {r : R α} {Q Q' : β → Hp → Prop} (h : Post RR K W σ H0 μ0 r Q) (k : ∀ b H, Q b H → Q' b H) : Post RR K W σ H0 μ0 r Q' := by
  cases r with
  | ok a S' => exact fun b H' μ' e w q => k _ _ (h b H' μ' e w q)
  | exc x S' => exact h
  | bad => exact h
theorem Post.bind {α β γ δ : Type} {RR : Hp → Hp → List Addr → β → α → Prop} {RB : Hp → Hp → List Addr → δ → γ → Prop} {r : R α} {k : α → Store → R γ} {Q : δ → Hp → Prop} (e : Ext H0 μ0 H1 μ1)
    (h : Post RB K W σ H0 μ0 (r.bind k) Q) : Post RR K W σ H1 μ1 r (fun b H2 => ∃ a μ2 S2, Ext H1 μ1 H2 μ2 ∧ Wd K H2 μ2 S2 ∧ RR H1 H2 μ2 b a ∧ Post RB K W σ H0 μ0 (k a S2) Q) := by
  cases r with
  | ok a S' => exact fun b H' μ' e' w q => ⟨a, μ', S', e', w, q, h⟩
  | exc x S' => exact fun c d H' μ' e' w q => h c d H' μ' (e.trans e') w q
  | bad => exact h
theorem Post.bindE {α β γ δ : Type} {RR : Hp → Hp → List Addr → β → α → Prop} {RB : Hp → Hp → List Addr → δ → γ → Prop} {r : R α} {k : α → Store → R γ} {Q : δ → Hp → Prop} (e : Ext H0 μ0 H1 μ1)
    (h : Post RB K W σ H0 μ0 (r.bind k) Q) : Post RR K W σ H1 μ1 r (fun b H2 => ∃ a μ2 S2, r = .ok a S2 ∧ Ext H1 μ1 H2 μ2 ∧ Wd K H2 μ2 S2 ∧ RR H1 H2 μ2 b a ∧ Post RB K W σ H0 μ0 (k a S2) Q) := by
  cases r with
  | ok a S' => exact fun b H' μ' e' w q => ⟨a, μ', S', rfl, e', w, q, h⟩
  | exc x S' => exact fun c d H' μ' e' w q => h c d H' μ' (e.trans e') w q
  | bad => exact h
theorem Post.orBad {α β γ : Type} {RB : Hp → Hp → List Addr → β → γ → Prop} {o : Option α} {k : α → R γ} {Q : β → Hp → Prop} (h : Post RB K W σ H0 μ0 (orBad o k) Q) : ∃ a, o = some a ∧ Post RB K W σ H0 μ0 (k a) Q := by
  cases o with
  | some a => exact ⟨a, rfl, h⟩
  | none => exact h.elim
abbrev RTV (K : PySem.W.Frag) : Hp → Hp → List Addr → V → TV → Prop := fun H0 H μ v t => RT K H μ v t ∧ frs H0 v t
abbrev RBo : Hp → Hp → List Addr → Bool → Bool → Prop := fun _ _ _ b a => b = a
abbrev ROi : Hp → Hp → List Addr → Option Int → Option Int → Prop := fun _ _ _ b a => b = a

/-- the reading of an expression that the interpreter runs -/
def RdE (K : PySem.W.Frag) (W : WX) (m : Env → Store → R TV) : TE := fun σ H Q => ∃ μ ρ S, Wd K H μ S ∧ Sl K H μ σ ρ ∧ Post (RTV K) K W σ H μ (m ρ S) Q
def RdT (K : PySem.W.Frag) (W : WX) (m : Env → Store → R Bool) : TT := fun σ H Q => ∃ μ ρ S, Wd K H μ S ∧ Sl K H μ σ ρ ∧ Post RBo K W σ H μ (m ρ S) Q
def RdA (K : PySem.W.Frag) (W : WX) (m : Env → Store → R (List TV)) : TA := fun σ H Q => ∃ μ ρ S, Wd K H μ S ∧ Sl K H μ σ ρ ∧ Post (RA K) K W σ H μ (m ρ S) Q
def RdO (K : PySem.W.Frag) (W : WX) (m : Env → Store → R (Option Int)) : TO := fun σ H Q => ∃ μ ρ S, Wd K H μ S ∧ Sl K H μ σ ρ ∧ Post ROi K W σ H μ (m ρ S) Q

theorem PE_imp {X : Cx} {e : Expr} {t t' : TE} (h : PE X e t) (k : ∀ σ H Q, t' σ H Q → t σ H Q) : PE X e t' := ⟨fun pins s σ H Q I q => h.run pins s σ H Q I (k σ H Q q)⟩
theorem PT_imp {X : Cx} {e : Expr} {t t' : TT} (h : PT X e t) (k : ∀ σ H Q, t' σ H Q → t σ H Q) : PT X e t' := ⟨fun pins s σ H Q I q => h.run pins s σ H Q I (k σ H Q q)⟩
theorem PW_imp {X : Cx} {e : Expr} {t t' : TT} (h : PW X e t) (k : ∀ σ H Q, t' σ H Q → t σ H Q) : PW X e t' := ⟨fun wh pins s σ H Q I q => h.run wh pins s σ H Q I (k σ H Q q)⟩
theorem PA_imp {X : Cx} {es : List Expr} {t t' : TA} (h : PA X es t) (k : ∀ σ H Q, t' σ H Q → t σ H Q) : PA X es t' := ⟨fun pos pins s σ H Q I q => h.run pos pins s σ H Q I (k σ H Q q)⟩
theorem PS_imp {X : Cx} {e : Stmt} {t t' : TS} (h : PS X e t) (k : ∀ D σ H, t' D σ H → t D σ H) : PS X e t' := ⟨fun pins s σ H D I q => h.run pins s σ H D I (k D σ H q)⟩
theorem PSs_imp {X : Cx} {e : List Stmt} {t t' : TS} (h : PSs X e t) (k : ∀ D σ H, t' D σ H → t D σ H) : PSs X e t' := ⟨fun pins s σ H D I q => h.run pins s σ H D I (k D σ H q)⟩
end
end Ap
set_option Elab.async false
set_option linter.all false
set_option maxRecDepth 100000
set_option maxHeartbeats 1000000
namespace Ap
open PySem L2
/-! ### data as the library has it -/
mutual
def D.py : D → PyData
  | .non => .none
  | .bl b => .bool b
  | .int i => .int i
  | .str s => .str s
  | .tup ds => .tuple (D.pys ds)
def D.pys : List D → List PyData
  | [] => []
  | d :: ds => d.py :: D.pys ds
end
section
variable {K : PySem.W.Frag} {H : Hp}
mutual
theorem RD.dp : ∀ (d : D) (v : V), RD K H v d → Dp K H v d.py
  | .non, v, h => by simp only [RD] at h; subst h; exact .non
  | .bl b, v, h => by simp only [RD] at h; subst h; exact .bl b
  | .int i, v, h => by simp only [RD] at h; subst h; exact .int i
  | .str s, v, h => by simp only [RD] at h; obtain ⟨rfl, _⟩ := h; exact .str s
  | .tup ds, v, h => by
    simp only [RD] at h
    obtain ⟨a, vs, rfl, h1, h2, h3⟩ := h
    exact .tup h1 (RDs.dp ds vs h3)
theorem RDs.dp : ∀ (ds : List D) (vs : List V), RDs K H vs ds → DpAll K H vs (D.pys ds)
  | [], vs, h => by simp only [RDs] at h; subst h; exact .nil
  | d :: ds, vs, h => by
    simp only [RDs] at h
    obtain ⟨v, r, rfl, h1, h2⟩ := h
    exact .cons (RD.dp d v h1) (RDs.dp ds r h2)
end
mutual
theorem RD.lay : ∀ (d : D) (v : V), RD K H v d → d.py.canLay0 = true
  | .non, v, h => by simp [D.py, PyData.canLay0]
  | .bl b, v, h => by simp [D.py, PyData.canLay0]
  | .int i, v, h => by simp [D.py, PyData.canLay0]
  | .str s, v, h => by simp only [RD] at h; simp only [D.py, PyData.canLay0]; exact h.2.2
  | .tup ds, v, h => by
    simp only [RD] at h
    obtain ⟨a, vs, rfl, h1, h2, h3⟩ := h
    simp only [D.py, PyData.canLay0]; exact RDs.lay ds vs h3
theorem RDs.lay : ∀ (ds : List D) (vs : List V), RDs K H vs ds → PyData.canLayAll0 (D.pys ds) = true
  | [], vs, h => by simp [D.pys, PyData.canLayAll0]
  | d :: ds, vs, h => by
    simp only [RDs] at h
    obtain ⟨v, r, rfl, h1, h2⟩ := h
    simp only [D.pys, PyData.canLayAll0, Bool.and_eq_true]
    exact ⟨RD.lay d v h1, RDs.lay ds r h2⟩
end
end
mutual
theorem py_depth : ∀ d : D, d.py.depth = d.depth
  | .non => rfl
  | .bl _ => rfl
  | .int _ => rfl
  | .str _ => rfl
  | .tup ds => by simp only [D.py, PyData.depth, D.depth]; rw [pys_depth ds]
theorem pys_depth : ∀ ds : List D, PyData.depthAll (D.pys ds) = D.depths ds
  | [] => rfl
  | d :: ds => by simp only [D.pys, PyData.depthAll, D.depths]; rw [py_depth d, pys_depth ds]
end
theorem beq_str (i j : Str) : (i == j) = decide (i = j) := by by_cases h : i = j <;> simp [h]
theorem beq_int (i j : Int) : (i == j) = decide (i = j) := by by_cases h : i = j <;> simp [h]
mutual
theorem py_eqv : ∀ a b : D, PyData.eqv a.py b.py = D.eqv a b
  | .non, b => by cases b <;> simp [D.py, PyData.eqv, D.eqv]
  | .bl x, b => by cases b <;> simp [D.py, PyData.eqv, D.eqv, beq_int]
  | .int x, b => by cases b <;> simp [D.py, PyData.eqv, D.eqv, beq_int]
  | .str x, b => by
    cases b <;> simp [D.py, PyData.eqv, D.eqv, beq_str]
  | .tup x, b => by
    cases b with
    | tup y => simp only [D.py, PyData.eqv, D.eqv]; exact pys_eqv x y
    | _ => simp [D.py, PyData.eqv, D.eqv]
theorem pys_eqv : ∀ a b : List D, PyData.eqvAll (D.pys a) (D.pys b) = D.eqvs a b
  | [], [] => by simp [D.pys, PyData.eqvAll, D.eqvs]
  | [], _ :: _ => by simp [D.pys, PyData.eqvAll, D.eqvs]
  | _ :: _, [] => by simp [D.pys, PyData.eqvAll, D.eqvs]
  | x :: xs, y :: ys => by simp only [D.pys, PyData.eqvAll, D.eqvs]; rw [py_eqv x y, pys_eqv xs ys]
end
mutual
theorem py_alike : ∀ a b : D, PySem.W.alike a.py b.py = D.alike a b
  | .non, b => by cases b <;> simp [D.py, PySem.W.alike, D.alike]
  | .bl x, b => by cases b <;> simp [D.py, PySem.W.alike, D.alike]
  | .int x, b => by cases b <;> simp [D.py, PySem.W.alike, D.alike]
  | .str x, b => by cases b <;> simp [D.py, PySem.W.alike, D.alike]
  | .tup x, b => by
    cases b with
    | tup y => simp only [D.py, PySem.W.alike, D.alike]; exact pys_alike x y
    | _ => simp [D.py, PySem.W.alike, D.alike]
theorem pys_alike : ∀ a b : List D, PySem.W.alikeAll (D.pys a) (D.pys b) = D.alikes a b
  | [], _ => by simp [D.pys, PySem.W.alikeAll, D.alikes]
  | _ :: _, [] => by simp [D.pys, PySem.W.alikeAll, D.alikes]
  | x :: xs, y :: ys => by simp only [D.pys, PySem.W.alikeAll, D.alikes]; rw [py_alike x y, pys_alike xs ys]
end
mutual
/-- of alike data == is equality -/
theorem alike_beq : ∀ a b : D, D.alike a b = true → D.eqv a b = D.beq a b
  | .non, b, h => by cases b <;> simp [D.alike, D.eqv, D.beq] at h ⊢
  | .bl x, b, h => by cases b <;> simp [D.alike, D.eqv, D.beq] at h ⊢
  | .int x, b, h => by cases b <;> simp [D.alike, D.eqv, D.beq] at h ⊢
  | .str x, b, h => by cases b <;> simp [D.alike, D.eqv, D.beq] at h ⊢
  | .tup x, b, h => by
    cases b with
    | tup y => simp only [D.alike, D.eqv, D.beq] at h ⊢; exact alikes_beqs x y h
    | _ => simp [D.alike] at h
theorem alikes_beqs : ∀ a b : List D, D.alikes a b = true → D.eqvs a b = D.beqs a b
  | [], [], h => by simp [D.eqvs, D.beqs]
  | [], _ :: _, h => by simp [D.eqvs, D.beqs]
  | _ :: _, [], h => by simp [D.eqvs, D.beqs]
  | x :: xs, y :: ys, h => by
    simp only [D.alikes, Bool.and_eq_true] at h
    simp only [D.eqvs, D.beqs]; rw [alike_beq x y h.1, alikes_beqs xs ys h.2]
end
mutual
theorem py_lt : ∀ a b : D, D.alike a b = true → PySem.W.dataLt a.py b.py = D.lt a b
  | .non, b, h => by
    cases b <;> simp [D.alike] at h
    simp [D.py, PySem.W.dataLt, PySem.W.keyToks, PyProof.Rows.lexLt, D.lt]
  | .bl x, b, h => by
    cases b <;> simp [D.alike] at h
    rename_i y
    simp only [D.py, D.lt]; rw [PySem.W.dataLt_bool]; cases x <;> cases y <;> decide
  | .int x, b, h => by
    cases b <;> simp [D.alike] at h
    simp only [D.py, D.lt]; rw [PySem.W.dataLt_int]
  | .str x, b, h => by
    cases b <;> simp [D.alike] at h
    simp only [D.py, D.lt]; rw [PySem.W.dataLt_str]
  | .tup x, b, h => by
    cases b with
    | tup y =>
      simp only [D.py, D.lt, D.alike] at h ⊢
      rw [PySem.W.dataLt_tuple]; exact pys_lt x y h
    | _ => simp [D.alike] at h
theorem pys_lt : ∀ a b : List D, D.alikes a b = true → PyProof.Rows.lexLt PyProof.Rows.itemOrd (PySem.W.keyToksAll (D.pys a)) (PySem.W.keyToksAll (D.pys b)) = D.lts a b
  | [], [], h => by simp only [D.pys, D.lts]; decide
  | [], y :: ys, h => by
    simp only [D.pys, D.lts, PySem.W.keyToksAll]
    rw [PySem.W.lex_atom (by intro q; cases q), PySem.W.lex_one]; decide
  | x :: xs, [], h => by
    simp only [D.pys, D.lts, PySem.W.keyToksAll]
    rw [PySem.W.lex_atom (by intro q; cases q), PySem.W.lex_one]; decide
  | x :: xs, y :: ys, h => by
    simp only [D.alikes, Bool.and_eq_true] at h
    simp only [D.pys, D.lts]
    have ha : PySem.W.alike x.py y.py = true := by rw [py_alike]; exact h.1
    rw [PySem.W.dataLt_cons ha, py_eqv, alike_beq x y h.1]
    by_cases e : D.beq x y = true
    · rw [if_pos e, if_pos e]; exact pys_lt xs ys h.2
    · rw [if_neg e, if_neg e]; exact py_lt x y h.1
end
theorem pys_map : ∀ ds : List D, D.pys ds = ds.map D.py
  | [] => rfl
  | d :: ds => by simp [D.pys, pys_map ds]
end Ap
set_option Elab.async false
set_option linter.all false
set_option maxRecDepth 100000
set_option maxHeartbeats 1000000
namespace Ap
open PySem L2
section
variable {K : PySem.W.Frag} {H H' H0 H1 H2 : Hp} {μ μ' μ0 μ1 μ2 : List Addr} {S S' : Store} {W : WX} {σ : St} {ρ : Env} {X : Cx}

/-- how an operation ends: what stood stands, a value or a new object -/
def Fin (K : PySem.W.Frag) (H : Hp) (μ : List Addr) (z : TV) (Q : VK) : Prop := ∀ v' H', (∀ a o, H a = some o → H' a = some o) → RT K H' μ v' z → frs H v' z → Q v' H'
theorem Post.fin {z : TV} {Q : VK} (h : Post (RTV K) K W σ H0 μ0 (.ok z S) Q) (e : Ext H0 μ0 H μ) (w : Wd K H μ S) : Fin K H μ z Q :=
  fun v' H' k r f => h v' H' μ (e.keep k) (w.keep k) ⟨r, frs.ext e w f⟩
theorem Fin.val {x : Val} {Q : VK} (f : Fin K H μ (.val x) Q) {v : V} (r : RV K H μ v x) : Q v H := f v H (fun _ _ h => h) r trivial
theorem Fin.int {i : Int} {Q : VK} (f : Fin K H μ (vI i) Q) : Q (.int i) H := f.val (x := .dat (.int i)) (by simp only [RV, RD])
theorem Fin.bl {b : Bool} {Q : VK} (f : Fin K H μ (vB b) Q) : Q (.bl b) H := f.val (x := .dat (.bl b)) (by simp only [RV, RD])

/-! ### lists of values -/
theorem RDs.len : ∀ {ds : List D} {vs : List V}, RDs K H vs ds → vs.length = ds.length
  | [], vs, h => by simp only [RDs] at h; subst h; rfl
  | d :: ds, vs, h => by
    simp only [RDs] at h
    obtain ⟨v, r, rfl, _, h2⟩ := h
    simp [RDs.len h2]
theorem RVs.len : ∀ {ds : List Val} {vs : List V}, RVs K H μ vs ds → vs.length = ds.length
  | [], vs, h => by simp only [RVs] at h; subst h; rfl
  | d :: ds, vs, h => by
    simp only [RVs] at h
    obtain ⟨v, r, rfl, _, h2⟩ := h
    simp [RVs.len h2]
theorem RVs.of : ∀ {ds : List D} {vs : List V}, RDs K H vs ds → RVs K H μ vs (ds.map .dat)
  | [], vs, h => by simp only [RDs] at h; subst h; simp [RVs]
  | d :: ds, vs, h => by
    simp only [RDs] at h
    obtain ⟨v, r, rfl, h1, h2⟩ := h
    simp only [List.map_cons, RVs]
    exact ⟨v, r, rfl, by simp only [RV]; exact h1, RVs.of h2⟩
theorem RVs.dats : ∀ {xs : List Val} {ds : List D} {vs : List V}, datsOf xs = some ds → RVs K H μ vs xs → RDs K H vs ds
  | [], ds, vs, e, h => by
    simp only [datsOf, Option.some.injEq] at e; subst e
    simp only [RVs] at h; subst h; simp [RDs]
  | x :: xs, ds, vs, e, h => by
    simp only [RVs] at h
    obtain ⟨v, r, rfl, h1, h2⟩ := h
    cases x with
    | dat d =>
      simp only [datsOf, Option.map_eq_some_iff] at e
      obtain ⟨ds', e1, e2⟩ := e
      subst e2
      simp only [RDs]
      exact ⟨v, r, rfl, by simpa only [RV] using h1, RVs.dats e1 h2⟩
    | _ => simp [datsOf] at e
theorem datsOf_map : ∀ ds : List D, datsOf (ds.map .dat) = some ds
  | [] => rfl
  | d :: ds => by simp [datsOf, datsOf_map ds]
theorem RVs.app : ∀ {xs ys : List Val} {vs ws : List V}, RVs K H μ vs xs → RVs K H μ ws ys → RVs K H μ (vs ++ ws) (xs ++ ys)
  | [], ys, vs, ws, h, h' => by simp only [RVs] at h; subst h; exact h'
  | x :: xs, ys, vs, ws, h, h' => by
    simp only [RVs] at h
    obtain ⟨v, r, rfl, h1, h2⟩ := h
    simp only [List.cons_append, RVs]
    exact ⟨v, r ++ ws, rfl, h1, RVs.app h2 h'⟩
theorem RDs.app : ∀ {xs ys : List D} {vs ws : List V}, RDs K H vs xs → RDs K H ws ys → RDs K H (vs ++ ws) (xs ++ ys)
  | [], ys, vs, ws, h, h' => by simp only [RDs] at h; subst h; exact h'
  | x :: xs, ys, vs, ws, h, h' => by
    simp only [RDs] at h
    obtain ⟨v, r, rfl, h1, h2⟩ := h
    simp only [List.cons_append, RDs]
    exact ⟨v, r ++ ws, rfl, h1, RDs.app h2 h'⟩
theorem RVs.at : ∀ {xs : List Val} {vs : List V} {i : Nat} {x : Val}, RVs K H μ vs xs → xs[i]? = some x → ∃ v, vs[i]? = some v ∧ RV K H μ v x
  | [], _, _, _, _, e => by simp at e
  | y :: ys, vs, i, x, h, e => by
    simp only [RVs] at h
    obtain ⟨v, r, rfl, h1, h2⟩ := h
    cases i with
    | zero => simp at e; subst e; exact ⟨v, rfl, h1⟩
    | succ i =>
      obtain ⟨v', q1, q2⟩ := RVs.at (i := i) (x := x) h2 (by simpa using e)
      exact ⟨v', by simpa using q1, q2⟩
theorem RVs.drop : ∀ {xs : List Val} {vs : List V} (n : Nat), RVs K H μ vs xs → RVs K H μ (vs.drop n) (xs.drop n)
  | _, _, 0, h => h
  | [], vs, n + 1, h => by simp only [RVs] at h; subst h; simp [RVs]
  | x :: xs, vs, n + 1, h => by
    simp only [RVs] at h
    obtain ⟨v, r, rfl, h1, h2⟩ := h
    exact RVs.drop n h2
theorem RVs.take : ∀ {xs : List Val} {vs : List V} (n : Nat), RVs K H μ vs xs → RVs K H μ (vs.take n) (xs.take n)
  | _, _, 0, h => by simp [RVs]
  | [], vs, n + 1, h => by simp only [RVs] at h; subst h; simp [RVs]
  | x :: xs, vs, n + 1, h => by
    simp only [RVs] at h
    obtain ⟨v, r, rfl, h1, h2⟩ := h
    simp only [List.take_succ_cons, RVs]
    exact ⟨v, r.take n, rfl, h1, RVs.take n h2⟩
theorem RVs.cut {xs : List Val} {vs : List V} (lo hi : Option Int) (h : RVs K H μ vs xs) : RVs K H μ (cutV vs lo hi) (Ap.cut xs lo hi) := by
  have e : ∀ (n d : Nat) (o : Option Int), HT.sIx n d o = cutIx n d o := fun n d o => by cases o <;> rfl
  unfold cutV Ap.cut
  rw [e, e, h.len]
  exact (h.drop _).take _
theorem RVs.rep {xs : List Val} {vs : List V} (h : RVs K H μ vs xs) : ∀ k : Nat, RVs K H μ (List.replicate k vs).flatten (List.replicate k xs).flatten
  | 0 => by simp [RVs]
  | k + 1 => by
    simp only [List.replicate_succ, List.flatten_cons]
    exact h.app (RVs.rep h k)
theorem RVs.set : ∀ {xs : List Val} {vs : List V} (i : Nat) {x : Val} {v : V}, RVs K H μ vs xs → RV K H μ v x → RVs K H μ (vs.set i v) (xs.set i x)
  | [], vs, i, x, v, h, _ => by simp only [RVs] at h; subst h; simp [RVs]
  | y :: ys, vs, i, x, v, h, q => by
    simp only [RVs] at h
    obtain ⟨u, r, rfl, h1, h2⟩ := h
    cases i with
    | zero => simp only [List.set_cons_zero, RVs]; exact ⟨v, r, rfl, q, h2⟩
    | succ i => simp only [List.set_cons_succ, RVs]; exact ⟨u, r.set i v, rfl, h1, RVs.set i h2 q⟩
theorem RVs.ints : ∀ {ns : List Int}, RVs K H μ (ns.map V.int) (ns.map fun i => .dat (.int i))
  | [] => by simp [RVs]
  | n :: ns => by
    simp only [List.map_cons, RVs]
    exact ⟨_, _, rfl, by simp only [RV, RD], RVs.ints⟩
theorem RVs.intsOf : ∀ {xs : List Val} {ns : List Int} {vs : List V}, Ap.intsOf xs = some ns → RVs K H μ vs xs → vs = ns.map V.int
  | [], ns, vs, e, h => by
    simp only [Ap.intsOf, Option.some.injEq] at e; subst e
    simp only [RVs] at h
    rw [h]; rfl
  | x :: xs, ns, vs, e, h => by
    simp only [RVs] at h
    obtain ⟨v, r, rfl, h1, h2⟩ := h
    match x, e, h1 with
    | .dat (.int i), e, h1 =>
      simp only [Ap.intsOf, Option.map_eq_some_iff] at e
      obtain ⟨ns', e1, e2⟩ := e
      subst e2
      simp only [RV, RD] at h1
      rw [h1, RVs.intsOf e1 h2]; rfl
    | .dat .non, e, _ | .dat (.bl _), e, _ | .dat (.str _), e, _ | .dat (.tup _), e, _ => simp [Ap.intsOf] at e
    | .ref _, e, _ | .tup _, e, _ | .fn _, e, _ | .scr _, e, _ => simp [Ap.intsOf] at e
theorem RVs.blsOf : ∀ {xs : List Val} {ns : List Bool} {vs : List V}, Ap.blsOf xs = some ns → RVs K H μ vs xs → vs = ns.map V.bl
  | [], ns, vs, e, h => by
    simp only [Ap.blsOf, Option.some.injEq] at e; subst e
    simp only [RVs] at h
    rw [h]; rfl
  | x :: xs, ns, vs, e, h => by
    simp only [RVs] at h
    obtain ⟨v, r, rfl, h1, h2⟩ := h
    match x, e, h1 with
    | .dat (.bl i), e, h1 =>
      simp only [Ap.blsOf, Option.map_eq_some_iff] at e
      obtain ⟨ns', e1, e2⟩ := e
      subst e2
      simp only [RV, RD] at h1
      rw [h1, RVs.blsOf e1 h2]; rfl
    | .dat .non, e, _ | .dat (.int _), e, _ | .dat (.str _), e, _ | .dat (.tup _), e, _ => simp [Ap.blsOf] at e
    | .ref _, e, _ | .tup _, e, _ | .fn _, e, _ | .scr _, e, _ => simp [Ap.blsOf] at e
/-- a tuple, by its items -/
theorem mkTup_ok {p : Addr} {vs : List V} {xs : List Val} (h : SqT K H p vs) (hz : vs.length ≤ sizeLine) (r : RVs K H μ vs xs) : RV K H μ (.ref p) (mkTup xs) := by
  unfold mkTup
  cases e : datsOf xs with
  | none => simp only [RV]; exact ⟨p, vs, rfl, h, hz, r⟩
  | some ds => simp only [RV, RD]; exact ⟨p, vs, rfl, h, hz, r.dats e⟩
theorem Fin.tup {xs : List Val} {vs : List V} {Q : VK} (f : Fin K H μ (.val (mkTup xs)) Q) (w : Wd K H μ S) (hz : vs.length ≤ sizeLine) (r : RVs K H μ vs xs) : ∀ p, H p = none → Q (.ref p) (upd H p (.tup vs)) := fun p hp =>
  f _ _ (upd_keep hp) (mkTup_ok (SqT.of upd_same) hz (RVs.ext (ext_keep (upd_keep hp)) w xs vs r)) trivial
theorem Fin.lst {xs : List Val} {vs : List V} {Q : VK} (f : Fin K H μ (.new (.lst xs)) Q) (w : Wd K H μ S) (hz : vs.length ≤ sizeLine) (r : RVs K H μ vs xs) : ∀ p, H p = none → Q (.ref p) (upd H p (.lst vs)) := fun p hp =>
  f _ _ (upd_keep hp) ⟨p, rfl, w.ne hp, vs, upd_same, hz, RVs.ext (ext_keep (upd_keep hp)) w xs vs r⟩ (fun a e => by cases e; exact hp)

/-! ### what stands behind a value -/
theorem lst_at {t : TV} {xs : List Val} {v : V} (w : Wd K H μ S) (r : RT K H μ v t) (e : objOf t S = some (.lst xs)) : ∃ a vs, v = .ref a ∧ H a = some (.lst vs) ∧ vs.length ≤ sizeLine ∧ RVs K H μ vs xs := by
  match t, r, e with
  | .val (.ref i), r, e =>
    simp only [RT, RV] at r
    obtain ⟨a, h1, rfl⟩ := r
    simp only [objOf] at e
    obtain ⟨vs, q1, q2, q3⟩ := w.ob i a _ h1 e
    exact ⟨a, vs, rfl, q1, q2, q3⟩
  | .new o, r, e =>
    simp only [objOf, Option.some.injEq] at e
    subst e
    obtain ⟨a, rfl, h2, vs, q1, q2, q3⟩ := r
    exact ⟨a, vs, rfl, q1, q2, q3⟩
  | .val (.dat _), _, e | .val (.tup _), _, e | .val (.fn _), _, e | .val (.scr _), _, e => simp [objOf] at e
theorem lstOf_at {t : TV} {xs : List Val} {v : V} (w : Wd K H μ S) (r : RT K H μ v t) (e : lstOf t S = some xs) : ∃ a vs, v = .ref a ∧ SqL K H a vs ∧ vs.length ≤ sizeLine ∧ RVs K H μ vs xs := by
  have gen : (∀ xs', objOf t S = some (.lst xs') → xs' = xs → ∃ a vs, v = .ref a ∧ SqL K H a vs ∧ vs.length ≤ sizeLine ∧ RVs K H μ vs xs) := fun xs' h1 h2 => by
    subst h2
    obtain ⟨a, vs, e1, h1, h2, h3⟩ := lst_at w r h1
    exact ⟨a, vs, e1, SqL.of h1, h2, h3⟩
  unfold lstOf at e
  split at e
  · rename_i ns
    simp only [Option.some.injEq] at e; subst e
    simp only [RT, RV] at r
    obtain ⟨a, rfl, h1, h2⟩ := r
    refine ⟨a, _, rfl, ?_, by simpa using h1, RVs.ints⟩
    rcases h2 with h2 | ⟨o, h2⟩
    · exact h2 H
    · exact .inl (.inr ⟨o, h2⟩)
  · split at e
    · rename_i xs' h
      exact gen _ h (by simpa using e)
    · cases e
theorem seqOf_at {t : TV} {xs : List Val} {v : V} (w : Wd K H μ S) (r : RT K H μ v t) (e : seqOf t S = some xs) : ∃ a vs, v = .ref a ∧ (SqL K H a vs ∨ SqT K H a vs) ∧ vs.length ≤ sizeLine ∧ RVs K H μ vs xs := by
  unfold seqOf at e
  split at e
  · simp only [Option.some.injEq] at e; subst e
    simp only [RT, RV, RD] at r
    obtain ⟨a, vs, rfl, h1, h2, h3⟩ := r
    exact ⟨a, vs, rfl, .inr h1, h2, .of h3⟩
  · simp only [Option.some.injEq] at e; subst e
    simp only [RT, RV] at r
    obtain ⟨a, vs, rfl, h1, h2, h3⟩ := r
    exact ⟨a, vs, rfl, .inr h1, h2, h3⟩
  · obtain ⟨a, vs, h1, h2, h3, h4⟩ := lstOf_at w r e
    exact ⟨a, vs, h1, .inl h2, h3, h4⟩
end
end Ap
set_option Elab.async false
set_option linter.all false
set_option maxRecDepth 100000
set_option maxHeartbeats 1000000
namespace Ap
open PySem L2
section
variable {K : PySem.W.Frag} {H H' H0 H1 H2 : Hp} {μ μ' μ0 μ1 μ2 : List Addr} {S S' : Store} {W : WX} {σ : St} {ρ : Env} {X : Cx}

def Bop.py : Bop → Operator
  | .add => .Add
  | .sub => .Sub
  | .mul => .Mult
  | .fdiv => .FloorDiv
  | .mod => .Mod
  | .pow => .Pow
def Cop.py : Cop → CmpOp
  | .lt => .Lt
  | .le => .LtE
  | .gt => .Gt
  | .ge => .GtE
  | .eq => .Eq
  | .ne => .NotEq
  | .is => .Is
  | .isnot => .IsNot
  | .isin => .In
  | .notin => .NotIn

theorem line_eq : line = sizeLine := by decide
theorem okApp {a b : Str} (ha : a.cps.all (· < 0x110000) = true) (hb : b.cps.all (· < 0x110000) = true) : (a ++ b).cps.all (· < 0x110000) = true := by
  show (a.cps ++ b.cps).all _ = true
  rw [Array.all_append, ha, hb]; rfl
theorem lenApp (a b : Str) : (a ++ b).length = a.length + b.length := by
  show (a.cps ++ b.cps).size = _
  rw [Array.size_append]; rfl

/-- what an operator's rule gives -/
def OpOk (X : Cx) (f : Value → Value → Sem Value) (g : TV → TV → Store → Option TV) : Prop :=
  ∃ r : R2, OpR X f r ∧ ∀ {H : Hp} {μ : List Addr} {S : Store} {v u : V} {x y z : TV} {Q : VK}, Wd X.K H μ S → RT X.K H μ v x → RT X.K H μ u y → g x y S = some z → Fin X.K H μ z Q → r v u H Q

/-- the data's part of an operator: two data, one datum -/
theorem RT.dat {v : V} {d : D} (h : RT K H μ v (.val (.dat d))) : RD K H v d := by simpa only [RT, RV] using h
theorem bin_dat {op : Bop} {x y z : TV} (h : bin op x y S = some z) : (∃ a b c, x = .val (.dat a) ∧ y = .val (.dat b) ∧ z = .val (.dat c) ∧ binD op a b = some c) ∨
    (op = .add ∧ ∃ xs ys, objOf x S = some (.lst xs) ∧ objOf y S = some (.lst ys) ∧ xs.length + ys.length ≤ line ∧ z = .new (.lst (xs ++ ys))) ∨
    (op = .mul ∧ ∃ xs k, objOf x S = some (.lst xs) ∧ y = .val (.dat (.int k)) ∧ k < 2 ^ 62 ∧ -(2 ^ 62) < k ∧ xs.length * k.toNat ≤ line ∧ z = .new (.lst (List.replicate k.toNat xs).flatten)) := by
  unfold bin at h
  split at h
  · rename_i a b
    simp only [Option.map_eq_some_iff] at h
    obtain ⟨c, h1, h2⟩ := h
    exact .inl ⟨a, b, c, rfl, rfl, h2.symm, h1⟩
  · split at h
    · rename_i xs ys h1 h2
      split at h
      · rename_i h3
        simp only [Option.some.injEq] at h
        exact .inr (.inl ⟨rfl, xs, ys, h1, h2, h3, h.symm⟩)
      · cases h
    · rename_i o1 xs h1
      split at h
      · rename_i k _
        split at h
        · rename_i h3
          simp only [Bool.and_eq_true, decide_eq_true_eq] at h3
          simp only [Option.some.injEq] at h
          exact .inr (.inr ⟨rfl, xs, k, h1, rfl, h3.1.1, h3.1.2, h3.2, h.symm⟩)
        · cases h
      · cases h
    · cases h
theorem RDs.rep {H : Hp} {vs : List V} {ds : List D} (h : RDs K H vs ds) : ∀ n : Nat, RDs K H (List.replicate n vs).flatten (List.replicate n ds).flatten
  | 0 => by simp [RDs]
  | n + 1 => by
    simp only [List.replicate_succ, List.flatten_cons]
    exact RDs.app h (RDs.rep h n)
theorem bin_ok (op : Bop) : OpOk X (binaryOp op.py) (bin op) := by
  cases op with
  | add =>
    refine ⟨_, OpR.or op_add (OpR.or op_add_str (OpR.or op_catA op_cat)), fun {H μ S v u x y z Q} w rx ry hh f => ?_⟩
    rcases bin_dat hh with ⟨a, b, c, rfl, rfl, rfl, h⟩ | ⟨_, xs, ys, h1, h2, h3, rfl⟩ | ⟨h0, _⟩
    · clear hh
      have ra := rx.dat
      have rb := ry.dat
      unfold binD at h
      split at h <;> simp_all only [RD, reduceCtorEq, Option.some.injEq]
      · subst h; exact .inl ⟨_, _, rfl, rfl, f.int⟩
      · split at h
        · rename_i h3
          simp only [Option.some.injEq] at h; subst h
          obtain ⟨rfl, l1, o1⟩ := ra
          obtain ⟨rfl, l2, o2⟩ := rb
          have hl := h3
          rw [line_eq] at hl
          exact .inr (.inl ⟨_, _, rfl, rfl, hl, f.val (by simp only [RV, RD]; exact ⟨trivial, by rw [lenApp]; exact hl, okApp o1 o2⟩)⟩)
        · cases h
      · split at h
        · rename_i h3
          simp only [Option.some.injEq] at h; subst h
          obtain ⟨p, vs, rfl, q1, q2, q3⟩ := ra
          obtain ⟨p', vs', rfl, q1', q2', q3'⟩ := rb
          have hl : vs.length + vs'.length ≤ sizeLine := by rw [q3.len, q3'.len, ← line_eq]; exact h3
          have hz : (vs ++ vs').length ≤ sizeLine := by rw [List.length_append]; exact hl
          have e0 : ∀ {t : Addr} {us : List V}, us = vs ++ vs' → SqT X.K H t us → RV X.K H μ (.ref t) (.dat (.tup (_ ++ _))) := fun {t us} e q => by
            subst e
            simp only [RV, RD]; exact ⟨t, _, rfl, q, hz, q3.app q3'⟩
          refine .inr (.inr (.inl ⟨p, p', vs, vs', rfl, rfl, q1, q1', hl, fun e => ?_, fun _ e => ?_, fun _ _ t ht => ?_⟩))
          · exact f.val (e0 (us := vs') (by rw [e]; rfl) q1')
          · exact f.val (e0 (us := vs) (by rw [e]; simp) q1)
          · refine f _ _ (upd_keep ht) ?_ trivial
            simp only [RT, RV, RD]
            exact ⟨t, _, rfl, SqT.of upd_same, hz, RDs.ext (ext_keep (upd_keep ht)) w _ _ (q3.app q3')⟩
        · cases h
    · obtain ⟨p, vs, rfl, q1, q2, q3⟩ := lst_at w rx h1
      obtain ⟨p', vs', rfl, q1', q2', q3'⟩ := lst_at w ry h2
      have hl : vs.length + vs'.length ≤ sizeLine := by rw [q3.len, q3'.len, ← line_eq]; exact h3
      exact .inr (.inr (.inr ⟨p, p', vs, vs', rfl, rfl, q1, q1', hl, f.lst w (by rw [List.length_append]; exact hl) (q3.app q3')⟩))
    · cases h0
  | sub =>
    refine ⟨_, op_sub, fun {H μ S v u x y z Q} w rx ry hh f => ?_⟩
    rcases bin_dat hh with ⟨a, b, c, rfl, rfl, rfl, h⟩ | ⟨h0, _⟩ | ⟨h0, _⟩
    · clear hh
      have ra := rx.dat
      have rb := ry.dat
      unfold binD at h
      split at h <;> simp_all only [RD, reduceCtorEq, Option.some.injEq]
      subst h; exact ⟨_, _, rfl, rfl, f.int⟩
    · cases h0
    · cases h0
  | mul =>
    refine ⟨_, OpR.or op_mul (OpR.or op_mulW (OpR.or op_rep op_repT)), fun {H μ S v u x y z Q} w rx ry hh f => ?_⟩
    rcases bin_dat hh with ⟨a, b, c, rfl, rfl, rfl, h⟩ | ⟨h0, _⟩ | ⟨_, xs, k, h1, rfl, h2, h3, h4, rfl⟩
    · clear hh
      have ra := rx.dat
      have rb := ry.dat
      unfold binD at h
      split at h <;> simp_all only [RD, reduceCtorEq, Option.some.injEq]
      rename_i i j
      split at h
      · rename_i h3
        simp only [Option.some.injEq] at h; subst h
        unfold mulOk at h3
        simp only [Bool.or_eq_true, Bool.and_eq_true, decide_eq_true_eq] at h3
        rcases h3 with (h3 | h3) | h3
        · exact .inl ⟨_, _, rfl, rfl, .inl (by omega), f.int⟩
        · exact .inl ⟨_, _, rfl, rfl, .inr (by omega), f.int⟩
        · exact .inr (.inl ⟨_, _, rfl, rfl, wide_mul h3.1 h3.2 (by decide) (by decide) (by decide), f.int⟩)
      · cases h
      split at h
      · rename_i ds k h3
        simp only [Option.some.injEq] at h; subst h
        simp only [Bool.and_eq_true, decide_eq_true_eq, Bool.not_eq_true', List.isEmpty_eq_false_iff] at h3
        obtain ⟨⟨⟨h4, h5⟩, h6⟩, h7⟩ := h3
        obtain ⟨p, vs, rfl, q1, q2, q3⟩ := ra
        have hl : vs.length = ds.length := q3.len
        have hz : (List.replicate k.toNat vs).flatten.length ≤ sizeLine := by
          rw [List.length_flatten, List.map_replicate, List.sum_replicate_nat, sizeLine_eq]
          have : k.toNat * vs.length ≤ 1000 * 1000 := Nat.mul_le_mul (by omega) (by omega)
          omega
        refine .inr (.inr (.inr ⟨p, k, vs, rfl, rfl, q1, ?_, h5, h6, by omega, fun t ht => ?_⟩))
        · rintro rfl
          exact h4 (List.eq_nil_of_length_eq_zero hl.symm)
        · refine f _ _ (upd_keep ht) ?_ trivial
          simp only [RT, RV, RD]
          exact ⟨t, _, rfl, SqT.of upd_same, hz, RDs.ext (ext_keep (upd_keep ht)) w _ _ (RDs.rep q3 k.toNat)⟩
      · cases h
    · cases h0
    · obtain ⟨p, vs, rfl, q1, q2, q3⟩ := lst_at w rx h1
      have rb := ry.dat
      simp only [RD] at rb
      subst rb
      have hl : vs.length * k.toNat ≤ sizeLine := by rw [q3.len, ← line_eq]; exact h4
      exact .inr (.inr (.inl ⟨p, k, vs, rfl, rfl, q1, by omega, by omega, hl, f.lst w (by rw [List.length_flatten]; simp [List.sum_replicate_nat]; rw [Nat.mul_comm]; exact hl) (q3.rep _)⟩))
  | fdiv =>
    refine ⟨_, op_fdivW, fun {H μ S v u x y z Q} w rx ry hh f => ?_⟩
    rcases bin_dat hh with ⟨a, b, c, rfl, rfl, rfl, h⟩ | ⟨h0, _⟩ | ⟨h0, _⟩
    · clear hh
      have ra := rx.dat
      have rb := ry.dat
      unfold binD at h
      split at h <;> simp_all only [RD, reduceCtorEq, Option.some.injEq]
      split at h
      · rename_i h3
        simp only [Option.some.injEq] at h; subst h
        simp only [Bool.and_eq_true, decide_eq_true_eq] at h3
        exact ⟨_, _, rfl, rfl, wide_div h3.1 h3.2 (by decide) (by decide), f.int⟩
      · cases h
    · cases h0
    · cases h0
  | mod =>
    refine ⟨_, op_mod, fun {H μ S v u x y z Q} w rx ry hh f => ?_⟩
    rcases bin_dat hh with ⟨a, b, c, rfl, rfl, rfl, h⟩ | ⟨h0, _⟩ | ⟨h0, _⟩
    · clear hh
      have ra := rx.dat
      have rb := ry.dat
      unfold binD at h
      split at h <;> simp_all only [RD, reduceCtorEq, Option.some.injEq]
      split at h
      · rename_i h3
        simp only [Option.some.injEq] at h; subst h
        exact ⟨_, _, rfl, rfl, h3, f.int⟩
      · cases h
    · cases h0
    · cases h0
  | pow =>
    refine ⟨_, op_pow, fun {H μ S v u x y z Q} w rx ry hh f => ?_⟩
    rcases bin_dat hh with ⟨a, b, c, rfl, rfl, rfl, h⟩ | ⟨h0, _⟩ | ⟨h0, _⟩
    · clear hh
      have ra := rx.dat
      have rb := ry.dat
      unfold binD at h
      split at h <;> simp_all only [RD, reduceCtorEq, Option.some.injEq]
      split at h
      · rename_i h3
        simp only [Option.some.injEq] at h; subst h
        simp only [Bool.and_eq_true, decide_eq_true_eq] at h3
        exact ⟨_, _, rfl, rfl, ⟨h3.1.1, by omega, h3.2⟩, f.int⟩
      · cases h
    · cases h0
    · cases h0
end
end Ap
set_option Elab.async false
set_option linter.all false
set_option maxRecDepth 100000
set_option maxHeartbeats 1000000
namespace Ap
open PySem L2
section
variable {K : PySem.W.Frag} {H H' H0 H1 H2 : Hp} {μ μ' μ0 μ1 μ2 : List Addr} {S S' : Store} {W : WX} {σ : St} {ρ : Env} {X : Cx}

/-! ### comparisons -/
mutual
theorem alike_sym : ∀ a b : D, D.alike a b = D.alike b a
  | .non, b => by cases b <;> rfl
  | .bl _, b => by cases b <;> rfl
  | .int _, b => by cases b <;> rfl
  | .str _, b => by cases b <;> rfl
  | .tup x, b => by
    cases b with
    | tup y => simp only [D.alike]; exact alikes_sym x y
    | _ => rfl
theorem alikes_sym : ∀ a b : List D, D.alikes a b = D.alikes b a
  | [], [] => rfl
  | [], _ :: _ => rfl
  | _ :: _, [] => rfl
  | x :: xs, y :: ys => by simp only [D.alikes]; rw [alike_sym x y, alikes_sym xs ys]
end
def rOrd (K : PySem.W.Frag) (g : D → D → Bool) : R2 := fun x y H Q => ∃ d e, RD K H x d ∧ RD K H y e ∧ ordOk d e = true ∧ Q (.bl (g d e)) H
theorem ord_reads {pins : List (Addr × PySem.Obj)} {s : Shared} {x y : V} {v u : Value} {d e : D} (hu : X.A.units + 64 < cLine) (I : Inv X pins σ H s) (rx : RelV x v) (ry : RelV y u) (h1 : RD X.K H x d) (h2 : RD X.K H y e) (h : ordOk d e = true) :
    ∃ as bs, Reads s.heap v d.py as ∧ Reads s.heap u e.py bs ∧ PySem.W.alike d.py e.py = true ∧ PySem.W.alike e.py d.py = true ∧ d.py ≠ .none ∧ X.A.units + min d.py.depth e.py.depth < cLine ∧ D.alike d e = true ∧ D.alike e d = true := by
  obtain ⟨as, r1⟩ := Dp.reads I d.py x v h1.dp rx
  obtain ⟨bs, r2⟩ := Dp.reads I e.py y u h2.dp ry
  unfold ordOk at h
  simp only [Bool.and_eq_true, decide_eq_true_eq] at h
  have ha : PySem.W.alike d.py e.py = true := by rw [py_alike]; exact h.1.1
  have hb : PySem.W.alike e.py d.py = true := by rw [py_alike, alike_sym, ← py_alike]; exact ha
  refine ⟨as, bs, r1, r2, ha, hb, ?_, ?_, h.1.1, by rw [← py_alike]; exact hb⟩
  · cases d <;> simp [D.py] at h ⊢
  · rw [py_depth]; have := h.2; omega
theorem op_ltR (hu : X.A.units + 64 < cLine) : OpR X (compareOp .Lt) (rOrd X.K D.lt) := by
  intro pins s σ H x y v u Q I rx ry ⟨d, e, h1, h2, h3, q⟩
  obtain ⟨as, bs, r1, r2, a1, a2, nn, hd, b1, b2⟩ := ord_reads hu I rx ry h1 h2 h3
  exact PySem.W.lt_data r1 r2 a1 nn hd ⟨.bl _, H, I, by rw [py_lt _ _ b1]; rfl, q⟩
theorem op_gtR (hu : X.A.units + 64 < cLine) : OpR X (compareOp .Gt) (rOrd X.K fun d e => D.lt e d) := by
  intro pins s σ H x y v u Q I rx ry ⟨d, e, h1, h2, h3, q⟩
  obtain ⟨as, bs, r1, r2, a1, a2, nn, hd, b1, b2⟩ := ord_reads hu I rx ry h1 h2 h3
  exact PySem.W.gt_data r1 r2 a1 nn hd ⟨.bl _, H, I, by rw [py_lt _ _ b2]; rfl, q⟩
theorem op_leR (hu : X.A.units + 64 < cLine) : OpR X (compareOp .LtE) (rOrd X.K fun d e => !D.lt e d) := by
  intro pins s σ H x y v u Q I rx ry ⟨d, e, h1, h2, h3, q⟩
  obtain ⟨as, bs, r1, r2, a1, a2, nn, hd, b1, b2⟩ := ord_reads hu I rx ry h1 h2 h3
  exact PySem.W.le_data r1 r2 a1 nn hd ⟨.bl _, H, I, by rw [py_lt _ _ b2]; rfl, q⟩
theorem op_geR (hu : X.A.units + 64 < cLine) : OpR X (compareOp .GtE) (rOrd X.K fun d e => !D.lt d e) := by
  intro pins s σ H x y v u Q I rx ry ⟨d, e, h1, h2, h3, q⟩
  obtain ⟨as, bs, r1, r2, a1, a2, nn, hd, b1, b2⟩ := ord_reads hu I rx ry h1 h2 h3
  exact PySem.W.ge_data r1 r2 a1 nn hd ⟨.bl _, H, I, by rw [py_lt _ _ b1]; rfl, q⟩
theorem isNon_iff {v : V} {t : TV} (r : RT K H μ v t) : decide (v = .non) = t.isNon := by
  match t, r with
  | .val (.dat .non), r => simp only [RT, RV, RD] at r; subst r; rfl
  | .val (.dat (.bl _)), r => simp only [RT, RV, RD] at r; subst r; rfl
  | .val (.dat (.int _)), r => simp only [RT, RV, RD] at r; subst r; rfl
  | .val (.dat (.str _)), r => simp only [RT, RV, RD] at r; obtain ⟨rfl, _⟩ := r; rfl
  | .val (.dat (.tup _)), r => simp only [RT, RV, RD] at r; obtain ⟨a, vs, rfl, _⟩ := r; rfl
  | .val (.ref _), r => simp only [RT, RV] at r; obtain ⟨a, _, rfl⟩ := r; rfl
  | .val (.tup _), r => simp only [RT, RV] at r; obtain ⟨a, vs, rfl, _⟩ := r; rfl
  | .val (.fn _), r => simp only [RT, RV] at r; subst r; rfl
  | .val (.scr _), r => simp only [RT, RV] at r; obtain ⟨a, rfl, _⟩ := r; rfl
  | .new _, r => obtain ⟨a, rfl, _⟩ := r; rfl
theorem cmpD_of {op : Cop} {x y z : TV} (ho : op ≠ .is ∧ op ≠ .isnot ∧ op ≠ .isin ∧ op ≠ .notin) (h : cmpT op x y S = some z) : ∃ a b c, x = .val (.dat a) ∧ y = .val (.dat b) ∧ z = vB c ∧ cmpD op a b = some c := by
  unfold cmpT cmp at h
  obtain ⟨h1, h2, h3, h4⟩ := ho
  cases op <;> simp_all only [ne_eq, not_true_eq_false, not_false_eq_true, reduceCtorEq] <;>
  · simp only [Option.map_eq_some_iff] at h
    obtain ⟨c, h, rfl⟩ := h
    split at h
    · exact ⟨_, _, c, rfl, rfl, rfl, h⟩
    · cases h
theorem inSign {x y : Str} (h : x.length = 1) : ∃ c, x = ⟨#[c]⟩ ∧ inStr x y = decide (c ∈ y.cps.toList) := by
  obtain ⟨cps⟩ := x
  have h' : cps.size = 1 := h
  obtain ⟨c, hc⟩ : ∃ c, cps = #[c] := ⟨cps[0], by
    apply Array.ext
    · simp [h']
    · intro i h1 h2
      have : i = 0 := by simp at h2; omega
      subst this; rfl⟩
  subst hc
  refine ⟨c, rfl, ?_⟩
  simp [inStr, Str.length]
theorem flat_V {v : V} {d : D} (h : RD K H v d) (f : d.flat = true) : flatV v = true ∧ ∀ {u : V} {e : D}, RD K H u e → e.flat = true → eqV u v = D.eqv e d := by
  cases d <;> simp only [RD] at h <;> simp only [D.flat, Bool.false_eq_true] at f
  case non =>
    subst h
    refine ⟨rfl, fun {u e} hu fe => ?_⟩
    cases e <;> simp only [RD] at hu <;> simp only [D.flat, Bool.false_eq_true] at fe <;> first | (subst hu; rfl) | (obtain ⟨rfl, _⟩ := hu; rfl)
  case bl =>
    subst h
    refine ⟨rfl, fun {u e} hu fe => ?_⟩
    cases e <;> simp only [RD] at hu <;> simp only [D.flat, Bool.false_eq_true] at fe <;> first | (subst hu; simp [eqV, D.eqv, beq_int]) | (obtain ⟨rfl, _⟩ := hu; rfl)
  case int =>
    subst h
    refine ⟨rfl, fun {u e} hu fe => ?_⟩
    cases e <;> simp only [RD] at hu <;> simp only [D.flat, Bool.false_eq_true] at fe <;> first | (subst hu; simp [eqV, D.eqv, beq_int]) | (obtain ⟨rfl, _⟩ := hu; rfl)
  case str =>
    obtain ⟨rfl, _⟩ := h
    refine ⟨rfl, fun {u e} hu fe => ?_⟩
    cases e <;> simp only [RD] at hu <;> simp only [D.flat, Bool.false_eq_true] at fe <;> first | (subst hu; simp [eqV, D.eqv, beq_str]) | (obtain ⟨rfl, _⟩ := hu; simp [eqV, D.eqv, beq_str])
theorem flats_V {v : V} {d : D} (h : RD K H v d) (f : d.flat = true) : ∀ {es : List D} {us : List V}, RDs K H us es → es.all D.flat = true → us.all flatV = true ∧ inV v us = es.any fun y => D.eqv y d
  | [], us, r, _ => by simp only [RDs] at r; subst r; exact ⟨rfl, rfl⟩
  | e :: es, us, r, q => by
    simp only [RDs] at r
    obtain ⟨u, rest, rfl, h1, h2⟩ := r
    simp only [List.all_cons, Bool.and_eq_true] at q
    obtain ⟨a1, a2⟩ := flats_V h f h2 q.2
    refine ⟨by simp only [List.all_cons, Bool.and_eq_true]; exact ⟨(flat_V h1 q.1).1, a1⟩, ?_⟩
    unfold inV at a2 ⊢
    simp only [List.any_cons]
    rw [a2, (flat_V h f).2 h1 q.1]
theorem inSeq_at {x b : TV} {v u : V} {k : Bool} (w : Wd K H μ S) (rx : RT K H μ v x) (rb : RT K H μ u b) (h : inSeq x b S = some k) : ∃ p xs, u = .ref p ∧ (SqL K H p xs ∨ SqT K H p xs) ∧ flatV v = true ∧ xs.all flatV = true ∧ inV v xs = k := by
  unfold inSeq at h
  split at h
  · rename_i d
    simp only [Option.bind_eq_some_iff] at h
    obtain ⟨xs, h1, ds, h2, h3⟩ := h
    split at h3
    · rename_i hf
      simp only [Bool.and_eq_true] at hf
      simp only [Option.some.injEq] at h3
      obtain ⟨p, vs, rfl, q1, q2, q3⟩ := seqOf_at w rb h1
      have rd := rx.dat
      obtain ⟨a1, a2⟩ := flats_V rd hf.1 (q3.dats h2) hf.2
      exact ⟨p, vs, rfl, q1, (flat_V rd hf.1).1, a1, a2.trans h3⟩
    · cases h3
  · cases h
theorem cmp_ok (hu : X.A.units + 64 < cLine) (op : Cop) : OpOk X (compareOp op.py) (cmpT op) := by
  cases op with
  | lt =>
    refine ⟨_, op_ltR hu, fun {H μ S v u x y z Q} w rx ry hh f => ?_⟩
    obtain ⟨a, b, c, rfl, rfl, rfl, h⟩ := cmpD_of (by simp) hh
    simp only [cmpD] at h
    split at h
    · rename_i h1; simp only [Option.some.injEq] at h; subst h; exact ⟨a, b, rx.dat, ry.dat, h1, f.bl⟩
    · cases h
  | le =>
    refine ⟨_, op_leR hu, fun {H μ S v u x y z Q} w rx ry hh f => ?_⟩
    obtain ⟨a, b, c, rfl, rfl, rfl, h⟩ := cmpD_of (by simp) hh
    simp only [cmpD] at h
    split at h
    · rename_i h1; simp only [Option.some.injEq] at h; subst h; exact ⟨a, b, rx.dat, ry.dat, h1, f.bl⟩
    · cases h
  | gt =>
    refine ⟨_, op_gtR hu, fun {H μ S v u x y z Q} w rx ry hh f => ?_⟩
    obtain ⟨a, b, c, rfl, rfl, rfl, h⟩ := cmpD_of (by simp) hh
    simp only [cmpD] at h
    split at h
    · rename_i h1; simp only [Option.some.injEq] at h; subst h; exact ⟨a, b, rx.dat, ry.dat, h1, f.bl⟩
    · cases h
  | ge =>
    refine ⟨_, op_geR hu, fun {H μ S v u x y z Q} w rx ry hh f => ?_⟩
    obtain ⟨a, b, c, rfl, rfl, rfl, h⟩ := cmpD_of (by simp) hh
    simp only [cmpD] at h
    split at h
    · rename_i h1; simp only [Option.some.injEq] at h; subst h; exact ⟨a, b, rx.dat, ry.dat, h1, f.bl⟩
    · cases h
  | eq =>
    refine ⟨_, op_eqD hu, fun {H μ S v u x y z Q} w rx ry hh f => ?_⟩
    obtain ⟨a, b, c, rfl, rfl, rfl, h⟩ := cmpD_of (by simp) hh
    simp only [cmpD] at h
    split at h
    · rename_i h1
      simp only [Bool.and_eq_true, decide_eq_true_eq] at h1
      simp only [Option.some.injEq] at h; subst h
      refine ⟨a.py, b.py, rx.dat.dp, ry.dat.dp, ?_, ?_, by rw [py_eqv]; exact f.bl⟩
      · unfold SeqAt.shaped; rw [rx.dat.lay, py_depth]; simp; omega
      · unfold SeqAt.shaped; rw [ry.dat.lay, py_depth]; simp; omega
    · cases h
  | ne =>
    refine ⟨_, op_neD hu, fun {H μ S v u x y z Q} w rx ry hh f => ?_⟩
    obtain ⟨a, b, c, rfl, rfl, rfl, h⟩ := cmpD_of (by simp) hh
    simp only [cmpD] at h
    split at h
    · rename_i h1
      simp only [Bool.and_eq_true, decide_eq_true_eq] at h1
      simp only [Option.some.injEq] at h; subst h
      refine ⟨a.py, b.py, rx.dat.dp, ry.dat.dp, ?_, ?_, by rw [py_eqv]; exact f.bl⟩
      · unfold SeqAt.shaped; rw [rx.dat.lay, py_depth]; simp; omega
      · unfold SeqAt.shaped; rw [ry.dat.lay, py_depth]; simp; omega
    · cases h
  | is =>
    refine ⟨_, op_isN, fun {H μ S v u x y z Q} w rx ry hh f => ?_⟩
    unfold cmpT cmp at hh
    simp only [Option.map_eq_some_iff] at hh
    obtain ⟨c, h, rfl⟩ := hh
    split at h
    · simp only [Option.some.injEq] at h; subst h
      exact ⟨by simpa only [RD] using ry.dat, by rw [isNon_iff rx]; exact f.bl⟩
    · cases h
  | isnot =>
    refine ⟨_, op_notN, fun {H μ S v u x y z Q} w rx ry hh f => ?_⟩
    unfold cmpT cmp at hh
    simp only [Option.map_eq_some_iff] at hh
    obtain ⟨c, h, rfl⟩ := hh
    split at h
    · simp only [Option.some.injEq] at h; subst h
      exact ⟨by simpa only [RD] using ry.dat, by rw [isNon_iff rx]; exact f.bl⟩
    · cases h
  | isin =>
    refine ⟨_, OpR.or op_in_sign op_in_seq, fun {H μ S v u x y z Q} w rx ry hh f => ?_⟩
    unfold cmpT cmp at hh
    simp only [Option.map_eq_some_iff] at hh
    obtain ⟨c, h, rfl⟩ := hh
    split at h
    · rename_i a b
      split at h
      · rename_i h1
        simp only [Option.some.injEq] at h; subst h
        obtain ⟨c, rfl, e⟩ := inSign (y := b) h1
        rw [e] at f
        have r1 := rx.dat
        have r2 := ry.dat
        simp only [RD] at r1 r2
        exact .inl ⟨c, b, r1.1, r2.1, f.bl⟩
      · cases h
    · obtain ⟨p, xs, rfl, q1, q2, q3, q4⟩ := inSeq_at w rx ry h
      subst q4
      exact .inr ⟨p, xs, rfl, q1, q2, q3, f.bl⟩
  | notin =>
    refine ⟨_, OpR.or op_notIn_sign op_notIn_seq, fun {H μ S v u x y z Q} w rx ry hh f => ?_⟩
    unfold cmpT cmp at hh
    simp only [Option.map_eq_some_iff] at hh
    obtain ⟨c, h, rfl⟩ := hh
    split at h
    · rename_i a b
      split at h
      · rename_i h1
        simp only [Option.some.injEq] at h; subst h
        obtain ⟨c, rfl, e⟩ := inSign (y := b) h1
        rw [e] at f
        have r1 := rx.dat
        have r2 := ry.dat
        simp only [RD] at r1 r2
        exact .inl ⟨c, b, r1.1, r2.1, f.bl⟩
      · cases h
    · simp only [Option.map_eq_some_iff] at h
      obtain ⟨k, h, rfl⟩ := h
      obtain ⟨p, xs, rfl, q1, q2, q3, q4⟩ := inSeq_at w rx ry h
      subst q4
      exact .inr ⟨p, xs, rfl, q1, q2, q3, f.bl⟩
end
end Ap
set_option Elab.async false
set_option linter.all false
set_option maxRecDepth 100000
set_option maxHeartbeats 1000000
namespace Ap
open PySem L2
section
variable {K : PySem.W.Frag} {H H' H0 H1 H2 : Hp} {μ μ' μ0 μ1 μ2 : List Addr} {S S' : Store} {W : WX} {σ : St} {ρ : Env} {X : Cx}

/-! ### places, slices, truth -/
theorem place_eq (n : Nat) (i : Int) : ixN n i = place n i := rfl
theorem item_at {xs : List Val} {vs : List V} {i : Int} {x : Val} (r : RVs K H μ vs xs) (h : item xs i = some x) : ∃ v, atI vs i = some v ∧ RV K H μ v x := by
  unfold item at h
  simp only [Option.bind_eq_some_iff] at h
  obtain ⟨j, h1, h2⟩ := h
  obtain ⟨v, q1, q2⟩ := r.at h2
  refine ⟨v, ?_, q2⟩
  unfold atI
  rw [r.len, place_eq, h1]
  exact q1
theorem signs_at {s : Str} {i : Int} {d : D} (h : item (signs s) i = some d) : ∃ c, atI s.cps.toList i = some c ∧ d = .str ⟨#[c]⟩ := by
  unfold item signs at h
  simp only [Option.bind_eq_some_iff, List.getElem?_map, Option.map_eq_some_iff, List.length_map] at h
  obtain ⟨j, h1, c, h2, rfl⟩ := h
  refine ⟨c, ?_, rfl⟩
  unfold atI
  rw [place_eq, h1]; exact h2
theorem sign_ok {s : Str} {c : Nat} (h : s.cps.all (· < 0x110000) = true) (hc : c ∈ s.cps.toList) : RD K H (.str ⟨#[c]⟩) (.str ⟨#[c]⟩) := by
  simp only [RD]
  refine ⟨trivial, by show 1 ≤ sizeLine; decide, ?_⟩
  rw [Array.all_eq_true'] at h
  have := h c (by simpa using hc)
  simpa using this
theorem atI_mem {α : Type} {xs : List α} {i : Int} {v : α} (h : atI xs i = some v) : v ∈ xs := by
  unfold atI at h
  simp only [Option.bind_eq_some_iff] at h
  obtain ⟨j, _, h⟩ := h
  exact List.mem_of_getElem? h
theorem ix_ok : ∃ r : R2, IxR X r ∧ ∀ {H : Hp} {μ : List Addr} {S : Store} {v u : V} {x y z : TV} {Q : VK}, Wd X.K H μ S → RT X.K H μ v x → RT X.K H μ u y → index x y S = some z → Fin X.K H μ z Q → r v u H Q := by
  refine ⟨_, ix_seq, fun {H μ S v u x y z Q} w rx ry h f => ?_⟩
  unfold index at h
  split at h
  · rename_i k
    have rk := ry.dat
    simp only [RD] at rk
    subst rk
    split at h
    · rename_i s
      simp only [Option.map_eq_some_iff] at h
      obtain ⟨d, h1, rfl⟩ := h
      obtain ⟨c, q1, rfl⟩ := signs_at h1
      have rs := rx.dat
      simp only [RD] at rs
      obtain ⟨rfl, hz, ho⟩ := rs
      exact .inr (.inr ⟨s, k, c, rfl, rfl, hz, q1, f.val (x := .dat (.str ⟨#[c]⟩)) (by simp only [RV]; exact sign_ok ho (atI_mem q1))⟩)
    · simp only [Option.bind_eq_some_iff, Option.map_eq_some_iff] at h
      obtain ⟨xs, h1, x', h2, rfl⟩ := h
      obtain ⟨a, vs, rfl, q1, q2, q3⟩ := seqOf_at w rx h1
      obtain ⟨v', p1, p2⟩ := item_at q3 h2
      rcases q1 with q1 | q1
      · exact .inl ⟨a, vs, k, v', rfl, rfl, q1, p1, f.val p2⟩
      · exact .inr (.inl ⟨a, vs, k, v', rfl, rfl, q1, p1, f.val p2⟩)
  · cases h
theorem sIx_eq (n d : Nat) (o : Option Int) : HT.sIx n d o = cutIx n d o := by cases o <;> rfl
theorem cut_dats (ds : List D) (lo hi : Option Int) : mkTup (cut (ds.map .dat) lo hi) = .dat (.tup (cut ds lo hi)) := by
  have e : cut (ds.map Val.dat) lo hi = (cut ds lo hi).map .dat := by
    unfold cut
    rw [List.length_map, ← List.map_drop, ← List.map_take]
  rw [e]
  unfold mkTup
  rw [datsOf_map]
theorem cut_all {α : Type} {xs : List α} {lo hi : Option Int} (h : cutIx xs.length 0 lo = 0 ∧ cutIx xs.length xs.length hi = xs.length) : cut xs lo hi = xs := by
  unfold cut
  rw [h.1, h.2]; simp
theorem sl_tup_ok {xs : List Val} {v : V} {a : Addr} {vs : List V} {lo hi : Option Int} {Q : VK} (w : Wd K H μ S) (h1 : SqT K H a vs) (hz : vs.length ≤ sizeLine) (r : RVs K H μ vs xs) (f : Fin K H μ (.val (mkTup (cut xs lo hi))) Q) : rSlA K (.ref a) lo hi H Q := by
  refine ⟨a, vs, rfl, h1, fun e => ?_, fun _ => ?_⟩
  · rw [sIx_eq, sIx_eq, r.len] at e
    rw [cut_all e] at f
    exact f.val (mkTup_ok h1 hz r)
  · exact f.tup w (Nat.le_trans (cutV_length vs lo hi) hz) (r.cut lo hi)
theorem sl_ok : ∃ r : V → Option Int → Option Int → Hp → VK → Prop, SlR X r ∧ ∀ {H : Hp} {μ : List Addr} {S : Store} {v : V} {x z : TV} {lo hi : Option Int} {Q : VK}, Wd X.K H μ S → RT X.K H μ v x → slice x lo hi S = some z → Fin X.K H μ z Q → r v lo hi H Q := by
  refine ⟨_, SlR.or sl_tupA sl_list, fun {H μ S v x z lo hi Q} w rx h f => ?_⟩
  unfold slice at h
  split at h
  · rename_i ds
    simp only [Option.some.injEq] at h; subst h
    have rd := rx.dat
    simp only [RD] at rd
    obtain ⟨a, vs, rfl, q1, q2, q3⟩ := rd
    rw [← cut_dats] at f
    exact .inl (sl_tup_ok (v := .ref a) w q1 q2 (RVs.of q3) f)
  · rename_i xs
    simp only [Option.some.injEq] at h; subst h
    simp only [RT, RV] at rx
    obtain ⟨a, vs, rfl, q1, q2, q3⟩ := rx
    exact .inl (sl_tup_ok (v := .ref a) w q1 q2 q3 f)
  · cases h
  · simp only [Option.map_eq_some_iff] at h
    obtain ⟨xs, h1, rfl⟩ := h
    obtain ⟨a, vs, rfl, q1, q2, q3⟩ := lstOf_at w rx h1
    exact .inr ⟨a, vs, rfl, q1, f.lst w (Nat.le_trans (cutV_length vs lo hi) q2) (q3.cut lo hi)⟩
theorem isEmpty_len {α β : Type} {xs : List α} {ys : List β} (h : xs.length = ys.length) : xs.isEmpty = ys.isEmpty := by
  cases xs <;> cases ys <;> simp at h ⊢
theorem RKs.len : ∀ {ps : List (D × Val)} {ks : List (Key × V)}, RKs K H μ ks ps → ks.length = ps.length
  | [], ks, h => by simp only [RKs] at h; subst h; rfl
  | p :: ps, ks, h => by
    obtain ⟨k, v, r, rfl, h1, h2, h3, h4⟩ := h
    simp only [List.length_cons, RKs.len h4]
theorem truth_ok {v : V} {t : TV} {k : Bool} (w : Wd K H μ S) (r : RT K H μ v t) (h : truth t S = some k) : TruV K v H k := by
  match t, r, h with
  | .val (.dat .non), r, h => simp only [RT, RV, RD] at r; subst r; simp only [truth, D.truth, Option.some.injEq] at h; exact h.symm
  | .val (.dat (.bl _)), r, h => simp only [RT, RV, RD] at r; subst r; simp only [truth, D.truth, Option.some.injEq] at h; exact h.symm
  | .val (.dat (.int _)), r, h => simp only [RT, RV, RD] at r; subst r; simp only [truth, D.truth, Option.some.injEq] at h; exact h.symm
  | .val (.dat (.str _)), r, h =>
    simp only [RT, RV, RD] at r; obtain ⟨rfl, h1, _⟩ := r
    simp only [truth, D.truth, Option.some.injEq] at h; exact ⟨h1, h.symm⟩
  | .val (.dat (.tup _)), r, h =>
    simp only [RT, RV, RD] at r; obtain ⟨a, vs, rfl, q1, q2, q3⟩ := r
    simp only [truth, D.truth, Option.some.injEq] at h
    exact .inr (.inl ⟨vs, q1, by rw [isEmpty_len q3.len]; exact h.symm⟩)
  | .val (.tup _), r, h =>
    simp only [RT, RV] at r; obtain ⟨a, vs, rfl, q1, q2, q3⟩ := r
    simp only [truth, Option.some.injEq] at h
    exact .inr (.inl ⟨vs, q1, by rw [isEmpty_len q3.len]; exact h.symm⟩)
  | .val (.scr ns), r, h =>
    obtain ⟨a, vs, rfl, q1, q2, q3⟩ := lstOf_at (xs := ns.map fun i => .dat (.int i)) w r rfl
    simp only [truth, Option.some.injEq] at h
    exact .inl ⟨vs, q1, by rw [isEmpty_len (q3.len.trans (List.length_map _))]; exact h.symm⟩
  | .val (.ref i), r, h =>
    simp only [truth, Option.bind_eq_some_iff] at h
    obtain ⟨o, h1, h2⟩ := h
    cases o with
    | lst xs =>
      obtain ⟨a, vs, rfl, q1, q2, q3⟩ := lst_at (t := .val (.ref i)) (xs := xs) w r h1
      simp only [Obj.truth, Option.some.injEq] at h2
      exact .inl ⟨vs, SqL.of q1, by rw [isEmpty_len q3.len]; exact h2.symm⟩
    | dct ps =>
      simp only [RT, RV] at r
      obtain ⟨a, e1, rfl⟩ := r
      obtain ⟨ks, q1, q2, q3⟩ := w.ob i a _ e1 h1
      simp only [Obj.truth, Option.some.injEq] at h2
      exact .inr (.inr ⟨ks, q1, by rw [isEmpty_len q3.len]; exact h2.symm⟩)
    | ins _ _ => simp [Obj.truth] at h2
  | .new (.lst xs), r, h =>
    obtain ⟨a, vs, rfl, q1, q2, q3⟩ := lst_at (t := .new (.lst xs)) (xs := xs) w r rfl
    simp only [truth, Obj.truth, Option.some.injEq] at h
    exact .inl ⟨vs, SqL.of q1, by rw [isEmpty_len q3.len]; exact h.symm⟩
  | .new (.dct _), r, h =>
    obtain ⟨a, rfl, _, ks, q1, q2, q3⟩ := r
    simp only [truth, Obj.truth, Option.some.injEq] at h
    exact .inr (.inr ⟨ks, q1, by rw [isEmpty_len q3.len]; exact h.symm⟩)
  | .new (.ins _ _), r, h => simp [truth, Obj.truth] at h

/-! ### built-in functions -/
def CallOk (X : Cx) (f : Value) (g : List TV → Store → Option TV) : Prop :=
  ∃ r, CallR X f r ∧ ∀ {H : Hp} {μ : List Addr} {S : Store} {vs : List V} {ts : List TV} {z : TV} {Q : VK}, Wd X.K H μ S → RTs X.K H μ vs ts → g ts S = some z → Fin X.K H μ z Q → r vs H Q
theorem cr_sumT (hc : X.calm = true) : CallR X (.builtin "sum") (fun vs H Q => ∃ (a : Addr) (ns : List Int), vs = [V.ref a] ∧ SqT X.K H a (ns.map V.int) ∧ Q (.int ns.sum) H) := by
  intro pins s σ H vs us Q I r ⟨a, ns, e, hs, q⟩
  subst e
  obtain ⟨its, rv, hl, _⟩ := I.tuple hs
  rw [Vals.ref1 r]
  obtain ⟨xs, hx⟩ := rv.ints.allInts.items
  have hn : numsOf (PySem.intItems xs).toList = ns := by rw [← hx]; exact rv.ints.numsOf
  rw [nums_intItems] at hn
  rw [hx] at hl
  refine PySem.W.ktm_sumG (I.ok.hd hc) hl fun h' tk t' hk => ⟨.int _, H, I.kept hk, ⟨_, rfl⟩, ?_⟩
  rw [preSum_eq, List.take_of_length_le (by simp), hn]; exact q
theorem zip_each {vs : List V} {ds : List D} {us : List Value} (r : Vals vs us) (q : RDs K H vs ds) : PySem.W.EachIs (fun (v : Value) (b : V × D) => RelV b.1 v ∧ RD K H b.1 b.2) us (vs.zip ds) := by
  induction r generalizing ds with
  | nil => simp; exact .nil
  | cons h t ih =>
    cases ds with
    | nil => simp only [RDs] at q; cases q
    | cons d ds =>
      simp only [RDs] at q
      obtain ⟨v, r, e, q1, q2⟩ := q
      cases e
      exact .cons ⟨h, q1⟩ (ih q2)
theorem zip_out {bs : List (V × D)} {us : List Value} (e : PySem.W.EachIs (fun (v : Value) (b : V × D) => RelV b.1 v ∧ RD K H b.1 b.2) us bs) : Vals (bs.map (·.1)) us ∧ RDs K H (bs.map (·.1)) (bs.map (·.2)) := by
  induction e with
  | nil => exact ⟨.nil, by simp [RDs]⟩
  | cons h t ih => exact ⟨.cons h.1 ih.1, by simp only [List.map_cons, RDs]; exact ⟨_, _, rfl, h.2, ih.2⟩⟩
theorem zip_snd {vs : List V} {ds : List D} (q : RDs K H vs ds) : (vs.zip ds).map (·.2) = ds := by
  have := q.len
  exact List.map_snd_zip (by omega)
theorem cr_sortedD (hr : X.A.units + 64 < cLine) : CallR X (.builtin "sorted") (fun vs H Q => ∃ (a : Addr) (xs : List V) (ds ys : List D), vs = [V.ref a] ∧ SqL X.K H a xs ∧ RDs X.K H xs ds ∧ sortD ds = some ys ∧
    ∀ (p : Addr) (zs : List V), RDs X.K H zs ys → zs.length ≤ sizeLine → H p = none → Q (.ref p) (upd H p (.lst zs))) := by
  intro pins s σ H vs us Q I r ⟨a, xs, ds, ys, e, hs, hd, hsd, q⟩
  subst e
  obtain ⟨its, rv, hl, hz⟩ := I.list hs
  rw [Vals.ref1 r]
  unfold sortD at hsd
  split at hsd
  · rename_i hc
    simp only [Bool.and_eq_true, List.all_eq_true, decide_eq_true_eq] at hc
    obtain ⟨⟨c1, c2⟩, c3⟩ := hc
    simp only [Option.some.injEq] at hsd
    subst hsd
    have e := zip_each rv hd
    have er : PySem.W.EachIs (fun (v : Value) (b : V × D) => ∃ as, Reads s.heap v b.2.py as) its (xs.zip ds) := e.mono fun v b h => Dp.reads I b.2.py b.1 v h.2.dp h.1
    have hm : (xs.zip ds).map (fun b => b.2.py) = ds.map D.py := by
      have : (xs.zip ds).map (fun b => b.2.py) = ((xs.zip ds).map (·.2)).map D.py := by rw [List.map_map]; rfl
      rw [this, zip_snd hd]
    have mem : ∀ b ∈ xs.zip ds, b.2 ∈ ds := fun b hb => (List.of_mem_zip hb).2
    have hlen : (xs.zip ds).length = xs.length := by rw [List.length_zip, hd.len]; simp
    have al : ∀ x ∈ ds, ∀ y ∈ ds, D.alike x y = true := by
      unfold allAlike at c1
      simpa only [List.all_eq_true] using c1
    refine PySem.W.sorted_data (enc := fun b : V × D => b.2.py) hl.isList e er ?_ ?_ (by rw [hlen]; exact hz) (fun b hb => ?_) (fun out h1 h2 => ?_)
    · rw [hm]
      intro d hd d' hd'
      obtain ⟨x, hx, rfl⟩ := List.mem_map.mp hd
      obtain ⟨y, hy, rfl⟩ := List.mem_map.mp hd'
      rw [py_alike]; exact al x hx y hy
    · rw [hm]
      unfold sortable at c2
      rcases Bool.or_eq_true_iff.mp c2 with c2 | c2
      · refine .inl fun d hd => ?_
        obtain ⟨x, hx, rfl⟩ := List.mem_map.mp hd
        have := List.all_eq_true.mp c2 x hx
        cases x with
        | tup l =>
          cases l with
          | nil => simp [isTup1] at this
          | cons y r => exact ⟨y.py, D.pys r, rfl⟩
        | _ => simp [isTup1] at this
      · refine .inr fun d hd => ?_
        obtain ⟨x, hx, rfl⟩ := List.mem_map.mp hd
        have := List.all_eq_true.mp c2 x hx
        cases x <;> simp [isPlain] at this <;> simp [D.py]
    · have := c3 b.2 (mem b hb)
      rw [py_depth]
      omega
    · obtain ⟨ep, he⟩ := PyProof.Rows.sortedAll_at s.heap its out.toArray
      obtain ⟨o1, o2⟩ := zip_out h2
      have cmpE : ∀ a ∈ xs.zip ds, ∀ b ∈ xs.zip ds, PySem.W.dataLe false (fun b : V × D => b.2.py) a b = leD a.2 b.2 := fun a ha b hb => by
        rw [PySem.W.dataLe_eq]
        show (!PySem.W.dataLt b.2.py a.2.py) = leD a.2 b.2
        rw [py_lt _ _ (al _ (mem b hb) _ (mem a ha))]; rfl
      have em : ((xs.zip ds).mergeSort (PySem.W.dataLe false fun b : V × D => b.2.py)).map (·.2) = ds.mergeSort leD := by
        rw [List.map_mergeSort cmpE, zip_snd hd]
      rw [em] at o2
      have hl2 : (((xs.zip ds).mergeSort (PySem.W.dataLe false fun b : V × D => b.2.py)).map (·.1)).length ≤ sizeLine := by
        rw [List.length_map, List.length_mergeSort, hlen]; exact hz
      exact ⟨.ref _, upd H (s.heap.objs.size + 1) (.lst _), I.laid (t' := s.toks) (fun _ _ => PyProof.Rows.sortedAll_old) (Nat.le_succ _) ⟨hl2, out, ep, o1, by simpa using he⟩, rfl,
        q _ _ o2 hl2 (I.hok.fresh (Nat.le_succ _))⟩
  · cases hsd
end
end Ap
set_option Elab.async false
set_option linter.all false
set_option maxRecDepth 100000
set_option maxHeartbeats 1000000
namespace Ap
open PySem L2
section
variable {K : PySem.W.Frag} {H H' H0 H1 H2 : Hp} {μ μ' μ0 μ1 μ2 : List Addr} {S S' : Store} {W : WX} {σ : St} {ρ : Env} {X : Cx}

def Bi.val : Bi → Value
  | .len => .builtin "len"
  | .int => .type "int"
  | .sum => .builtin "sum"
  | .tuple => .type "tuple"
  | .list => .type "list"
  | .all => .builtin "all"
  | .any => .builtin "any"
  | .min2 => .builtin "min"
  | .max2 => .builtin "max"
  | .sorted => .builtin "sorted"
theorem RTs.one {vs : List V} {t : TV} (h : RTs K H μ vs [t]) : ∃ v, vs = [v] ∧ RT K H μ v t := by
  obtain ⟨v, r, e, h1, h2⟩ := h
  simp only [RTs] at h2
  subst h2
  exact ⟨v, e, h1⟩
theorem RTs.two {vs : List V} {t u : TV} (h : RTs K H μ vs [t, u]) : ∃ v w, vs = [v, w] ∧ RT K H μ v t ∧ RT K H μ w u := by
  obtain ⟨v, r, e, h1, h2⟩ := h
  obtain ⟨w, rfl, h3⟩ := RTs.one h2
  exact ⟨v, w, e, h1, h3⟩
theorem CallR.or {f : Value} {r r' : List V → Hp → VK → Prop} (h : CallR X f r) (h' : CallR X f r') : CallR X f (fun vs H Q => r vs H Q ∨ r' vs H Q) := fun pins s σ H vs us Q I rv q => q.elim (h pins s σ H vs us Q I rv) (h' pins s σ H vs us Q I rv)
theorem seqs_of {a : Addr} {vs : List V} {xs : List Val} (h : SqL K H a vs ∨ SqT K H a vs) : (SqL K H a vs) ∨ (SqT K H a vs) := h
theorem len_at {t : TV} {n : Nat} {v : V} (w : Wd K H μ S) (r : RT K H μ v t) (h : lenT t S = some n) : LenV K v H n := by
  by_cases hs : ∃ s, t = .val (.dat (.str s))
  · obtain ⟨s, rfl⟩ := hs
    simp only [lenT, Option.some.injEq] at h
    simp only [RT, RV, RD] at r
    obtain ⟨rfl, h1, _⟩ := r
    exact ⟨h1, h.symm⟩
  · have e : lenT t S = (seqOf t S).map List.length := by
      unfold lenT
      split
      · exact (hs ⟨_, rfl⟩).elim
      · rfl
    rw [e] at h
    simp only [Option.map_eq_some_iff] at h
    obtain ⟨xs, h1, h2⟩ := h
    obtain ⟨a, vs, rfl, q1, q2, q3⟩ := seqOf_at w r h1
    have := q3.len
    rcases q1 with q1 | q1
    · exact .inl ⟨vs, q1, by omega⟩
    · exact .inr ⟨vs, q1, by omega⟩
theorem int_at {t : TV} {i : Int} {v : V} (r : RT K H μ v t) (h : intT t = some i) : v = .int i := by
  unfold intT at h
  split at h
  · simp only [Option.some.injEq] at h
    subst h
    simpa only [RT, RV, RD] using r
  · cases h
theorem RDs.map : ∀ {ds : List D} {vs : List V}, RDs K H vs ds → RVs K H μ vs (ds.map .dat) := RVs.of
theorem dctOf_at {t : TV} {ps : List (D × Val)} {v : V} (w : Wd K H μ S) (r : RT K H μ v t) (h : dctOf t S = some ps) : ∃ a ks, v = .ref a ∧ H a = some (.dK ks) ∧ ks.length ≤ sizeLine ∧ RKs K H μ ks ps := by
  unfold dctOf at h
  split at h
  · rename_i o ho
    cases h
    cases t with
    | val x =>
      cases x with
      | ref i =>
        simp only [RT, RV] at r
        obtain ⟨a, e1, rfl⟩ := r
        obtain ⟨ks, q1, q2, q3⟩ := w.ob i a _ e1 ho
        exact ⟨a, ks, rfl, q1, q2, q3⟩
      | _ => simp [objOf] at ho
    | new o =>
      simp only [objOf, Option.some.injEq] at ho
      subst ho
      obtain ⟨a, rfl, _, ks, q1, q2, q3⟩ := r
      exact ⟨a, ks, rfl, q1, q2, q3⟩
  · cases h
theorem intKeys_at : ∀ {ps : List (D × Val)} {ks : List (Key × V)} {ns : List Int}, RKs K H μ ks ps → intKeys ps = some ns → ks.map (·.1) = ns.map Sum.inl
  | [], ks, ns, r, h => by
    simp only [RKs] at r; subst r
    simp only [intKeys, Option.some.injEq] at h; subst h; rfl
  | p :: ps, ks, ns, r, h => by
    obtain ⟨k, v, r, rfl, e1, _, _, h4⟩ := r
    unfold intKeys at h
    split at h
    · rename_i hq; cases hq
    · rename_i i y r' hq
      cases hq
      simp only [Option.map_eq_some_iff] at h
      obtain ⟨ms, h1, rfl⟩ := h
      have := intKeys_at h4 h1
      cases k with
      | inl j => simp only [kD, D.int.injEq] at e1; subst e1; simp only [List.map_cons, this]
      | inr j => simp [kD] at e1
    · cases h
theorem sorted_one {ns ys : List Int} (hp : ys.Perm ns) (hs : ys.Pairwise (· ≤ ·)) : ys = ns.mergeSort fun a b => decide (a ≤ b) := by
  have h2 : (ns.mergeSort fun a b => decide (a ≤ b)).Pairwise (· ≤ ·) := by
    have := List.pairwise_mergeSort (le := fun (a b : Int) => decide (a ≤ b)) (fun a b c h1 h2 => by simp at *; omega) (fun a b => by simp; omega) ns
    exact this.imp fun h => by simpa using h
  exact List.Perm.eq_of_pairwise (fun a b _ _ h1 h2 => Int.le_antisymm h1 h2) hs h2 (hp.trans (List.mergeSort_perm ns _).symm)
theorem minI_ok : ∀ {ns : List Int} {m : Int}, minI ns = some m → m ∈ ns ∧ ∀ y ∈ ns, m ≤ y
  | a :: r, m, h => by
    simp only [minI, Option.some.injEq] at h
    have go : ∀ (r : List Int) (a : Int), (r.foldl (fun m x => if x < m then x else m) a = a ∨ r.foldl (fun m x => if x < m then x else m) a ∈ r) ∧ r.foldl (fun m x => if x < m then x else m) a ≤ a ∧ ∀ y ∈ r, r.foldl (fun m x => if x < m then x else m) a ≤ y := by
      intro r
      induction r with
      | nil => intro a; simp
      | cons x r ih =>
        intro a
        obtain ⟨h1, h2, h3⟩ := ih (if x < a then x else a)
        rw [List.foldl_cons]
        have hz : ∃ z, (if x < a then x else a) = z ∧ (z ≤ a ∧ z ≤ x) ∧ (z = x ∨ z = a) := ⟨_, rfl, by split <;> omega, by split <;> simp⟩
        obtain ⟨z, ez, hz1, hz2⟩ := hz
        rw [ez] at h1 h2 h3 ⊢
        refine ⟨?_, by omega, ?_⟩
        · rcases h1 with h1 | h1
          · rw [h1]; rcases hz2 with rfl | rfl <;> simp
          · exact .inr (by simp [h1])
        · intro y hy
          rcases List.mem_cons.mp hy with rfl | hy
          · omega
          · exact h3 y hy
    obtain ⟨h1, h2, h3⟩ := go r a
    subst h
    refine ⟨?_, fun y hy => ?_⟩
    · rcases h1 with h1 | h1
      · rw [h1]; simp
      · simp [h1]
    · rcases List.mem_cons.mp hy with rfl | hy
      · exact h2
      · exact h3 y hy
theorem maxI_ok : ∀ {ns : List Int} {m : Int}, maxI ns = some m → m ∈ ns ∧ ∀ y ∈ ns, y ≤ m
  | a :: r, m, h => by
    simp only [maxI, Option.some.injEq] at h
    have go : ∀ (r : List Int) (a : Int), (r.foldl (fun m x => if m < x then x else m) a = a ∨ r.foldl (fun m x => if m < x then x else m) a ∈ r) ∧ a ≤ r.foldl (fun m x => if m < x then x else m) a ∧ ∀ y ∈ r, y ≤ r.foldl (fun m x => if m < x then x else m) a := by
      intro r
      induction r with
      | nil => intro a; simp
      | cons x r ih =>
        intro a
        obtain ⟨h1, h2, h3⟩ := ih (if a < x then x else a)
        rw [List.foldl_cons]
        have hz : ∃ z, (if a < x then x else a) = z ∧ (a ≤ z ∧ x ≤ z) ∧ (z = x ∨ z = a) := ⟨_, rfl, by split <;> omega, by split <;> simp⟩
        obtain ⟨z, ez, hz1, hz2⟩ := hz
        rw [ez] at h1 h2 h3 ⊢
        refine ⟨?_, by omega, ?_⟩
        · rcases h1 with h1 | h1
          · rw [h1]; rcases hz2 with rfl | rfl <;> simp
          · exact .inr (by simp [h1])
        · intro y hy
          rcases List.mem_cons.mp hy with rfl | hy
          · omega
          · exact h3 y hy
    obtain ⟨h1, h2, h3⟩ := go r a
    subst h
    refine ⟨?_, fun y hy => ?_⟩
    · rcases h1 with h1 | h1
      · rw [h1]; simp
      · simp [h1]
    · rcases List.mem_cons.mp hy with rfl | hy
      · exact h2
      · exact h3 y hy
theorem biF_cases {f : Bi} {ts : List TV} {z : TV} (h : biF f ts S = some z) : (∃ t, ts = [t] ∧ bi1 f t S = some z) ∨ ∃ t u, ts = [t, u] ∧ bi2 f t u = some z := by
  rcases ts with _ | ⟨t, _ | ⟨u, _ | ⟨w, r⟩⟩⟩
  · exact nomatch h
  · exact .inl ⟨t, rfl, h⟩
  · exact .inr ⟨t, u, rfl, h⟩
  · exact nomatch h
theorem bi_one {f : Bi} {vs : List V} {ts : List TV} {z : TV} (hf : ∀ a b, bi2 f a b = none) (r : RTs K H μ vs ts) (h : biF f ts S = some z) : ∃ v t, vs = [v] ∧ RT K H μ v t ∧ bi1 f t S = some z := by
  rcases biF_cases h with ⟨t, rfl, h1⟩ | ⟨t, u, rfl, h1⟩
  · obtain ⟨v, rfl, r1⟩ := r.one; exact ⟨v, t, rfl, r1, h1⟩
  · rw [hf] at h1; cases h1
theorem bi_two {f : Bi} {vs : List V} {ts : List TV} {z : TV} (hf : ∀ a, bi1 f a S = none) (r : RTs K H μ vs ts) (h : biF f ts S = some z) : ∃ v w t u, vs = [v, w] ∧ RT K H μ v t ∧ RT K H μ w u ∧ bi2 f t u = some z := by
  rcases biF_cases h with ⟨t, rfl, h1⟩ | ⟨t, u, rfl, h1⟩
  · rw [hf] at h1; cases h1
  · obtain ⟨v, w, rfl, r1, r2⟩ := r.two; exact ⟨v, w, t, u, rfl, r1, r2, h1⟩
theorem bi_ok (hc : X.calm = true) (hu : X.A.units + 64 < cLine) (f : Bi) : CallOk X f.val (biF f) := by
  cases f with
  | len =>
    refine ⟨_, call_len, fun {H μ S vs ts z Q} w r h f => ?_⟩
    obtain ⟨v, t, rfl, r1, h1⟩ := bi_one (fun _ _ => rfl) r h
    simp only [bi1, Option.map_eq_some_iff] at h1
    obtain ⟨n, h2, rfl⟩ := h1
    exact ⟨v, n, rfl, len_at w r1 h2, f.int⟩
  | int =>
    refine ⟨_, call_int1, fun {H μ S vs ts z Q} w r h f => ?_⟩
    obtain ⟨v, t, rfl, r1, h1⟩ := bi_one (fun _ _ => rfl) r h
    simp only [bi1, Option.map_eq_some_iff] at h1
    obtain ⟨i, h2, rfl⟩ := h1
    exact .inl ⟨i, by rw [int_at r1 h2], f.int⟩
  | sum =>
    refine ⟨_, (cr_sum hc).or (cr_sumT hc), fun {H μ S vs ts z Q} w r h f => ?_⟩
    obtain ⟨v, t, rfl, r1, h1⟩ := bi_one (fun _ _ => rfl) r h
    simp only [bi1, Option.bind_eq_some_iff, Option.map_eq_some_iff] at h1
    obtain ⟨xs, h2, ns, h3, rfl⟩ := h1
    obtain ⟨a, vs, rfl, q1, q2, q3⟩ := seqOf_at w r1 h2
    have e := RVs.intsOf h3 q3
    subst e
    rcases q1 with q1 | q1
    · exact .inl ⟨a, ns, rfl, q1, f.int⟩
    · exact .inr ⟨a, ns, rfl, q1, f.int⟩
  | tuple =>
    refine ⟨_, call_tuple_of, fun {H μ S vs ts z Q} w r h f => ?_⟩
    obtain ⟨v, t, rfl, r1, h1⟩ := bi_one (fun _ _ => rfl) r h
    simp only [bi1, Option.map_eq_some_iff] at h1
    obtain ⟨xs, h2, rfl⟩ := h1
    obtain ⟨a, vs, rfl, q1, q2, q3⟩ := seqOf_at w r1 h2
    refine ⟨a, vs, rfl, ?_⟩
    rcases q1 with q1 | q1
    · exact .inl ⟨q1, f.tup w q2 q3⟩
    · exact .inr ⟨q1, f.val (mkTup_ok q1 q2 q3)⟩
  | list =>
    refine ⟨_, call_list_of, fun {H μ S vs ts z Q} w r h f => ?_⟩
    obtain ⟨v, t, rfl, r1, h1⟩ := bi_one (fun _ _ => rfl) r h
    simp only [bi1, Option.map_eq_some_iff] at h1
    obtain ⟨xs, h2, rfl⟩ := h1
    obtain ⟨a, vs, rfl, q1, q2, q3⟩ := seqOf_at w r1 h2
    exact ⟨a, vs, rfl, q1, f.lst w q2 q3⟩
  | all =>
    refine ⟨_, cr_all hc, fun {H μ S vs ts z Q} w r h f => ?_⟩
    obtain ⟨v, t, rfl, r1, h1⟩ := bi_one (fun _ _ => rfl) r h
    simp only [bi1, Option.bind_eq_some_iff, Option.map_eq_some_iff] at h1
    obtain ⟨xs, h2, ns, h3, rfl⟩ := h1
    obtain ⟨a, vs, rfl, q1, q2, q3⟩ := lstOf_at w r1 h2
    have e := RVs.blsOf h3 q3
    subst e
    exact ⟨a, ns, rfl, q1, f.bl⟩
  | any =>
    refine ⟨_, cr_any hc, fun {H μ S vs ts z Q} w r h f => ?_⟩
    obtain ⟨v, t, rfl, r1, h1⟩ := bi_one (fun _ _ => rfl) r h
    simp only [bi1, Option.bind_eq_some_iff, Option.map_eq_some_iff] at h1
    obtain ⟨xs, h2, ns, h3, rfl⟩ := h1
    obtain ⟨a, vs, rfl, q1, q2, q3⟩ := lstOf_at w r1 h2
    have e := RVs.blsOf h3 q3
    subst e
    exact ⟨a, ns, rfl, q1, f.bl⟩
  | min2 =>
    refine ⟨_, (call_min2 hc).or (cr_min hc), fun {H μ S vs ts z Q} w r h f => ?_⟩
    rcases biF_cases h with ⟨t, rfl, h1⟩ | ⟨t, t', rfl, h1⟩
    · obtain ⟨v, rest, rfl, r1, r2⟩ := r
      simp only [RTs] at r2; subst r2
      simp only [bi1, Option.bind_eq_some_iff, Option.map_eq_some_iff] at h1
      obtain ⟨xs, h2, ns, h3, m, h4, rfl⟩ := h1
      obtain ⟨a, vs, rfl, q1, q2, q3⟩ := lstOf_at w r1 h2
      have e := RVs.intsOf h3 q3
      subst e
      obtain ⟨m1, m2⟩ := minI_ok h4
      refine .inr ⟨a, ns, rfl, q1, List.length_pos_of_mem m1, fun j j1 j2 => ?_⟩
      have : j = m := Int.le_antisymm (j2 m m1) (m2 j j1)
      subst this
      exact f.int
    obtain ⟨v, rest, rfl, r1, u, rest2, rfl, r2, r3⟩ := r
    simp only [RTs] at r3; subst r3
    refine .inl ?_
    simp only [bi2, Option.bind_eq_some_iff, Option.map_eq_some_iff] at h1
    obtain ⟨i, h2, j, h3, rfl⟩ := h1
    exact ⟨i, j, by rw [int_at r1 h2, int_at r2 h3], f.int⟩
  | max2 =>
    refine ⟨_, (call_max2 hc).or (cr_max hc), fun {H μ S vs ts z Q} w r h f => ?_⟩
    rcases biF_cases h with ⟨t, rfl, h1⟩ | ⟨t, t', rfl, h1⟩
    · obtain ⟨v, rest, rfl, r1, r2⟩ := r
      simp only [RTs] at r2; subst r2
      simp only [bi1, Option.bind_eq_some_iff, Option.map_eq_some_iff] at h1
      obtain ⟨xs, h2, ns, h3, m, h4, rfl⟩ := h1
      obtain ⟨a, vs, rfl, q1, q2, q3⟩ := lstOf_at w r1 h2
      have e := RVs.intsOf h3 q3
      subst e
      obtain ⟨m1, m2⟩ := maxI_ok h4
      refine .inr ⟨a, ns, rfl, q1, List.length_pos_of_mem m1, fun j j1 j2 => ?_⟩
      have : j = m := Int.le_antisymm (m2 j j1) (j2 m m1)
      subst this
      exact f.int
    obtain ⟨v, rest, rfl, r1, u, rest2, rfl, r2, r3⟩ := r
    simp only [RTs] at r3; subst r3
    refine .inl ?_
    simp only [bi2, Option.bind_eq_some_iff, Option.map_eq_some_iff] at h1
    obtain ⟨i, h2, j, h3, rfl⟩ := h1
    exact ⟨i, j, by rw [int_at r1 h2, int_at r2 h3], f.int⟩
  | sorted =>
    refine ⟨_, (cr_sortedD hu).or (call_sortedDI hc), fun {H μ S vs ts z Q} w r h f => ?_⟩
    obtain ⟨v, t, rfl, r1, h1⟩ := bi_one (fun _ _ => rfl) r h
    simp only [bi1] at h1
    cases hd : dctOf t S with
    | some ps =>
      rw [hd] at h1
      obtain ⟨a, ks, rfl, q1, q2, q3⟩ := dctOf_at w r1 hd
      simp only [sortK, Option.bind_eq_some_iff] at h1
      obtain ⟨ns, h3, h4⟩ := h1
      split at h4
      · rename_i hl
        cases h4
        refine .inr ⟨a, ks, ns, rfl, .of q1, intKeys_at q3 h3, hl, fun ys p hp hs hn => ?_⟩
        have : ys = ns.mergeSort fun a b => decide (a ≤ b) := sorted_one hp hs
        subst this
        refine f.lst w ?_ RVs.ints p hn
        rw [List.length_map, List.length_mergeSort]
        exact Nat.le_of_lt (Nat.lt_trans hl (by decide))
      · cases h4
    | none =>
      rw [hd] at h1
      simp only [sortL, Option.bind_eq_some_iff, Option.map_eq_some_iff] at h1
      obtain ⟨xs, h2, ds, h3, ys, h4, rfl⟩ := h1
      obtain ⟨a, vs, rfl, q1, q2, q3⟩ := lstOf_at w r1 h2
      exact .inl ⟨a, vs, ds, ys, rfl, q1, RVs.dats h3 q3, h4, fun p zs hz hl hp => f.lst w hl (RVs.of hz) p hp⟩
end
end Ap
set_option Elab.async false
set_option linter.all false
set_option maxRecDepth 100000
set_option maxHeartbeats 1000000
namespace Ap
open PySem L2
section
variable {K : PySem.W.Frag} {H H' H0 H1 H2 : Hp} {μ μ' μ0 μ1 μ2 : List Addr} {S S' : Store} {W : WX} {σ : St} {ρ : Env} {X : Cx}

/-! ### the expressions' rules: each reads as the interpreter runs -/
section
variable {a b c : Expr} {ma mb mc : ME} {pos : Pos}

/-- behind one expression -/
theorem RdE.go {m : ME} {k : TV → Store → R TV} {Q : VK} (w : Wd K H μ S) (sl : Sl K H μ σ ρ) (e : Ext H0 μ0 H μ) (h : Post (RTV K) K W σ H0 μ0 ((m ρ S).bind k) Q)
    {Q' : VK} (hk : ∀ v H2 t μ2 S2, Ext H μ H2 μ2 → Wd K H2 μ2 S2 → Sl K H2 μ2 σ ρ → RT K H2 μ2 v t → frs H v t → Post (RTV K) K W σ H0 μ0 (k t S2) Q → Q' v H2) : RdE K W m σ H Q' :=
  ⟨μ, ρ, S, w, sl, (h.bind e).mono fun v H2 ⟨t, μ2, S2, e2, w2, r, h2⟩ => hk v H2 t μ2 S2 e2 w2 (sl.ext e2 w) r.1 r.2 h2⟩
theorem post_ok {z : TV} {Q : VK} (h : Post (RTV K) K W σ H0 μ0 (.ok z S) Q) {v : V} (e : Ext H0 μ0 H μ) (w : Wd K H μ S) (r : RT K H μ v z) (f : frs H0 v z) : Q v H := h v H μ e w ⟨r, f⟩

theorem s_dat {e : Expr} {v : V} {d : D} (h : PE X e (tC v)) (r : ∀ H, RD X.K H v d) : PE X e (RdE X.K W fun _ S => .ok (.val (.dat d)) S) :=
  PE_imp h fun σ H Q ⟨μ, ρ, S, w, sl, h⟩ => post_ok h Ext.refl w (by simp only [RT, RV]; exact r H) trivial
theorem s_fn {e : Expr} {g : Str} (h : PE X e (tC (.ref (He.ga X.K g)))) : PE X e (RdE X.K W fun _ S => .ok (.val (.fn g)) S) :=
  PE_imp h fun σ H Q ⟨μ, ρ, S, w, sl, h⟩ => post_ok h Ext.refl w (by simp only [RT, RV]) trivial
theorem s_var {e : Expr} {i : Nat} (h : PE X e (tVar i)) : PE X e (RdE X.K W (mVar i)) :=
  PE_imp h fun σ H Q ⟨μ, ρ, S, w, sl, h⟩ => by
    unfold mVar at h
    split at h
    · rename_i x hx
      obtain ⟨v, h1, h2⟩ := sl.at_ i x hx
      exact ⟨v, h1, post_ok h Ext.refl w h2 trivial⟩
    · exact h.elim
theorem op_go {r : R2} {f : TV → TV → Store → Option TV} (hf : ∀ {H : Hp} {μ : List Addr} {S : Store} {v u : V} {x y z : TV} {Q : VK}, Wd X.K H μ S → RT X.K H μ v x → RT X.K H μ u y → f x y S = some z → Fin X.K H μ z Q → r v u H Q)
    {σ : St} {H : Hp} {Q : VK} (h : RdE X.K W (mBin f ma mb) σ H Q) : tOp r (RdE X.K W ma) (RdE X.K W mb) σ H Q := by
  obtain ⟨μ, ρ, S, w, sl, h⟩ := h
  refine RdE.go w sl Ext.refl h fun v H1 x μ1 S1 e1 w1 sl1 r1 f1 h1 => RdE.go w1 sl1 e1 h1 fun u H2 y μ2 S2 e2 w2 sl2 r2 f2 h2 => ?_
  obtain ⟨z, hz, h3⟩ := h2.orBad
  exact hf w2 (r1.ext e2 w1) r2 hz (h3.fin (e1.trans e2) w2)
theorem s_bin (op : Bop) (ha : PE X a (RdE X.K W ma)) (hb : PE X b (RdE X.K W mb)) : PE X (.BinOp a op.py b pos) (RdE X.K W (mBin (bin op) ma mb)) := by
  obtain ⟨r, ho, hf⟩ := bin_ok (X := X) op
  exact PE_imp (pe_op ho ha hb) fun σ H Q h => op_go hf h
theorem s_cmp (op : Cop) (hu : X.A.units + 64 < cLine) (ha : PE X a (RdE X.K W ma)) (hb : PE X b (RdE X.K W mb)) (hm : behindInMarks op.py b = false) : PE X (.Compare a [op.py] [b] pos) (RdE X.K W (mBin (cmpT op) ma mb)) := by
  obtain ⟨r, ho, hf⟩ := cmp_ok (X := X) hu op
  exact PE_imp (pe_cmpR ho ha hb hm) fun σ H Q h => op_go hf h
theorem s_ix (ha : PE X a (RdE X.K W ma)) (hb : PE X b (RdE X.K W mb)) (hs : PlainIxT b) : PE X (.Subscript a b pos) (RdE X.K W (mBin index ma mb)) := by
  obtain ⟨r, ho, hf⟩ := ix_ok (X := X)
  exact PE_imp (pe_ix ho ha hb hs) fun σ H Q h => op_go hf h
theorem s_neg (ha : PE X a (RdE X.K W ma)) : PE X (.UnaryOp .USub a pos) (RdE X.K W (mNeg ma)) :=
  PE_imp (pe_un un_neg ha) fun σ H Q ⟨μ, ρ, S, w, sl, h⟩ => RdE.go w sl Ext.refl h fun v H1 x μ1 S1 e1 w1 sl1 r1 f1 h1 => by
    obtain ⟨i, hi, h2⟩ := h1.orBad
    exact ⟨i, int_at r1 hi, (h2.fin e1 w1).int⟩
theorem bl_at {t : TV} {i : Bool} {v : V} (r : RT K H μ v t) (h : blT t = some i) : v = .bl i := by
  unfold blT at h
  split at h
  · simp only [Option.some.injEq] at h
    subst h
    simpa only [RT, RV, RD] using r
  · cases h
theorem s_not (ha : PE X a (RdE X.K W ma)) : PE X (.UnaryOp .Not a pos) (RdE X.K W (mNot ma)) :=
  PE_imp (pe_not ha) fun σ H Q ⟨μ, ρ, S, w, sl, h⟩ => RdE.go w sl Ext.refl h fun v H1 x μ1 S1 e1 w1 sl1 r1 f1 h1 => by
    obtain ⟨i, hi, h2⟩ := h1.orBad
    exact ⟨i, bl_at r1 hi, (h2.fin e1 w1).bl⟩
theorem Post.rest {α β : Type} {RR : Hp → Hp → List Addr → β → α → Prop} {r : R α} {Q : β → Hp → Prop} (e : Ext H0 μ0 H μ) (fr : ∀ H' μ' S' b a, Wd K H' μ' S' → Ext H μ H' μ' → RR H H' μ' b a → RR H0 H' μ' b a) (h : Post RR K W σ H0 μ0 r Q) : Post RR K W σ H μ r Q := by
  cases r with
  | ok a S' => exact fun b H' μ' e' w q => h b H' μ' (e.trans e') w (fr _ _ _ _ _ w e' q)
  | exc x S' => exact fun c d H' μ' e' w q => h c d H' μ' (e.trans e') w q
  | bad => exact h
theorem Post.restV {r : R TV} {Q : VK} (e : Ext H0 μ0 H μ) (w : Wd K H μ S) (h : Post (RTV K) K W σ H0 μ0 r Q) : Post (RTV K) K W σ H μ r Q :=
  h.rest e fun H' μ' S' b a w' e' q => ⟨q.1, frs.ext e w q.2⟩
theorem s_and {rest : List Expr} (ha : PE X a (RdE X.K W ma)) (hb : PE X (.BoolOp .And (b :: rest) pos) (RdE X.K W mb)) : PE X (.BoolOp .And (a :: b :: rest) pos) (RdE X.K W (mAnd ma mb)) :=
  PE_imp (pe_and ha hb) fun σ H Q ⟨μ, ρ, S, w, sl, h⟩ => RdE.go w sl Ext.refl h fun v H1 x μ1 S1 e1 w1 sl1 r1 f1 h1 => by
    obtain ⟨i, hi, h2⟩ := h1.orBad
    refine ⟨i, bl_at r1 hi, ?_⟩
    split
    · rename_i hk; rw [if_pos hk] at h2
      exact ⟨μ1, ρ, S1, w1, sl1, h2.restV e1 w1⟩
    · rename_i hk; rw [if_neg hk] at h2
      exact (h2.fin e1 w1).bl
theorem s_or {rest : List Expr} (ha : PE X a (RdE X.K W ma)) (hb : PE X (.BoolOp .Or (b :: rest) pos) (RdE X.K W mb)) : PE X (.BoolOp .Or (a :: b :: rest) pos) (RdE X.K W (mOr ma mb)) :=
  PE_imp (pe_or ha hb) fun σ H Q ⟨μ, ρ, S, w, sl, h⟩ => RdE.go w sl Ext.refl h fun v H1 x μ1 S1 e1 w1 sl1 r1 f1 h1 => by
    obtain ⟨i, hi, h2⟩ := h1.orBad
    refine ⟨i, bl_at r1 hi, ?_⟩
    split
    · rename_i hk; rw [if_pos hk] at h2
      exact (h2.fin e1 w1).bl
    · rename_i hk; rw [if_neg hk] at h2
      exact ⟨μ1, ρ, S1, w1, sl1, h2.restV e1 w1⟩
theorem frs_bl {b : Bool} {v : V} : frs H v (vB b) := trivial
theorem chain_go {o1 o2 : Cop} {r r' : R2} (hf : ∀ {H : Hp} {μ : List Addr} {S : Store} {v u : V} {x y z : TV} {Q : VK}, Wd X.K H μ S → RT X.K H μ v x → RT X.K H μ u y → cmpT o1 x y S = some z → Fin X.K H μ z Q → r v u H Q)
    (hf' : ∀ {H : Hp} {μ : List Addr} {S : Store} {v u : V} {x y z : TV} {Q : VK}, Wd X.K H μ S → RT X.K H μ v x → RT X.K H μ u y → cmpT o2 x y S = some z → Fin X.K H μ z Q → r' v u H Q)
    {σ : St} {H : Hp} {Q : VK} (h : RdE X.K W (mChain o1 o2 ma mb mc) σ H Q) : tChain r r' (RdE X.K W ma) (RdE X.K W mb) (RdE X.K W mc) σ H Q := by
  obtain ⟨μ, ρ, S, w, sl, h⟩ := h
  refine RdE.go w sl Ext.refl h fun v H1 x μ1 S1 e1 w1 sl1 r1 f1 h1 => RdE.go w1 sl1 e1 h1 fun u H2 y μ2 S2 e2 w2 sl2 r2 f2 h2 => ?_
  obtain ⟨z, hz, h3⟩ := h2.orBad
  refine hf (z := vB z) w2 (r1.ext e2 w1) r2 (by simp only [cmpT, hz, Option.map_some]) fun k H3 kp rk fk => ?_
  have ek : k = .bl z := by simpa only [RT, RV, RD, vB] using rk
  subst ek
  have w3 := w2.keep kp
  have e3 := ext_keep (μ := μ2) kp
  refine ⟨z, rfl, ?_⟩
  split
  · rename_i hk; rw [if_pos hk] at h3
    refine RdE.go w3 (sl2.ext e3 w2) ((e1.trans e2).trans e3) h3 fun y2 H4 t μ4 S4 e4 w4 sl4 r4 f4 h4 => ?_
    obtain ⟨z', hz', h5⟩ := h4.orBad
    exact hf' (z := vB z') w4 ((r2.ext e3 w2).ext e4 w3) r4 (by simp only [cmpT, hz', Option.map_some]) (h5.fin (((e1.trans e2).trans e3).trans e4) w4)
  · rename_i hk; rw [if_neg hk] at h3
    exact (h3.fin ((e1.trans e2).trans e3) w3).bl
theorem s_chain (o1 o2 : Cop) (hu : X.A.units + 64 < cLine) (ha : PE X a (RdE X.K W ma)) (hb : PE X b (RdE X.K W mb)) (hc : PE X c (RdE X.K W mc)) (hm : lastMarks [o1.py, o2.py] [b, c] = false) : PE X (.Compare a [o1.py, o2.py] [b, c] pos) (RdE X.K W (mChain o1 o2 ma mb mc)) := by
  obtain ⟨r, ho, hf⟩ := cmp_ok (X := X) hu o1
  obtain ⟨r', ho', hf'⟩ := cmp_ok (X := X) hu o2
  exact PE_imp (pe_chain ho ho' ha hb hc hm) fun σ H Q h => chain_go hf hf' h
end
end
end Ap
set_option Elab.async false
set_option linter.all false
set_option maxRecDepth 100000
set_option maxHeartbeats 1000000
namespace Ap
open PySem L2
section
variable {K : PySem.W.Frag} {H H' H0 H1 H2 : Hp} {μ μ' μ0 μ1 μ2 : List Addr} {S S' : Store} {W : WX} {σ : St} {ρ : Env} {X : Cx}
variable {a b c : Expr} {ma mb mc : ME} {ta tb tc : MT} {pos : Pos}

/-! ### tests -/
theorem RdT.of {m : ME} {k : TV → Store → R Bool} {Q : Bool → Hp → Prop} (w : Wd K H μ S) (sl : Sl K H μ σ ρ) (e : Ext H0 μ0 H μ) (h : Post RBo K W σ H0 μ0 ((m ρ S).bind k) Q)
    {Q' : VK} (hk : ∀ v H2 t μ2 S2, Ext H μ H2 μ2 → Wd K H2 μ2 S2 → RT K H2 μ2 v t → Post RBo K W σ H0 μ0 (k t S2) Q → Q' v H2) : RdE K W m σ H Q' :=
  ⟨μ, ρ, S, w, sl, (h.bind e).mono fun v H2 ⟨t, μ2, S2, e2, w2, r, h2⟩ => hk v H2 t μ2 S2 e2 w2 r.1 h2⟩
theorem RdT.go {m : MT} {α β : Type} {RR : Hp → Hp → List Addr → β → α → Prop} {k : Bool → Store → R α} {Q : β → Hp → Prop} (w : Wd K H μ S) (sl : Sl K H μ σ ρ) (e : Ext H0 μ0 H μ) (h : Post RR K W σ H0 μ0 ((m ρ S).bind k) Q)
    {Q' : Bool → Hp → Prop} (hk : ∀ c H2 μ2 S2, Ext H μ H2 μ2 → Wd K H2 μ2 S2 → Sl K H2 μ2 σ ρ → Post RR K W σ H0 μ0 (k c S2) Q → Q' c H2) : RdT K W m σ H Q' :=
  ⟨μ, ρ, S, w, sl, (h.bind e).mono fun v H2 ⟨t, μ2, S2, e2, w2, r, h2⟩ => by subst r; exact hk v H2 μ2 S2 e2 w2 (sl.ext e2 w) h2⟩
theorem post_t {k : Bool} {Q : Bool → Hp → Prop} (h : Post RBo K W σ H0 μ0 (.ok k S) Q) (e : Ext H0 μ0 H μ) (w : Wd K H μ S) : Q k H := h k H μ e w rfl
theorem Post.restT {r : R Bool} {Q : Bool → Hp → Prop} (e : Ext H0 μ0 H μ) (h : Post RBo K W σ H0 μ0 r Q) : Post RBo K W σ H μ r Q := h.rest e fun _ _ _ _ _ _ _ q => q
theorem t_truth (ha : PE X a (RdE X.K W ma)) (he : ∀ whole, isTrue a X.env whole = (do let v ← whole; standAt a.pos; holding [v] (truthy v))) : PT X a (RdT X.K W (mT ma)) :=
  PT_imp (pt_truth ha he) fun σ H Q ⟨μ, ρ, S, w, sl, h⟩ => RdT.of w sl Ext.refl h fun v H2 t μ2 S2 e2 w2 r2 h2 => by
    obtain ⟨k, hk, h3⟩ := h2.orBad
    exact ⟨k, truth_ok w2 r2 hk, post_t h3 e2 w2⟩
theorem t_not (ha : PT X a (RdT X.K W ta)) : PT X (.UnaryOp .Not a pos) (RdT X.K W (mTNot ta)) :=
  PT_imp (pt_not ha) fun σ H Q ⟨μ, ρ, S, w, sl, h⟩ => RdT.go w sl Ext.refl h fun c H2 μ2 S2 e2 w2 sl2 h2 => post_t h2 e2 w2
theorem w_and {rest : List Expr} (ha : PT X a (RdT X.K W ta)) (hb : PW X (.BoolOp .And (b :: rest) pos) (RdT X.K W tb)) : PW X (.BoolOp .And (a :: b :: rest) pos) (RdT X.K W (mTAnd ta tb)) :=
  PW_imp (pw_and ha hb) fun σ H Q ⟨μ, ρ, S, w, sl, h⟩ => RdT.go w sl Ext.refl h fun c H2 μ2 S2 e2 w2 sl2 h2 => by
    split
    · rename_i hk; rw [if_pos hk] at h2
      exact ⟨μ2, ρ, S2, w2, sl2, h2.restT e2⟩
    · rename_i hk; rw [if_neg hk] at h2
      exact post_t h2 e2 w2
theorem w_or {rest : List Expr} (ha : PT X a (RdT X.K W ta)) (hb : PW X (.BoolOp .Or (b :: rest) pos) (RdT X.K W tb)) : PW X (.BoolOp .Or (a :: b :: rest) pos) (RdT X.K W (mTOr ta tb)) :=
  PW_imp (pw_or ha hb) fun σ H Q ⟨μ, ρ, S, w, sl, h⟩ => RdT.go w sl Ext.refl h fun c H2 μ2 S2 e2 w2 sl2 h2 => by
    split
    · rename_i hk; rw [if_pos hk] at h2
      exact post_t h2 e2 w2
    · rename_i hk; rw [if_neg hk] at h2
      exact ⟨μ2, ρ, S2, w2, sl2, h2.restT e2⟩
/-- a if t else b as a test -/
theorem t_ife {t : Expr} (ht : PT X t (RdT X.K W tc)) (ha : PT X a (RdT X.K W ta)) (hb : PT X b (RdT X.K W tb)) : PT X (.IfExp t a b pos) (RdT X.K W (mTIfe tc ta tb)) := by
  refine ⟨fun pins s σ H Q I ⟨μ, ρ, S, w, sl, h⟩ => ?_⟩
  have h1 : RdT X.K W tc σ H fun c H2 => if c = true then RdT X.K W ta σ H2 Q else RdT X.K W tb σ H2 Q := RdT.go w sl Ext.refl h fun c H2 μ2 S2 e2 w2 sl2 h2 => by
    split
    · rename_i hk; rw [if_pos hk] at h2
      exact ⟨μ2, ρ, S2, w2, sl2, h2.restT e2⟩
    · rename_i hk; rw [if_neg hk] at h2
      exact ⟨μ2, ρ, S2, w2, sl2, h2.restT e2⟩
  show wpAny (model X.prog X.w) X.A (isTrue (.IfExp t a b pos) X.env (eval (.IfExp t a b pos) X.env)) (TP X pins σ Q) X.xe s
  unfold PySem.isTrue
  refine wpAny_bind (thn (ht.run pins s σ H _ I h1) fun k s1 ⟨H2, I2, q⟩ => ?_)
  cases k with
  | true => exact ha.run pins s1 σ H2 Q I2 q
  | false => exact hb.run pins s1 σ H2 Q I2 q
theorem t_bool (h0 : PT X a (tTest (RdE X.K W ma))) : PT X a (RdT X.K W (mTb ma)) :=
  PT_imp h0 fun σ H Q ⟨μ, ρ, S, w, sl, h⟩ => RdT.of w sl Ext.refl h fun v H2 t μ2 S2 e2 w2 r2 h2 => by
    obtain ⟨k, hk, h3⟩ := h2.orBad
    exact ⟨k, bl_at r2 hk, post_t h3 e2 w2⟩
theorem t_cmp (op : Cop) (hu : X.A.units + 64 < cLine) (ha : PE X a (RdE X.K W ma)) (hb : PE X b (RdE X.K W mb)) (hm : behindInMarks op.py b = false) : PT X (.Compare a [op.py] [b] pos) (RdT X.K W (mTb (mBin (cmpT op) ma mb))) := by
  obtain ⟨r, ho, hf⟩ := cmp_ok (X := X) hu op
  exact t_bool (PT_imp (pt_cmpR ho ha hb hm) fun σ H Q h => op_go hf h)
theorem t_chain (o1 o2 : Cop) (hu : X.A.units + 64 < cLine) (ha : PE X a (RdE X.K W ma)) (hb : PE X b (RdE X.K W mb)) (hc : PE X c (RdE X.K W mc)) (hm : lastMarks [o1.py, o2.py] [b, c] = false) : PT X (.Compare a [o1.py, o2.py] [b, c] pos) (RdT X.K W (mTb (mChain o1 o2 ma mb mc))) := by
  obtain ⟨r, ho, hf⟩ := cmp_ok (X := X) hu o1
  obtain ⟨r', ho', hf'⟩ := cmp_ok (X := X) hu o2
  exact t_bool (PT_imp (pt_chain ho ho' ha hb hc hm) fun σ H Q h => chain_go hf hf' h)
theorem s_ife {t : Expr} (ht : PT X t (RdT X.K W tc)) (ha : PE X a (RdE X.K W ma)) (hb : PE X b (RdE X.K W mb)) : PE X (.IfExp t a b pos) (RdE X.K W (mIfe tc ma mb)) :=
  PE_imp (pe_ifExp ht ha hb) fun σ H Q ⟨μ, ρ, S, w, sl, h⟩ => RdT.go w sl Ext.refl h fun c H2 μ2 S2 e2 w2 sl2 h2 => by
    split
    · rename_i hk; rw [if_pos hk] at h2
      exact ⟨μ2, ρ, S2, w2, sl2, h2.restV e2 w2⟩
    · rename_i hk; rw [if_neg hk] at h2
      exact ⟨μ2, ρ, S2, w2, sl2, h2.restV e2 w2⟩
end
end Ap
set_option Elab.async false
set_option linter.all false
set_option maxRecDepth 100000
set_option maxHeartbeats 1000000
namespace Ap
open PySem L2
section
variable {K : PySem.W.Frag} {H H' H0 H1 H2 : Hp} {μ μ' μ0 μ1 μ2 : List Addr} {S S' : Store} {W : WX} {σ : St} {ρ : Env} {X : Cx}
variable {a b c e : Expr} {es : List Expr} {ma mb mc m : ME} {ta tb tc : MT} {mr : MA} {pos : Pos}

/-! ### argument lists -/
theorem a_nil : PA X [] (RdA X.K W mNil) := PA_imp pa_nil fun σ H Q ⟨μ, ρ, S, w, sl, h⟩ => h [] H μ Ext.refl w ⟨rfl, .nil, nofun⟩
theorem newA_ref : ∀ {ts : List TV} {vs : List V}, RTs K H μ vs ts → ∀ v ∈ newA vs ts, ∃ a, v = .ref a
  | [], vs, h, v, hv => by simp only [RTs] at h; subst h; simp [newA] at hv
  | t :: ts, vs, h, v, hv => by
    obtain ⟨u, r, rfl, h1, h2⟩ := h
    cases t with
    | val x => exact newA_ref h2 v (by simpa [newA] using hv)
    | new o =>
      simp only [newA, List.mem_cons] at hv
      rcases hv with rfl | hv
      · obtain ⟨a, q, _⟩ := h1; exact ⟨a, q⟩
      · exact newA_ref h2 v hv
theorem RA.cons {v : V} {t : TV} {vs : List V} {ts : List TV} (e1 : Ext H μ H1 μ1) (w1 : Wd K H1 μ1 S) (r1 : RT K H1 μ1 v t) (f1 : frs H v t) (e2 : Ext H1 μ1 H2 μ2) (ra : RA K H1 H2 μ2 vs ts) : RA K H H2 μ2 (v :: vs) (t :: ts) := by
  have hr : RTs K H2 μ2 (v :: vs) (t :: ts) := ⟨v, vs, rfl, r1.ext e2 w1, ra.r⟩
  have hn : ∀ v ∈ newA vs ts, ∀ a, v = .ref a → H a = none := fun u hu a q => e1.new w1 (ra.nw u hu a q)
  cases t with
  | val x => exact ⟨hr, ra.nd, hn⟩
  | new o =>
    refine ⟨hr, ?_, ?_⟩
    · simp only [newA, List.nodup_cons]
      refine ⟨fun q => ?_, ra.nd⟩
      obtain ⟨a, q1, q2, q3⟩ := r1
      obtain ⟨us, z, _⟩ := q3.there
      have := ra.nw v q a q1
      rw [z] at this; cases this
    · intro u hu a q
      simp only [newA, List.mem_cons] at hu
      rcases hu with rfl | hu
      · exact f1 a q
      · exact hn u hu a q
theorem cons_go {σ : St} {H : Hp} {Q : List V → Hp → Prop} (h : RdA K W (mCons m mr) σ H Q) : tCons (RdE K W m) (RdA K W mr) σ H Q := by
  obtain ⟨μ, ρ, S, w, sl, h⟩ := h
  refine ⟨μ, ρ, S, w, sl, (h.bind Ext.refl).mono fun v H1 ⟨t, μ1, S1, e1, w1, ⟨r1, f1⟩, h1⟩ => ?_⟩
  refine ⟨μ1, ρ, S1, w1, sl.ext e1 w, (h1.bind e1).mono fun vs H2 ⟨ts, μ2, S2, e2, w2, ra, h2⟩ => ?_⟩
  exact h2 _ H2 μ2 (e1.trans e2) w2 (ra.cons e1 w1 r1 f1 e2)
theorem a_cons (ha : PE X e (RdE X.K W m)) (hr : PA X es (RdA X.K W mr)) (hs : starEach (e :: es) X.env = (false, eval e X.env) :: starEach es X.env) : PA X (e :: es) (RdA X.K W (mCons m mr)) :=
  PA_imp (pa_cons ha hr hs) fun σ H Q h => cons_go h
theorem PK_imp {kws : List Keyword} {t t' : TA} (h : PK X kws t) (k : ∀ σ H Q, t' σ H Q → t σ H Q) : PK X kws t' := ⟨fun pos pins s σ H Q I q => h.run pos pins s σ H Q I (k σ H Q q)⟩
theorem k_nil : PK X [] (RdA X.K W mNil) := PK_imp pk_nil fun σ H Q ⟨μ, ρ, S, w, sl, h⟩ => h [] H μ Ext.refl w ⟨rfl, .nil, nofun⟩
theorem k_cons {nm : Option Str} {kpos : Pos} {kws : List Keyword} (ha : PE X e (RdE X.K W m)) (hr : PK X kws (RdA X.K W mr)) : PK X (⟨nm, e, kpos⟩ :: kws) (RdA X.K W (mCons m mr)) :=
  PK_imp (pk_cons ha hr) fun σ H Q h => cons_go h
theorem RTs.len : ∀ {ts : List TV} {vs : List V}, RTs K H μ vs ts → vs.length = ts.length
  | [], vs, h => by simp only [RTs] at h; subst h; rfl
  | t :: ts, vs, h => by
    obtain ⟨u, r, rfl, h1, h2⟩ := h
    simp only [List.length_cons, h2.len]
/-- behind the items -/
theorem RdA.go {mr : MA} {α β : Type} {RR : Hp → Hp → List Addr → β → α → Prop} {k : List TV → Store → R α} {Q : β → Hp → Prop} (w : Wd K H μ S) (sl : Sl K H μ σ ρ) (e : Ext H0 μ0 H μ) (h : Post RR K W σ H0 μ0 ((mr ρ S).bind k) Q)
    {Q' : List V → Hp → Prop} (hk : ∀ vs H2 ts μ2 S2, Ext H μ H2 μ2 → Wd K H2 μ2 S2 → Sl K H2 μ2 σ ρ → RA K H H2 μ2 vs ts → Post RR K W σ H0 μ0 (k ts S2) Q → Q' vs H2) : RdA K W mr σ H Q' :=
  ⟨μ, ρ, S, w, sl, (h.bind e).mono fun v H2 ⟨t, μ2, S2, e2, w2, r, h2⟩ => hk v H2 t μ2 S2 e2 w2 (sl.ext e2 w) r h2⟩
theorem s_tup {k : Nat} (h : PA X es (RdA X.K W mr)) : PE X (.Tuple es k pos) (RdE X.K W (mTup mr)) :=
  PE_imp (pe_tup h) fun σ H Q ⟨μ, ρ, S, w, sl, h⟩ => RdA.go w sl Ext.refl h fun vs H1 ts μ1 S1 e1 w1 sl1 ra h1 => by
    split at h1
    · rename_i hz
      obtain ⟨μ', q1, q2, q3, _⟩ := proms_ok w1 e1 ra
      have hl : vs.length ≤ sizeLine := by rw [ra.r.len, ← line_eq]; exact hz
      exact ⟨hl, (h1.fin q1 q2).tup q2 hl q3⟩
    · exact h1.elim
theorem s_lst (h : PA X es (RdA X.K W mr)) : PE X (.List es pos) (RdE X.K W (mLst mr)) :=
  PE_imp (pe_lst h) fun σ H Q ⟨μ, ρ, S, w, sl, h⟩ => RdA.go w sl Ext.refl h fun vs H1 ts μ1 S1 e1 w1 sl1 ra h1 => by
    split at h1
    · rename_i hz
      obtain ⟨μ', q1, q2, q3, _⟩ := proms_ok w1 e1 ra
      have hl : vs.length ≤ sizeLine := by rw [ra.r.len, ← line_eq]; exact hz
      exact ⟨hl, (h1.fin q1 q2).lst q2 hl q3⟩
    · exact h1.elim
/-! ### built-in functions -/
def Bi.nm : Bi → Str
  | .len => "len"
  | .int => "int"
  | .sum => "sum"
  | .tuple => "tuple"
  | .list => "list"
  | .all => "all"
  | .any => "any"
  | .min2 => "min"
  | .max2 => "max"
  | .sorted => "sorted"
theorem s_bi (hc : X.calm = true) (hu : X.A.units + 64 < cLine) (f : Bi) {p : Pos} (hg : Gl X f.nm) (hm : X.mg f.nm = none) (h : PA X (e :: es) (RdA X.K W mr))
    (he : starEach (e :: es) X.env = (false, eval e X.env) :: starEach es X.env) (hpl : (backTo pos (starEach es X.env)).any (·.1) = false) : PE X (.Call (.Name f.nm p) (e :: es) [] pos) (RdE X.K W (mBi f mr)) := by
  obtain ⟨r, ho, hf⟩ := bi_ok (X := X) hc hu f
  have go : ∀ σ H Q, RdE X.K W (mBi f mr) σ H Q → tCB r (RdA X.K W mr) σ H Q := fun σ H Q ⟨μ, ρ, S, w, sl, h⟩ => RdA.go w sl Ext.refl h fun vs H1 ts μ1 S1 e1 w1 sl1 ra h1 => by
    obtain ⟨z, hz, h3⟩ := h1.orBad
    exact hf w1 ra.r hz (h3.fin e1 w1)
  cases f with
  | len => exact PE_imp (pe_callB (id := "len") ho hg hm rfl h (by decide) (by decide) he hpl) go
  | int => exact PE_imp (pe_callTy (T := "int") ho hg hm rfl h (by decide) (by decide) he hpl) go
  | sum => exact PE_imp (pe_callB (id := "sum") ho hg hm rfl h (by decide) (by decide) he hpl) go
  | tuple => exact PE_imp (pe_callTy (T := "tuple") ho hg hm rfl h (by decide) (by decide) he hpl) go
  | list => exact PE_imp (pe_callTy (T := "list") ho hg hm rfl h (by decide) (by decide) he hpl) go
  | all => exact PE_imp (pe_callB (id := "all") ho hg hm rfl h (by decide) (by decide) he hpl) go
  | any => exact PE_imp (pe_callB (id := "any") ho hg hm rfl h (by decide) (by decide) he hpl) go
  | min2 => exact PE_imp (pe_callB (id := "min") ho hg hm rfl h (by decide) (by decide) he hpl) go
  | max2 => exact PE_imp (pe_callB (id := "max") ho hg hm rfl h (by decide) (by decide) he hpl) go
  | sorted => exact PE_imp (pe_callB (id := "sorted") ho hg hm rfl h (by decide) (by decide) he hpl) go
/-! ### slices -/
theorem PO_imp {e : Option Expr} {t t' : TO} (h : PO X e t) (k : ∀ σ H Q, t' σ H Q → t σ H Q) : PO X e t' := ⟨fun pins s σ H Q I q => h.run pins s σ H Q I (k σ H Q q)⟩
theorem o_no : PO X none (RdO X.K W mONo) := PO_imp po_none fun σ H Q ⟨μ, ρ, S, w, sl, h⟩ => h none H μ Ext.refl w rfl
theorem o_so (ha : PE X e (RdE X.K W m)) : PO X (some e) (RdO X.K W (mOSo m)) :=
  PO_imp (po_some ha) fun σ H Q ⟨μ, ρ, S, w, sl, h⟩ => ⟨μ, ρ, S, w, sl, (h.bind Ext.refl).mono fun v H1 ⟨t, μ1, S1, e1, w1, ⟨r1, f1⟩, h1⟩ => by
    obtain ⟨i, hi, h2⟩ := h1.orBad
    exact ⟨i, int_at r1 hi, h2 (some i) H1 μ1 e1 w1 rfl⟩⟩
theorem s_sl {lo hi : Option Expr} {ml mh : MO} {p2 : Pos} (ha : PE X e (RdE X.K W m)) (hl : PO X lo (RdO X.K W ml)) (hh : PO X hi (RdO X.K W mh)) : PE X (.Subscript e (.Slice lo hi none p2) pos) (RdE X.K W (mSl m ml mh)) := by
  obtain ⟨r, ho, hf⟩ := sl_ok (X := X)
  refine PE_imp (pe_slice ho ha hl hh) fun σ H Q ⟨μ, ρ, S, w, sl, h⟩ => RdE.go w sl Ext.refl h fun v H1 x μ1 S1 e1 w1 sl1 r1 f1 h1 => ?_
  refine ⟨μ1, ρ, S1, w1, sl1, (h1.bind e1).mono fun lo H2 ⟨_, μ2, S2, e2, w2, q2, h2⟩ => ?_⟩
  subst q2
  refine ⟨μ2, ρ, S2, w2, sl1.ext e2 w1, (h2.bind (e1.trans e2)).mono fun hi H3 ⟨_, μ3, S3, e3, w3, q3, h3⟩ => ?_⟩
  subst q3
  obtain ⟨z, hz, h4⟩ := h3.orBad
  exact hf w3 ((r1.ext e2 w1).ext e3 w2) hz (h4.fin ((e1.trans e2).trans e3) w3)
end
end Ap
set_option Elab.async false
set_option linter.all false
set_option maxRecDepth 100000
set_option maxHeartbeats 1000000
namespace Ap
open PySem L2
section
variable {K : PySem.W.Frag} {H H' H0 H1 H2 : Hp} {μ μ' μ0 μ1 μ2 : List Addr} {S S' : Store} {W : WX} {σ : St} {ρ : Env} {X : Cx}
variable {a b c e : Expr} {es : List Expr} {ma mb mc m : ME} {ta tb tc : MT} {mr : MA} {pos : Pos}

/-! ### isinstance -/
def Ty.nm : Ty → String
  | .int => "int"
  | .str => "str"
  | .bool => "bool"
  | .list => "list"
  | .tuple => "tuple"
theorem sqT_ty {p : Addr} {vs : List V} (h : SqT K H p vs) : TyX K H (.ref p) (.type "tuple") := by
  rcases h with (h | ⟨o, h⟩) | ⟨o, its, n, h1, h2, _⟩
  · exact .base (.tup h)
  · exact .fTuple h
  · exact .kTuple h1 h2
theorem sqL_ty {p : Addr} {vs : List V} (h : SqL K H p vs) : TyX K H (.ref p) (.type "list") := by
  rcases h with (h | ⟨o, h⟩) | ⟨o, its, n, h1, h2, _⟩
  · exact .base (.lst h)
  · exact .base (.frz h)
  · exact .kList h1 h2
theorem ty_at {t : TV} {v : V} {ty0 : Ty} {b0 : Bool} (w : Wd K H μ S) (r : RT K H μ v t) (h : isTy t S ty0 = some b0) : ∃ n, TyX K H v (.type n) ∧ ∀ ty b, isTy t S ty = some b → kitB n ty.nm = some b := by
  have lst : ∀ xs, lstOf t S = some xs → (∀ ty, isTy t S ty = some (decide (ty = .list))) → ∃ n, TyX K H v (.type n) ∧ ∀ ty b, isTy t S ty = some b → kitB n ty.nm = some b := by
    intro xs hx q
    obtain ⟨a, vs, rfl, q1, q2, q3⟩ := lstOf_at w r hx
    refine ⟨"list", sqL_ty q1, fun ty b hb => ?_⟩
    rw [q] at hb
    cases hb
    cases ty <;> decide +kernel
  cases t with
  | val x =>
    cases x with
    | dat d =>
      cases d with
      | non =>
        simp only [RT, RV, RD] at r; subst r
        refine ⟨"NoneType", .base .non, fun ty b hb => ?_⟩
        cases ty <;> (simp only [isTy, Option.some.injEq] at hb; subst hb; decide +kernel)
      | bl k =>
        simp only [RT, RV, RD] at r; subst r
        refine ⟨"bool", .base (.bl _), fun ty b hb => ?_⟩
        cases ty <;> (simp only [isTy, Option.some.injEq] at hb; subst hb; decide +kernel)
      | int i =>
        simp only [RT, RV, RD] at r; subst r
        refine ⟨"int", .base (.int _), fun ty b hb => ?_⟩
        cases ty <;> (simp only [isTy, Option.some.injEq] at hb; subst hb; decide +kernel)
      | str s =>
        simp only [RT, RV, RD] at r; obtain ⟨rfl, _⟩ := r
        refine ⟨"str", .base (.str _), fun ty b hb => ?_⟩
        cases ty <;> (simp only [isTy, Option.some.injEq] at hb; subst hb; decide +kernel)
      | tup ds =>
        simp only [RT, RV, RD] at r; obtain ⟨a, vs, rfl, q1, _⟩ := r
        refine ⟨"tuple", sqT_ty q1, fun ty b hb => ?_⟩
        cases ty <;> (simp only [isTy, Option.some.injEq] at hb; subst hb; decide +kernel)
    | tup xs =>
      simp only [RT, RV] at r; obtain ⟨a, vs, rfl, q1, _⟩ := r
      refine ⟨"tuple", sqT_ty q1, fun ty b hb => ?_⟩
      simp only [isTy, Option.some.injEq] at hb
      subst hb
      cases ty <;> decide +kernel
    | fn g => simp [isTy] at h
    | scr ns => exact lst _ rfl fun ty => rfl
    | ref i =>
      simp only [isTy, objOf] at h
      split at h
      · rename_i xs hx
        exact lst xs (by simp only [lstOf, objOf, hx]) fun ty => by simp only [isTy, objOf, hx]
      · cases h
  | new o =>
    simp only [isTy, objOf] at h
    split at h
    · rename_i xs hx
      exact lst xs (by simp only [lstOf, objOf, hx]) fun ty => by simp only [isTy, objOf, hx]
    · cases h
theorem isTys_at {t : TV} {n : String} (hn : ∀ ty b, isTy t S ty = some b → kitB n ty.nm = some b) : ∀ {tys : List Ty} {b : Bool}, isTys t S tys = some b → PySem.W.kitAny K (.type n) (tys.map fun y => Value.type y.nm) = some b
  | [], b, h => by simp only [isTys] at h; cases h; exact kitAny_nil
  | ty :: r, b, h => by
    simp only [isTys, Option.bind_eq_some_iff] at h
    obtain ⟨k, h1, h2⟩ := h
    refine kitAny_cons (kit_ty (hn _ _ h1)) (fun hk => ?_) fun hk => ?_
    · subst hk; exact isTys_at hn h2
    · subst hk; simp only [if_pos, Option.some.injEq] at h2; exact h2.symm
theorem isTys_some {t : TV} {ty : Ty} {r : List Ty} {b : Bool} (h : isTys t S (ty :: r) = some b) : ∃ k, isTy t S ty = some k := by
  simp only [isTys, Option.bind_eq_some_iff] at h
  obtain ⟨k, h1, _⟩ := h
  exact ⟨k, h1⟩
/-- isinstance(x, T) -/
theorem s_isi1 {p p2 : Pos} (ty : Ty) (hg : Gl X "isinstance") (hm : X.mg "isinstance" = none) (hg2 : Gl X (ty.nm : Str)) (hm2 : X.mg (ty.nm : Str) = none) (ha : PE X a (RdE X.K W m))
    (he : starEach [a, .Name (ty.nm : Str) p2] X.env = (false, eval a X.env) :: starEach [.Name (ty.nm : Str) p2] X.env) : PE X (.Call (.Name "isinstance" p) [a, .Name (ty.nm : Str) p2] [] pos) (RdE X.K W (mIsi m [ty])) := by
  have hty : PE X (.Name (ty.nm : Str) p2) (tC (.ty ty.nm)) := by
    cases ty <;> exact pe_bltn hg2 hm2 rfl rfl (by decide) (by decide)
  refine PE_imp (pe_callB (id := "isinstance") call_isi hg hm rfl (pa_cons ha (pa_cons hty pa_nil rfl) he) (by decide) (by decide) he rfl) fun σ H Q ⟨μ, ρ, S, w, sl, h⟩ => ?_
  refine RdE.go w sl Ext.refl h fun v H1 x μ1 S1 e1 w1 sl1 r1 f1 h1 => ?_
  obtain ⟨b, hb, h3⟩ := h1.orBad
  obtain ⟨k, hk⟩ := isTys_some hb
  obtain ⟨n, h4, h5⟩ := ty_at w1 r1 hk
  have e : b = k := by
    simp only [isTys, hk, Option.bind_some] at hb
    cases k <;> simp at hb <;> exact hb
  subst e
  exact ⟨v, .ty ty.nm, _, _, b, rfl, .ty _, h4, kit_ty (h5 _ _ hk), (h3.fin e1 w1).bl⟩
def tysNm (tys : List Ty) : List V := tys.map fun y => .ty y.nm
theorem cls_tys : ∀ tys : List Ty, Paired ClsV (tysNm tys) (tys.map fun y => Value.type y.nm)
  | [] => .nil
  | ty :: r => .cons (.ty _) (cls_tys r)
def tTys (tys : List Ty) : TA := fun _ H Q => Q (tysNm tys) H
/-- isinstance(x, (T, ..)) -/
theorem s_isiT {p p2 : Pos} {k : Nat} (ty : Ty) (tys : List Ty) (hg : Gl X "isinstance") (hm : X.mg "isinstance" = none) (ha : PE X a (RdE X.K W m)) (ht : PA X es (tTys (ty :: tys))) (hl : (ty :: tys).length ≤ sizeLine)
    (he : starEach [a, .Tuple es k p2] X.env = (false, eval a X.env) :: starEach [.Tuple es k p2] X.env) : PE X (.Call (.Name "isinstance" p) [a, .Tuple es k p2] [] pos) (RdE X.K W (mIsi m (ty :: tys))) := by
  refine PE_imp (pe_callB (id := "isinstance") call_isiT hg hm rfl (pa_cons ha (pa_cons (pe_tup ht) pa_nil rfl) he) (by decide) (by decide) he rfl) fun σ H Q ⟨μ, ρ, S, w, sl, h⟩ => ?_
  refine RdE.go w sl Ext.refl h fun v H1 x μ1 S1 e1 w1 sl1 r1 f1 h1 => ?_
  obtain ⟨b, hb, h3⟩ := h1.orBad
  refine ⟨by simpa [tysNm] using hl, fun q hq => ?_⟩
  have kp := upd_keep (o := .tup (tysNm (ty :: tys))) hq
  have w2 := w1.keep kp
  obtain ⟨j, hk⟩ := isTys_some hb
  obtain ⟨n, h4, h5⟩ := ty_at w2 (r1.ext (ext_keep kp) w1) hk
  exact ⟨v, q, _, _, _, b, rfl, upd_same, cls_tys _, h4, isTys_at h5 hb, (h3.fin (e1.keep kp) w2).bl⟩
end
end Ap
set_option Elab.async false
set_option linter.all false
set_option maxRecDepth 100000
set_option maxHeartbeats 1000000
namespace Ap
open PySem L2
section
variable {K : PySem.W.Frag} {H H' H0 H1 H2 : Hp} {μ μ' μ0 μ1 μ2 : List Addr} {S S' : Store} {W : WX} {σ : St} {ρ : Env} {X : Cx}
variable {a b c e : Expr} {es : List Expr} {ma mb mc m : ME} {ta tb tc : MT} {mr mk : MA} {pos : Pos}

/-! ### giving up what is new -/
theorem mxs_le {xs : List Val} {n : Nat} (h : Val.mxs xs ≤ n) {x : Val} (hx : x ∈ xs) : x.mx ≤ n := by
  induction xs with
  | nil => cases hx
  | cons y ys ih =>
    simp only [Val.mxs] at h
    rcases List.mem_cons.mp hx with rfl | hx
    · omega
    · exact ih (by omega) hx
mutual
theorem RV.cutTo {n : Nat} : ∀ (x : Val) (v : V), x.mx ≤ n → RV K H μ v x → RV K H (μ.take n) v x
  | .dat d, v, _, h => by simpa only [RV] using h
  | .ref i, v, hn, h => by
    simp only [RV] at h ⊢
    obtain ⟨a, h1, h2⟩ := h
    simp only [Val.mx] at hn
    exact ⟨a, by rw [List.getElem?_take_of_lt (by omega)]; exact h1, h2⟩
  | .tup xs, v, hn, h => by
    simp only [RV] at h ⊢
    obtain ⟨a, vs, e1, h1, h2, h3⟩ := h
    simp only [Val.mx] at hn
    exact ⟨a, vs, e1, h1, h2, RVs.cutTo xs vs hn h3⟩
  | .fn g, v, _, h => by simpa only [RV] using h
  | .scr ns, v, _, h => by simpa only [RV] using h
theorem RVs.cutTo {n : Nat} : ∀ (xs : List Val) (vs : List V), Val.mxs xs ≤ n → RVs K H μ vs xs → RVs K H (μ.take n) vs xs
  | [], vs, _, h => by simpa only [RVs] using h
  | x :: xs, vs, hn, h => by
    simp only [RVs] at h ⊢
    obtain ⟨v, r, e1, h1, h2⟩ := h
    simp only [Val.mxs] at hn
    exact ⟨v, r, e1, RV.cutTo x v (by omega) h1, RVs.cutTo xs r (by omega) h2⟩
end
theorem mxP_le {α : Type} {n : Nat} : ∀ {ps : List (α × Val)}, mxP ps ≤ n → ∀ {p : α × Val}, p ∈ ps → p.2.mx ≤ n
  | q :: ps, h, p, hp => by
    simp only [mxP] at h
    rcases List.mem_cons.mp hp with rfl | hp
    · omega
    · exact mxP_le (ps := ps) (by omega) hp
theorem ROat.cutTo {n : Nat} {a : Addr} {o : Obj} (hn : o.mx ≤ n) (h : ROat K H μ a o) : ROat K H (μ.take n) a o := by
  cases o with
  | lst xs =>
    obtain ⟨vs, q1, q2, q3⟩ := h
    exact ⟨vs, q1, q2, RVs.cutTo xs vs hn q3⟩
  | dct ps =>
    obtain ⟨vs, q1, q2, q3⟩ := h
    exact ⟨vs, q1, q2, q3.mono fun p hp v q => RV.cutTo p.2 v (mxP_le hn hp) q⟩
  | ins _ _ => exact h.elim
theorem Wd.cutTo {n : Nat} (w : Wd K H μ S) (h : closed n (S.take n) = true) : Wd K H (μ.take n) (S.take n) := by
  refine ⟨by simp [w.len], List.Nodup.sublist (List.take_sublist n μ) w.nd, fun i a o h1 h2 => ?_⟩
  have hi : i < n := by
    have := (List.getElem?_eq_some_iff.mp h1).1
    simp at this; omega
  rw [List.getElem?_take_of_lt hi] at h1
  have hm : o ∈ S.take n := List.mem_of_getElem? h2
  rw [List.getElem?_take_of_lt hi] at h2
  have := List.all_eq_true.mp h o hm
  exact (w.ob i a o h1 h2).cutTo (of_decide_eq_true this)
theorem take_pre {n : Nat} {t : List Addr} (h : μ0.length ≤ n) : ∃ u, (μ0 ++ t).take n = μ0 ++ u := ⟨t.take (n - μ0.length), by rw [List.take_append, List.take_of_length_le h]⟩
theorem Ext.cutTo {n : Nat} (e : Ext H0 μ0 H μ) (h : μ0.length ≤ n) : Ext H0 μ0 H (μ.take n) := by
  obtain ⟨t, rfl⟩ := e.pre
  obtain ⟨u, hu⟩ := take_pre (t := t) h
  exact ⟨⟨u, hu⟩, e.fr, fun a ha hn => e.nw a (List.mem_of_mem_take ha) hn⟩
theorem RX.cutTo {n : Nat} {c : Value} {d : Option Addr} {x : Exc} (hn : mxP x.fs ≤ n) (h : RX K H μ c d x) : RX K H (μ.take n) c d x := by
  refine ⟨h.1, h.2.imp id fun ⟨dd, fs, h1, h2, h3⟩ => ⟨dd, fs, h1, h2, ?_⟩⟩
  have : ∀ (ps : List (Str × Val)) (fs : List (Str × V)), mxP ps ≤ n → RFs K H μ fs ps → RFs K H (μ.take n) fs ps := by
    intro ps
    induction ps with
    | nil => intro fs _ h; exact h
    | cons p ps ih =>
      intro fs hn h
      obtain ⟨v, r, e1, h1, h2⟩ := h
      simp only [mxP] at hn
      exact ⟨v, r, e1, RV.cutTo _ _ (by omega) h1, ih r (by omega) h2⟩
  exact this _ _ hn h3
theorem take_mem {n i : Nat} {a : Addr} (w : Wd K H μ S) (h : μ[i]? = some a) (hi : ¬ i < n) : a ∉ μ.take n := fun q => by
  obtain ⟨j, hj⟩ := List.mem_iff_getElem?.mp q
  have hjn : j < n := by
    have := (List.getElem?_eq_some_iff.mp hj).1
    simp at this; omega
  rw [List.getElem?_take_of_lt hjn] at hj
  have e1 := (List.getElem?_eq_some_iff.mp h)
  have e2 := (List.getElem?_eq_some_iff.mp hj)
  obtain ⟨l1, e1⟩ := e1
  obtain ⟨l2, e2⟩ := e2
  have := (List.getElem_inj (h₀ := l1) (h₁ := l2) w.nd).mp (e1.trans e2.symm)
  omega
/-- behind a call: the result stands over the smaller store -/
theorem settle_ok {t : TV} {S2 : Store} {v : V} {n : Nat} {Q : VK} (hn : μ0.length ≤ n) (e : Ext H0 μ0 H2 μ2) (w : Wd K H2 μ2 S2) (r : RT K H2 μ2 v t) (f : frs H0 v t)
    (h : Post (RTV K) K W σ H0 μ0 (settle n t S2) Q) : Q v H2 := by
  unfold settle at h
  split at h
  · rename_i hc
    have w' := w.cutTo hc
    have e' := e.cutTo hn
    split at h
    · rename_i i
      split at h
      · rename_i hi
        exact h v H2 _ e' w' ⟨RV.cutTo _ _ (by simp only [Val.mx]; omega) r, trivial⟩
      · rename_i hi
        split at h
        · rename_i o ho
          split at h
          · rename_i hm
            simp only [RT, RV] at r
            obtain ⟨a, h1, h2⟩ := r
            have na := take_mem w h1 hi
            refine h v H2 _ e' w' ⟨⟨a, h2, na, (w.ob i a o h1 ho).cutTo hm⟩, fun b hb => ?_⟩
            rw [h2] at hb
            cases hb
            refine e.nw a (List.mem_of_getElem? h1) fun q => na ?_
            obtain ⟨u, hu⟩ := e'.pre
            rw [hu]
            exact List.mem_append_left _ q
          · exact h v H2 _ e w ⟨r, trivial⟩
        · exact h.elim
    · split at h
      · rename_i hm
        refine h v H2 _ e' w' ⟨?_, f⟩
        cases t with
        | val x => exact RV.cutTo x v hm r
        | new o =>
          obtain ⟨a, h1, h2, h3⟩ := r
          exact ⟨a, h1, fun q => h2 (List.mem_of_mem_take q), h3.cutTo hm⟩
      · exact h v H2 _ e w ⟨r, f⟩
  · exact h v H2 _ e w ⟨r, f⟩
theorem settleX_ok {x : Exc} {S2 : Store} {c : Value} {d : Option Addr} {n : Nat} {Q : VK} (hn : μ0.length ≤ n) (e : Ext H0 μ0 H2 μ2) (w : Wd K H2 μ2 S2) (r : RX K H2 μ2 c d x)
    (h : Post (RTV K) K W σ H0 μ0 (settleX n x S2) Q) : W c d σ H2 := by
  unfold settleX at h
  split at h
  · rename_i hc
    simp only [Bool.and_eq_true, decide_eq_true_eq] at hc
    exact h c d H2 _ (e.cutTo hn) (w.cutTo hc.1) (r.cutTo hc.2)
  · exact h c d H2 _ e w r

/-! ### calls of the text's defs -/
/-- what a def promises, by the interpreter -/
def spFn (K : PySem.W.Frag) (cl : Or) (f : Str) : Sp := fun vs H Q E => ∃ μ S xs, Wd K H μ S ∧ RVs K H μ vs xs ∧ Post (RTV K) K (fun c d _ H => E c d H) [] H μ (cl f xs S) Q
/-- all parameters by place or by name, in their order -/
def Bnd (K : PySem.W.Frag) (fd : FuncData) (ps : List Str) : Prop := ∀ (s : Shared) (us ws : List Value), us.length + ws.length = ps.length → BindsTo s fd ⟨us, (ps.drop us.length).zip ws⟩ (ps.zip (us ++ ws))
structure FnIs (X : Cx) (k : Nat) (cl : Or) (f : Str) (ps : List Str) : Prop where
  at_ : X.mg f = some (.ref (He.ga X.K f))
  kp : PySem.W.keepIn X.K (.ref (He.ga X.K f)) = true
  ok : ∃ fd, FnOk X.prog X.w X.K X.mg X.base (L2.CX X.prog X.w) k (He.ga X.K f) fd ps (spFn X.K cl f) ∧ Bnd X.K fd ps
theorem run_fnP {k : Nat} {f : Addr} {fd : FuncData} {ps : List Str} {sp : Sp} {pins : List (Addr × PySem.Obj)} {σ : St} {H : Hp} {s : Shared} {Q : VK} {us ws : List Value} {vs zs : List V} (F : FnOk X.prog X.w X.K X.mg X.base (L2.CX X.prog X.w) k f fd ps sp) (hr : Room k X.A) (hb : Bnd X.K fd ps) (tk : Takes X W)
    (I : Inv X pins σ H s) (r : Vals vs us) (rz : Vals zs ws) (h : sp (vs ++ zs) H Q (WE W σ)) : wpAny (model X.prog X.w) X.A (call (.ref f) us ((ps.drop us.length).zip ws)) (EP X pins σ Q) X.xe s := by
  have r2 := r.append rz
  have hl : us.length + ws.length = ps.length := by rw [← List.length_append, ← r2.length]; exact F.len _ _ _ _ h
  refine wpAny_call (codeAny_mono (F.run X.A X.stack s H ⟨us, (ps.drop us.length).zip ws⟩ (us ++ ws) (vs ++ zs) Q (WE W σ) hr I.env0 (hb s us ws hl) r2 h) fun r s' hq => ?_)
  cases r with
  | error e => exact passAt tk σ pins H s e s' I hq
  | ok fl =>
    cases fl with
    | ret u => exact I.after hq
    | next => exact False.elim hq
    | brk => exact False.elim hq
    | cont => exact False.elim hq
theorem call_sp {cl : Or} {f : Str} {ts : List TV} {vs : List V} {Q : VK} (e : Ext H μ H2 μ2) (w : Wd K H2 μ2 S) (ra : RA K H H2 μ2 vs ts) (h : Post (RTV K) K W σ H μ (called cl f ts S) Q) : spFn K cl f vs H2 Q (WE W σ) := by
  obtain ⟨μ', e', w', rv, u, hu⟩ := proms_ok w e ra
  refine ⟨μ', _, _, w', rv, ?_⟩
  have hn : μ.length ≤ S.length := by
    obtain ⟨t, ht⟩ := e.pre
    rw [← w.len, ht]; simp
  unfold called at h
  cases hc : cl f (proms ts S).1 (proms ts S).2 with
  | ok t S3 =>
    rw [hc] at h
    exact fun b H3 μ3 e3 w3 ⟨r3, f3⟩ => settle_ok hn (e'.trans e3) w3 r3 (frs.ext e' w' f3) h
  | exc x S3 =>
    rw [hc] at h
    exact fun c d H3 μ3 e3 w3 r3 => settleX_ok hn (e'.trans e3) w3 r3 h
  | bad => rw [hc] at h; exact h
theorem mApp_bind {m1 m2 : MA} {cl : Or} {f : Str} : mCall cl f (mApp m1 m2) ρ S = (m1 ρ S).bind fun ts S1 => (m2 ρ S1).bind fun us S2 => called cl f (ts ++ us) S2 := by
  simp only [mCall, mApp]
  cases m1 ρ S with
  | ok ts S1 => simp only [R.bind]; cases m2 ρ S1 <;> rfl
  | exc _ _ => rfl
  | bad => rfl
theorem newA_app : ∀ {ts us : List TV} {vs zs : List V}, RTs K H μ vs ts → newA (vs ++ zs) (ts ++ us) = newA vs ts ++ newA zs us
  | [], us, vs, zs, h => by simp only [RTs] at h; subst h; simp [newA]
  | t :: ts, us, vs, zs, h => by
    obtain ⟨u, r, rfl, h1, h2⟩ := h
    cases t with
    | val x => simp only [List.cons_append, newA]; exact newA_app h2
    | new o => simp only [List.cons_append, newA, newA_app h2]
theorem RTs.app : ∀ {ts us : List TV} {vs zs : List V}, RTs K H μ vs ts → RTs K H μ zs us → RTs K H μ (vs ++ zs) (ts ++ us)
  | [], us, vs, zs, h, h' => by simp only [RTs] at h; subst h; exact h'
  | t :: ts, us, vs, zs, h, h' => by
    obtain ⟨u, r, rfl, h1, h2⟩ := h
    exact ⟨u, r ++ zs, rfl, h1, h2.app h'⟩
theorem newA_at : ∀ {ts : List TV} {vs : List V}, RTs K H μ vs ts → ∀ v ∈ newA vs ts, ∃ a u, v = .ref a ∧ H a = some u
  | [], vs, h, v, hv => by simp only [RTs] at h; subst h; simp [newA] at hv
  | t :: ts, vs, h, v, hv => by
    obtain ⟨u, r, rfl, h1, h2⟩ := h
    cases t with
    | val x => exact newA_at h2 v (by simpa [newA] using hv)
    | new o =>
      simp only [newA, List.mem_cons] at hv
      rcases hv with rfl | hv
      · obtain ⟨a, q, _, q3⟩ := h1
        obtain ⟨xs, q4, _⟩ := q3.there
        exact ⟨a, xs, q, q4⟩
      · exact newA_at h2 v hv
theorem RA.app {vs zs : List V} {ts us : List TV} (e1 : Ext H μ H1 μ1) (w1 : Wd K H1 μ1 S) (ra : RA K H H1 μ1 vs ts) (e2 : Ext H1 μ1 H2 μ2) (rb : RA K H1 H2 μ2 zs us) : RA K H H2 μ2 (vs ++ zs) (ts ++ us) := by
  refine ⟨(ra.r.ext e2 w1).app rb.r, ?_, ?_⟩
  · rw [newA_app (ra.r.ext e2 w1), List.nodup_append]
    refine ⟨ra.nd, rb.nd, fun x hx y hy q => ?_⟩
    subst q
    obtain ⟨a, xs, q1, q2⟩ := newA_at ra.r x hx
    have := rb.nw x hy a q1
    rw [q2] at this; cases this
  · intro v hv a q
    rw [newA_app (ra.r.ext e2 w1)] at hv
    rcases List.mem_append.mp hv with hv | hv
    · exact ra.nw v hv a q
    · exact e1.new w1 (rb.nw v hv a q)
theorem RdA.goE {mr : MA} {α β : Type} {RR : Hp → Hp → List Addr → β → α → Prop} {k : List TV → Store → R α} {Q : β → Hp → Prop} (w : Wd K H μ S) (sl : Sl K H μ σ ρ) (e : Ext H0 μ0 H μ) (h : Post RR K W σ H0 μ0 ((mr ρ S).bind k) Q)
    {Q' : List V → Hp → Prop} (hk : ∀ vs H2 ts μ2 S2, mr ρ S = .ok ts S2 → Ext H μ H2 μ2 → Wd K H2 μ2 S2 → Sl K H2 μ2 σ ρ → RA K H H2 μ2 vs ts → Post RR K W σ H0 μ0 (k ts S2) Q → Q' vs H2) : RdA K W mr σ H Q' :=
  ⟨μ, ρ, S, w, sl, (h.bindE e).mono fun v H2 ⟨t, μ2, S2, e0, e2, w2, r, h2⟩ => hk v H2 t μ2 S2 e0 e2 w2 (sl.ext e2 w) r h2⟩
/-- f(e, .., k = v, ..) -/
theorem s_call {k : Nat} {cl : Or} {f : Str} {ps : List Str} {p : Pos} {kws : List Keyword} {n : Nat} (F : FnIs X k cl f ps) (hr : Room k X.A) (tk : Takes X W) (hg : Gl X f) (hdb : (f == ("__debug__" : Str)) = false)
    (ha : PA X es (RdA X.K W mr)) (hk : PK X kws (RdA X.K W mk)) (hst : (backTo pos (starEach es X.env)).any (·.1) = false) (he : ∀ e r, es = e :: r → starEach (e :: r) X.env = (false, eval e X.env) :: starEach r X.env)
    (hks : (backToKw pos (keywordEach kws X.env)).map (·.1) = (ps.drop n).map some) (hlen : ∀ {ρ S ts S'}, mr ρ S = .ok ts S' → ts.length = n) (hl0 : es = [] → n = 0 ∧ mr = mNil) (hk0 : kws = [] → mk = mNil) :
    PE X (.Call (.Name f p) es kws pos) (RdE X.K W (mCall cl f (mApp mr mk))) := by
  obtain ⟨fd, F1, F2⟩ := F.ok
  refine ⟨fun pins s σ H Q I h => ?_⟩
  have go : RdA X.K W mr σ H fun vs H1 => vs.length = n ∧ RdA X.K W mk σ H1 fun zs H2 => spFn X.K cl f (vs ++ zs) H2 Q (WE W σ) := by
    obtain ⟨μ, ρ, S, w, sl, h⟩ := h
    rw [mApp_bind] at h
    refine RdA.goE w sl Ext.refl h fun vs H1 ts μ1 S1 e0 e1 w1 sl1 ra h1 => ⟨by rw [ra.r.len]; exact hlen e0, RdA.go w1 sl1 e1 h1 fun zs H2 us μ2 S2 e2 w2 sl2 rb h2 => ?_⟩
    exact call_sp (e1.trans e2) w2 (ra.app e1 w1 e2 rb) h2
  have hall : (backToKw pos (keywordEach kws X.env)).all (·.1.isSome) = true := by
    rw [List.all_eq_true]
    intro x hx
    have : x.1 ∈ (ps.drop n).map some := by rw [← hks]; exact List.mem_map_of_mem hx
    obtain ⟨y, _, hy⟩ := List.mem_map.mp this
    rw [← hy]; rfl
  have hnone : (backToKw pos (keywordEach kws X.env)).any (·.1.isNone) = false := by
    rw [List.any_eq_false]
    intro x hx
    have := List.all_eq_true.mp hall x hx
    cases h : x.1 with
    | none => rw [h] at this; cases this
    | some y => simp
  have hfm : (backToKw pos (keywordEach kws X.env)).filterMap (·.1) = ps.drop n := by
    have : (backToKw pos (keywordEach kws X.env)).filterMap (·.1) = ((backToKw pos (keywordEach kws X.env)).map (·.1)).filterMap id := by rw [List.filterMap_map]; rfl
    rw [this, hks, List.filterMap_map]
    simp
  refine wpAny_Call_Name_kw (ld_glob I hg F.at_ ?_ hdb)
  have nil_of : ∀ {σ : St} {H : Hp} {Q : List V → Hp → Prop}, RdA X.K W mNil σ H Q → Q [] H := fun {σ H Q} ⟨μ, ρ, S, w, sl, h⟩ => h [] H μ Ext.refl w ⟨rfl, .nil, nofun⟩
  have fin : ∀ {us : List Value} {vs : List V} {s1 : Shared} {H1 : Hp}, Inv X pins σ H1 s1 → Vals vs us → vs.length = n → spFn X.K cl f (vs ++ []) H1 Q (WE W σ) → wpAny (model X.prog X.w) X.A (call (.ref (He.ga X.K f)) us) (EP X pins σ Q) X.xe s1 := by
    intro us vs s1 H1 I1 r hl q
    have := run_fnP (ws := []) F1 hr F2 tk I1 r .nil q
    rwa [List.zip_nil_right] at this
  cases es with
  | nil =>
    obtain ⟨hz, hm⟩ := hl0 rfl
    subst hz hm
    obtain ⟨_, q1⟩ := nil_of go
    cases kws with
    | nil =>
      have hm := hk0 rfl
      subst hm
      exact PySem.W.callWith_K0 I.kIn F.kp (fin (us := []) I .nil rfl (nil_of q1))
    | cons kw kws =>
      refine PySem.W.callWith_KW0 (h₀ := X.base) I.ok.mod.kin F.kp hall ?_ (by rw [hnone]; rfl)
      refine thn (hk.run pos pins s σ H _ I q1) fun ws s2 ⟨zs, H2, I2, rz, q2⟩ => ⟨I2.kIn, ?_⟩
      rw [hfm]
      exact run_fnP (us := []) F1 hr F2 tk I2 .nil rz q2
  | cons e es =>
    have he' := he e es rfl
    cases kws with
    | nil =>
      have hm := hk0 rfl
      subst hm
      refine PySem.W.callWith_K (h₀ := X.base) I.ok.mod.kin F.kp (thn (ha.run pos pins s σ H _ I go) fun us s1 ⟨vs, H1, I1, r, hl, q⟩ => ⟨I1.kIn, ?_⟩) he' ?_
      · exact fin I1 r hl (nil_of q)
      · rw [he'] at hst
        have z : (false || (backTo pos (starEach es X.env)).any (·.1)) = false := hst
        simpa using z
    | cons kw kws =>
      refine PySem.W.callWith_KW (h₀ := X.base) I.ok.mod.kin F.kp hall (thn (ha.run pos pins s σ H _ I go) fun us s1 ⟨vs, H1, I1, r, hl, q⟩ => ?_) (by rw [hst, hnone]; rfl) he'
      refine thn (hk.run pos pins s1 σ H1 _ I1 q) fun ws s2 ⟨zs, H2, I2, rz, q2⟩ => ⟨I2.kIn, ?_⟩
      rw [hfm]
      have el : us.length = n := by rw [← r.length]; exact hl
      subst el
      exact run_fnP F1 hr F2 tk I2 r rz q2
end
end Ap
set_option Elab.async false
set_option linter.all false
set_option maxRecDepth 100000
set_option maxHeartbeats 1000000
namespace Ap
open PySem L2
section
variable {K : PySem.W.Frag} {H H' H0 H1 H2 : Hp} {μ μ' μ0 μ1 μ2 : List Addr} {S S' S0 : Store} {W : WX} {σ : St} {ρ : Env} {X : Cx}
variable {a b c e tg : Expr} {es : List Expr} {ma mb mc m m' : ME} {ta tb tc : MT} {mr mk : MA} {pos : Pos}

/-! ### what is walked -/
structure SrcR (K : PySem.W.Frag) (J : L2.It) (H0 : Hp) (μ0 : List Addr) (src : Src) : Prop where
  go : ∀ {i H μ S}, Ext H0 μ0 H μ → Wd K H μ S → src.still S = true → i < src.xs.length → J.go i H
  stop : ∀ {i H μ S}, Ext H0 μ0 H μ → Wd K H μ S → src.still S = true → i = src.xs.length → J.stop i H
  yld : ∀ {i H μ S y x H'}, Ext H0 μ0 H μ → Wd K H μ S → src.still S = true → src.xs[i]? = some y → J.yld i H x H' → (∀ a o, H a = some o → H' a = some o) ∧ RV K H' μ x y
def RdI (K : PySem.W.Frag) (W : WX) (m : MI) : TI := fun σ H R => ∃ μ ρ S, Wd K H μ S ∧ Sl K H μ σ ρ ∧ Post (fun _ H' μ' (J : L2.It) src => SrcR K J H' μ' src) K W σ H μ (m ρ S) R
theorem PI_imp {iter : Expr} {t t' : TI} (h : PI X tg iter t) (k : ∀ σ H R, t' σ H R → t σ H R) : PI X tg iter t' := ⟨fun pins s σ H R I q => h.run pins s σ H R I (k σ H R q)⟩
def iSeq (K : PySem.W.Frag) (tl : TE) : TI := fun σ H R => tl σ H fun x H1 => (∃ a xs, x = .ref a ∧ SqL K H1 a xs ∧ R (Itl K a) H1) ∨ (∃ a xs, x = .ref a ∧ SqT K H1 a xs ∧ R (Itt K a) H1) ∨ ∃ z, x = .str z ∧ R (Its z) H1
theorem it_str {pins : List (Addr × PySem.Obj)} {s : Shared} {z : Str} {t : Tok} {R : L2.It → Hp → Prop} (I : Inv X pins σ H s) (q : R (Its z) H) : wpAny (model X.prog X.w) X.A (pyIter (.str z t)) (PIE X pins σ tg R) X.xe s := by
  by_cases hz : z.cps.all (· < 128) = true
  · refine wpAny_pyIter_ascii hz (pi_one (tk := s.toks) I _ (turn_str _ z t _ (.inl rfl)) ?_ q)
    exact ⟨_, Heap.get?_push_size _ rfl, rfl, rfl⟩
  · refine wpAny_pyIter_wide (Bool.eq_false_iff.mpr hz) (pi_one (tk := s.toks) I _ (turn_str _ z t _ (.inr rfl)) ?_ q)
    exact ⟨_, Heap.get?_push_size _ rfl, rfl, rfl⟩
theorem pi_seq {tl : TE} (hl : PE X e tl) : PI X tg e (iSeq X.K tl) := by
  refine ⟨fun pins s σ H R I h => thn (hl.run pins s σ H _ I h) ?_⟩
  rintro u s1 ⟨x, H1, I1, rx, ⟨p, xs, rfl, hp, q⟩ | ⟨p, xs, rfl, hp, q⟩ | ⟨z, rfl, q⟩⟩
  · cases rx
    obtain ⟨its, _, pl, _⟩ := I1.list hp
    refine wpAny_pyIter_list pl.isList (pi_one (tk := s1.toks) I1 _ (turn_list p _) ?_ q)
    exact ⟨_, Heap.get?_push_size _ rfl, rfl, rfl⟩
  · cases rx
    obtain ⟨its, _, pl, _⟩ := I1.tuple hp
    refine wpAny_pyIter_tuple (by exact pl) (pi_one (tk := s1.toks) I1 _ (turn_tuple p _) ?_ q)
    exact ⟨_, Heap.get?_push_size _ rfl, rfl, rfl⟩
  · obtain ⟨t, rfl⟩ := rx
    exact it_str I1 q
theorem src_tup {p : Addr} {vs : List V} {xs : List Val} (w0 : Wd K H0 μ0 S0) (h : SqT K H0 p vs) (r : RVs K H0 μ0 vs xs) : SrcR K (Itt K p) H0 μ0 ⟨xs, []⟩ := by
  have hl := r.len
  refine ⟨fun {i H μ S} e w _ hi => ?_, fun {i H μ S} e w _ hi => ⟨vs, e.tup w0 h, by simp at hi; omega⟩, fun {i H μ S y x H'} e w _ hy q => ?_⟩
  · simp at hi
    exact ⟨vs, vs[i], e.tup w0 h, List.getElem?_eq_getElem (by omega)⟩
  · obtain ⟨rfl, q⟩ := q
    refine ⟨fun _ _ h => h, ?_⟩
    obtain ⟨v, h1, h2⟩ := (RVs.ext e w0 xs vs r).at hy
    have := q vs (e.tup w0 h)
    rw [h1] at this
    cases this
    exact h2
theorem src_lst {p : Addr} {xs : List Val} {lv : List (Nat × Obj)} (h : ∀ {H μ S}, Ext H0 μ0 H μ → Wd K H μ S → (Src.mk xs lv).still S = true → ∃ vs, SqL K H p vs ∧ RVs K H μ vs xs) : SrcR K (Itl K p) H0 μ0 ⟨xs, lv⟩ := by
  refine ⟨fun {i H μ S} e w st hi => ?_, fun {i H μ S} e w st hi => ?_, fun {i H μ S y x H'} e w st hy q => ?_⟩
  · obtain ⟨vs, h1, h2⟩ := h e w st
    have hl := h2.len
    simp at hi
    exact ⟨vs, vs[i], h1, List.getElem?_eq_getElem (by omega)⟩
  · obtain ⟨vs, h1, h2⟩ := h e w st
    have hl := h2.len
    exact ⟨vs, h1, by simp at hi; omega⟩
  · obtain ⟨vs, h1, h2⟩ := h e w st
    obtain ⟨rfl, q⟩ := q
    refine ⟨fun _ _ h => h, ?_⟩
    obtain ⟨v, h3, h4⟩ := h2.at hy
    have := q vs h1
    rw [h3] at this
    cases this
    exact h4
/-- what an expression gives, walked -/
theorem srcOf_at {t : TV} {src : Src} {v : V} (w : Wd K H μ S) (r : RT K H μ v t) (h : srcOf t S = some src) {R : L2.It → Hp → Prop} (q : ∀ J, SrcR K J H μ src → R J H) :
    (∃ a xs, v = .ref a ∧ SqL K H a xs ∧ R (Itl K a) H) ∨ (∃ a xs, v = .ref a ∧ SqT K H a xs ∧ R (Itt K a) H) ∨ ∃ z, v = .str z ∧ R (Its z) H := by
  cases t with
  | val x =>
    cases x with
    | dat d =>
      cases d with
      | tup ds =>
        simp only [srcOf, Option.some.injEq] at h; subst h
        simp only [RT, RV, RD] at r
        obtain ⟨p, vs, rfl, q1, q2, q3⟩ := r
        exact .inr (.inl ⟨p, vs, rfl, q1, q _ (src_tup w q1 (RVs.of q3))⟩)
      | str z =>
        simp only [srcOf, Option.some.injEq] at h; subst h
        simp only [RT, RV, RD] at r
        obtain ⟨rfl, q1, q2⟩ := r
        refine .inr (.inr ⟨z, rfl, q _ ⟨fun {i H μ S} e w _ hi => ?_, fun {i H μ S} e w _ hi => ?_, fun {i H μ S y x H'} e w _ hy k => ?_⟩⟩)
        · have : i < z.cps.size := by simpa [signs] using hi
          exact this
        · have : i = z.cps.size := by simpa [signs] using hi
          exact Nat.le_of_eq this.symm
        · obtain ⟨rfl, c, k1, rfl⟩ := k
          refine ⟨fun _ _ h => h, ?_⟩
          simp only [signs, List.getElem?_map, Option.map_eq_some_iff, List.map_map, Function.comp] at hy
          obtain ⟨c', k2, rfl⟩ := hy
          have : c' = c := by simp at k2; rw [k1] at k2; cases k2; rfl
          subst this
          simp only [RV]
          exact sign_ok q2 (List.mem_of_getElem? k2)
      | non => simp [srcOf] at h
      | bl _ => simp [srcOf] at h
      | int _ => simp [srcOf] at h
    | tup xs =>
      simp only [srcOf, Option.some.injEq] at h; subst h
      simp only [RT, RV] at r
      obtain ⟨p, vs, rfl, q1, q2, q3⟩ := r
      exact .inr (.inl ⟨p, vs, rfl, q1, q _ (src_tup w q1 q3)⟩)
    | ref i =>
      simp only [srcOf] at h
      split at h
      · rename_i xs hx
        simp only [Option.some.injEq] at h; subst h
        simp only [RT, RV] at r
        obtain ⟨p, q1, rfl⟩ := r
        obtain ⟨vs, q2, q3, q4⟩ := w.ob i p _ q1 hx
        refine .inl ⟨p, vs, rfl, .of q2, q _ (src_lst fun {H' μ' S'} e w' st => ?_)⟩
        have hs : S'[i]? = some (.lst xs) := by simpa [Src.still] using st
        obtain ⟨vs', k1, k2, k3⟩ := w'.ob i p _ (e.at q1) hs
        exact ⟨vs', .of k1, k3⟩
      · cases h
    | fn _ => simp [srcOf] at h
    | scr ns =>
      simp only [srcOf, Option.some.injEq] at h; subst h
      simp only [RT, RV] at r
      obtain ⟨p, rfl, q1, q2⟩ := r
      have hq : ∀ {H' μ' S'}, Ext H μ H' μ' → Wd K H' μ' S' → SqL K H' p (ns.map V.int) := fun {H' μ' S'} e w' => by
        rcases q2 with q2 | ⟨o, q2⟩
        · exact q2 _
        · refine .inl (.inr ⟨o, e.fr p _ q2 fun k => ?_⟩)
          obtain ⟨us, z, m⟩ := w.there k
          rw [z] at q2; cases q2; exact m.elim
      exact .inl ⟨p, _, rfl, hq Ext.refl w, q _ (src_lst fun {H' μ' S'} e w' st => ⟨_, hq e w', RVs.ints⟩)⟩
  | new o =>
    cases o with
    | lst xs =>
      simp only [srcOf, Option.some.injEq] at h; subst h
      obtain ⟨p, rfl, q1, vs, q2, q3, q4⟩ := r
      exact .inl ⟨p, vs, rfl, .of q2, q _ (src_lst fun {H' μ' S'} e w' st => ⟨vs, .of (e.fr p _ q2 q1), RVs.ext e w xs vs q4⟩)⟩
    | dct _ => simp [srcOf] at h
    | ins _ _ => simp [srcOf] at h
theorem RdI.goE {m : ME} {k : TV → Store → R Src} {R : L2.It → Hp → Prop} (w : Wd K H μ S) (sl : Sl K H μ σ ρ) (e : Ext H0 μ0 H μ) (h : Post (fun _ H' μ' (J : L2.It) src => SrcR K J H' μ' src) K W σ H0 μ0 ((m ρ S).bind k) R)
    {Q' : VK} (hk : ∀ v H2 t μ2 S2, Ext H μ H2 μ2 → Wd K H2 μ2 S2 → Sl K H2 μ2 σ ρ → RT K H2 μ2 v t → frs H v t → Post (fun _ H' μ' (J : L2.It) src => SrcR K J H' μ' src) K W σ H0 μ0 (k t S2) R → Q' v H2) : RdE K W m σ H Q' :=
  ⟨μ, ρ, S, w, sl, (h.bind e).mono fun v H2 ⟨t, μ2, S2, e2, w2, r, h2⟩ => hk v H2 t μ2 S2 e2 w2 (sl.ext e2 w) r.1 r.2 h2⟩
theorem i_seq (ha : PE X e (RdE X.K W m)) : PI X tg e (RdI X.K W (mIt m)) :=
  PI_imp (pi_seq ha) fun σ H R ⟨μ, ρ, S, w, sl, h⟩ => RdI.goE w sl Ext.refl h fun v H1 x μ1 S1 e1 w1 sl1 r1 f1 h1 => by
    obtain ⟨s, hs, h2⟩ := h1.orBad
    exact srcOf_at w1 r1 hs fun J hJ => h2 J H1 μ1 e1 w1 hJ
theorem upto_get : ∀ (n : Nat) (lo : Int) (i : Nat), (upto lo n)[i]? = if i < n then some (.dat (.int (lo + i))) else none
  | 0, lo, i => by simp [upto]
  | n + 1, lo, 0 => by simp [upto]
  | n + 1, lo, i + 1 => by
    simp only [upto, List.getElem?_cons_succ, upto_get n, Nat.add_lt_add_iff_right]
    split
    · congr 3; omega
    · rfl
theorem upto_len : ∀ (n : Nat) (lo : Int), (upto lo n).length = n
  | 0, _ => rfl
  | n + 1, lo => by simp [upto, upto_len n]
theorem src_rng {lo : Int} {n : Nat} : SrcR K (Itr lo n) H0 μ0 ⟨upto lo n, []⟩ := by
  refine ⟨fun {i H μ S} e w st hi => ?_, fun {i H μ S} e w st hi => ?_, fun {i H μ S y x H'} e w st hy q => ?_⟩
  · have : i < n := by simpa [upto_len] using hi
    exact this
  · have : i = n := by simpa [upto_len] using hi
    exact Nat.le_of_eq this.symm
  · obtain ⟨rfl, rfl⟩ := q
    refine ⟨fun _ _ h => h, ?_⟩
    simp only [upto_get] at hy
    split at hy
    · cases hy; simp only [RV, RD]
    · cases hy
theorem okR_iff {i : Int} (h : okR i = true) : -(2 ^ 62) ≤ i ∧ i < 2 ^ 62 := by
  simp only [okR, bound, Bool.and_eq_true] at h
  exact ⟨of_decide_eq_true h.1, of_decide_eq_true h.2⟩
theorem i_rg1 {p : Pos} (hg : Gl X "range") (hm : X.mg "range" = none) (ha : PE X a (RdE X.K W m)) (hs : starEach [a] X.env = [(false, eval a X.env)]) : PI X tg (.Call (.Name "range" p) [a] [] pos) (RdI X.K W (mRg1 m)) :=
  PI_imp (pi_range1 hg hm (pa_cons ha pa_nil hs) hs) fun σ H R ⟨μ, ρ, S, w, sl, h⟩ => RdI.goE w sl Ext.refl h fun v H1 x μ1 S1 e1 w1 sl1 r1 f1 h1 => by
    obtain ⟨j, hj, h2⟩ := h1.orBad
    split at h2
    · rename_i ho
      have := okR_iff ho
      exact ⟨j, by rw [int_at r1 hj], this.1, this.2, h2 _ H1 μ1 e1 w1 src_rng⟩
    · exact h2.elim
theorem i_rg2 {p : Pos} (hg : Gl X "range") (hm : X.mg "range" = none) (ha : PE X a (RdE X.K W m)) (hb : PE X b (RdE X.K W m')) (hs : starEach [a, b] X.env = [(false, eval a X.env), (false, eval b X.env)]) (hs2 : starEach [b] X.env = [(false, eval b X.env)]) : PI X tg (.Call (.Name "range" p) [a, b] [] pos) (RdI X.K W (mRg2 m m')) :=
  PI_imp (pi_range2 hg hm (pa_cons ha (pa_cons hb pa_nil hs2) (by rw [hs, hs2])) hs hs2) fun σ H R ⟨μ, ρ, S, w, sl, h⟩ => RdI.goE w sl Ext.refl h fun v H1 x μ1 S1 e1 w1 sl1 r1 f1 h1 =>
    RdI.goE w1 sl1 e1 h1 fun u H2 y μ2 S2 e2 w2 sl2 r2 f2 h2 => by
    obtain ⟨i, hi, h3⟩ := h2.orBad
    obtain ⟨j, hj, h4⟩ := h3.orBad
    split at h4
    · rename_i ho
      simp only [Bool.and_eq_true] at ho
      have k1 := okR_iff ho.1
      have k2 := okR_iff ho.2
      exact ⟨i, j, by rw [int_at r1 hi, int_at r2 hj], ⟨k1.1, k1.2, k2.1, k2.2⟩, h4 _ H2 μ2 (e1.trans e2) w2 src_rng⟩
    · exact h4.elim
end
end Ap
set_option Elab.async false
set_option linter.all false
set_option maxRecDepth 100000
set_option maxHeartbeats 1000000
namespace Ap
open PySem L2
section
variable {K : PySem.W.Frag} {H H' H0 H1 H2 : Hp} {μ μ' μ0 μ1 μ2 : List Addr} {S S' S0 : Store} {W : WX} {σ : St} {ρ : Env} {X : Cx}
variable {a b c e tg : Expr} {es : List Expr} {ma mb mc m m' : ME} {ta tb tc : MT} {mr mk : MA} {pos : Pos}

/-! ### slots -/
theorem wipe_at (σ : St) (i : Nat) : ∀ vs : List Nat, (L2.wipe σ vs)[i]? = if i ∈ vs ∧ i < σ.length then some none else σ[i]?
  | [] => by simp [L2.wipe]
  | v :: vs => by
    simp only [L2.wipe, List.getElem?_set, L2.wipe_length, wipe_at σ i vs, List.mem_cons]
    by_cases h1 : v = i
    · subst h1
      by_cases h2 : v < σ.length
      · simp [h2]
      · simp [h2]
    · have h1' : ¬ i = v := fun q => h1 q.symm
      simp [h1, h1']
theorem wipeE_at (σ : Env) (i : Nat) : ∀ vs : List Nat, (Ap.wipe σ vs)[i]? = if i ∈ vs ∧ i < σ.length then some none else σ[i]?
  | [] => by simp [Ap.wipe]
  | v :: vs => by
    have hl : ∀ ws : List Nat, (Ap.wipe σ ws).length = σ.length := by
      intro ws; induction ws with
      | nil => rfl
      | cons w ws ih => simp [Ap.wipe, ih]
    simp only [Ap.wipe, List.getElem?_set, hl, wipeE_at σ i vs, List.mem_cons]
    by_cases h1 : v = i
    · subst h1
      by_cases h2 : v < σ.length
      · simp [h2]
      · simp [h2]
    · have h1' : ¬ i = v := fun q => h1 q.symm
      simp [h1, h1']
theorem wipeE_len (σ : Env) : ∀ vs : List Nat, (Ap.wipe σ vs).length = σ.length
  | [] => rfl
  | v :: vs => by simp [Ap.wipe, wipeE_len σ vs]
theorem wipe_wipe (σ : St) (vs : List Nat) : L2.wipe (L2.wipe σ vs) vs = L2.wipe σ vs := by
  refine List.ext_getElem? fun i => ?_
  simp only [wipe_at, L2.wipe_length]
  split
  · rfl
  · rfl
theorem wipe_set {σ : St} {i : Nat} {v : Option V} {vs : List Nat} (h : i ∈ vs) : L2.wipe (σ.set i v) vs = L2.wipe σ vs := by
  refine List.ext_getElem? fun j => ?_
  simp only [wipe_at, List.length_set, List.getElem?_set]
  split
  · rfl
  · rename_i q
    split
    · rename_i q2; subst q2
      split
      · rename_i q3; exact (q ⟨h, q3⟩).elim
      · rename_i q3; simp at q3; simp [q3]
    · rfl
theorem Sl.wipe (sl : Sl K H μ σ ρ) (vs : List Nat) : Sl K H μ (L2.wipe σ vs) (Ap.wipe ρ vs) := by
  refine ⟨by rw [L2.wipe_length, wipeE_len, sl.len], fun i x hx => ?_⟩
  rw [wipeE_at] at hx
  split at hx
  · cases hx
  · rename_i q
    obtain ⟨v, h1, h2⟩ := sl.at_ i x hx
    refine ⟨v, ?_, h2⟩
    rw [wipe_at, sl.len, if_neg q]; exact h1
theorem Sl.set (sl : Sl K H μ σ ρ) {i : Nat} {v : V} {x : Val} (r : RV K H μ v x) : Sl K H μ (σ.set i (some v)) (ρ.set i (some x)) := by
  refine ⟨by simp [sl.len], fun j y hy => ?_⟩
  rw [List.getElem?_set] at hy ⊢
  split at hy
  · rename_i q; subst q
    split at hy
    · rename_i q2
      cases hy
      rw [if_pos rfl, if_pos (by rw [sl.len]; exact q2)]
      exact ⟨v, rfl, r⟩
    · cases hy
  · rename_i q
    rw [if_neg q]
    exact sl.at_ j y hy

/-! ### targets -/
def RdG (K : PySem.W.Frag) (t : Tg) : TG := fun v σ H Q => ∃ μ ρ x ρ', Sl K H μ σ ρ ∧ RV K H μ v x ∧ asg t x ρ = some ρ' ∧ ∀ σ', Sl K H μ σ' ρ' → (∀ vs, (∀ i ∈ t.slots, i ∈ vs) → L2.wipe σ' vs = L2.wipe σ vs) → Q σ' H
def RdGs (K : PySem.W.Frag) (t : Tgs) : TGs := fun v σ H Q => ∃ μ ρ x ρ', Sl K H μ σ ρ ∧ RVs K H μ v x ∧ asgs t x ρ = some ρ' ∧ ∀ σ', Sl K H μ σ' ρ' → (∀ vs, (∀ i ∈ t.slots, i ∈ vs) → L2.wipe σ' vs = L2.wipe σ vs) → Q σ' H
theorem PG_imp {t t' : TG} (h : PG X e t) (k : ∀ v σ H Q, t' v σ H Q → t v σ H Q) : PG X e t' := ⟨fun pins s σ H v u Q I r q => h.run pins s σ H v u Q I r (k v σ H Q q)⟩
theorem PGs_imp {t t' : TGs} (h : PGs X es t) (k : ∀ v σ H Q, t' v σ H Q → t v σ H Q) : PGs X es t' := ⟨fun pins s σ H v u Q I r q => h.run pins s σ H v u Q I r (k v σ H Q q)⟩
theorem g_name {i : Nat} {x : Str} (hN : X.N.Nodup) (hi : X.N[i]? = some x) (hx : Loc X.env.scope x) (hf : X.fn x = true ∨ X.env.scope.names.lookup x = some .local) : PG X (.Name x pos) (RdG X.K (.nm i)) :=
  PG_imp (pg_name hN hi hx hf) fun v σ H Q ⟨μ, ρ, x, ρ', sl, r, ha, q⟩ => by
    simp only [asg] at ha
    split at ha
    · cases ha
      exact q _ (sl.set r) fun vs h => wipe_set (h i (by simp [Tg.slots]))
    · cases ha
theorem gs_nil : PGs X [] (RdGs X.K .nil) := PGs_imp pgs_nil fun v σ H Q ⟨μ, ρ, x, ρ', sl, r, ha, q⟩ => by
  cases x with
  | nil =>
    simp only [asgs, Option.some.injEq] at ha; subst ha
    simp only [RVs] at r
    exact ⟨r, q σ sl fun _ _ => rfl⟩
  | cons _ _ => simp [asgs] at ha
theorem gs_cons {t : Tg} {r : Tgs} (h1 : PG X e (RdG X.K t)) (h2 : PGs X es (RdGs X.K r)) (hs : (assignEach (e :: es) X.env).map (·.2) = assign e X.env :: (assignEach es X.env).map (·.2)) : PGs X (e :: es) (RdGs X.K (.cons t r)) :=
  PGs_imp (pgs_cons h1 h2 hs) fun v σ H Q ⟨μ, ρ, x, ρ', sl, rv, ha, q⟩ => by
    cases x with
    | nil => simp [asgs] at ha
    | cons x xs =>
      simp only [asgs, Option.bind_eq_some_iff] at ha
      obtain ⟨ρ1, a1, a2⟩ := ha
      simp only [RVs] at rv
      obtain ⟨v, vs, rfl, r1, r2⟩ := rv
      refine ⟨v, vs, rfl, μ, ρ, x, ρ1, sl, r1, a1, fun σ1 sl1 w1 => ⟨μ, ρ1, xs, ρ', sl1, r2, a2, fun σ2 sl2 w2 => q σ2 sl2 fun us h => ?_⟩⟩
      rw [w2 us fun i hi => h i (by simp [Tgs.slots, hi]), w1 us fun i hi => h i (by simp [Tgs.slots, hi])]
theorem tupOf_at {v : V} {x : Val} {xs : List Val} (r : RV K H μ v x) (h : tupOf x = some xs) : ∃ a vs, v = .ref a ∧ SqT K H a vs ∧ RVs K H μ vs xs := by
  unfold tupOf at h
  split at h
  · cases h
    simp only [RV, RD] at r
    obtain ⟨a, vs, rfl, q1, q2, q3⟩ := r
    exact ⟨a, vs, rfl, q1, RVs.of q3⟩
  · cases h
    simp only [RV] at r
    obtain ⟨a, vs, rfl, q1, q2, q3⟩ := r
    exact ⟨a, vs, rfl, q1, q3⟩
  · cases h
def Tgs.len : Tgs → Nat
  | .nil => 0
  | .cons _ r => r.len + 1
theorem asgs_len : ∀ {t : Tgs} {xs : List Val} {ρ ρ' : Env}, asgs t xs ρ = some ρ' → xs.length = t.len
  | .nil, [], _, _, _ => rfl
  | .nil, _ :: _, _, _, h => by simp [asgs] at h
  | .cons _ _, [], _, _, h => by simp [asgs] at h
  | .cons t r, x :: xs, ρ, ρ', h => by
    simp only [asgs, Option.bind_eq_some_iff] at h
    obtain ⟨ρ1, a1, a2⟩ := h
    simp only [List.length_cons, Tgs.len, asgs_len a2]
theorem g_tup {ts : Tgs} {k : Nat} (hc : X.calm = true) (h : PGs X es (RdGs X.K ts)) (hn : (assignEach es X.env).length = ts.len) (hst : (assignEach es X.env).findIdx? (·.1) = none) : PG X (.Tuple es k pos) (RdG X.K (.tp ts)) :=
  PG_imp (pg_tup hc h hn hst) fun v σ H Q ⟨μ, ρ, x, ρ', sl, rv, ha, q⟩ => by
    simp only [asg, Option.bind_eq_some_iff] at ha
    obtain ⟨xs, a1, a2⟩ := ha
    obtain ⟨p, vs, rfl, q1, q2⟩ := tupOf_at rv a1
    exact ⟨p, vs, rfl, q1, by rw [q2.len, asgs_len a2], μ, ρ, xs, ρ', sl, q2, a2, fun σ' s w => q σ' s fun vs h => w vs (by simpa [Tg.slots] using h)⟩

/-! ### an object that is not the store's is written -/
mutual
theorem RD.upd {D : Addr} {hD0 hD1 : HO} (hD : H D = some hD0) (hM : Mo hD0) : ∀ (d : Ap.D) (v : V), RD K H v d → RD K (upd H D hD1) v d
  | .non, v, h => by simpa only [RD] using h
  | .bl _, v, h => by simpa only [RD] using h
  | .int _, v, h => by simpa only [RD] using h
  | .str _, v, h => by simpa only [RD] using h
  | .tup ds, v, h => by
    simp only [RD] at h ⊢
    obtain ⟨a, vs, e1, h1, h2, h3⟩ := h
    exact ⟨a, vs, e1, sqT_upd hD hM h1, h2, RDs.upd hD hM ds vs h3⟩
theorem RDs.upd {D : Addr} {hD0 hD1 : HO} (hD : H D = some hD0) (hM : Mo hD0) : ∀ (ds : List Ap.D) (vs : List V), RDs K H vs ds → RDs K (upd H D hD1) vs ds
  | [], vs, h => by simpa only [RDs] using h
  | d :: ds, vs, h => by
    simp only [RDs] at h ⊢
    obtain ⟨v, r, e1, h1, h2⟩ := h
    exact ⟨v, r, e1, RD.upd hD hM d v h1, RDs.upd hD hM ds r h2⟩
theorem sqT_upd {D p : Addr} {vs : List V} {hD0 hD1 : HO} (hD : H D = some hD0) (hM : Mo hD0) (h : SqT K H p vs) : SqT K (upd H D hD1) p vs := by
  rcases h with (h | ⟨o, h⟩) | h
  · exact .inl (.inl (by rw [upd_ne (ne_of h hD (by rintro rfl; exact hM))]; exact h))
  · exact .inl (.inr ⟨o, by rw [upd_ne (ne_of h hD (by rintro rfl; exact hM))]; exact h⟩)
  · exact .inr h
end
mutual
theorem RV.upd {D : Addr} {hD0 hD1 : HO} (hD : H D = some hD0) (hM : Mo hD0) : ∀ (x : Val) (v : V), RV K H μ v x → RV K (upd H D hD1) μ v x
  | .dat d, v, h => by
    simp only [RV] at h ⊢
    exact RD.upd hD hM d v h
  | .ref i, v, h => by simpa only [RV] using h
  | .tup xs, v, h => by
    simp only [RV] at h ⊢
    obtain ⟨a, vs, e1, h1, h2, h3⟩ := h
    exact ⟨a, vs, e1, sqT_upd hD hM h1, h2, RVs.upd hD hM xs vs h3⟩
  | .fn g, v, h => by simpa only [RV] using h
  | .scr ns, v, h => by
    simp only [RV] at h ⊢
    obtain ⟨a, e1, h1, h2⟩ := h
    refine ⟨a, e1, h1, h2.imp id fun ⟨o, h2⟩ => ⟨o, ?_⟩⟩
    rw [upd_ne (ne_of h2 hD (by rintro rfl; exact hM))]; exact h2
theorem RVs.upd {D : Addr} {hD0 hD1 : HO} (hD : H D = some hD0) (hM : Mo hD0) : ∀ (xs : List Val) (vs : List V), RVs K H μ vs xs → RVs K (upd H D hD1) μ vs xs
  | [], vs, h => by simpa only [RVs] using h
  | x :: xs, vs, h => by
    simp only [RVs] at h ⊢
    obtain ⟨v, r, e1, h1, h2⟩ := h
    exact ⟨v, r, e1, RV.upd hD hM x v h1, RVs.upd hD hM xs r h2⟩
end
theorem ROat.upd {D a : Addr} {hD0 hD1 : HO} {o : Ap.Obj} (hD : H D = some hD0) (hM : Mo hD0) (na : a ≠ D) (r : ROat K H μ a o) : ROat K (upd H D hD1) μ a o := by
  cases o with
  | lst xs =>
    obtain ⟨vs, q1, q2, q3⟩ := r
    exact ⟨vs, by rw [upd_ne na]; exact q1, q2, RVs.upd hD hM xs vs q3⟩
  | dct ps =>
    obtain ⟨vs, q1, q2, q3⟩ := r
    exact ⟨vs, by rw [upd_ne na]; exact q1, q2, q3.mono fun p _ v q => RV.upd hD hM p.2 v q⟩
  | ins _ _ => exact r.elim
theorem Wd.updOut {D : Addr} {hD0 hD1 : HO} (w : Wd K H μ S) (hD : H D = some hD0) (hM : Mo hD0) (n : D ∉ μ) : Wd K (upd H D hD1) μ S := by
  refine ⟨w.len, w.nd, fun i a o h1 h2 => ?_⟩
  have na : a ≠ D := fun q => n (q ▸ List.mem_of_getElem? h1)
  exact (w.ob i a o h1 h2).upd hD hM na
theorem Ext.updOut {D : Addr} {o : HO} (e : Ext H0 μ0 H μ) (hD : H0 D = none) : Ext H0 μ0 (L2.upd H D o) μ :=
  ⟨e.pre, fun a u h n => by rw [upd_ne (ne_of_none h hD)]; exact e.fr a u h n, e.nw⟩
end
end Ap
set_option Elab.async false
set_option linter.all false
set_option maxRecDepth 100000
set_option maxHeartbeats 1000000
namespace Ap
open PySem L2
/-! ### zip of lists and tuples in any mix -/
inductive ZK where
  | l | t
def ZK.sq (K : PySem.W.Frag) (H : Hp) (a : Addr) (xs : List V) : ZK → Prop
  | .l => SqL K H a xs
  | .t => SqT K H a xs
def ZK.it (h : Heap) (it a : Addr) (i : Nat) : ZK → Prop
  | .l => h.IsListIter it a i
  | .t => h.IsTupleIter it a i
def ItzG (K : PySem.W.Frag) (k1 k2 : ZK) (a b : Addr) : L2.It where
  go := fun i H => ∃ xs ys x y, k1.sq K H a xs ∧ k2.sq K H b ys ∧ xs[i]? = some x ∧ ys[i]? = some y
  yld := fun i H v H' => ∃ T x y, v = .ref T ∧ H T = none ∧ H' = upd H T (.tup [x, y]) ∧ (∀ xs, k1.sq K H a xs → xs[i]? = some x) ∧ (∀ ys, k2.sq K H b ys → ys[i]? = some y)
  stop := fun i H => ∃ xs ys, k1.sq K H a xs ∧ k2.sq K H b ys ∧ i ≤ xs.length ∧ i ≤ ys.length ∧ (i = xs.length ∨ i = ys.length)
section
variable {X : Cx} {pins : List (Addr × PySem.Obj)} {σ : St} {H : Hp} {s : Shared}
theorem ZK.inj (k : ZK) {a : Addr} {xs ys : List V} (I : L2.Inv X pins σ H s) (h : k.sq X.K H a xs) (h' : k.sq X.K H a ys) : xs = ys := by
  cases k with
  | l => exact I.list_inj h h'
  | t => exact I.tuple_inj h h'
theorem ZK.draws (k : ZK) {a it : Addr} {i : Nat} {xs : List V} (I : L2.Inv X pins σ H s) (hc : X.calm = true) (na : a ≠ it) (h : k.sq X.K H a xs) (st : k.it s.heap it a i) :
    ∃ (us : List Value) (St : Nat → Heap → Prop), Vals xs us ∧ Draws X.prog X.w X.A.in1 it [it, a] us.toArray.size (fun i v => us.toArray[i]? = some v) St ∧ St i s.heap ∧ ∀ j h, St j h → k.it h it a j := by
  have hh : X.A.in1.handled = none := I.ok.hd hc
  cases k with
  | l =>
    obtain ⟨us, rv, p, _⟩ := I.list h
    exact ⟨us, _, rv, Draws.list hh it a na us.toArray, ⟨st, p.isList⟩, fun j h q => q.1⟩
  | t =>
    obtain ⟨us, rv, p, _⟩ := I.tuple h
    exact ⟨us, _, rv, Draws.tuple hh it a na us.toArray, ⟨st, p⟩, fun j h q => q.1⟩
theorem ZK.there (k : ZK) {h : Heap} {it a : Addr} {i : Nat} (st : k.it h it a i) : ∃ o, h.get? it = some o ∧ ∀ v, o.data ≠ .cell v := by
  cases k with
  | l => obtain ⟨o, e, _, d⟩ := st; exact ⟨o, e, fun v q => by rw [d] at q; cases q⟩
  | t => obtain ⟨o, e, _, d⟩ := st; exact ⟨o, e, fun v q => by rw [d] at q; cases q⟩
theorem ZK.keep (k : ZK) {h h' : Heap} {it a : Addr} {i : Nat} (st : k.it h it a i) (q : ∀ o, h.get? it = some o → h'.get? it = some o) : k.it h' it a i := by
  cases k with
  | l => exact Heap.IsListIter.at st q
  | t => exact Heap.IsTupleIter.at st q
end
theorem turn_zipG {P : Program} {w : World} {K : PySem.W.Frag} {elts : List Expr} {kk : Nat} {tpos : Pos} (k1 k2 : ZK) {a b z TI TO i1 i2 : Addr} (D : ZipSep2 z TI TO i1 i2 [i1, a] [i2, b]) (na : a ≠ i1) (nb : b ≠ i2) :
    Turn P w K (.Tuple elts kk tpos) (ItzG K k1 k2 a b) [z, TI, TO, i1, i2] z (fun i h => IsZip h z TI TO .none ∧ IsTupOf2 h TI (.ref i1) (.ref i2) ∧ (∃ x y, IsTupOf2 h TO x y) ∧ k1.it h i1 a i ∧ k2.it h i2 b i) where
  mem := List.mem_cons_self
  obj := fun i h ⟨hz, hI, ⟨x, y, hO⟩, q1, q2⟩ c hc => by
    simp only [List.mem_cons, List.not_mem_nil, or_false] at hc
    rcases hc with rfl | rfl | rfl | rfl | rfl
    · exact ⟨_, hz, fun v q => nomatch q⟩
    · exact ⟨_, hI, fun v q => nomatch q⟩
    · exact ⟨_, hO, fun v q => nomatch q⟩
    · exact k1.there q1
    · exact k2.there q2
  keep := fun i h h' ⟨hz, hI, ⟨x, y, hO⟩, q1, q2⟩ k => by
    refine ⟨k z (by simp) _ hz, k TI (by simp) _ hI, ⟨x, y, k TO (by simp) _ hO⟩, k1.keep q1 fun o q => ?_, k2.keep q2 fun o q => ?_⟩
    · exact k i1 (by simp) o q
    · exact k i2 (by simp) o q
  item := by
    rintro X rfl rfl rfl hc i pins s σ H E I hf ⟨hz, hI, ⟨x0, y0, hO⟩, q1, q2⟩ ⟨xs, ys, x, y, hx, hy, ex, ey⟩
    obtain ⟨us, S1, rv, D1, st1, b1⟩ := k1.draws I hc na hx q1
    obtain ⟨ws, S2, rw2, D2, st2, b2⟩ := k2.draws I hc nb hy q2
    obtain ⟨u, hu, ru⟩ := rv.get ex
    obtain ⟨v, hv, rv'⟩ := rw2.get ey
    have hlz : z < s.heap.objs.size := Heap.lt_size hz
    refine wpAny_pyNext_zipD2_item D D1 D2 hz hI hO st1 st2 (by have := (List.getElem?_eq_some_iff.mp hu).1; simpa using this) (by have := (List.getElem?_eq_some_iff.mp hv).1; simpa using this) fun p1 p2 h' tk e1 e2 z1 o1 t1 t2 hT hsz hk => ?_
    have ep1 : p1 = u := by simp [hu] at e1; exact e1.symm
    have ep2 : p2 = v := by simp [hv] at e2; exact e2.symm
    subst ep1 ep2
    refine ⟨_, rfl, wpAny_letOwnedTupleGo_zip (s := { s with heap := h', toks := tk }) z1 fun h2 z2 sb => ?_⟩
    have far : ∀ c, c ≠ z → h2.get? c = h'.get? c := fun c hcz => sb.2 c hcz
    have hT2 : h2.get? s.heap.objs.size = some { cls := .type "tuple", data := .seq #[p1, p2] } := by rw [far _ (Nat.ne_of_gt hlz)]; exact hT
    have new : ObjOk X.prog X.w (upd H s.heap.objs.size (.tup [x, y])) h2 s.heap.objs.size (.tup [x, y]) := by
      refine ⟨by show 2 ≤ sizeLine; decide, [p1, p2], .cons ru (.cons rv' .nil), ?_⟩
      exact ⟨_, hT2, rfl, _, rfl⟩
    have old : ∀ c o, c ∉ [z, TI, TO, i1, i2] → s.heap.get? c = some o → h2.get? c = some o := fun c o hcm q => by
      simp only [List.mem_cons, List.not_mem_nil, or_false, not_or] at hcm
      rw [far c hcm.1]
      exact hk c o hcm.1 hcm.2.2.1 hcm.2.2.2.1 hcm.2.2.2.2 q
    have I1 := I.turnedNew (t' := tk) (ch := [z, TI, TO, i1, i2]) old hf (Nat.le_refl _) new
    have hI2 : IsTupOf2 h2 TI (.ref i1) (.ref i2) := by
      show h2.get? TI = _
      rw [far _ D.TIz]
      exact hk _ _ D.TIz D.TITO D.TIi1 D.TIi2 hI
    refine ⟨.ref s.heap.objs.size, _, I1, rfl, ⟨_, x, y, rfl, I.hok.fresh (Nat.le_refl _), rfl, fun l hl => ?_, fun l hl => ?_⟩, ⟨z2, hI2, ⟨p1, p2, ?_⟩, k1.keep (b1 _ _ t1) fun o q => ?_, k2.keep (b2 _ _ t2) fun o q => ?_⟩, fun c hcm => ?_⟩
    · rw [k1.inj I hl hx]; exact ex
    · rw [k2.inj I hl hy]; exact ey
    · show h2.get? TO = _
      rw [far _ D.TOz]; exact o1
    · rw [far _ (ZipSep2.zi1 D).symm]; exact q
    · rw [far _ (ZipSep2.zi2 D).symm]; exact q
    · have hlt : c < s.heap.objs.size := by
        simp only [List.mem_cons, List.not_mem_nil, or_false] at hcm
        rcases hcm with rfl | rfl | rfl | rfl | rfl
        · exact hlz
        · exact Heap.lt_size hI
        · exact Heap.lt_size hO
        · obtain ⟨o, e, _⟩ := k1.there q1; exact Heap.lt_size e
        · obtain ⟨o, e, _⟩ := k2.there q2; exact Heap.lt_size e
      rw [upd_ne (Nat.ne_of_lt hlt)]
      exact (hf c hcm).1
  done := by
    rintro X rfl rfl rfl hc i pins s σ H E I hf ⟨hz, hI, ⟨x0, y0, hO⟩, q1, q2⟩ ⟨xs, ys, hx, hy, l1, l2, hend⟩
    obtain ⟨us, S1, rv, D1, st1, b1⟩ := k1.draws I hc na hx q1
    obtain ⟨ws, S2, rw2, D2, st2, b2⟩ := k2.draws I hc nb hy q2
    have n1 := rv.length
    have n2 := rw2.length
    refine wpAny_pyNext_zipD2_end D D1 D2 hz hI hO st1 st2 (by simp; omega) (by simp; omega) (by simp; omega) fun h' tk hk => ⟨rfl, ?_⟩
    refine I.turnedL (t' := tk) (ch := [z, TI, TO, i1, i2]) (fun c o hcm q => ?_) hf
    simp only [List.mem_cons, List.not_mem_nil, or_false, not_or] at hcm
    exact hk c o hcm.1 hcm.2.2.1 hcm.2.2.2.1 hcm.2.2.2.2 q
  self := fun A i s Q E st h => wpAny_pyIter_zip st.1 h
def iZipG (K : PySem.W.Frag) (ta : TA) : TI := fun σ H R => ta σ H fun vs H1 => ∃ (k1 k2 : ZK) (a b : Addr) (xs ys : List V), vs = [.ref a, .ref b] ∧ k1.sq K H1 a xs ∧ k2.sq K H1 b ys ∧ R (ItzG K k1 k2 a b) H1
def ZK.obj (a : Addr) : ZK → PySem.Obj
  | .l => { cls := .type "list_iterator", data := .fields #[.ref a, .int 0 0] }
  | .t => { cls := .type "tuple_iterator", data := .fields #[.ref a, .int 0 0] }
theorem ZK.begins {X : Cx} {pins : List (Addr × PySem.Obj)} {σ : St} {H : Hp} {s : Shared} (k : ZK) {a : Addr} {xs : List V} (I : L2.Inv X pins σ H s) (h : k.sq X.K H a xs) : ∃ T, Begins (.ref a) (k.obj a) T ∧ T s.heap ∧ a < s.heap.objs.size := by
  cases k with
  | l =>
    obtain ⟨us, rv, p, _⟩ := I.list h
    exact ⟨_, begins_list a us.toArray, p.isList, p.lt⟩
  | t =>
    obtain ⟨us, rv, p, _⟩ := I.tuple h
    obtain ⟨o, ho, _⟩ := id p
    exact ⟨_, begins_tuple a us.toArray, p, Heap.lt_size ho⟩
theorem ZK.first (k : ZK) {h : Heap} {it a : Addr} (e : h.get? it = some (k.obj a)) : k.it h it a 0 := by
  cases k with
  | l => exact ⟨_, e, rfl, rfl⟩
  | t => exact ⟨_, e, rfl, rfl⟩
theorem notin2 {x y z : Nat} (h1 : x ≠ y) (h2 : x ≠ z) : x ∉ [y, z] := by simp [h1, h2]
theorem sep5 (n a b : Nat) (ha : a < n) (hb : b < n) : ZipSep2 (n + 4) (n + 2) (n + 3) n (n + 1) [n, a] [n + 1, b] where
  TIz := Nat.ne_of_lt (by omega)
  TOz := Nat.ne_of_lt (by omega)
  TITO := Nat.ne_of_lt (by omega)
  TIi1 := Nat.ne_of_gt (by omega)
  mem1 := List.mem_cons_self
  zf1 := notin2 (by omega) (by omega)
  Tf1 := notin2 (by omega) (by omega)
  TIi2 := Nat.ne_of_gt (by omega)
  mem2 := List.mem_cons_self
  zf2 := notin2 (by omega) (by omega)
  Tf2 := notin2 (by omega) (by omega)
  sep1_2 := notin2 (by omega) (by omega)
  sep2_1 := notin2 (by omega) (by omega)
theorem pi_zipG {X : Cx} {e e2 : Expr} {ta : TA} {p pos tpos : Pos} {elts : List Expr} {kk : Nat} (hg : Gl X "zip") (hm : X.mg "zip" = none) (ha : PA X [e, e2] ta)
    (hs : starEach [e, e2] X.env = (false, eval e X.env) :: starEach [e2] X.env) (hpl : (backTo pos (starEach [e2] X.env)).any (·.1) = false) : PI X (.Tuple elts kk tpos) (.Call (.Name "zip" p) [e, e2] [] pos) (iZipG X.K ta) := by
  refine ⟨fun pins s σ H R I h => ?_⟩
  refine PyProof.Rows.Call_ (ld_blt I hg hm PyProof.Rows.boot_zip (PyProof.Rows.callWith_type1 (thn (ha.run pos pins s σ H _ I h) ?_) hs hpl))
  rintro us s1 ⟨vs, H1, I1, r1, k1, k2, a, b, xs, ys, rfl, hx, hy, q⟩
  obtain ⟨u, v, rfl, ru, rv⟩ := vals2 r1
  cases ru
  cases rv
  obtain ⟨T1, B1, t1, la⟩ := k1.begins I1 hx
  obtain ⟨T2, B2, t2, lb⟩ := k2.begins I1 hy
  refine zip_begins2 B1 B2 t1 t2 fun h' hz hI hO o1 o2 hsz hk => wpAny_pyIter_zip hz ?_
  have I2 := I1.kept (t' := s1.toks) hk
  have D := sep5 s1.heap.objs.size a b la lb
  refine ⟨s1.heap.objs.size + 4, [s1.heap.objs.size + 4, s1.heap.objs.size + 2, s1.heap.objs.size + 3, s1.heap.objs.size, s1.heap.objs.size + 1], _, ItzG X.K k1 k2 a b, H1, rfl, I2, turn_zipG k1 k2 D (Nat.ne_of_lt la) (Nat.ne_of_lt (Nat.lt_succ_of_lt lb)), ⟨hz, hI, ⟨_, _, hO⟩, k1.first o1, k2.first o2⟩, fun c hc => ?_, q⟩
  have hle : s1.heap.objs.size ≤ c := by
    simp only [List.mem_cons, List.not_mem_nil, or_false] at hc
    rcases hc with rfl | rfl | rfl | rfl | rfl <;> first | exact Nat.le_refl _ | exact Nat.le_add_right _ _
  exact I1.fpOk hle (I1.hok.fresh hle)
section
variable {K : PySem.W.Frag} {H H' H0 H1 H2 : Hp} {μ μ' μ0 μ1 μ2 : List Addr} {S S' S0 : Store} {W : WX} {σ : St} {ρ : Env} {X : Cx} {m m' : ME} {pos : Pos}
/-- a list or a tuple that is walked, with what it holds while it stands -/
structure SeqR (K : PySem.W.Frag) (k : ZK) (a : Addr) (H0 : Hp) (μ0 : List Addr) (src : Src) : Prop where
  at_ : ∀ {H μ S}, Ext H0 μ0 H μ → Wd K H μ S → src.still S = true → ∃ vs, k.sq K H a vs ∧ RVs K H μ vs src.xs
theorem sqScr {ns : List Int} {v : V} (w : Wd K H μ S) (r : RT K H μ v (.val (.scr ns))) : ∃ k a, v = .ref a ∧ SeqR K k a H μ ⟨ns.map fun i => .dat (.int i), []⟩ := by
  simp only [RT, RV] at r
  obtain ⟨p, rfl, q1, q2⟩ := r
  refine ⟨.l, p, rfl, ⟨fun {H' μ' S'} e w' st => ⟨_, ?_, RVs.ints⟩⟩⟩
  rcases q2 with q2 | ⟨o, q2⟩
  · exact q2 _
  · refine .inl (.inr ⟨o, e.fr p _ q2 fun k => ?_⟩)
    obtain ⟨us, z, m⟩ := w.there k
    rw [z] at q2; cases q2; exact m.elim
theorem sqSrc_still {t : TV} {src : Src} (h : sqSrc t S = some src) : src.still S = true := by
  have h : srcOf t S = some src := by
    unfold sqSrc at h
    split at h
    · cases h
    · exact h
  unfold srcOf at h
  split at h <;> first
    | (cases h; rfl)
    | (split at h
       · rename_i hx; cases h; simp [Src.still, hx]
       · cases h)
    | cases h
theorem sqSrc_at {t : TV} {src : Src} {v : V} (w : Wd K H μ S) (r : RT K H μ v t) (h : sqSrc t S = some src) : ∃ k a, v = .ref a ∧ SeqR K k a H μ src := by
  cases t with
  | val x =>
    cases x with
    | dat d =>
      cases d with
      | tup ds =>
        simp only [sqSrc, srcOf, Option.some.injEq] at h; subst h
        simp only [RT, RV, RD] at r
        obtain ⟨p, vs, rfl, q1, q2, q3⟩ := r
        exact ⟨.t, p, rfl, ⟨fun e w' _ => ⟨vs, e.tup w q1, RVs.ext e w _ vs (RVs.of q3)⟩⟩⟩
      | str z => simp [sqSrc] at h
      | non => simp [sqSrc, srcOf] at h
      | bl _ => simp [sqSrc, srcOf] at h
      | int _ => simp [sqSrc, srcOf] at h
    | tup xs =>
      simp only [sqSrc, srcOf, Option.some.injEq] at h; subst h
      simp only [RT, RV] at r
      obtain ⟨p, vs, rfl, q1, q2, q3⟩ := r
      exact ⟨.t, p, rfl, ⟨fun e w' _ => ⟨vs, e.tup w q1, RVs.ext e w _ vs q3⟩⟩⟩
    | ref i =>
      simp only [sqSrc, srcOf] at h
      split at h
      · rename_i xs hx
        simp only [Option.some.injEq] at h; subst h
        simp only [RT, RV] at r
        obtain ⟨p, q1, rfl⟩ := r
        refine ⟨.l, p, rfl, ⟨fun {H' μ' S'} e w' st => ?_⟩⟩
        have hs : S'[i]? = some (.lst xs) := by simpa [Src.still] using st
        obtain ⟨vs', k1, k2, k3⟩ := w'.ob i p _ (e.at q1) hs
        exact ⟨vs', .of k1, k3⟩
      · cases h
    | fn _ => simp [sqSrc, srcOf] at h
    | scr ns => simp [sqSrc, srcOf] at h; subst h; exact sqScr w r
  | new o =>
    cases o with
    | lst xs =>
      simp only [sqSrc, srcOf, Option.some.injEq] at h; subst h
      obtain ⟨p, rfl, q1, vs, q2, q3, q4⟩ := r
      exact ⟨.l, p, rfl, ⟨fun {H' μ' S'} e w' st => ⟨vs, .of (e.fr p _ q2 q1), RVs.ext e w xs vs q4⟩⟩⟩
    | dct _ => simp [sqSrc, srcOf] at h
    | ins _ _ => simp [sqSrc, srcOf] at h
theorem zipV_get : ∀ (xs ys : List Val) (i : Nat) {z : Val}, (zipV xs ys)[i]? = some z → ∃ x y, xs[i]? = some x ∧ ys[i]? = some y ∧ z = mkTup [x, y]
  | [], _, i, z, h => by simp [zipV] at h
  | _ :: _, [], i, z, h => by simp [zipV] at h
  | x :: xs, y :: ys, 0, z, h => by simp [zipV] at h; exact ⟨x, y, rfl, rfl, h.symm⟩
  | x :: xs, y :: ys, i + 1, z, h => by
    simp only [zipV, List.getElem?_cons_succ] at h ⊢
    exact zipV_get xs ys i h
theorem zipV_len : ∀ xs ys : List Val, (zipV xs ys).length = min xs.length ys.length
  | [], _ => by simp [zipV]
  | _ :: _, [] => by simp [zipV]
  | _ :: xs, _ :: ys => by simp only [zipV, List.length_cons, zipV_len xs ys]; omega
theorem still_app {a b : List Val} {l1 l2 : List (Nat × Ap.Obj)} {xs : List Val} (h : (Src.mk xs (l1 ++ l2)).still S = true) : (Src.mk a l1).still S = true ∧ (Src.mk b l2).still S = true := by
  simp only [Src.still, List.all_append, Bool.and_eq_true] at h ⊢
  exact h
theorem src_zip {k1 k2 : ZK} {a b : Addr} {s1 s2 : Src} (h1 : SeqR K k1 a H0 μ0 s1) (h2 : SeqR K k2 b H0 μ0 s2) : SrcR K (ItzG K k1 k2 a b) H0 μ0 ⟨zipV s1.xs s2.xs, s1.lv ++ s2.lv⟩ := by
  refine ⟨fun {i H μ S} e w st hi => ?_, fun {i H μ S} e w st hi => ?_, fun {i H μ S y x H'} e w st hy q => ?_⟩
  · obtain ⟨q1, q2⟩ := still_app (a := s1.xs) (b := s2.xs) st
    obtain ⟨vs, r1, r2⟩ := h1.at_ e w q1
    obtain ⟨ws, r3, r4⟩ := h2.at_ e w q2
    have l1 := r2.len
    have l2 := r4.len
    rw [zipV_len] at hi
    exact ⟨vs, ws, vs[i], ws[i], r1, r3, List.getElem?_eq_getElem (by omega), List.getElem?_eq_getElem (by omega)⟩
  · obtain ⟨q1, q2⟩ := still_app (a := s1.xs) (b := s2.xs) st
    obtain ⟨vs, r1, r2⟩ := h1.at_ e w q1
    obtain ⟨ws, r3, r4⟩ := h2.at_ e w q2
    have l1 := r2.len
    have l2 := r4.len
    rw [zipV_len] at hi
    exact ⟨vs, ws, r1, r3, by omega, by omega, by omega⟩
  · obtain ⟨q1, q2⟩ := still_app (a := s1.xs) (b := s2.xs) st
    obtain ⟨vs, r1, r2⟩ := h1.at_ e w q1
    obtain ⟨ws, r3, r4⟩ := h2.at_ e w q2
    obtain ⟨u, v, hu, hv, rfl⟩ := zipV_get _ _ _ hy
    obtain ⟨T, x1, y1, rfl, hT, rfl, f1, f2⟩ := q
    obtain ⟨u1, p1, p2⟩ := r2.at hu
    obtain ⟨v1, p3, p4⟩ := r4.at hv
    have e1 := f1 vs r1
    have e2 := f2 ws r3
    rw [p1] at e1
    rw [p3] at e2
    cases e1
    cases e2
    have kp := upd_keep (o := .tup [x1, y1]) hT
    have ek := ext_keep (μ := μ) kp
    refine ⟨kp, mkTup_ok (.of upd_same) (by show 2 ≤ sizeLine; decide) ?_⟩
    simp only [RVs]
    exact ⟨_, _, rfl, RV.ext ek w _ _ p2, _, _, rfl, RV.ext ek w _ _ p4, rfl⟩
theorem i_zip {a b : Expr} {elts : List Expr} {kk : Nat} {p tpos : Pos} (hg : Gl X "zip") (hm : X.mg "zip" = none) (ha : PE X a (RdE X.K W m)) (hb : PE X b (RdE X.K W m')) (hs : starEach [a, b] X.env = (false, eval a X.env) :: starEach [b] X.env) (hs2 : starEach [b] X.env = [(false, eval b X.env)]) :
    PI X (.Tuple elts kk tpos) (.Call (.Name "zip" p) [a, b] [] pos) (RdI X.K W (mZip m m')) :=
  PI_imp (pi_zipG hg hm (pa_cons ha (pa_cons hb pa_nil hs2) hs) hs (by rw [hs2]; rfl)) fun σ H R ⟨μ, ρ, S, w, sl, h⟩ => RdI.goE w sl Ext.refl h fun v H1 x μ1 S1 e1 w1 sl1 r1 f1 h1 =>
    RdI.goE w1 sl1 e1 h1 fun u H2 y μ2 S2 e2 w2 sl2 r2 f2 h2 => by
    obtain ⟨s1, hs1, h3⟩ := h2.orBad
    obtain ⟨s2, hs2, h4⟩ := h3.orBad
    obtain ⟨k1, a1, rfl, q1⟩ := sqSrc_at w2 (r1.ext e2 w1) hs1
    obtain ⟨k2, a2, rfl, q2⟩ := sqSrc_at w2 r2 hs2
    obtain ⟨vs, t1, t2⟩ := q1.at_ Ext.refl w2 (sqSrc_still hs1)
    obtain ⟨ws, t3, t4⟩ := q2.at_ Ext.refl w2 (sqSrc_still hs2)
    exact ⟨k1, k2, a1, a2, vs, ws, rfl, t1, t3, h4 _ H2 μ2 (e1.trans e2) w2 (src_zip q1 q2)⟩
end
end Ap
set_option Elab.async false
set_option linter.all false
set_option maxRecDepth 100000
set_option maxHeartbeats 1000000
namespace Ap
open PySem L2
section
variable {K : PySem.W.Frag} {H H' H0 H1 H2 : Hp} {μ μ' μ0 μ1 μ2 : List Addr} {S S' S0 : Store} {W : WX} {σ : St} {ρ : Env} {X : Cx}
variable {a b c e tg : Expr} {es : List Expr} {ma mb mc m m' : ME} {ta tb tc : MT} {mr mk : MA} {mi : MI} {pos : Pos}

abbrev WX0 : WX := fun _ _ _ _ => False
theorem takes0 {X : Cx} : Takes X WX0 := fun u s' ⟨_, _, _, _, _, _, _, _, _, _, _, _, _, _, _, _, w⟩ => w.elim
/-- a test that went well -/
theorem post_okT {r : R Bool} {k : Bool} {Q : Bool → Hp → Prop} (h : r = .ok k S) (q : ∀ H2 μ2, Ext H μ H2 μ2 → Wd K H2 μ2 S → Q k H2) : Post RBo K W σ H μ r Q := by
  subst h
  exact fun b H2 μ2 e w hb => by subst hb; exact q H2 μ2 e w
theorem post_okV {r : R TV} {t : TV} {Q : VK} (h : r = .ok t S) (q : ∀ v H2 μ2, Ext H μ H2 μ2 → Wd K H2 μ2 S → RT K H2 μ2 v t → Ap.frs H v t → Q v H2) : Post (RTV K) K W σ H μ r Q := by
  subst h
  exact fun b H2 μ2 e w hb => q b H2 μ2 e w hb.1 hb.2
def lcStep (elt : ME) (own : List Nat) (tg : Tg) (t : MT) (ρ : Env) : Val → Store → R (Option Val) := fun x S2 => orBad (asg tg x (Ap.wipe ρ own)) fun ρ' => (t ρ' S2).bind fun b S3 =>
  if b then (elt ρ' S3).bind fun t S4 => .ok (some (prom t S4).1) (prom t S4).2 else .ok none S3
theorem mLc_eq {elt : ME} {own : List Nat} {tg : Tg} {t : MT} : mLc elt own tg mi t ρ S = (mi ρ S).bind fun src S1 => (lcLoop (lcStep elt own tg t ρ) src src.xs S1).bind fun ys S2 => if ys.length ≤ line then .ok (.new (.lst ys)) S2 else .bad := rfl
theorem lcStep_ok {elt : ME} {own : List Nat} {tg : Tg} {t : MT} {x : Val} {o : Option Val} {S2 : Store} (h : lcStep elt own tg t ρ x S = .ok o S2) :
    ∃ ρ' b S3, asg tg x (Ap.wipe ρ own) = some ρ' ∧ t ρ' S = .ok b S3 ∧ ((b = true ∧ ∃ y S4, elt ρ' S3 = .ok y S4 ∧ o = some (prom y S4).1 ∧ S2 = (prom y S4).2) ∨ (b = false ∧ o = none ∧ S2 = S3)) := by
  unfold lcStep orBad at h
  split at h
  · rename_i ρ' h1
    dsimp only at h
    cases h2 : t ρ' S with
    | ok b S3 =>
      rw [h2] at h
      simp only [R.bind] at h
      split at h
      · rename_i hb
        subst hb
        cases h3 : elt ρ' S3 with
        | ok y S4 =>
          rw [h3] at h
          simp only [R.bind] at h
          cases h
          exact ⟨ρ', true, S3, h1, h2, .inl ⟨rfl, y, S4, h3, rfl, rfl⟩⟩
        | exc _ _ => rw [h3] at h; cases h
        | bad => rw [h3] at h; cases h
      · rename_i hb
        cases h
        exact ⟨ρ', b, S2, h1, h2, .inr ⟨by simpa using hb, rfl, rfl⟩⟩
    | exc _ _ => rw [h2] at h; cases h
    | bad => rw [h2] at h; cases h
  · cases h
theorem lcLoop_ok {α : Type} {step : Val → Store → R (Option Val)} {src : Src} {RR : Hp → Hp → List Addr → α → TV → Prop} {k : List Val → Store → R TV} {Q : α → Hp → Prop} : ∀ {xs : List Val} {S : Store}, Post RR K W σ H μ ((lcLoop step src xs S).bind k) Q → ∃ ys S2, lcLoop step src xs S = .ok ys S2 ∧ Post RR K W σ H μ (k ys S2) Q := by
  have nox : ∀ (xs : List Val) (S : Store) (x : Exc) (S' : Store), lcLoop step src xs S ≠ .exc x S' := by
    intro xs
    induction xs with
    | nil => intro S x S' h; simp only [lcLoop] at h; split at h <;> cases h
    | cons y ys ih =>
      intro S x S' h
      simp only [lcLoop] at h
      split at h
      · split at h
        · rename_i z S1 _
          cases h2 : lcLoop step src ys S1 with
          | ok _ _ => rw [h2] at h; cases h
          | exc e1 S2 => exact ih _ _ _ h2
          | bad => rw [h2] at h; cases h
        · exact ih _ _ _ h
        · cases h
      · cases h
  intro xs S h
  cases h2 : lcLoop step src xs S with
  | ok ys S2 => rw [h2] at h; exact ⟨ys, S2, rfl, h⟩
  | exc e1 S2 => exact (nox _ _ _ _ h2).elim
  | bad => rw [h2] at h; exact h.elim
theorem lcLoop_cons {step : Val → Store → R (Option Val)} {src : Src} {x : Val} {xs ys : List Val} {S S2 : Store} (h : lcLoop step src (x :: xs) S = .ok ys S2) :
    src.still S = true ∧ ∃ o S1, step x S = .ok o S1 ∧ ((∃ y zs, o = some y ∧ ys = y :: zs ∧ lcLoop step src xs S1 = .ok zs S2) ∨ (o = none ∧ lcLoop step src xs S1 = .ok ys S2)) := by
  simp only [lcLoop] at h
  split at h
  · rename_i hs
    refine ⟨hs, ?_⟩
    split at h
    · rename_i y S1 h1
      cases h2 : lcLoop step src xs S1 with
      | ok zs S3 => rw [h2] at h; simp only [R.bind] at h; cases h; exact ⟨_, _, h1, .inl ⟨y, zs, rfl, rfl, h2⟩⟩
      | exc _ _ => rw [h2] at h; cases h
      | bad => rw [h2] at h; cases h
    · rename_i S1 h1; exact ⟨_, _, h1, .inr ⟨rfl, h⟩⟩
    · cases h
  · cases h
theorem lcLoop_nil {step : Val → Store → R (Option Val)} {src : Src} {ys : List Val} {S S2 : Store} (h : lcLoop step src [] S = .ok ys S2) : src.still S = true ∧ ys = [] ∧ S2 = S := by
  simp only [lcLoop] at h
  split at h
  · rename_i hs; cases h; exact ⟨hs, rfl, rfl⟩
  · cases h
/-- the state at a turn of a comprehension -/
structure LcAt (K : PySem.W.Frag) (step : Val → Store → R (Option Val)) (src : Src) (H1 : Hp) (μ1 : List Addr) (D : Addr) (tot : List Val) (Se : Store) (i : Nat) (H : Hp) (μ : List Addr) (S : Store) (done ys : List Val) (acc : List V) : Prop where
  e : Ext H1 μ1 H μ
  w : Wd K H μ S
  n : D ∉ μ
  d : H D = some (.lst acc)
  r : RVs K H μ acc done
  run : lcLoop step src (src.xs.drop i) S = .ok ys Se
  tot : done ++ ys = tot
  le : i ≤ src.xs.length
theorem lc_go {own : List Nat} {t : Tg} {tt : MT} (ht : ∀ i ∈ t.slots, i ∈ own) {σ : St} {H : Hp} {Q : VK} (h : RdE K W (mLc m own t mi tt) σ H Q) :
    tLc (RdI K W mi) (RdG K t) (RdT K WX0 tt) (RdE K WX0 m) own σ H Q := by
  obtain ⟨μ, ρ, S, w, sl, h⟩ := h
  rw [mLc_eq] at h
  refine ⟨μ, ρ, S, w, sl, (h.bind Ext.refl).mono fun J H1 ⟨src, μ1, S1, e1, w1, sr, h1⟩ => ?_⟩
  intro D hD
  obtain ⟨tot, Se, run, h2⟩ := lcLoop_ok h1
  split at h2
  case isFalse => exact h2.elim
  rename_i htot
  have sl1 := sl.ext e1 w
  have hD' : D ∉ μ1 := w1.ne hD
  have k0 := upd_keep (o := .lst []) hD
  refine ⟨fun i mm Hc => mm = src.xs.length - i ∧ ∃ μ' S' done ys acc, LcAt K (lcStep m own t tt ρ) src H1 μ1 D tot Se i Hc μ' S' done ys acc, ⟨_, rfl, μ1, S1, [], tot, [], ⟨ext_keep k0, w1.keep k0, hD', upd_same, by simp [RVs], by simpa using run, rfl, Nat.zero_le _⟩⟩, ?_⟩
  rintro i mm Hc ⟨rfl, μ', S', done, ys, acc, A⟩
  by_cases hi : i < src.xs.length
  · have hx : src.xs.drop i = src.xs[i] :: src.xs.drop (i + 1) := List.drop_eq_getElem_cons hi
    have hrun := A.run
    rw [hx] at hrun
    obtain ⟨st, o, S2, hs, hc⟩ := lcLoop_cons hrun
    refine .inr ⟨sr.go A.e A.w st hi, fun H' => ∃ μ' S' done ys acc, LcAt K (lcStep m own t tt ρ) src H1 μ1 D tot Se (i + 1) H' μ' S' done ys acc, fun H' ⟨μ', S', done, ys, acc, A'⟩ => ⟨src.xs.length - (i + 1), by omega, rfl, μ', S', done, ys, acc, A'⟩, ?_⟩
    intro x H' hy
    obtain ⟨kp, rx⟩ := sr.yld A.e A.w st (List.getElem?_eq_getElem hi) hy
    obtain ⟨ρ', b, S3, ha, hb, hcase⟩ := lcStep_ok hs
    have w' := A.w.keep kp
    have e' := A.e.keep kp
    have dH' := kp _ _ A.d
    have sl' : Sl K H' μ' (L2.wipe σ own) (Ap.wipe ρ own) := (sl1.ext e' w1).wipe own
    refine ⟨μ', Ap.wipe ρ own, _, ρ', sl', rx, ha, fun σ2 sl2 hw => ⟨by rw [hw own ht, wipe_wipe], μ', ρ', S', w', sl2, ?_⟩⟩
    refine post_okT hb fun H3 μ3 e3 w3 => ?_
    have n3 : D ∉ μ3 := fun q => by
      have := e3.nw D q A.n
      rw [dH'] at this; cases this
    have d3 : H3 D = some (.lst acc) := e3.fr D _ dH' A.n
    rcases hcase with ⟨rfl, y, S4, hy, rfl, rfl⟩ | ⟨rfl, rfl, rfl⟩
    · rw [if_pos rfl]
      refine ⟨μ3, ρ', S3, w3, sl2.ext e3 w', post_okV hy fun v H4 μ4 e4 w4 r4 f4 => ?_⟩
      have d4 : H4 D = some (.lst acc) := e4.fr D _ d3 n3
      obtain ⟨μ5, e5, w5, r5, u, rfl⟩ := prom_ok w4 e4 r4 f4
      have n5 : D ∉ μ4 ++ u := fun q => by
        have := e5.nw D q n3
        rw [d3] at this; cases this
      rcases hc with ⟨z, zs, hz, rfl, hrest⟩ | ⟨hz, _⟩
      case inr => cases hz
      cases hz
      have eAll := e3.trans e5
      have racc := RVs.ext (ext_keep (μ := μ') kp) A.w done acc A.r
      have racc' := RVs.ext eAll w' done acc racc
      have hlen := racc'.len
      have htot2 : done.length < line := by
        have := A.tot
        rw [← this] at htot
        simp only [List.length_append, List.length_cons] at htot
        omega
      refine ⟨acc, d4, by rw [hlen, ← line_eq]; exact htot2, μ4 ++ u, _, done ++ [(prom y S4).1], zs, acc ++ [v], ⟨(e'.trans eAll).updOut hD, w5.updOut d4 trivial n5, n5, upd_same, ?_, hrest, ?_, hi⟩⟩
      · exact (RVs.upd d4 trivial done acc racc').app (by simp only [RVs]; exact ⟨v, [], rfl, RV.upd d4 trivial _ _ r5, rfl⟩)
      · rw [List.append_assoc]; exact A.tot
    · rw [if_neg (by decide)]
      rcases hc with ⟨z, zs, hz, _⟩ | ⟨_, hrest⟩
      case inl => cases hz
      refine ⟨μ3, _, done, ys, acc, ⟨e'.trans e3, w3, n3, d3, ?_, hrest, A.tot, hi⟩⟩
      exact RVs.ext e3 w' done acc (RVs.ext (ext_keep (μ := μ') kp) A.w done acc A.r)
  · have hi' : i = src.xs.length := Nat.le_antisymm A.le (Nat.le_of_not_lt hi)
    have hrun := A.run
    rw [List.drop_of_length_le (by omega)] at hrun
    obtain ⟨st, rfl, rfl⟩ := lcLoop_nil hrun
    have ht := A.tot
    rw [List.append_nil] at ht
    subst ht
    refine .inl ⟨sr.stop A.e A.w st (by omega), h2 (.ref D) Hc μ' (e1.trans A.e) A.w ⟨⟨D, rfl, A.n, acc, A.d, by rw [A.r.len, ← line_eq]; exact htot, A.r⟩, fun q hq => ?_⟩⟩
    cases hq
    exact e1.new w1 hD
theorem s_lc {elt tg iter : Expr} {ifs : List Expr} {scope : Scope} {own : List (Str × Nat)} {t : Tg} {tt : MT} (hc : X.calm = true) (hN : X.N.Nodup) (hi : PI X tg iter (RdI X.K W mi)) (ok : BlkOk X.N X.env.scope scope own) (ht : ∀ i ∈ t.slots, i ∈ own.map (·.2))
    (hg : ∀ (s : Shared) (H : Hp) (C : Addr) (cl : List (Str × Addr)) (fp : List Addr), PG (X.blk s H scope (compEnvC scope cl C X.env) fp) tg (RdG X.K t))
    (htt : ∀ (s : Shared) (H : Hp) (C : Addr) (cl : List (Str × Addr)) (fp : List Addr), PTs (X.blk s H scope (compEnvC scope cl C X.env) fp) ifs (RdT X.K WX0 tt))
    (he : ∀ (s : Shared) (H : Hp) (C : Addr) (cl : List (Str × Addr)) (fp : List Addr), PE (X.blk s H scope (compEnvC scope cl C X.env) fp) elt (RdE X.K WX0 m))
    (hs : ∀ x, foldedSetIterable iter X.env x = pure x) : PE X (.ListComp elt [⟨tg, iter, ifs, 0⟩] scope pos) (RdE X.K W (mLc m (own.map (·.2)) t mi tt)) :=
  PE_imp (pe_lc hc hN hi ok hg htt he hs) fun σ H Q h => lc_go ht h
end
end Ap
set_option Elab.async false
set_option linter.all false
set_option maxRecDepth 100000
set_option maxHeartbeats 1000000
namespace Ap
open PySem L2
section
variable {K : PySem.W.Frag} {H H' H0 H1 H2 : Hp} {μ μ' μ0 μ1 μ2 : List Addr} {S S' S0 : Store} {W : WX} {σ : St} {ρ ρ' : Env} {X : Cx}
variable {a b c e tg : Expr} {es : List Expr} {ma mb mc m m' : ME} {ta tb tc : MT} {mr mk : MA} {mi : MI} {pos : Pos} {D : Ends}

/-! ### statements -/
def PostS (K : PySem.W.Frag) (W : WX) (D : Ends) (H0 : Hp) (μ0 : List Addr) : SR → Prop
  | .ok (.next ρ) S => ∀ σ H μ, Ext H0 μ0 H μ → Wd K H μ S → Sl K H μ σ ρ → D.nx σ H
  | .ok (.brk ρ) S => ∀ σ H μ, Ext H0 μ0 H μ → Wd K H μ S → Sl K H μ σ ρ → D.bk σ H
  | .ok (.cnt ρ) S => ∀ σ H μ, Ext H0 μ0 H μ → Wd K H μ S → Sl K H μ σ ρ → D.ct σ H
  | .ok (.ret t) S => ∀ v H μ, Ext H0 μ0 H μ → Wd K H μ S → RT K H μ v t → Ap.frs H0 v t → D.rt v H
  | .exc x ρ S => ∀ c d σ H μ, Ext H0 μ0 H μ → Wd K H μ S → Sl K H μ σ ρ → RX K H μ c d x → W c d σ H
  | .bad => False
def RdS (K : PySem.W.Frag) (W : WX) (m : MS) : TS := fun D σ H => ∃ H0 μ0 n0 μ ρ S, μ0.length ≤ n0 ∧ Ext H0 μ0 H μ ∧ Wd K H μ S ∧ Sl K H μ σ ρ ∧ PostS K W D H0 μ0 (m n0 ρ S)
/-- an expression within a statement -/
theorem PostS.expr {α β : Type} {RR : Hp → Hp → List Addr → β → α → Prop} {r : R α} {k : α → Store → SR} (h : PostS K W D H0 μ0 (r.st ρ k)) (e : Ext H0 μ0 H μ) (w : Wd K H μ S) (sl : Sl K H μ σ ρ) :
    Post RR K W σ H μ r (fun b H2 => ∃ a μ2 S2, Ext H μ H2 μ2 ∧ Wd K H2 μ2 S2 ∧ Sl K H2 μ2 σ ρ ∧ RR H H2 μ2 b a ∧ PostS K W D H0 μ0 (k a S2)) := by
  cases r with
  | ok a S2 => exact fun b H2 μ2 e2 w2 q => ⟨a, μ2, S2, e2, w2, sl.ext e2 w, q, h⟩
  | exc x S2 => exact fun c d H2 μ2 e2 w2 q => h c d σ H2 μ2 (e.trans e2) w2 (sl.ext e2 w) q
  | bad => exact h
theorem PostS.orBad {α : Type} {o : Option α} {k : α → SR} (h : PostS K W D H0 μ0 (orBadS o k)) : ∃ a, o = some a ∧ PostS K W D H0 μ0 (k a) := by
  cases o with
  | some a => exact ⟨a, rfl, h⟩
  | none => exact h.elim
theorem SE.go {k : TV → Store → SR} (h : PostS K W D H0 μ0 ((m ρ S).st ρ k)) (e : Ext H0 μ0 H μ) (w : Wd K H μ S) (sl : Sl K H μ σ ρ) {Q' : VK}
    (hk : ∀ v H2 t μ2 S2, Ext H μ H2 μ2 → Wd K H2 μ2 S2 → Sl K H2 μ2 σ ρ → RT K H2 μ2 v t → Ap.frs H v t → PostS K W D H0 μ0 (k t S2) → Q' v H2) : RdE K W m σ H Q' :=
  ⟨μ, ρ, S, w, sl, (h.expr e w sl).mono fun v H2 ⟨t, μ2, S2, e2, w2, sl2, r, h2⟩ => hk v H2 t μ2 S2 e2 w2 sl2 r.1 r.2 h2⟩
variable {st : Stmt} {te : TE}
theorem x_expr (h : PS X st (tDrop te)) (ht : ∀ σ H Q, RdE X.K W m σ H Q → te σ H Q) : PS X st (RdS X.K W (xExpr m)) :=
  PS_imp h fun D σ H ⟨H0, μ0, n0, μ, ρ, S, hn, e, w, sl, h⟩ => ht _ _ _ (SE.go h e w sl fun v H2 t μ2 S2 e2 w2 sl2 r2 f2 h2 => h2 σ H2 μ2 (e.trans e2) w2 sl2)
theorem x_ret (h : PS X st (tRet te)) (ht : ∀ σ H Q, RdE X.K W m σ H Q → te σ H Q) : PS X st (RdS X.K W (xRet m)) :=
  PS_imp h fun D σ H ⟨H0, μ0, n0, μ, ρ, S, hn, e, w, sl, h⟩ => ht _ _ _ (SE.go h e w sl fun v H2 t μ2 S2 e2 w2 sl2 r2 f2 h2 => h2 v H2 μ2 (e.trans e2) w2 r2 (frs.ext e w f2))
theorem x_as {i : Nat} (h : PS X st (tAsg te (gName i))) (ht : ∀ σ H Q, RdE X.K W m σ H Q → te σ H Q) : PS X st (RdS X.K W (xAs i m)) :=
  PS_imp h fun D σ H ⟨H0, μ0, n0, μ, ρ, S, hn, e, w, sl, h⟩ => ht _ _ _ (SE.go h e w sl fun v H2 t μ2 S2 e2 w2 sl2 r2 f2 h2 => by
    obtain ⟨ρ', ha, h3⟩ := h2.orBad
    obtain ⟨μ3, e3, w3, r3, u, rfl⟩ := prom_ok w2 e2 r2 f2
    simp only [asg] at ha
    split at ha
    · cases ha
      exact h3 _ H2 _ (e.trans e3) w3 ((sl.ext e3 w).set r3)
    · cases ha)
theorem x_un {t : Tg} (h : PS X st (tAsg te (RdG X.K t))) (ht : ∀ σ H Q, RdE X.K W m σ H Q → te σ H Q) : PS X st (RdS X.K W (xUn t m)) :=
  PS_imp h fun D σ H ⟨H0, μ0, n0, μ, ρ, S, hn, e, w, sl, h⟩ => ht _ _ _ (SE.go h e w sl fun v H2 t μ2 S2 e2 w2 sl2 r2 f2 h2 => by
    obtain ⟨ρ', ha, h3⟩ := h2.orBad
    obtain ⟨μ3, e3, w3, r3, u, rfl⟩ := prom_ok w2 e2 r2 f2
    exact ⟨_, ρ, _, ρ', sl.ext e3 w, r3, ha, fun σ' sl' _ => h3 σ' H2 _ (e.trans e3) w3 sl'⟩)
theorem x_ret0 : PS X (.Return none pos) (RdS X.K W xRet0) :=
  PS_imp ps_retN fun D σ H ⟨H0, μ0, n0, μ, ρ, S, hn, e, w, sl, h⟩ => h .non H μ e w (by simp only [RT, RV, RD]) trivial
theorem x_skip (h : PS X st tNext) : PS X st (RdS X.K W xSkip) := PS_imp h fun D σ H ⟨H0, μ0, n0, μ, ρ, S, hn, e, w, sl, h⟩ => h σ H μ e w sl
theorem xs_nil : PSs X [] (RdS X.K W xSkip) := PSs_imp pss_nil fun D σ H ⟨H0, μ0, n0, μ, ρ, S, hn, e, w, sl, h⟩ => h σ H μ e w sl
theorem x_brk : PS X (.Break pos) (RdS X.K W xBrk) := PS_imp ps_break fun D σ H ⟨H0, μ0, n0, μ, ρ, S, hn, e, w, sl, h⟩ => h σ H μ e w sl
theorem x_cnt : PS X (.Continue pos) (RdS X.K W xCnt) := PS_imp ps_continue fun D σ H ⟨H0, μ0, n0, μ, ρ, S, hn, e, w, sl, h⟩ => h σ H μ e w sl
theorem x_nev : PS X st (RdS X.K W xNev) := PS_imp ps_never fun D σ H ⟨H0, μ0, n0, μ, ρ, S, hn, e, w, sl, h⟩ => h
variable {x y : MS} {sts : List Stmt}
theorem xs_cons (h1 : PS X st (RdS X.K W x)) (h2 : PSs X sts (RdS X.K W y)) : PSs X (st :: sts) (RdS X.K W (xSeq x y)) :=
  PSs_imp (pss_cons h1 h2) fun D σ H ⟨H0, μ0, n0, μ, ρ, S, hn, e, w, sl, h⟩ => by
    refine ⟨H0, μ0, n0, μ, ρ, S, hn, e, w, sl, ?_⟩
    unfold xSeq SR.seq at h
    cases hx : x n0 ρ S with
    | ok f S2 =>
      rw [hx] at h
      cases f with
      | next ρ2 => exact fun σ2 H2 μ2 e2 w2 sl2 => ⟨H0, μ0, n0, μ2, ρ2, S2, hn, e2, w2, sl2, h⟩
      | brk _ => exact h
      | cnt _ => exact h
      | ret _ => exact h
    | exc _ _ _ => rw [hx] at h; exact h
    | bad => rw [hx] at h; exact h
theorem mxE_le {n : Nat} : ∀ {ρ : Env}, mxE ρ ≤ n → ∀ {i : Nat} {x : Val}, ρ[i]? = some (some x) → x.mx ≤ n
  | some y :: r, h, 0, x, hx => by simp at hx; subst hx; simp only [mxE] at h; omega
  | some y :: r, h, i + 1, x, hx => by simp only [mxE] at h; exact mxE_le (ρ := r) (by omega) (by simpa using hx)
  | none :: r, h, 0, x, hx => by simp at hx
  | none :: r, h, i + 1, x, hx => by simp only [mxE] at h; exact mxE_le (ρ := r) h (by simpa using hx)
theorem xs_fg {js : List Nat} (h2 : PSs X sts (RdS X.K W y)) : PSs X sts (RdS X.K W (xSeq (xFg js) y)) :=
  PSs_imp h2 fun D σ H ⟨H0, μ0, n0, μ, ρ, S, hn, e, w, sl, h⟩ => by
    have sl1 : Sl X.K H μ σ (Ap.wipe ρ js) := ⟨by rw [wipeE_len, sl.len], fun i x hx => by
      rw [wipeE_at] at hx
      split at hx
      · cases hx
      · exact sl.at_ i x hx⟩
    unfold xSeq SR.seq xFg at h
    split at h
    · rename_i ρ2 S2 hx
      split at hx
      · rename_i hc
        cases hx
        refine ⟨H0, μ0, n0, _, _, _, hn, e.cutTo (n := max n0 (mxE (Ap.wipe ρ js))) (by omega), w.cutTo hc, ⟨sl1.len, fun i x hx => ?_⟩, h⟩
        obtain ⟨v, q1, q2⟩ := sl1.at_ i x hx
        exact ⟨v, q1, RV.cutTo x v (mxE_le (Nat.le_max_right _ _) hx) q2⟩
      · cases hx
        exact ⟨H0, μ0, n0, μ, _, S, hn, e, w, sl1, h⟩
    · rename_i hx
      split at hx
      · exact (hx _ _ rfl).elim
      · exact (hx _ _ rfl).elim
theorem x_if {t : Expr} {p q : List Stmt} (ht : PT X t (RdT X.K W tc)) (h1 : PSs X p (RdS X.K W x)) (h2 : PSs X q (RdS X.K W y)) : PS X (.If t p q pos) (RdS X.K W (xIf tc x y)) :=
  PS_imp (ps_if ht h1 h2) fun D σ H ⟨H0, μ0, n0, μ, ρ, S, hn, e, w, sl, h⟩ =>
    ⟨μ, ρ, S, w, sl, (h.expr e w sl).mono fun k H2 ⟨k', μ2, S2, e2, w2, sl2, hk, h2⟩ => by
      subst hk
      split
      · rename_i hk; rw [if_pos hk] at h2
        exact ⟨H0, μ0, n0, μ2, ρ, S2, hn, e.trans e2, w2, sl2, h2⟩
      · rename_i hk; rw [if_neg hk] at h2
        exact ⟨H0, μ0, n0, μ2, ρ, S2, hn, e.trans e2, w2, sl2, h2⟩⟩
/-! ### for -/
theorem x_for {t : Tg} {iter : Expr} {body : List Stmt} (hp : PassesOwn (model X.prog X.w) X.A X.env X.xe) (hc : X.calm = true) (hi : PI X tg iter (RdI X.K W mi)) (hg : PG X tg (RdG X.K t)) (hb : PSs X body (RdS X.K W x)) (hs : ∀ x, foldedSetIterable iter X.env x = pure x) :
    PS X (.For tg iter body [] pos) (RdS X.K W (xFor t mi x)) :=
  PS_imp (ps_for hp hc hi hg hb hs) fun D σ H ⟨H0, μ0, n0, μ, ρ, S, hn, e, w, sl, h⟩ => by
    refine ⟨μ, ρ, S, w, sl, (h.expr e w sl).mono fun J H1 ⟨src, μ1, S1, e1, w1, sl1, sr, h1⟩ => ?_⟩
    have e01 := e.trans e1
    refine ⟨fun i mm σ' Hc => i ≤ src.xs.length ∧ mm = src.xs.length - i ∧ ∃ μ' ρ' S', Ext H1 μ1 Hc μ' ∧ Wd X.K Hc μ' S' ∧ Sl X.K Hc μ' σ' ρ' ∧ PostS X.K W D H0 μ0 (forLoop (fun y ρ' S' => orBadS (asg t y ρ') fun ρ2 => x S1.length ρ2 S') src (src.xs.drop i) ρ' S'),
      ⟨_, Nat.zero_le _, rfl, μ1, ρ, S1, Ext.refl, w1, sl1, by simpa using h1⟩, ?_⟩
    rintro i mm σ' Hc ⟨hle, rfl, μ', ρ', S', ec, wc, slc, hl⟩
    by_cases hi : i < src.xs.length
    · rw [List.drop_eq_getElem_cons hi] at hl
      simp only [forLoop] at hl
      split at hl
      case isFalse => exact hl.elim
      rename_i st
      refine .inr ⟨sr.go ec wc st hi, fun σ2 H2 => ∃ μ2 ρ2 S2, Ext H1 μ1 H2 μ2 ∧ Wd X.K H2 μ2 S2 ∧ Sl X.K H2 μ2 σ2 ρ2 ∧ PostS X.K W D H0 μ0 (forLoop (fun y ρ' S' => orBadS (asg t y ρ') fun ρ2 => x S1.length ρ2 S') src (src.xs.drop (i + 1)) ρ2 S2),
        fun σ2 H2 q => ⟨_, by omega, hi, rfl, q⟩, fun y H' hy => ?_⟩
      obtain ⟨kp, ry⟩ := sr.yld ec wc st (List.getElem?_eq_getElem hi) hy
      have e' := ec.keep kp
      have w' := wc.keep kp
      have sl' := slc.ext (ext_keep (μ := μ') kp) wc
      have hstep : ∃ ρ2, asg t src.xs[i] ρ' = some ρ2 := by
        cases ha : asg t src.xs[i] ρ' with
        | some ρ2 => exact ⟨ρ2, rfl⟩
        | none => rw [ha] at hl; exact hl.elim
      obtain ⟨ρ2, ha⟩ := hstep
      rw [ha] at hl
      simp only [orBadS] at hl
      refine ⟨μ', ρ', _, ρ2, sl', ry, ha, fun σ2 sl2 _ => ⟨H1, μ1, S1.length, μ', ρ2, S', by rw [w1.len]; exact Nat.le_refl _, e', w', sl2, ?_⟩⟩
      cases hx : x S1.length ρ2 S' with
      | ok f S3 =>
        rw [hx] at hl
        cases f with
        | next ρ3 => exact fun σ3 H3 μ3 e3 w3 sl3 => ⟨μ3, ρ3, S3, e3, w3, sl3, hl⟩
        | cnt ρ3 => exact fun σ3 H3 μ3 e3 w3 sl3 => ⟨μ3, ρ3, S3, e3, w3, sl3, hl⟩
        | brk ρ3 => exact fun σ3 H3 μ3 e3 w3 sl3 => hl σ3 H3 μ3 (e01.trans e3) w3 sl3
        | ret t3 => exact fun v3 H3 μ3 e3 w3 r3 f3 => hl v3 H3 μ3 (e01.trans e3) w3 r3 (frs.ext e01 w1 f3)
      | exc x3 ρ3 S3 => rw [hx] at hl; exact fun c d σ3 H3 μ3 e3 w3 sl3 r3 => hl c d σ3 H3 μ3 (e01.trans e3) w3 sl3 r3
      | bad => rw [hx] at hl; exact hl
    · rw [List.drop_of_length_le (by omega)] at hl
      simp only [forLoop] at hl
      split at hl
      case isFalse => exact hl.elim
      rename_i st
      exact .inl ⟨sr.stop ec wc st (by omega), hl σ' Hc μ' (e01.trans ec) wc slc⟩
end
end Ap
set_option Elab.async false
set_option linter.all false
set_option maxRecDepth 100000
set_option maxHeartbeats 1000000
namespace Ap
open PySem L2
section
variable {K : PySem.W.Frag} {H H' H0 H1 H2 : Hp} {μ μ' μ0 μ1 μ2 : List Addr} {S S' S0 : Store} {W : WX} {σ : St} {ρ ρ' : Env} {X : Cx}
variable {a b c e o i tg : Expr} {es : List Expr} {ma mb mc m m' mo mi' : ME} {ta tb tc : MT} {mr mk : MA} {mi : MI} {pos : Pos} {D : Ends}

/-! ### the store's lists are written -/
theorem Wd.write {j : Nat} {p : Addr} {u u' : HO} {o' : Ap.Obj} (w : Wd K H μ S) (hj : μ[j]? = some p) (hp : H p = some u) (hm : Mo u) (r : ROat K (upd H p u') μ p o') : Wd K (upd H p u') μ (S.set j o') := by
  refine ⟨by simp [w.len], w.nd, fun i a o h1 h2 => ?_⟩
  rw [List.getElem?_set] at h2
  split at h2
  · rename_i q; subst q
    split at h2
    · cases h2
      rw [hj] at h1
      cases h1
      exact r
    · cases h2
  · rename_i q
    have na : a ≠ p := fun k => by
      subst k
      have e1 := (List.getElem?_eq_some_iff.mp h1)
      have e2 := (List.getElem?_eq_some_iff.mp hj)
      obtain ⟨l1, e1⟩ := e1
      obtain ⟨l2, e2⟩ := e2
      exact q ((List.getElem_inj (h₀ := l2) (h₁ := l1) w.nd).mp (e2.trans e1.symm))
    exact (w.ob i a o h1 h2).upd hp hm na
theorem lst_write {p : Addr} {u : HO} {vs' : List V} {xs' : List Val} (hp : H p = some u) (hm : Mo u) (hz : vs'.length ≤ sizeLine) (r : RVs K H μ vs' xs') : ROat K (upd H p (.lst vs')) μ p (.lst xs') := ⟨vs', upd_same, hz, RVs.upd hp hm xs' vs' r⟩
theorem Ext.write {p : Addr} {o : HO} (e : Ext H0 μ0 H μ) (hp : p ∈ μ) : Ext H0 μ0 (L2.upd H p o) μ := by
  refine ⟨e.pre, fun a u h n => ?_, e.nw⟩
  rw [upd_ne]
  · exact e.fr a u h n
  · rintro rfl
    have := e.nw a hp n
    rw [h] at this; cases this
theorem Sl.write {p : Addr} {u u' : HO} (sl : Sl K H μ σ ρ) (hp : H p = some u) (hm : Mo u) : Sl K (upd H p u') μ σ ρ :=
  ⟨sl.len, fun i x hx => let ⟨v, h1, h2⟩ := sl.at_ i x hx; ⟨v, h1, RV.upd hp hm x v h2⟩⟩
theorem lstIx_at {t : TV} {j : Nat} {v : V} (w : Wd K H μ S) (r : RT K H μ v t) (h : lstIx t S = some j) : ∃ p vs, v = .ref p ∧ μ[j]? = some p ∧ H p = some (.lst vs) := by
  unfold lstIx at h
  split at h
  · split at h
    · rename_i xs hx
      cases h
      simp only [RT, RV] at r
      obtain ⟨p, h1, rfl⟩ := r
      obtain ⟨vs, h2, _⟩ := w.ob _ p _ h1 hx
      exact ⟨p, vs, rfl, h1, h2⟩
    · cases h
  · cases h
theorem x_app {apos cpos : Pos} (ho : PE X o (RdE X.K W mo)) (he : PE X e (RdE X.K W m)) (hbase : attributeBase o "append" X.env (eval o X.env) = eval o X.env) (hline : (apos.endLine == cpos.line) = true) (hs : starEach [e] X.env = [(false, eval e X.env)]) :
    PS X (.Expr (.Call (.Attribute o "append" apos) [e] [] cpos) pos) (RdS X.K W (xApp mo m)) := by
  have h := ps_expr (pos := pos) (pe_bm (cpos := cpos) PySem.F.plainAttrs_list PySem.F.slot_list_append PySem.F.type_list_append mt_append ho (pa_cons he pa_nil hs) hbase (by rw [hs]; rfl) hline hs rfl) rfl
  refine PS_imp h fun D σ H ⟨H0, μ0, n0, μ, ρ, S, hn, e, w, sl, h⟩ => SE.go h e w sl fun v H1 t μ1 S1 e1 w1 sl1 r1 f1 h1 => ?_
  obtain ⟨j, hj, h2⟩ := h1.orBad
  obtain ⟨p, vs, rfl, q1, q2⟩ := lstIx_at w1 r1 hj
  refine ⟨.inl ⟨rfl, vs, .of q2⟩, SE.go h2 (e.trans e1) w1 sl1 fun y H2 u μ2 S2 e2 w2 sl2 r2 f2 h3 => ?_⟩
  obtain ⟨μ3, e3, w3, r3, ex, rfl⟩ := prom_ok w2 e2 r2 f2
  split at h3
  · rename_i xs hx
    split at h3
    · rename_i hl
      obtain ⟨ys, k1, k2, k3⟩ := w3.ob j p _ (e3.at q1) hx
      have k4 := k3.len
      refine ⟨p, ys, y, rfl, rfl, k1, by rw [k4, ← line_eq]; exact hl, ?_⟩
      refine h3 σ _ _ (((e.trans e1).trans e3).write (List.mem_of_getElem? (e3.at q1))) (w3.write (e3.at q1) k1 trivial (lst_write k1 trivial ?_ ?_)) ((sl1.ext e3 w1).write k1 trivial)
      · rw [List.length_append, k4, ← line_eq]; exact hl
      · exact k3.app (by simp only [RVs]; exact ⟨y, [], rfl, r3, rfl⟩)
    · exact h3.elim
  · exact h3.elim
theorem keyT_at {t : TV} {d : Ap.D} {v : V} (r : RT K H μ v t) (h : keyT t = some d) : ∃ k, v = kV k ∧ kD k = d ∧ KOk k := by
  unfold keyT at h
  split at h
  · cases h
    rename_i i
    have r' : v = V.int i := by simpa only [RT, RV, RD] using r
    exact ⟨.inl i, r', rfl, trivial⟩
  · cases h
    simp only [RT, RV, RD] at r
    exact ⟨.inr _, r.1, rfl, r.2⟩
  · cases h
theorem kD_inj {a b : Key} : kD a = kD b ↔ a = b := by
  cases a <;> cases b <;> simp [kD]
theorem RKs.any : ∀ {ps : List (Ap.D × Val)} {ks : List (Key × V)} (k : Key), RKs K H μ ks ps → (ks.any fun kv => decide (kv.1 = k)) = ps.any fun p => decide (p.1 = kD k)
  | [], ks, k, h => by simp only [RKs] at h; subst h; rfl
  | p :: ps, ks, k, h => by
    obtain ⟨j, v, r, rfl, h1, h2, h3, h4⟩ := h
    simp only [List.any_cons, RKs.any k h4, ← h1]
    congr 1
    exact decide_eq_decide.mpr kD_inj.symm
theorem RKs.setAll : ∀ {ps : List (Ap.D × Val)} {ks : List (Key × V)} (k : Key) {v : V} {x : Val}, RV K H μ v x → RKs K H μ ks ps → RKs K H μ (ks.map fun kv => if kv.1 = k then (kv.1, v) else kv) (ps.map fun p => if p.1 = kD k then (p.1, x) else p)
  | [], ks, k, v, x, rx, h => by simp only [RKs] at h; subst h; rfl
  | p :: ps, ks, k, v, x, rx, h => by
    obtain ⟨j, u, r, rfl, h1, h2, h3, h4⟩ := h
    simp only [List.map_cons]
    by_cases hk : j = k
    · have hp : p.1 = kD k := by rw [← h1, hk]
      rw [if_pos hk, if_pos hp]
      exact ⟨j, v, _, rfl, h1, h2, rx, RKs.setAll k rx h4⟩
    · have hp : ¬ p.1 = kD k := by rw [← h1, kD_inj]; exact hk
      rw [if_neg hk, if_neg hp]
      exact ⟨j, u, _, rfl, h1, h2, h3, RKs.setAll k rx h4⟩
theorem RKs.snoc : ∀ {ps : List (Ap.D × Val)} {ks : List (Key × V)} {k : Key} {v : V} {x : Val}, KOk k → RV K H μ v x → RKs K H μ ks ps → RKs K H μ (ks ++ [(k, v)]) (ps ++ [(kD k, x)])
  | [], ks, k, v, x, hk, rx, h => by simp only [RKs] at h; subst h; exact ⟨k, v, [], rfl, rfl, hk, rx, rfl⟩
  | p :: ps, ks, k, v, x, hk, rx, h => by
    obtain ⟨j, u, r, rfl, h1, h2, h3, h4⟩ := h
    exact ⟨j, u, _, rfl, h1, h2, h3, RKs.snoc hk rx h4⟩
theorem RKs.put {ps : List (Ap.D × Val)} {ks : List (Key × V)} {k : Key} {v : V} {x : Val} (hk : KOk k) (rx : RV K H μ v x) (h : RKs K H μ ks ps) : RKs K H μ (putK ks k v) (putD ps (kD k) x) := by
  unfold putK putD
  rw [RKs.any k h]
  split
  · exact h.setAll k rx
  · exact h.snoc hk rx
theorem putD_len (ps : List (Ap.D × Val)) (d : Ap.D) (x : Val) : (putD ps d x).length ≤ ps.length + 1 := by
  unfold putD
  split <;> simp
theorem set_or {r r' : TSet} (h : PSet X r) (h' : PSet X r') : PSet X (fun o i v H Q => r o i v H Q ∨ r' o i v H Q) := fun pins s σ H o i v ov iv u Q I a1 a2 a3 q => q.elim (h pins s σ H o i v ov iv u Q I a1 a2 a3) (h' pins s σ H o i v ov iv u Q I a1 a2 a3)
/-- o[i] = x, over the store -/
theorem setIx_at {a k : TV} {x : Val} {S' : Store} {vo vi v : V} {Q : Hp → Prop} (w : Wd K H μ S) (ro : RT K H μ vo a) (ri : RT K H μ vi k) (rv : RV K H μ v x) (h : setIx a k x S = some S')
    (hQ : ∀ H', Wd K H' μ S' → (∀ {H0 μ0}, Ext H0 μ0 H μ → Ext H0 μ0 H' μ) → (∀ {σ ρ}, Sl K H μ σ ρ → Sl K H' μ σ ρ) → Q H') : rSetL vo vi v H Q ∨ rSetD vo vi v H Q := by
  unfold setIx at h
  split at h
  · rename_i j
    simp only [RT, RV] at ro
    obtain ⟨p, q1, rfl⟩ := ro
    split at h
    · rename_i xs hx
      simp only [Option.bind_eq_some_iff, Option.map_eq_some_iff] at h
      obtain ⟨k', hk, jj, hjj, rfl⟩ := h
      obtain ⟨ys, k1, k2, k3⟩ := w.ob j p _ q1 hx
      have k4 := k3.len
      refine .inl ⟨p, ys, k', jj, rfl, int_at ri hk, k1, by rw [place_eq, k4]; exact hjj, ?_⟩
      refine hQ _ (w.write q1 k1 trivial (lst_write k1 trivial ?_ ?_)) (fun e => e.write (List.mem_of_getElem? q1)) (fun sl => sl.write k1 trivial)
      · rw [List.length_set]; exact k2
      · exact k3.set jj rv
    · rename_i ps hx
      simp only [Option.bind_eq_some_iff] at h
      obtain ⟨d, hd, h⟩ := h
      split at h
      · rename_i hl
        cases h
        obtain ⟨ks, k1, k2, k3⟩ := w.ob j p _ q1 hx
        obtain ⟨kk, rfl, rfl, hok⟩ := keyT_at ri hd
        have k4 := k3.len
        have hl' : ks.length < sizeLine := by rw [k4, ← line_eq]; exact hl
        refine .inr ⟨p, _, rfl, .k k1 hl', ?_⟩
        refine hQ _ (w.write q1 k1 trivial ⟨_, upd_same, ?_, (k3.put hok rv).mono fun q _ v r => RV.upd k1 trivial _ _ r⟩) (fun e => e.write (List.mem_of_getElem? q1)) (fun sl => sl.write k1 trivial)
        rw [(k3.put hok rv).len]
        have := putD_len ps (kD kk) x
        rw [← k4] at this
        exact Nat.le_trans this hl'
      · cases h
    · cases h
  · cases h
theorem x_ix {tpos : Pos} (hu : X.A.units + 1 < cLine) (ho : PE X o (RdE X.K W mo)) (hi : PE X i (RdE X.K W mi')) (he : PE X e (RdE X.K W m))
    (hs : swapsWithSole [.Subscript o i tpos] e pos.line X.env = pure false) (hw : swappedStores [.Subscript o i tpos] e X.env = pure none)
    (ha : ∀ v, assign (.Subscript o i tpos) X.env v = (do
      let ov ← holding [v] (eval o X.env)
      let iv ← holding [v, ov] (eval i X.env)
      standAt tpos
      holding [v, ov, iv] (setItem ov iv v)
      release [v, ov, iv] [])) :
    PS X (.Assign [.Subscript o i tpos] e pos) (RdS X.K W (xIx mo mi' m)) := by
  refine PS_imp (ps_asg he (pg_sub ho hi (set_or set_list (set_dict hu)) ha) hs hw rfl) fun D σ H ⟨H0, μ0, n0, μ, ρ, S, hn, e, w, sl, h⟩ => SE.go h e w sl fun v H1 t μ1 S1 e1 w1 sl1 r1 f1 h1 => ?_
  obtain ⟨μ2, e2, w2, r2, ex, rfl⟩ := prom_ok w1 e1 r1 f1
  have sl2 := sl.ext e2 w
  refine SE.go h1 (e.trans e2) w2 sl2 fun vo H3 a μ3 S3 e3 w3 sl3 r3 f3 h3 => SE.go h3 ((e.trans e2).trans e3) w3 sl3 fun vi H4 k μ4 S4 e4 w4 sl4 r4 f4 h4 => ?_
  obtain ⟨S5, hS, h5⟩ := h4.orBad
  exact setIx_at w4 (r3.ext e4 w3) r4 (RV.ext (e3.trans e4) w2 _ _ r2) hS fun H' w' ek sk => h5 σ _ _ (ek (((e.trans e2).trans e3).trans e4)) w' (sk sl4)
def subOp : Bool → Operator
  | true => .Sub
  | false => .Add
theorem x_aun {j : Nat} {x : Str} {p2 : Pos} (op : Bool) (hN : X.N.Nodup) (hi : X.N[j]? = some x) (hx : Loc X.env.scope x) (hf : X.fn x = true ∨ X.env.scope.names.lookup x = some .local) (he : PE X e (RdE X.K W m)) :
    PS X (.AugAssign (.Name x p2) (subOp op) e pos) (RdS X.K W (xAun j op m)) := by
  have go : ∀ {f : Int → Int → Int}, (∀ i j, (if op then i - j else i + j) = f i j) → ∀ (D : Ends) (σ : St) (H : Hp), RdS X.K W (xAun j op m) D σ H → tAug j (RdE X.K W m) (ipI f) D σ H := by
    rintro f hf D σ H ⟨H0, μ0, n0, μ, ρ, S, hn, e, w, sl, h⟩
    unfold xAun at h
    split at h
    · rename_i x hx
      obtain ⟨v, q1, q2⟩ := sl.at_ j x hx
      refine ⟨v, q1, SE.go h e w sl fun u H1 t μ1 S1 e1 w1 sl1 r1 f1 h1 => ?_⟩
      obtain ⟨z, hz, h2⟩ := h1.orBad
      simp only [aug, hf, Option.bind_eq_some_iff, Option.map_eq_some_iff] at hz
      obtain ⟨i1, z1, i2, z2, rfl⟩ := hz
      obtain ⟨ρ', ha, h3⟩ := h2.orBad
      refine ⟨i1, i2, int_at (t := .val x) (RV.ext e1 w x v q2) z1, int_at r1 z2, ?_⟩
      simp only [asg] at ha
      split at ha
      · cases ha
        exact h3 _ H1 _ (e.trans e1) w1 (sl1.set (by simp only [vI, prom, RV, RD]))
      · cases ha
    · exact h.elim
  cases op with
  | false => exact PS_imp (ps_aug hN hi hx he ip_add hf) (go fun _ _ => rfl)
  | true => exact PS_imp (ps_aug hN hi hx he ip_sub hf) (go fun _ _ => rfl)
theorem x_par {i j : Nat} (h : PS X (.Assign [tg] e pos) (tPar i j (RdA X.K W mr))) : PS X (.Assign [tg] e pos) (RdS X.K W (xPar i j mr)) :=
  PS_imp h fun D σ H ⟨H0, μ0, n0, μ, ρ, S, hn, e, w, sl, h⟩ => ⟨μ, ρ, S, w, sl, (h.expr e w sl).mono fun vs H1 ⟨ts, μ1, S1, e1, w1, sl1, ra, h1⟩ => by
    obtain ⟨ρ', ha, h2⟩ := h1.orBad
    obtain ⟨μ', q1, q2, q3, u, rfl⟩ := proms_ok w1 e1 ra
    unfold asg2 at ha
    split at ha
    · rename_i x y hxy
      rw [hxy] at q3
      simp only [RVs] at q3
      obtain ⟨v, r, rfl, k1, v2, r2, rfl, k2, rfl⟩ := q3
      split at ha
      · cases ha
        exact ⟨v, v2, rfl, h2 _ H1 _ (e.trans q1) q2 (((sl.ext q1 w).set k1).set k2)⟩
      · cases ha
    · cases ha⟩
/-! ### while -/
theorem x_wh {fuel : Nat} {t : Expr} {body : List Stmt} {x : MS} (hp : PassesOwn (model X.prog X.w) X.A X.env X.xe) (ht : PT X t (RdT X.K W tc)) (hb : PSs X body (RdS X.K W x)) : PS X (.While t body [] pos) (RdS X.K W (xWh fuel tc x)) :=
  PS_imp (ps_while hp ht hb) fun D σ H ⟨H0, μ0, n0, μ, ρ, S, hn, e, w, sl, h⟩ => by
    have hl : S.length = μ.length := w.len.symm
    refine ⟨fun k σ' H' => ∃ μ' ρ' S', Ext H μ H' μ' ∧ Wd X.K H' μ' S' ∧ Sl X.K H' μ' σ' ρ' ∧ PostS X.K W D H0 μ0 (whLoop tc x S.length k ρ' S'), ⟨fuel, μ, ρ, S, Ext.refl, w, sl, h⟩, ?_⟩
    rintro k σ' H' ⟨μ', ρ', S', e', w', sl', hk⟩
    cases k with
    | zero => exact hk.elim
    | succ k =>
      simp only [whLoop] at hk
      refine ⟨μ', ρ', S', w', sl', (hk.expr (e.trans e') w' sl').mono fun c H2 ⟨c', μ2, S2, e2, w2, sl2, hc, h2⟩ => ?_⟩
      subst hc
      split
      · rename_i hc; rw [if_pos hc] at h2
        refine ⟨fun σ3 H3 => ∃ μ3 ρ3 S3, Ext H μ H3 μ3 ∧ Wd X.K H3 μ3 S3 ∧ Sl X.K H3 μ3 σ3 ρ3 ∧ PostS X.K W D H0 μ0 (whLoop tc x S.length k ρ3 S3), fun σ3 H3 q => ⟨k, Nat.lt_succ_self k, q⟩, H, μ, S.length, μ2, ρ', S2, by omega, e'.trans e2, w2, sl2, ?_⟩
        cases hx : x S.length ρ' S2 with
        | ok f S3 =>
          rw [hx] at h2
          cases f with
          | next ρ3 => exact fun σ3 H3 μ3 e3 w3 sl3 => ⟨μ3, ρ3, S3, e3, w3, sl3, h2⟩
          | cnt ρ3 => exact fun σ3 H3 μ3 e3 w3 sl3 => ⟨μ3, ρ3, S3, e3, w3, sl3, h2⟩
          | brk ρ3 => exact fun σ3 H3 μ3 e3 w3 sl3 => h2 σ3 H3 μ3 (e.trans e3) w3 sl3
          | ret t3 => exact fun v3 H3 μ3 e3 w3 r3 f3 => h2 v3 H3 μ3 (e.trans e3) w3 r3 (frs.ext e w f3)
        | exc x3 ρ3 S3 => rw [hx] at h2; exact fun c d σ3 H3 μ3 e3 w3 sl3 r3 => h2 c d σ3 H3 μ3 (e.trans e3) w3 sl3 r3
        | bad => rw [hx] at h2; exact h2
      · rename_i hc; rw [if_neg hc] at h2
        exact h2 σ' H2 μ2 ((e.trans e').trans e2) w2 sl2
end
end Ap
set_option Elab.async false
set_option linter.all false
set_option maxRecDepth 100000
set_option maxHeartbeats 1000000
namespace Ap
open PySem L2
section
variable {K : PySem.W.Frag} {H H' H0 H1 H2 : Hp} {μ μ' μ0 μ1 μ2 : List Addr} {S S' S0 : Store} {W : WX} {σ : St} {ρ ρ' : Env} {X : Cx} {pos : Pos}
/-! ### dict displays -/
def mPs : List (ME × ME) → Env → Store → R (List (Ap.D × Val))
  | [] => fun _ S => .ok [] S
  | q :: r => mPair q.1 q.2 (mPs r)
def RPs (K : PySem.W.Frag) : Hp → Hp → List Addr → List (V × V) → List (Ap.D × Val) → Prop := fun _ H μ vs ps => ∃ ks : List (Key × V), vs = ks.map (fun kv => (kV kv.1, kv.2)) ∧ RKs K H μ ks ps
theorem pairs_go : ∀ (L : List (ME × ME)) {H : Hp} {μ : List Addr} {S : Store} {Q : List (V × V) → Hp → Prop}, Wd K H μ S → Sl K H μ σ ρ → Post (RPs K) K W σ H μ (mPs L ρ S) Q → tPairs (L.map fun q => (RdE K W q.1, RdE K W q.2)) σ H Q
  | [], H, μ, S, Q, w, sl, h => h [] H μ Ext.refl w ⟨[], rfl, rfl⟩
  | q :: L, H, μ, S, Q, w, sl, h => by
    refine ⟨μ, ρ, S, w, sl, (Post.bind (RR := RTV K) Ext.refl h).mono fun x H1 ⟨t, μ1, S1, e1, w1, ⟨r1, _⟩, h1⟩ => ?_⟩
    obtain ⟨d, hd, h2⟩ := h1.orBad
    obtain ⟨k, rfl, rfl, hok⟩ := keyT_at r1 hd
    have sl1 := sl.ext e1 w
    refine ⟨μ1, ρ, S1, w1, sl1, (Post.bind (RR := RTV K) e1 h2).mono fun y H2 ⟨u, μ2, S2, e2, w2, ⟨r2, f2⟩, h3⟩ => ?_⟩
    obtain ⟨μ3, e3, w3, r3, ex, rfl⟩ := prom_ok w2 e2 r2 f2
    have sl3 := sl1.ext e3 w1
    refine pairs_go L w3 sl3 ((Post.bind (RR := RPs K) (e1.trans e3) h3).mono fun vs H4 ⟨ps, μ4, S4, e4, w4, ⟨ks, hks, rk⟩, h4⟩ => ?_)
    subst hks
    exact h4 _ H4 μ4 ((e1.trans e3).trans e4) w4 ⟨(k, y) :: ks, rfl, k, y, ks, rfl, rfl, hok, RV.ext e4 w3 _ _ r3, rk⟩
theorem RKs.merge : ∀ {ps acc : List (Ap.D × Val)} {ks kacc : List (Key × V)}, RKs K H μ ks ps → RKs K H μ kacc acc → RKs K H μ (mergeK kacc ks) (ps.foldl (fun acc p => putD acc p.1 p.2) acc)
  | [], acc, ks, kacc, h, ha => by simp only [RKs] at h; subst h; exact ha
  | p :: ps, acc, ks, kacc, h, ha => by
    obtain ⟨k, v, r, rfl, h1, h2, h3, h4⟩ := h
    have := RKs.merge h4 (ha.put h2 h3)
    rw [h1] at this
    exact this
theorem s_dct0 : PE X (.Dict [] [] pos) (RdE X.K W (mDct fun _ S => .ok [] S)) :=
  PE_imp pe_dnewK fun σ H Q ⟨μ, ρ, S, w, sl, h⟩ p hp => by
    have kp := upd_keep (o := .dK []) hp
    exact h (.ref p) _ μ (ext_keep kp) (w.keep kp) ⟨⟨p, rfl, w.ne hp, [], upd_same, Nat.zero_le _, rfl⟩, fun a ha => by cases ha; exact hp⟩
theorem s_dct {L : List (ME × ME)} {ks : List (Option Expr)} {vs : List Expr} (h : PPs X pos ks vs (L.map fun q => (RdE X.K W q.1, RdE X.K W q.2))) (hall : ks.all (·.isSome) = true) (hl : ks.length = vs.length) (h0 : ks ≠ []) (h15 : ks.length ≤ 15) : PE X (.Dict ks vs pos) (RdE X.K W (mDct (mPs L))) :=
  PE_imp (pe_disp h hall hl h0 h15) fun σ H Q ⟨μ, ρ, S, w, sl, h⟩ p hp => by
    have kp := upd_keep (o := .dK []) hp
    have e0 := ext_keep (μ := μ) kp
    have np := w.ne hp
    refine pairs_go L (w.keep kp) (sl.ext e0 w) ((Post.bind (RR := RPs X.K) e0 h).mono fun vs H2 ⟨ps, μ2, S2, e2, w2, ⟨ks, hks, rk⟩, h2⟩ => ?_)
    split at h2
    case isFalse => exact h2.elim
    rename_i hz
    subst hks
    have d2 : H2 p = some (.dK []) := e2.fr p _ upd_same np
    have n2 : p ∉ μ2 := fun q => by
      have := e2.nw p q np
      rw [upd_same] at this; cases this
    have hk : ks.length ≤ 15 := by rw [rk.len]; exact hz
    refine ⟨d2, ks, rfl, hk, h2 (.ref p) _ μ2 ((e0.trans e2).updOut hp) (w2.updOut d2 trivial n2) ⟨⟨p, rfl, n2, _, upd_same, ?_, (rk.merge (by rfl)).mono fun q _ v r => RV.upd d2 trivial _ _ r⟩, fun a ha => by cases ha; exact hp⟩⟩
    have := length_mergeK ks []
    simp at this
    exact Nat.le_trans this (Nat.le_trans hk (by decide))
end
end Ap
set_option Elab.async false
set_option linter.all false
set_option maxRecDepth 100000
set_option maxHeartbeats 1000000
namespace Ap
open PySem L2

/-! ### what of the text is looked at -/
def noStar : Expr → Bool
  | .Starred .. => false
  | _ => true
def noComp : Expr → Bool
  | .ListComp .. => false
  | .SetComp .. => false
  | .DictComp .. => false
  | _ => true
def noSet : Expr → Bool
  | .Set .. => false
  | _ => true
def noCall : Expr → Bool
  | .Call .. => false
  | _ => true
def noSlice : Expr → Bool
  | .Slice .. => false
  | _ => true
def noTup : Expr → Bool
  | .Tuple .. => false
  | _ => true
theorem star_cons {e : Expr} {es : List Expr} {env : PySem.Env} (h : noStar e = true) : starEach (e :: es) env = (false, eval e env) :: starEach es env := by
  cases e <;> first | rfl | cases h
theorem star_any {pos : Pos} {env : PySem.Env} : ∀ {es : List Expr}, es.all noStar = true → (backTo pos (starEach es env)).any (·.1) = false
  | [], _ => rfl
  | e :: es, h => by
    simp only [List.all_cons, Bool.and_eq_true] at h
    rw [star_cons h.1]
    show (false || (backTo pos (starEach es env)).any (·.1)) = false
    rw [star_any h.2]; rfl
theorem swaps_no {e : Expr} {t : Option Expr} {l : Nat} {env : PySem.Env} (h : noComp e = true) : swapsWith e t l env = pure false := by
  cases e <;> first | rfl | cases h
theorem swapsSole_no {e t : Expr} {l : Nat} {env : PySem.Env} (h : noComp e = true) : swapsWithSole [t] e l env = pure false := swaps_no h
theorem folded_no {e : Expr} {env : PySem.Env} (h : noSet e = true) (x : Value) : foldedSetIterable e env x = pure x := by
  cases e <;> first | rfl | cases h
theorem base_no {o : Expr} {attr : Str} {env : PySem.Env} {w : Sem Value} (h : noCall o = true) : attributeBase o attr env w = w := by
  cases o <;> first | rfl | cases h
theorem sub_no {b : Expr} (h : noSlice b = true) : PlainIxT b := by
  intro o i
  cases b <;> first | rfl | cases h
theorem each_cons {e : Expr} {es : List Expr} {env : PySem.Env} (h : noStar e = true) : assignEach (e :: es) env = (false, assign e env) :: assignEach es env := by
  cases e <;> first | rfl | cases h
theorem each_len {env : PySem.Env} : ∀ {es : List Expr}, es.all noStar = true → (assignEach es env).length = es.length ∧ (assignEach es env).findIdx? (·.1) = none
  | [], _ => ⟨rfl, rfl⟩
  | e :: es, h => by
    simp only [List.all_cons, Bool.and_eq_true] at h
    rw [each_cons h.1]
    obtain ⟨h1, h2⟩ := each_len (env := env) h.2
    refine ⟨by simp [h1], ?_⟩
    rw [List.findIdx?_cons]
    simp [h2]
theorem stores_no {t e : Expr} {env : PySem.Env} (h : noTup e = true) : swappedStores [t] e env = pure none := by
  cases e <;> first | (cases t <;> rfl) | cases h
theorem stores_sub {o i e : Expr} {p : Pos} {env : PySem.Env} : swappedStores [.Subscript o i p] e env = pure none := by cases e <;> rfl
theorem truthy_name {x : Str} {p : Pos} {env : PySem.Env} (whole : Sem Value) : PySem.isTrue (.Name x p) env whole = (do let v ← whole; standAt (Expr.Name x p).pos; holding [v] (truthy v)) := rfl
theorem truthy_call {f : Expr} {es : List Expr} {kws : List Keyword} {p : Pos} {env : PySem.Env} (whole : Sem Value) : PySem.isTrue (.Call f es kws p) env whole = (do let v ← whole; standAt (Expr.Call f es kws p).pos; holding [v] (truthy v)) := rfl
theorem truthy_sub {a i : Expr} {p : Pos} {env : PySem.Env} (whole : Sem Value) : PySem.isTrue (.Subscript a i p) env whole = (do let v ← whole; standAt (Expr.Subscript a i p).pos; holding [v] (truthy v)) := rfl
theorem sub_assign {o i : Expr} {p : Pos} {env : PySem.Env} (h : noSlice i = true) (v : Value) : assign (.Subscript o i p) env v = (do
      let ov ← holding [v] (eval o env)
      let iv ← holding [v, ov] (eval i env)
      standAt p
      holding [v, ov, iv] (setItem ov iv v)
      release [v, ov, iv] []) := by
  cases i <;> first | rfl | cases h

structure Info where
  N : List Str
  sc : Scope
  fn : Str → Bool
def Info.kind (i : Info) (x : Str) : Option NameKind := i.sc.names.lookup x
def Info.vis (i : Info) (x : Str) : Bool := match i.kind x with
  | some .local => true
  | some .cell => true
  | some .free => true
  | _ => false
def Info.loc (i : Info) (x : Str) : Bool := match i.kind x with
  | some .local => true
  | some .cell => i.fn x
  | _ => false
def Info.gl (i : Info) (x : Str) : Bool := match i.kind x with
  | some .globalImplicit => true
  | _ => false
def isLocal : Option NameKind → Bool
  | some .local => true
  | _ => false
def dbg (x : Str) : Bool := x == ("__debug__" : Str)
def cdt (x : Str) : Bool := x == ("__classdict__" : Str)
def Info.own (i : Info) (own : List Nat) : List (Str × Nat) := own.filterMap fun k => (i.N[k]?).map fun x => (x, k)
def blkInfo (i : Info) (scope : Scope) : Info := ⟨i.N, relS scope i.sc, fun x => scope.names.lookup x == some .cell⟩
def isFree : NameKind → Bool
  | .free => true
  | _ => false
def isOwn : NameKind → Bool
  | .local => true
  | .cell => true
  | _ => false
def isFn : ScopeKind → Bool
  | .function => true
  | _ => false
def chkBlk (i : Info) (scope : Scope) (own : List Nat) : Bool :=
  isFn scope.kind && scope.names.all (fun y => scope.names.lookup y.1 == some y.2) && own.all (fun k => (i.N[k]?).isSome) &&
  scope.names.all (fun y => !isFree y.2 || (match i.sc.names.lookup y.1 with
    | some .cell => true
    | some .free => true
    | _ => false)) &&
  scope.names.all (fun y => !isOwn y.2 || ((i.own own).map (·.1)).contains y.1 || !i.N.contains y.1)
theorem nk_beq {a : Option NameKind} {b : NameKind} (h : (a == some b) = true) : a = some b := by
  cases a with
  | none => cases h
  | some a => cases a <;> cases b <;> first | rfl | cases h
theorem own_map {i : Info} : ∀ {own : List Nat}, own.all (fun k => (i.N[k]?).isSome) = true → (i.own own).map (·.2) = own
  | [], _ => rfl
  | k :: r, h => by
    simp only [List.all_cons, Bool.and_eq_true] at h
    obtain ⟨x, hx⟩ := Option.isSome_iff_exists.mp h.1
    have ih := own_map (i := i) h.2
    simp only [Info.own] at ih ⊢
    rw [List.filterMap_cons_some (b := (x, k)) (by rw [hx]; rfl)]
    simp only [List.map_cons, ih]
theorem chkBlk_ok {i : Info} {scope : Scope} {own : List Nat} (h : chkBlk i scope own = true) : BlkOk i.N i.sc scope (i.own own) ∧ (i.own own).map (·.2) = own := by
  simp only [chkBlk, Bool.and_eq_true] at h
  obtain ⟨⟨⟨⟨h1, h2⟩, h3⟩, h4⟩, h5⟩ := h
  refine ⟨⟨?_, fun y hy => nk_beq (List.all_eq_true.mp h2 y hy), fun p hp => ?_, fun y hy hf => ?_, fun y hy ho => ?_⟩, own_map h3⟩
  · cases hk : scope.kind <;> first | rfl | (rw [hk] at h1; cases h1)
  · simp only [Info.own, List.mem_filterMap, Option.map_eq_some_iff] at hp
    obtain ⟨k, _, x, h1, rfl⟩ := hp
    exact h1
  · have := List.all_eq_true.mp h4 y hy
    rw [hf] at this
    simp only [isFree, Bool.not_true, Bool.false_or] at this
    split at this
    · rename_i q; exact .inl q
    · rename_i q; exact .inr q
    · cases this
  · have := List.all_eq_true.mp h5 y hy
    have e : isOwn y.2 = true := by rcases ho with ho | ho <;> rw [ho] <;> rfl
    rw [e] at this
    simp only [Bool.not_true, Bool.false_or, Bool.or_eq_true] at this
    rcases this with q | q
    · exact .inl (List.contains_iff_mem.mp q)
    · refine .inr fun k => ?_
      rw [List.contains_iff_mem.mpr k] at q; cases q
end Ap
set_option Elab.async false
set_option linter.all false
set_option maxRecDepth 100000
set_option maxHeartbeats 1000000
namespace Ap
open PySem L2

def litV : Const → D → Option V
  | .none, .non => some .non
  | .bool a, .bl b => if a == b then some (.bl a) else none
  | .int a, .int b => if a == b then some (.int a) else none
  | .str a, .str b => if decide (a = b) && decide (a.length ≤ line) && a.cps.all (· < 0x110000) then some (.str a) else none
  | _, _ => none
/-- the parameters of the defs that may be called -/
structure Sig where
  fns : List (Str × List Str)
  bs : List Str
def chkTys (s : Sig) (i : Info) : List Expr → List Ty → Bool
  | [], [] => true
  | .Name x _ :: es, t :: ts => decide (x = (t.nm : Str)) && i.gl x && s.bs.contains x && chkTys s i es ts
  | _, _ => false
mutual
def chkTg (i : Info) (e : Expr) : Tg → Bool
  | .nm k => match e with
    | .Name x _ => decide (i.N[k]? = some x) && i.loc x
    | _ => false
  | .tp ts => match e with
    | .Tuple es _ _ => es.all noStar && decide (es.length = ts.len) && chkTgs i es ts
    | _ => false
def chkTgs (i : Info) (es : List Expr) : Tgs → Bool
  | .nil => match es with
    | [] => true
    | _ => false
  | .cons t r => match es with
    | e :: es => noStar e && chkTg i e t && chkTgs i es r
    | [] => false
end
def isTupE : Expr → Bool
  | .Tuple .. => true
  | _ => false
def litOk (c : Const) (d : D) : Bool := (litV c d).isSome
def Es.len : Es → Nat
  | .nil => 0
  | .cons _ r => r.len + 1
def kwNames (kws : List Keyword) : List (Option Str) := kws.map fun | ⟨n, _, _⟩ => n
def kwVals (kws : List Keyword) : List Expr := kws.map fun | ⟨_, e, _⟩ => e
mutual
def chkE (s : Sig) (i : Info) (e : Expr) : E → Bool
  | .c d => match e with
    | .Constant c _ _ => litOk c d
    | _ => false
  | .v k => match e with
    | .Name x _ => decide (i.N[k]? = some x) && i.vis x && !dbg x && !cdt x
    | _ => false
  | .g y => match e with
    | .Name x _ => decide (x = y) && i.gl x && !dbg x
    | _ => false
  | .bin op a b => match e with
    | .BinOp x o y _ => decide (o = op.py) && chkE s i x a && chkE s i y b
    | _ => false
  | .neg a => match e with
    | .UnaryOp .USub x _ => chkE s i x a
    | _ => false
  | .cmp op a b => match e with
    | .Compare x [o] [y] _ => decide (o = op.py) && !behindInMarks o y && chkE s i x a && chkE s i y b
    | _ => false
  | .cmp2 o1 o2 a b c => match e with
    | .Compare x [p1, p2] [y, z] _ => decide (p1 = o1.py) && decide (p2 = o2.py) && !lastMarks [p1, p2] [y, z] && chkE s i x a && chkE s i y b && chkE s i z c
    | _ => false
  | .no a => match e with
    | .UnaryOp .Not x _ => chkE s i x a
    | _ => false
  | .and es => match e with
    | .BoolOp .And xs _ => chkEs s i xs es
    | _ => false
  | .or es => match e with
    | .BoolOp .Or xs _ => chkEs s i xs es
    | _ => false
  | .ife t a b => match e with
    | .IfExp x y z _ => chkT s i x t && chkE s i y a && chkE s i z b
    | _ => false
  | .tup es => match e with
    | .Tuple xs _ _ => xs.all noStar && chkEs s i xs es
    | _ => false
  | .lst es => match e with
    | .List xs _ => xs.all noStar && chkEs s i xs es
    | _ => false
  | .dct ps => match e with
    | .Dict xs ys _ => chkPs s i xs ys ps
    | _ => false
  | .call f es ks => match e with
    | .Call (.Name x _) xs kws _ => decide (x = f) && i.gl x && !dbg x && xs.all noStar && chkEs s i xs es && chkEs s i (kwVals kws) ks && (match s.fns.lookup f with
      | some ps => decide (kwNames kws = (ps.drop es.len).map some)
      | none => false)
    | _ => false
  | .bi f es => match e with
    | .Call (.Name x _) (y :: ys) [] _ => decide (x = f.nm) && i.gl x && s.bs.contains x && (y :: ys).all noStar && chkEs s i (y :: ys) es
    | _ => false
  | .ix a b => match e with
    | .Subscript x y _ => noSlice y && chkE s i x a && chkE s i y b
    | _ => false
  | .sl a lo hi => match e with
    | .Subscript x (.Slice l h none _) _ => chkE s i x a && chkO s i l lo && chkO s i h hi
    | _ => false
  | .isi a tys => match e with
    | .Call (.Name f _) [x, .Name t p] [] _ => decide (f = "isinstance") && i.gl f && s.bs.contains f && noStar x && chkE s i x a && decide (tys.length = 1) && chkTys s i [.Name t p] tys
    | .Call (.Name f _) [x, .Tuple es _ _] [] _ => decide (f = "isinstance") && i.gl f && s.bs.contains f && noStar x && chkE s i x a && decide (0 < tys.length) && decide (tys.length ≤ line) && es.all noStar && chkTys s i es tys
    | _ => false
  | .lc a own tg it ifs => match e with
    | .ListComp x [⟨t, l, cs, 0⟩] sc _ => chkBlk i sc own && tg.slots.all (fun k => own.contains k) && noSet l && chkTg (blkInfo i sc) t tg && chkI s i (isTupE t) l it && chkTs s (blkInfo i sc) cs ifs && chkE s (blkInfo i sc) x a
    | _ => false
def chkEs (s : Sig) (i : Info) (es : List Expr) : Es → Bool
  | .nil => match es with
    | [] => true
    | _ => false
  | .cons a r => match es with
    | e :: es => chkE s i e a && chkEs s i es r
    | [] => false
def chkPs (s : Sig) (i : Info) (ks : List (Option Expr)) (vs : List Expr) : Ps → Bool
  | .nil => match ks, vs with
    | [], [] => true
    | _, _ => false
  | .cons a b r => match ks, vs with
    | some k :: ks, v :: vs => chkE s i k a && chkE s i v b && chkPs s i ks vs r && decide ((some k :: ks).length ≤ 15)
    | _, _ => false
def chkT (s : Sig) (i : Info) (e : Expr) : E → Bool
  | .no a => match e with
    | .UnaryOp .Not x _ => chkT s i x a
    | _ => false
  | .and es => match e with
    | .BoolOp .And xs _ => chkTL s i xs es
    | _ => false
  | .or es => match e with
    | .BoolOp .Or xs _ => chkTL s i xs es
    | _ => false
  | .ife t a b => match e with
    | .IfExp x y z _ => chkT s i x t && chkT s i y a && chkT s i z b
    | _ => false
  | .cmp op a b => match e with
    | .Compare x [o] [y] _ => decide (o = op.py) && !behindInMarks o y && chkE s i x a && chkE s i y b
    | _ => false
  | .cmp2 o1 o2 a b c => match e with
    | .Compare x [p1, p2] [y, z] _ => decide (p1 = o1.py) && decide (p2 = o2.py) && !lastMarks [p1, p2] [y, z] && chkE s i x a && chkE s i y b && chkE s i z c
    | _ => false
  | .v k => match e with
    | .Name x _ => decide (i.N[k]? = some x) && i.vis x && !dbg x && !cdt x
    | _ => false
  | .call f es ks => match e with
    | .Call (.Name x _) xs kws _ => decide (x = f) && i.gl x && !dbg x && xs.all noStar && chkEs s i xs es && chkEs s i (kwVals kws) ks && (match s.fns.lookup f with
      | some ps => decide (kwNames kws = (ps.drop es.len).map some)
      | none => false)
    | _ => false
  | .bi f es => match e with
    | .Call (.Name x _) (y :: ys) [] _ => decide (x = f.nm) && i.gl x && s.bs.contains x && (y :: ys).all noStar && chkEs s i (y :: ys) es
    | _ => false
  | .ix a b => match e with
    | .Subscript x y _ => noSlice y && chkE s i x a && chkE s i y b
    | _ => false
  | .isi a tys => match e with
    | .Call (.Name f _) [x, .Name t p] [] _ => decide (f = "isinstance") && i.gl f && s.bs.contains f && noStar x && chkE s i x a && decide (tys.length = 1) && chkTys s i [.Name t p] tys
    | .Call (.Name f _) [x, .Tuple es _ _] [] _ => decide (f = "isinstance") && i.gl f && s.bs.contains f && noStar x && chkE s i x a && decide (0 < tys.length) && decide (tys.length ≤ line) && es.all noStar && chkTys s i es tys
    | _ => false
  | _ => false
def chkTL (s : Sig) (i : Info) (es : List Expr) : Es → Bool
  | .nil => match es with
    | [] => true
    | _ => false
  | .cons a r => match es with
    | e :: es => chkT s i e a && chkTL s i es r
    | [] => false
def chkTs (s : Sig) (i : Info) (es : List Expr) : Es → Bool
  | .nil => match es with
    | [] => true
    | _ => false
  | .cons a r => match es, r with
    | [e], .nil => chkT s i e a
    | _, _ => false
def chkO (s : Sig) (i : Info) (e : Option Expr) : Oe → Bool
  | .no => match e with
    | none => true
    | _ => false
  | .so a => match e with
    | some e => chkE s i e a
    | none => false
def chkI (s : Sig) (i : Info) (tt : Bool) (e : Expr) : It → Bool
  | .e a => chkE s i e a
  | .rg1 a => match e with
    | .Call (.Name f _) [x] [] _ => decide (f = "range") && i.gl f && s.bs.contains f && noStar x && chkE s i x a
    | _ => false
  | .rg2 a b => match e with
    | .Call (.Name f _) [x, y] [] _ => decide (f = "range") && i.gl f && s.bs.contains f && noStar x && noStar y && chkE s i x a && chkE s i y b
    | _ => false
  | .zip a b => match e with
    | .Call (.Name f _) [x, y] [] _ => tt && decide (f = "zip") && i.gl f && s.bs.contains f && noStar x && noStar y && chkE s i x a && chkE s i y b
    | _ => false
  | .enm _ => false
end
end Ap
set_option Elab.async false
set_option linter.all false
set_option maxRecDepth 100000
set_option maxHeartbeats 4000000
namespace Ee
open PySem PySem.Calls PyProof.Rows PySem.W
/-! ### an own exception class with the __init__ that says super().__init__(m); self.f = f -/
abbrev exB : List Value := [.type "Exception", .type "BaseException", .type "object"]
def selfS : Str := "self"
/-- the text of such an __init__ -/
structure InitT (params : Arguments) (body : List Stmt) (sc : Scope) (f : Str) : Prop where
  par : ∃ p0 p1, params = ⟨[], [⟨selfS, none, p0⟩, ⟨f, none, p1⟩], none, [], [], none, []⟩
  bd : ∃ q0 q1 q2 q3 q4 q5 q6 q7 q8 q9 m k, (q2.endLine == q4.line) = true ∧ body = [.Expr (.Call (.Attribute (.Call (.Name "super" q0) [] [] q1) "__init__" q2) [.Constant (.str m) k q3] [] q4) q5, .Assign [.Attribute (.Name selfS q6) f q7] (.Name f q8) q9]
  kind : sc.kind = .function
  co : sc.isCoroutine = false
  gen : sc.isGenerator = false
  ns : sc.names.lookup selfS = some .local
  nf : sc.names.lookup f = some .local
  nc : sc.names.lookup ("__class__" : Str) = some .free
  nu : sc.names.lookup ("super" : Str) = some .globalImplicit
  noc : ∀ x ∈ sc.names, x.2 ≠ .cell
/-- what the written part says of the class -/
structure ExK (K : Frag) (P : Program) (C : Addr) (f : Str) : Prop where
  own : excInitIn K C exB "Exception.__new__" = true
  over : excOver K C exB = true
  dict : hasDictIn K C = true
  fn : ∃ (fI cc cda : Addr) (qual : Str) (params : Arguments) (body : List Stmt) (sc : Scope) (doc pm ct oc ccl cl : Value) (an od cdd cld : Option Addr) (osl ccs csl : Array (Option Value)) (vs : Array Value) (file : Str) (tf : Tok),
    findIn K (.ref C) "__init__" = some (some (.ref fI)) ∧ typeIn K (.ref fI) = some (.type "function") ∧ K.lookup fI = some ⟨oc, od, .func (ksFn "__init__" qual params body sc .none .none doc pm an (.ref cda) ct cc), osl⟩ ∧
    codeIn K (.ref cda) qual = true ∧ K.lookup cda = some ⟨ccl, cdd, .fields vs, ccs⟩ ∧ vs[2]? = some (.str file tf) ∧ (P.main.file == file) = true ∧ K.lookup cc = some ⟨cl, cld, .cell (some (.ref C)), csl⟩ ∧ InitT params body sc f
  top : (P.main.scope.names.lookup ("super" : Str)).isSome = false
  sup : ks_superIn K C C "__init__" = some (some (.builtin "Exception.__init__"))
  stat : nsIn K cStatics "thirdparty.any" = some none
  subE : subIn K (.ref C) (.type "Exception") = some true
  subB : subIn K (.ref C) (.type "BaseException") = some true
  tyC : typeIn K (.ref C) = some (.type "type")
  subC : mroIn K C (.ref C) = some true
  sa : findIn K (.ref C) "__setattr__" = some (some (.builtin "object.__setattr__"))
  no : takerIn K C f = some none
  mgS : nsIn K mainGlobals "super" = some none
  fs : (f == selfS) = false
  fd : (f == ("__debug__" : Str)) = false
  fi : (f == ("super" : Str)) = false
theorem bind_init {name qual : Str} {params : Arguments} {body : List Stmt} {sc : Scope} {cl : List (Str × Addr)} {doc pm cdv ct : Value} {an : Option Addr} {f : Str} (h : ∃ p0 p1, params = ⟨[], [⟨selfS, none, p0⟩, ⟨f, none, p1⟩], none, [], [], none, []⟩) (hf : (f == selfS) = false) {a b : Value} :
    bindArgs (fnX name qual params body sc cl .none .none doc pm an cdv ct) ⟨[a, b], []⟩ = pure [(selfS, a), (f, b)] := by
  obtain ⟨p0, p1, rfl⟩ := h
  have hf2 : (selfS == f) = false := by
    rw [beq_eq_false_iff_ne] at hf ⊢
    exact fun e => hf e.symm
  have e1 : seqItems? Value.none = pure none := rfl
  unfold bindArgs
  simp only [fnX, List.map_nil, List.nil_append, List.map_cons]
  simp [List.lookup_cons, hf, hf2, e1]
theorem call_eval {q0 q1 q2 q3 q4 : Pos} {m : Str} {k : Nat} {env : PySem.Env} (hl : (q2.endLine == q4.line) = true) : eval
    ((((Expr.Name ("super" : Str) q0).Call [] [] q1).Attribute ("__init__" : Str) q2).Call
      [Expr.Constant (Const.str m) k q3] [] q4) env = (do
        let ov ← attributeBase ((Expr.Name ("super" : Str) q0).Call [] [] q1) "__init__" env (eval ((Expr.Name ("super" : Str) q0).Call [] [] q1) env)
        standAt q2.atName
        let (f, first) ← holding [ov] (getMethod ov "__init__" (do return (← importBound ((Expr.Name ("super" : Str) q0).Call [] [] q1) env).getD true))
        callWith q4 f first (backTo q4 (starEach [Expr.Constant (Const.str m) k q3] env)) []) := by
  have : methodCallPos true ((Expr.Name ("super" : Str) q0).Call [] [] q1) env q2 q4 = pure q4 := by
    unfold methodCallPos
    rw [hl]; rfl
  show (do
        let ov ← attributeBase ((Expr.Name ("super" : Str) q0).Call [] [] q1) "__init__" env (eval ((Expr.Name ("super" : Str) q0).Call [] [] q1) env)
        standAt q2.atName
        methodCall ((Expr.Name ("super" : Str) q0).Call [] [] q1) "__init__" q2 q4 env ov (1 + 0) (backTo q4 (starEach [Expr.Constant (Const.str m) k q3] env)) []) = _
  have hm : ∀ ov, methodCall ((Expr.Name ("super" : Str) q0).Call [] [] q1) "__init__" q2 q4 env ov (1 + 0) (backTo q4 (starEach [Expr.Constant (Const.str m) k q3] env)) [] = (do
        let (f, first) ← holding [ov] (getMethod ov "__init__" (do return (← importBound ((Expr.Name ("super" : Str) q0).Call [] [] q1) env).getD true))
        callWith q4 f first (backTo q4 (starEach [Expr.Constant (Const.str m) k q3] env)) []) := by
    intro ov
    have hf : methodCallForm (1 + 0) (backTo q4 (starEach [Expr.Constant (Const.str m) k q3] env)) [] = true := by rfl
    unfold methodCall
    rw [hf, this]
    simp only [pure_bind]
    rfl
  simp only [hm]
end Ee
set_option Elab.async false
set_option linter.all false
set_option maxRecDepth 100000
set_option maxHeartbeats 4000000
namespace Ee
open PySem PySem.Calls PyProof.Rows PySem.W
section
variable {prog : Program} {w : World} {A : Around} {E : Value → Shared → Prop} {hp : Heap} {g : Array GenState} {d : Drawn} {t : Nat} {os : OsState} {K : Frag} {C : Addr} {f : Str} {mg mb : Str → Option Value}
theorem exc_run {u : Value} (F : ExK K prog C f) (X : K.In hp) (NL : hp.NoLimit) (hroom : (A.under (.builtin "type.__call__" ⟨[.ref C, u], []⟩)).depth < recursionLimit) (G : hp.Ns mainGlobals mg) (B : hp.Ns builtinsNs mb) (hb : mb "super" = bootBuiltins "super") {Q : Value → Shared → Prop}
    (h : ∀ (h2 : Heap) (t2 : Nat) (e dx t1 : Addr), (∀ b o, hp.get? b = some o → h2.get? b = some o) → hp.objs.size ≤ e → hp.objs.size ≤ dx → e ≠ dx → h2.get? e = some ({ cls := .ref C, dict := some dx, data := .fields #[.ref t1, .none, .none, .none, .bool false, .none] } : Obj) →
      h2.Ns1 dx (fun y => if y = f then some u else none) → Q (.ref e) ⟨h2, g, d, t2, os⟩) :
    wpAny (model prog w) A (call (.ref C) [u]) Q E ⟨hp, g, d, t, os⟩ := by
  obtain ⟨nm, N, qn, bs, bm, hdct, sn, sub, ab, col, dd, k0, k1, k2, k3, k5, hC, hT⟩ := excInit_of X F.own
  obtain ⟨fI, cc, cda, qual, params, body, sc, doc, pm, ct, oc, ccl, cl, an, od, cdd, cld, osl, ccs, csl, vs, file, tf, hi, hty, hfn, hcode, hcda, hvs, hfile, hcc, T⟩ := F.fn
  refine wpAny_call (HandSPX.call_own PySem.F.excBase_Exception hT hC (looks_findIn X hi) (fun self => bind_fn X self hty) (by rw [sizeLine_eq]; exact show 1 ≤ 16777216 by decide) ?_)
  generalize he : hp.objs.size + 1 = e
  generalize hA : A.under (.builtin "type.__call__" ⟨.ref C :: [u], []⟩) = A1 at hroom ⊢
  have kp : ∀ b o, hp.get? b = some o → ((hp.push (kdv_tup [u])).push (HandSPX.excO C hp.objs.size)).get? b = some o := fun b o z => Heap.get?_push_of_some _ (Heap.get?_push_of_some _ z)
  have hget : ((hp.push (kdv_tup [u])).push (HandSPX.excO C hp.objs.size)).get? e = some (HandSPX.excO C hp.objs.size) := by subst he; heap_get
  have hsz : e < ((hp.push (kdv_tup [u])).push (HandSPX.excO C hp.objs.size)).objs.size := Heap.lt_size hget
  have hpe : hp.objs.size ≤ e := by omega
  generalize hp2 : (hp.push (kdv_tup [u])).push (HandSPX.excO C hp.objs.size) = h2 at kp hget hsz ⊢
  have X2 : K.In h2 := X.keeps kp
  obtain ⟨q0, q1, q2, q3, q4, q5, q6, q7, q8, q9, m, k, hql, hbd⟩ := T.bd
  refine ks_codeAny_call_defAt (fd := ksFn "__init__" qual params body sc .none .none doc pm an (.ref cda) ct cc) (body := body) (binds := [(selfS, .ref e), (f, u)]) hroom (X2 _ _ hfn) rfl (NL.keeps kp) (codeRec_of X2 hcode) rfl
    (BindsTo.of_eq (bind_init T.par F.fs)) T.noc (fun x hx => ?_) (fun h₀ hns hk₀ => ?_) T.co T.gen T.kind
  · simp only [List.mem_cons, List.not_mem_nil, or_false] at hx
    rcases hx with rfl | rfl
    · exact T.ns
    · exact T.nf
  have X3 : K.In h₀ := X2.keeps hk₀
  have kp3 : ∀ b o, hp.get? b = some o → h₀.get? b = some o := fun b o z => hk₀ b o (kp b o z)
  subst hbd
  show _root_.PySem.wpAt _ _ (.func _ (ksEnv qual sc h2.objs.size fI (.ref cda) cc)) (execs _ (ksEnv qual sc h2.objs.size fI (.ref cda) cc)) _ _ _
  refine ks_wpAt_execs_cons (ks_wpAt_Expr_any (ks_wpAt_MethodCall ?_ (call_eval hql)) (by unfold interactive; rw [show (ksEnv qual sc h2.objs.size fI (.ref cda) cc).scope.kind = .function from T.kind]; rfl))
  have hd1 : h₀.get? C = some _ := kp3 _ _ hC
  have hx0 : h₀.get? e = some (HandSPX.excO C hp.objs.size) := hk₀ _ _ hget
  have hloc : ∀ x, (fun y => List.lookup y [(selfS, Value.ref e), (f, u)].reverse) x = if x = f then some u else if x = selfS then some (.ref e) else none := by
    intro x
    show List.lookup x [(f, u), (selfS, Value.ref e)] = _
    rw [List.lookup_cons, List.lookup_cons]
    by_cases h1 : x = f
    · subst h1; simp
    · have e1 : (x == f) = false := by simpa using h1
      rw [e1, if_neg h1]
      by_cases h2 : x = selfS
      · subst h2; simp
      · have e2 : (x == selfS) = false := by simpa using h2
        rw [e2, if_neg h2]; rfl
  have hfs : ¬ selfS = f := by
    have := F.fs
    rw [beq_eq_false_iff_ne] at this
    exact fun z => this z.symm
  have hb2 : bootBuiltins ("super" : Str) = some (.type "super") := by kernel_rfl
  obtain ⟨p0, p1, hpar⟩ := T.par
  refine ks_wpAt_super_base (env := ksEnv qual sc h2.objs.size fI (.ref cda) cc) (ar := ⟨selfS, none, p0⟩) T.nu T.nc (by decide) rfl (X3 _ _ hfn) rfl (by rw [hpar]; rfl) rfl (X3 _ _ hcda) rfl hvs hfile F.top ?_
  refine ks_loadName_global T.kind T.nu (loadGlobal_builtin (env := ksEnv qual sc h2.objs.size fI (.ref cda) cc) (G.keeps kp3) (mg_none_of X G F.mgS) (B.keeps kp3) (hb.trans hb2) ⟨rfl, ?_⟩)
  refine wpAny_loadName_free T.kind T.nc rfl ⟨_, X3 _ _ hcc, rfl⟩ ?_
  refine wpAny_loadName_local T.kind T.ns hns ((hloc _).trans (by rw [if_neg hfs, if_pos rfl])) ?_
  refine ks_wpAny_isType_cls hd1 rfl ⟨rfl, ?_⟩
  refine ks_wpAny_call_super hd1 rfl hx0 rfl (fun c => nofun) (looks_mroIn X3 F.subC) (fun h4 hso k4 => ?_)
  have X4 : K.In h4 := X3.keeps k4
  have hx4 : h4.get? e = some (HandSPX.excO C hp.objs.size) := k4 _ _ hx0
  have I4 : InstAt h4 e (HandSPX.excO C hp.objs.size) C none := ⟨hx4, rfl, rfl, trivial⟩
  obtain ⟨cd, hcd, hsup⟩ := Option.bind_eq_some_iff.mp F.sup
  have hmr : Looks (model prog w) h4 (mroOf (.ref C)) cd.mro := (looks_clsIn X4 hcd).andThen .now
  have hin : Looks (model prog w) h4 (isInstance (.ref e) (.type "Exception")) true := I4.type.andThen (looks_subIn X4 F.subE)
  refine kxs_getMethod kxs_Exception hso (looks_opaque X4 F.stat) hmr rfl X4 hsup hin (ks_ne X4 I4 hcd) (by decide) ?_
  generalize hq5 : h4.objs.size = so2
  have hbw : (h4.push (kxs_mw "Exception.__init__" e)).get? so2 = some (ESX.bw e) := by subst hq5; heap_get
  have k5 : ∀ b o, h4.get? b = some o → (h4.push (kxs_mw "Exception.__init__" e)).get? b = some o := fun b o z => Heap.get?_push_of_some _ z
  generalize h4.push (kxs_mw "Exception.__init__" e) = h5 at hbw k5 ⊢
  have hx5 := k5 _ _ hx4
  refine ESX.callWith_bound (u := so2) (x := e) (Calls.spliced_cons (Calls.Constant_str (k := k) (pos := q3) (Calls.spliced_nil ⟨hbw, ?_⟩)))
  refine ESX.call_bw (k5 _ _ (k4 _ _ hd1)) hx5 hbw (by rw [sizeLine_eq]; exact show 1 ≤ 16777216 by decide) (fun h6 t6 k6 hx6 => ?_)
  show _root_.PySem.wpAt _ _ _ _ _ _ _
  refine wpAt_of_wpAny (wpAny_execs_cons (plainObj_wpAny_Assign_Attribute ?_))
  have kp5 : ∀ b o, h₀.get? b = some o → h5.get? b = some o := fun b o z => k5 b o (k4 b o z)
  have hlt : e < h₀.objs.size := Heap.lt_size hx0
  have nb : ∀ b o, h2.get? b = some o → b ≠ e → h6.get? b = some o := fun b o z hne => k6 b o hne (kp5 b o (hk₀ b o z))
  have hloce : h2.objs.size ≠ e := Nat.ne_of_gt hsz
  have kp6 : ∀ b o, h₀.get? b = some o → b ≠ e → h6.get? b = some o := fun b o z hne => k6 b o hne (kp5 b o z)
  have kpe : ∀ b o, hp.get? b = some o → b ≠ e := fun b o z => Nat.ne_of_lt (Nat.lt_of_lt_of_le (Heap.lt_size z) hpe)
  have kphp : ∀ b o, hp.get? b = some o → h6.get? b = some o := fun b o z => kp6 b o (kp3 b o z) (kpe b o z)
  have X6 : K.In h6 := X.keeps kphp
  have hns6 : h6.Ns h2.objs.size (fun x => List.lookup x [(selfS, Value.ref e), (f, u)].reverse) := by
    obtain ⟨oL, es, ep, hL, r⟩ := hns
    exact ⟨oL, es, ep, kp6 _ _ hL hloce, r⟩
  refine ESX.ldL (env := ksEnv qual sc h2.objs.size fI (.ref cda) cc) hns6 ((hloc _).trans (by rw [if_pos rfl])) ?_ T.kind T.nf F.fd
  refine ESX.ldL (env := ksEnv qual sc h2.objs.size fI (.ref cda) cc) hns6 ((hloc _).trans (by rw [if_neg hfs, if_pos rfl])) ?_ T.kind T.ns (by decide)
  have I6 : InstAt h6 e (HandSPX.excO C t6) C none := ⟨hx6, rfl, rfl, trivial⟩
  refine set_plain X6 I6 F.sa (osa_openX PySem.F.store_Exception X6 I6 F.over F.no fun b => ?_)
  obtain ⟨cd2, hcd2, hdict⟩ := any_some F.dict
  have hcls : Looks (model prog w) h6 (classData C) cd2 := looks_clsIn X6 hcd2
  obtain ⟨nm', bs', mro', ns', qn', hd', sn', sb', ab', col', del'⟩ := cd2
  dsimp only at hdict
  subst hdict
  have hxs : e ≠ h6.objs.size := Nat.ne_of_lt (Heap.lt_size hx6)
  unfold Builtin.ObjectAttr.storeInOwnDict Builtin.ObjectAttr.ownDictForStores
  repeat (first | with_reducible refine HandSPX.store_in_new ?_ ?_ | with_reducible refine wpAny_loadPart_at hx6 ?_ | with_reducible refine hcls.at ?_ | wp_step)
  · refine ⟨_, #[], _, (Heap.get?_update_ne _ _ _ _ (Ne.symm hxs)).trans (Heap.get?_push_at rfl rfl), rfl, ?_, ?_⟩
    · intro z hz
      simp at hz
    · intro z
      rfl
  · intro h7 tk7 hn7 hs7
    refine wpAny_execs_nil ?_
    have old : ∀ b o, b ≠ e → h6.get? b = some o → h7.get? b = some o := fun b o hne z => by
      rw [hs7.2 b (Nat.ne_of_lt (Heap.lt_size z)), Heap.get?_update_ne _ _ _ _ hne]
      exact Heap.get?_push_of_some _ z
    refine ⟨rfl, h h7 _ e h6.objs.size t6 (fun b o z => old b o (kpe b o z) (kphp b o z)) hpe (Nat.le_trans hpe (Nat.le_of_lt (Heap.lt_size hx6))) hxs ?_ hn7⟩
    rw [hs7.2 e hxs]
    exact Heap.get?_update_self _ (Heap.get?_push_of_some _ hx6) rfl
end
end Ee
set_option Elab.async false
set_option linter.all false
set_option maxRecDepth 100000
set_option maxHeartbeats 4000000
namespace Ee
open PySem L2
section
variable {X : Cx} {e : Expr} {te : TE} {x f : Str} {C : Addr} {p pos : Pos}
/-- C(e): a new exception, its one field -/
def tMk1 (C : Addr) (f : Str) (te : TE) : St → Hp → XK → Prop := fun σ H Q => te σ H fun v H1 => ∀ d, H1 d = none → Q (.ref C) (some d) (upd H1 d (.xd [(f, v)]))
theorem pmk_1 (F : ExK X.K X.prog C f) (hr : Room 1 X.A) (hk : PySem.W.keepIn X.K (.ref C) = true) (hg : Gl X x) (hm : X.mg x = some (.ref C)) (ha : PE X e te) (hdb : (x == ("__debug__" : Str)) = false) (hst : starEach [e] X.env = [(false, eval e X.env)]) :
    PMk X (.Call (.Name x p) [e] [] pos) (tMk1 C f te) := by
  intro pins s σ H Q I h
  refine wpAny_Call_Name_kw (ld_glob I hg hm ?_ hdb)
  refine PySem.W.callWith_K (h₀ := X.base) I.ok.mod.kin hk (thn ((pa_cons ha pa_nil hst).run pos pins s σ H (fun vs H1 => match vs with | [v] => ∀ d, H1 d = none → Q (.ref C) (some d) (upd H1 d (.xd [(f, v)])) | _ => False) I ?_) fun us s1 ⟨vs, H1, I1, r1, q1⟩ => ⟨I1.kIn, ?_⟩) hst rfl
  · exact h
  cases r1 with
  | nil => exact q1.elim
  | @cons v u vr ur ra rb =>
  cases rb with
  | cons _ _ => exact q1.elim
  | nil =>
  show wpAny _ _ (call (.ref C) [u]) _ _ _
  obtain ⟨hp, g, dr, tk, os⟩ := s1
  obtain ⟨mb, hb1, hb2⟩ := I1.mod.blt
  refine exc_run F I1.kIn I1.nolimit (by have := (hr.make C [u] []).depth; exact this) (I1.mod.glob.keeps I1.bk) (hb1.keeps I1.bk) (hb2 _ (by decide)) fun h2 t2 a dx t1 k ha hdx hne hget hns => ?_
  obtain ⟨G, g1, g2⟩ := restrict h2 fun b => decide (b ≠ a)
  have gk : ∀ b, b ≠ a → G.get? b = h2.get? b := fun b hb => g1 b (decide_eq_true hb)
  have ga : G.get? a = none := g2 a (by simp)
  have kk : ∀ b o, hp.get? b = some o → G.get? b = some o := fun b o z => by
    rw [gk b (Nat.ne_of_lt (Nat.lt_of_lt_of_le (Heap.lt_size z) ha))]
    exact k b o z
  have na : H1 a = none := I1.hok.fresh ha
  have J : Inv X pins σ (upd H1 dx (.xd [(f, v)])) ⟨G, g, dr, t2, os⟩ :=
    I1.laid (t' := t2) (a := dx) (o := .xd [(f, v)]) (h' := G) kk hdx ⟨_, hns.at fun o y => (gk dx (Ne.symm hne)).trans y, relO_put (fs := []) ra fun _ => True.intro⟩
  refine ⟨a, _, _, ⟨G, g, dr, t2, os⟩, _, .ref C, some dx, rfl, J, fun b o z => ?_, ga, hget, ⟨rfl, rfl⟩, rfl, rfl, ?_, rfl, I1.bare, raises_own F.subB F.tyC, q1 dx (I1.hok.fresh hdx)⟩
  · by_cases hb : b = a
    · rw [hb, ga] at z
      cases z
    · rw [← gk b hb]; exact z
  · rw [upd_ne hne]; exact na
end
end Ee
set_option Elab.async false
set_option linter.all false
set_option maxRecDepth 100000
set_option maxHeartbeats 1000000
namespace Ap
open PySem L2
section
variable {K : PySem.W.Frag} {H H' H0 H1 H2 : Hp} {μ μ' μ0 μ1 μ2 : List Addr} {S S' S0 : Store} {W : WX} {σ : St} {ρ ρ' : Env} {X : Cx} {D : Ends}
variable {e : Expr} {m : ME} {C f s n : Str} {p pos pos' : Pos} {j : Nat}
/-- an own exception class of the text, its one field -/
structure ExIs (K : PySem.W.Frag) (P : Program) (mg : Str → Option Value) (C f : Str) : Prop where
  at_ : mg C = some (.ref (He.ga K C))
  kp : PySem.W.keepIn K (.ref (He.ga K C)) = true
  ex : Ee.ExK K P (He.ga K C) f
  xf : XfC K (He.ga K C)
  no : PySem.W.findIn K (.ref (He.ga K C)) f = some none
theorem x_raise (F : ExIs X.K X.prog X.mg C f) (hr : Room 1 X.A) (hc : X.calm = true) (tk : Takes X W) (hg : Gl X C) (he : PE X e (RdE X.K W m)) (hdb : (C == ("__debug__" : Str)) = false) (hst : starEach [e] X.env = [(false, eval e X.env)]) :
    PS X (.Raise (some (.Call (.Name C p) [e] [] pos)) none pos') (RdS X.K W (xRaise C (some f) m)) :=
  PS_imp (ps_raise hc tk (Ee.pmk_1 F.ex hr F.kp hg F.at_ he hdb hst)) fun D σ H ⟨H0, μ0, n0, μ, ρ, S, hn, e, w, sl, h⟩ => SE.go h e w sl fun v H2 t μ2 S2 e2 w2 sl2 r2 f2 h2 => fun d hd => by
    obtain ⟨μ3, e3, w3, r3, u, rfl⟩ := prom_ok w2 e2 r2 f2
    have kp := upd_keep (o := HO.xd [(f, v)]) hd
    refine h2 _ (some d) σ _ _ ((e.trans e3).keep kp) (w3.keep kp) ((sl.ext e3 w).ext (ext_keep kp) w3) ⟨rfl, .inr ⟨d, _, rfl, upd_same, v, [], rfl, RV.ext (ext_keep kp) w3 _ _ r3, rfl⟩⟩
theorem rfs_look : ∀ {ps : List (Str × Val)} {fs : List (Str × V)} {x : Val}, RFs K H μ fs ps → ps.lookup f = some x → ∃ v, fs.lookup f = some v ∧ RV K H μ v x
  | [], _, _, _, h => by simp at h
  | q :: ps, fs, x, hr, h => by
    obtain ⟨v, r, rfl, h1, h2⟩ := hr
    rw [List.lookup_cons] at h ⊢
    split at h
    · cases h
      exact ⟨v, rfl, h1⟩
    · exact rfs_look h2 h
theorem x_try {cls : Str → Option Str} {pt p1 p2 p3 rp rp2 hp np : Pos} {k kt : Nat} (hs : X.stack = X.env :: X.outer) (hf : X.env.frame = some X.env.locals) (hN : X.N.Nodup) (hi : X.N[j]? = some n) (hln : X.env.kindOf n = some .local) (hg : Gl X C) (tk : Takes X W)
    (hcl : ∀ A g, cls A = some g → ExIs X.K X.prog X.mg A g) (hex : ∀ A B, (cls A).isSome = true → (cls B).isSome = true → PySem.W.exmOne X.K (.ref (He.ga X.K A)) (.ref (He.ga X.K B)) = some (decide (A = B)))
    (hdb : (C == ("__debug__" : Str)) = false) (hn1 : (n == ("__debug__" : Str)) = false) (hn2 : (n == ("__classdict__" : Str)) = false) (hz : s.length ≤ sizeLine ∧ s.cps.all (· < 0x110000) = true)
    (hb : ∀ (W : WX) (pn : List (Addr × PySem.Obj)) (xe : Value → Shared → Prop), Takes (X.tr pn xe) W → PassesOwn (model X.prog X.w) X.A X.env xe → PE (X.tr pn xe) e (RdE X.K W m)) :
    PS X (.Try [.Return (some e) rp] [.ExceptHandler (some (.Name C np)) (some n) [.Return (some (.Tuple [.Constant (.str s) k p1, .Attribute (.Name n p2) f p3] kt pt)) rp2] hp] [] [] pos) (RdS X.K W (xTry cls C s f j m)) := by
  by_cases hq : cls C = some f
  case neg =>
    refine PS_imp ps_never fun D σ H ⟨H0, μ0, n0, μ, ρ, S, hn, e, w, sl, h⟩ => ?_
    unfold xTry at h
    rw [decide_eq_false hq] at h
    exact h
  have F := hcl C f hq
  refine PS_imp (ps_try_as (c := .ref (He.ga X.K C)) (tb := fun W => RdS X.K W (xSeq (xRet m) xSkip)) (ts := fun a cl d => tSeq (tRet (tTup (tCons (tC (.str s)) (tCons (tXf a cl d (He.ga X.K C) f (tVar j)) tNil)))) tNext) hs hf hN hi hln ⟨hg, hdb, .inl F.at_⟩ tk
    (fun W' pn xe t1 t2 => xs_cons (x_ret (ps_ret (hb W' pn xe t1 t2)) fun _ _ _ q => q) xs_nil) fun a oe cl d pn z1 z2 => ?_) ?_
  · exact pss_cons (ps_ret (pe_tup (pa_cons pe_str (pa_cons (pe_xf F.xf F.no z1 z2 (pe_var hi (.inl hln) hn1 hn2)) pa_nil)))) pss_nil
  · rintro D σ H ⟨H0, μ0, n0, μ, ρ, S, hn, e, w, sl, h⟩
    refine ⟨H0, μ0, n0, μ, ρ, S, hn, e, w, sl, ?_⟩
    unfold xTry at h
    split at h
    case isFalse => exact h.elim
    rename_i hj
    simp only [Bool.and_eq_true, decide_eq_true_eq] at hj
    unfold xSeq xRet
    cases hm : m ρ S with
    | ok t S1 => rw [hm] at h; exact h
    | bad => rw [hm] at h; exact h
    | exc x S1 =>
      rw [hm] at h
      simp only at h
      split at h
      case isFalse => exact h.elim
      rename_i hk
      intro c d σ' H' μ' e' w' sl' rx
      obtain ⟨rfl, hd⟩ := rx
      refine ⟨_, hex _ _ hk (by rw [hq]; rfl), fun hb a ha => ?_, fun hb => ?_⟩
      · have hb := of_decide_eq_true hb
        rw [if_pos hb] at h
        obtain ⟨v, hv, h⟩ := h.orBad
        rcases hd with ⟨q, _⟩ | ⟨dd, fs, rfl, hdd, hfs⟩
        · rw [q] at hv; simp at hv
        obtain ⟨u, hu, ru⟩ := rfs_look hfs hv
        have h2 : [V.str s, u].length ≤ sizeLine := by rw [sizeLine_eq]; exact show 2 ≤ 16777216 by decide
        refine ⟨.ref a, ?_, ?_⟩
        · have hl : j < σ'.length := by rw [sl'.len]; exact hj.2
          simp [hl]
        · refine ⟨rfl, by rw [hb], dd, fs, u, rfl, hdd, hu, h2, fun q hq => ?_⟩
          have kp := upd_keep (o := HO.tup [V.str s, u]) hq
          refine h _ _ μ' (e'.keep kp) (w'.keep kp) (mkTup_ok (SqT.of upd_same) h2 ?_) trivial
          refine ⟨V.str s, [u], rfl, ?_, u, [], rfl, RV.ext (ext_keep kp) w' _ _ ru, rfl⟩
          simpa only [RV, RD, true_and] using hz
      · rw [if_neg (of_decide_eq_false hb)] at h
        exact h _ d σ' H' μ' e' w' sl' ⟨rfl, hd⟩
end
end Ap
set_option Elab.async false
set_option linter.all false
set_option maxRecDepth 100000
set_option maxHeartbeats 4000000
namespace Ap
open PySem L2

structure Fits (i : Info) (X : Cx) : Prop where
  N : X.N = i.N
  nd : X.N.Nodup
  sc : X.env.scope = i.sc
  fn : ∀ x, X.fn x = i.fn x
structure Good (s : Sig) (k : Nat) (Γ : Ctx) (X : Cx) (W : WX) : Prop where
  calm : X.calm = true
  room : Room k X.A
  tk : Takes X W
  ps : PassesOwn (model X.prog X.w) X.A X.env X.xe
  con : ∀ x d, Γ.consts x = some d → ∃ u v, X.mg x = some u ∧ RelV v u ∧ ∀ H, RD X.K H v d
  fv : ∀ x, Γ.fns x = true → X.mg x = some (.ref (He.ga X.K x))
  fn : ∀ f ps, s.fns.lookup f = some ps → FnIs X k Γ.cl f ps
  bs : ∀ x, s.bs.contains x = true → X.mg x = none
  one : Room 1 X.A
  cls : ∀ C f, Γ.cls C = some f → ExIs X.K X.prog X.mg C f
  exm : ∀ A B, (Γ.cls A).isSome = true → (Γ.cls B).isSome = true → PySem.W.exmOne X.K (.ref (He.ga X.K A)) (.ref (He.ga X.K B)) = some (decide (A = B))
/-- a def's own context -/
structure Tp (X : Cx) : Prop where
  stk : X.stack = X.env :: X.outer
  frm : X.env.frame = some X.env.locals
section
variable {s : Sig} {i : Info} {k : Nat} {Γ : Ctx} {X : Cx} {W : WX}
theorem Good.units (g : Good s k Γ X W) : X.A.units + 64 < cLine := g.room.units
theorem Good.blk (g : Good s k Γ X W) (st : Shared) (H : Hp) (scope : Scope) (ce : PySem.Env) (fp : List Addr) : Good s k Γ (X.blk st H scope ce fp) WX0 :=
  ⟨g.calm, g.room, takes0, PassesOwn.never, g.con, g.fv, fun f ps h => let F := g.fn f ps h; ⟨F.at_, F.kp, F.ok⟩, g.bs, g.one, g.cls, g.exm⟩
theorem Good.tr (g : Good s k Γ X W) {W' : WX} {pn : List (Addr × PySem.Obj)} {xe : Value → Shared → Prop} (t1 : Takes (X.tr pn xe) W') (t2 : PassesOwn (model X.prog X.w) X.A X.env xe) : Good s k Γ (X.tr pn xe) W' :=
  ⟨g.calm, g.room, t1, t2, g.con, g.fv, fun f ps h => let F := g.fn f ps h; ⟨F.at_, F.kp, F.ok⟩, g.bs, g.one, g.cls, g.exm⟩
theorem Fits.tr (f : Fits i X) {pn : List (Addr × PySem.Obj)} {xe : Value → Shared → Prop} : Fits i (X.tr pn xe) := ⟨f.N, f.nd, f.sc, f.fn⟩
theorem Fits.blk (f : Fits i X) (st : Shared) (H : Hp) (scope : Scope) (cl : List (Str × Addr)) (C : Addr) (fp : List Addr) : Fits (blkInfo i scope) (X.blk st H scope (compEnvC scope cl C X.env) fp) :=
  ⟨f.N, f.nd, by show relabel scope X.env = relS scope i.sc; rw [← f.sc]; rfl, fun _ => rfl⟩
theorem Fits.gl (f : Fits i X) {x : Str} (h : i.gl x = true) : Gl X x := by
  unfold Info.gl Info.kind at h
  show X.env.scope.names.lookup x = _
  rw [f.sc]
  split at h
  · assumption
  · cases h
theorem Fits.vis (f : Fits i X) {x : Str} (h : i.vis x = true) : Vis X.env.scope x := by
  unfold Info.vis Info.kind at h
  unfold Vis
  rw [f.sc]
  split at h
  · exact .inl ‹_›
  · exact .inr (.inl ‹_›)
  · exact .inr (.inr ‹_›)
  · cases h
theorem Fits.loc (f : Fits i X) {x : Str} (h : i.loc x = true) : L2.Loc X.env.scope x ∧ (X.fn x = true ∨ X.env.scope.names.lookup x = some .local) := by
  unfold Info.loc Info.kind at h
  unfold L2.Loc
  rw [f.sc, f.fn]
  split at h
  · exact ⟨.inl ‹_›, .inr ‹_›⟩
  · exact ⟨.inr ‹_›, .inl h⟩
  · cases h
theorem pe_bad {e : Expr} : PE X e (RdE X.K W fun _ _ => .bad) := ⟨fun pins s σ H Q I ⟨_, _, _, _, _, h⟩ => h.elim⟩
theorem pt_bad {e : Expr} : PT X e (RdT X.K W fun _ _ => .bad) := ⟨fun pins s σ H Q I ⟨_, _, _, _, _, h⟩ => h.elim⟩
theorem lit_pe {c : Const} {d : D} {j : Nat} {pos : Pos} (h : litOk c d = true) : PE X (.Constant c j pos) (RdE X.K W fun _ S => .ok (.val (.dat d)) S) := by
  unfold litOk litV at h
  split at h
  · exact s_dat pe_non fun H => by simp only [RD]
  · rename_i a b
    split at h
    · rename_i q
      have : a = b := by simpa using q
      subst this
      exact s_dat pe_bl fun H => by simp only [RD]
    · cases h
  · rename_i a b
    split at h
    · rename_i q
      have : a = b := by simpa using q
      subst this
      exact s_dat pe_int fun H => by simp only [RD]
    · cases h
  · rename_i a b
    split at h
    · rename_i q
      simp only [Bool.and_eq_true, decide_eq_true_eq] at q
      obtain ⟨⟨rfl, q1⟩, q2⟩ := q
      exact s_dat pe_str fun H => by
        unfold RD
        exact ⟨rfl, by rw [← line_eq]; exact q1, q2⟩
    · cases h
  · cases h
mutual
theorem tg_ok (hc : X.calm = true) (f : Fits i X) : ∀ (t : Tg) (e : Expr), chkTg i e t = true → PG X e (RdG X.K t)
  | .nm k, e, h => by
    unfold chkTg at h
    split at h
    · simp only [Bool.and_eq_true, decide_eq_true_eq] at h
      obtain ⟨h1, h2⟩ := f.loc h.2
      exact g_name f.nd (by rw [f.N]; exact h.1) h1 h2
    · cases h
  | .tp ts, e, h => by
    unfold chkTg at h
    split at h
    · simp only [Bool.and_eq_true, decide_eq_true_eq] at h
      obtain ⟨⟨h1, h2⟩, h3⟩ := h
      obtain ⟨q1, q2⟩ := each_len (env := X.env) h1
      exact g_tup hc (tgs_ok hc f ts _ h3) (by rw [q1, h2]) q2
    · cases h
theorem tgs_ok (hc : X.calm = true) (f : Fits i X) : ∀ (t : Tgs) (es : List Expr), chkTgs i es t = true → PGs X es (RdGs X.K t)
  | .nil, es, h => by
    unfold chkTgs at h
    split at h
    · exact gs_nil
    · cases h
  | .cons t r, es, h => by
    unfold chkTgs at h
    split at h
    · simp only [Bool.and_eq_true] at h
      exact gs_cons (tg_ok hc f t _ h.1.2) (tgs_ok hc f r _ h.2) (by rw [each_cons h.1.1]; rfl)
    · cases h
end
theorem tys_ok (g : Good s k Γ X W) (f : Fits i X) : ∀ (tys : List Ty) (es : List Expr), chkTys s i es tys = true → PA X es (tTys tys) ∧ es.all noStar = true
  | [], [], _ => ⟨PA_imp pa_nil fun _ _ _ h => h, rfl⟩
  | [], _ :: _, h => by simp [chkTys] at h
  | t :: ts, [], h => by simp [chkTys] at h
  | t :: ts, e :: es, h => by
    unfold chkTys at h
    split at h
    · rename_i q1 q2; cases q1
    · rename_i x p es' t' ts' q1 q2
      cases q1; cases q2
      simp only [Bool.and_eq_true, decide_eq_true_eq] at h
      obtain ⟨⟨⟨rfl, h1⟩, h2⟩, h3⟩ := h
      obtain ⟨r1, r2⟩ := tys_ok g f ts es h3
      have hty : PE X (.Name (t.nm : Str) p) (tC (.ty t.nm)) := by
        have a := f.gl h1
        have b := g.bs _ h2
        cases t <;> exact pe_bltn a b rfl rfl (by decide) (by decide)
      exact ⟨PA_imp (pa_cons hty r1 (star_cons rfl)) fun _ _ _ h => h, by simp only [List.all_cons, r2]; rfl⟩
    · cases h
theorem evs_len : ∀ {es : Es} {ρ : Env} {S S' : Store} {ts : List TV}, evs Γ es ρ S = .ok ts S' → ts.length = es.len
  | .nil, ρ, S, S', ts, h => by
    unfold evs mNil at h
    cases h; rfl
  | .cons e r, ρ, S, S', ts, h => by
    unfold evs mCons at h
    cases h1 : ev Γ e ρ S with
    | ok t S1 =>
      rw [h1] at h
      simp only [R.bind] at h
      cases h2 : evs Γ r ρ S1 with
      | ok us S2 =>
        rw [h2] at h
        simp only [R.bind] at h
        cases h
        simp only [List.length_cons, Es.len, evs_len h2]
      | exc _ _ => rw [h2] at h; cases h
      | bad => rw [h2] at h; cases h
    | exc _ _ => rw [h1] at h; cases h
    | bad => rw [h1] at h; cases h
theorem kw_names {pos : Pos} {env : PySem.Env} : ∀ kws : List Keyword, (backToKw pos (keywordEach kws env)).map (·.1) = kwNames kws
  | [] => rfl
  | ⟨n, e, p⟩ :: r => by
    show n :: _ = n :: _
    congr 1
    exact kw_names r
theorem es_nil {es : Es} (h : chkEs s i [] es = true) : es = .nil := by
  cases es with
  | nil => rfl
  | cons _ _ => unfold chkEs at h; cases h
end
end Ap
set_option Elab.async false
set_option linter.all false
set_option maxRecDepth 100000
set_option maxHeartbeats 4000000
namespace Ap
open PySem L2
section
variable {s : Sig} {k : Nat} {Γ : Ctx}
theorem _root_.L2.PE.cast {X : Cx} {e : Expr} {W : WX} {m m' : ME} (h : PE X e (RdE X.K W m)) (q : m' = m) : PE X e (RdE X.K W m') := q ▸ h
theorem _root_.L2.PT.cast {X : Cx} {e : Expr} {W : WX} {m m' : MT} (h : PT X e (RdT X.K W m)) (q : m' = m) : PT X e (RdT X.K W m') := q ▸ h
theorem call_ok {X : Cx} {W : WX} {i : Info} (g : Good s k Γ X W) (f : Fits i X) {x f' : Str} {xs : List Expr} {kws : List Keyword} {es ks : Es} {p pos : Pos}
    (h : (decide (x = f') && i.gl x && !dbg x && xs.all noStar && chkEs s i xs es && chkEs s i (kwVals kws) ks && (match s.fns.lookup f' with
      | some ps => decide (kwNames kws = (ps.drop es.len).map some)
      | none => false)) = true) (h1 : PA X xs (RdA X.K W (evs Γ es))) (h2 : PK X kws (RdA X.K W (evs Γ ks))) : PE X (.Call (.Name x p) xs kws pos) (RdE X.K W (mCall Γ.cl f' (mApp (evs Γ es) (evs Γ ks)))) := by
  simp only [Bool.and_eq_true, decide_eq_true_eq] at h
  obtain ⟨⟨⟨⟨⟨⟨rfl, q1⟩, q2⟩, q3⟩, q4⟩, q5⟩, q6⟩ := h
  split at q6
  case h_2 => cases q6
  rename_i ps hps
  have q7 : kwNames kws = (ps.drop es.len).map some := by simpa using q6
  refine s_call (n := es.len) (g.fn _ _ hps) g.room g.tk (f.gl q1) (by simpa [dbg] using q2) h1 h2 (star_any q3) ?_ (by rw [kw_names, q7]) evs_len ?_ ?_
  · rintro e r rfl
    simp only [List.all_cons, Bool.and_eq_true] at q3
    exact star_cons q3.1
  · rintro rfl
    have := es_nil q4
    subst this
    exact ⟨rfl, rfl⟩
  · rintro rfl
    have := es_nil (es := ks) q5
    subst this
    rfl
theorem bi_okE {X : Cx} {W : WX} {i : Info} (g : Good s k Γ X W) (f : Fits i X) {x : Str} {b : Bi} {y : Expr} {ys : List Expr} {es : Es} {p pos : Pos}
    (h : (decide (x = b.nm) && i.gl x && s.bs.contains x && (y :: ys).all noStar && chkEs s i (y :: ys) es) = true) (h1 : PA X (y :: ys) (RdA X.K W (evs Γ es))) : PE X (.Call (.Name x p) (y :: ys) [] pos) (RdE X.K W (mBi b (evs Γ es))) := by
  simp only [Bool.and_eq_true, decide_eq_true_eq] at h
  obtain ⟨⟨⟨⟨rfl, q1⟩, q2⟩, q3⟩, q4⟩ := h
  have q3' := q3
  simp only [List.all_cons, Bool.and_eq_true] at q3'
  exact s_bi g.calm g.units b (f.gl q1) (g.bs _ q2) h1 (star_cons q3'.1) (star_any q3'.2)
theorem isi_ok1 {X : Cx} {W : WX} {i : Info} (g : Good s k Γ X W) (f : Fits i X) {fx t : Str} {x : Expr} {a : ME} {tys : List Ty} {p p0 pos : Pos}
    (h0 : fx = "isinstance") (h1 : i.gl fx = true) (h2 : s.bs.contains fx = true) (h3 : noStar x = true) (hx : PE X x (RdE X.K W a)) (h4 : tys.length = 1) (h5 : chkTys s i [.Name t p] tys = true) : PE X (.Call (.Name fx p0) [x, .Name t p] [] pos) (RdE X.K W (mIsi a tys)) := by
  subst h0
  match tys, h4, h5 with
  | [ty], _, h5 =>
    unfold chkTys at h5
    simp only [Bool.and_eq_true, decide_eq_true_eq] at h5
    obtain ⟨⟨⟨rfl, q1⟩, q2⟩, _⟩ := h5
    exact s_isi1 ty (f.gl h1) (g.bs _ h2) (f.gl q1) (g.bs _ q2) hx (star_cons h3)
theorem isi_okT {X : Cx} {W : WX} {i : Info} (g : Good s k Γ X W) (f : Fits i X) {fx : Str} {x : Expr} {es : List Expr} {n : Nat} {a : ME} {tys : List Ty} {p p0 pos : Pos}
    (h0 : fx = "isinstance") (h1 : i.gl fx = true) (h2 : s.bs.contains fx = true) (h3 : noStar x = true) (hx : PE X x (RdE X.K W a)) (h4 : 0 < tys.length) (h6 : tys.length ≤ line) (h5 : chkTys s i es tys = true) : PE X (.Call (.Name fx p0) [x, .Tuple es n p] [] pos) (RdE X.K W (mIsi a tys)) := by
  subst h0
  match tys, h4, h6, h5 with
  | ty :: tys, _, h6, h5 => exact s_isiT ty tys (f.gl h1) (g.bs _ h2) hx (tys_ok g f _ _ h5).1 (by rw [← line_eq]; exact h6) (star_cons h3)
mutual
theorem okE : ∀ (a : E) (e : Expr) {i : Info} {X : Cx} {W : WX}, Good s k Γ X W → Fits i X → chkE s i e a = true → PE X e (RdE X.K W (ev Γ a))
  | .c d => fun e {i X W} g f h => by
    unfold chkE at h
    split at h
    · exact (lit_pe h).cast (by rw [ev])
    · cases h
  | .v j => fun e {i X W} g f h => by
    unfold chkE at h
    split at h
    · simp only [Bool.and_eq_true, decide_eq_true_eq, Bool.not_eq_true'] at h
      exact (s_var (pe_var (by rw [f.N]; exact h.1.1.1) (f.vis h.1.1.2) h.1.2 h.2)).cast (by rw [ev])
    · cases h
  | .g y => fun e {i X W} g f h => by
    unfold chkE at h
    split at h
    · simp only [Bool.and_eq_true, decide_eq_true_eq, Bool.not_eq_true'] at h
      obtain ⟨⟨rfl, q1⟩, q2⟩ := h
      unfold ev
      cases hc : Γ.consts _ with
      | some d =>
        obtain ⟨u, v, r1, r2, r3⟩ := g.con _ _ hc
        exact s_dat (pe_glob (f.gl q1) r1 r2 q2) r3
      | none =>
        cases hf : Γ.fns _ with
        | true => exact (s_fn (pe_glob (f.gl q1) (g.fv _ hf) rfl q2)).cast (by simp)
        | false => exact pe_bad.cast (by simp)
    · cases h
  | .bin op a b => fun e {i X W} g f h => by
    unfold chkE at h
    split at h
    · simp only [Bool.and_eq_true, decide_eq_true_eq] at h
      obtain ⟨⟨rfl, h1⟩, h2⟩ := h
      exact (s_bin op (okE a _ g f h1) (okE b _ g f h2)).cast (by rw [ev])
    · cases h
  | .neg a => fun e {i X W} g f h => by
    unfold chkE at h
    split at h
    · exact (s_neg (okE a _ g f h)).cast (by rw [ev])
    · cases h
  | .cmp op a b => fun e {i X W} g f h => by
    unfold chkE at h
    split at h
    · simp only [Bool.and_eq_true, decide_eq_true_eq, Bool.not_eq_true'] at h
      obtain ⟨⟨⟨rfl, h0⟩, h1⟩, h2⟩ := h
      exact (s_cmp op g.units (okE a _ g f h1) (okE b _ g f h2) h0).cast (by rw [ev])
    · cases h
  | .cmp2 o1 o2 a b c => fun e {i X W} g f h => by
    unfold chkE at h
    split at h
    · simp only [Bool.and_eq_true, decide_eq_true_eq, Bool.not_eq_true'] at h
      obtain ⟨⟨⟨⟨⟨rfl, rfl⟩, h0⟩, h1⟩, h2⟩, h3⟩ := h
      exact (s_chain o1 o2 g.units (okE a _ g f h1) (okE b _ g f h2) (okE c _ g f h3) h0).cast (by rw [ev])
    · cases h
  | .no a => fun e {i X W} g f h => by
    unfold chkE at h
    split at h
    · exact (s_not (okE a _ g f h)).cast (by rw [ev])
    · cases h
  | .and es => fun e {i X W} g f h => by
    unfold chkE at h
    split at h
    · exact (okAnd es _ g f h).cast (by rw [ev])
    · cases h
  | .or es => fun e {i X W} g f h => by
    unfold chkE at h
    split at h
    · exact (okOr es _ g f h).cast (by rw [ev])
    · cases h
  | .ife t a b => fun e {i X W} g f h => by
    unfold chkE at h
    split at h
    · simp only [Bool.and_eq_true] at h
      exact (s_ife (okT t _ g f h.1.1) (okE a _ g f h.1.2) (okE b _ g f h.2)).cast (by rw [ev])
    · cases h
  | .tup es => fun e {i X W} g f h => by
    unfold chkE at h
    split at h
    · simp only [Bool.and_eq_true] at h
      exact (s_tup (okEs es _ g f h.1 h.2)).cast (by rw [ev])
    · cases h
  | .lst es => fun e {i X W} g f h => by
    unfold chkE at h
    split at h
    · simp only [Bool.and_eq_true] at h
      exact (s_lst (okEs es _ g f h.1 h.2)).cast (by rw [ev])
    · cases h
  | .dct ps => fun e {i X W} g f h => by
    unfold chkE at h
    split at h
    · exact (okPs ps _ _ g f h).cast (by rw [ev])
    · cases h
  | .call f' es ks => fun e {i X W} g f h => by
    unfold chkE at h
    split at h
    · have h' := h
      simp only [Bool.and_eq_true] at h
      exact (call_ok g f h' (okEs es _ g f h.1.1.1.2 h.1.1.2) (okKs ks _ g f h.1.2)).cast (by rw [ev])
    · cases h
  | .bi b es => fun e {i X W} g f h => by
    unfold chkE at h
    split at h
    · have h' := h
      simp only [Bool.and_eq_true] at h
      exact (bi_okE g f h' (okEs es _ g f h.1.2 h.2)).cast (by rw [ev])
    · cases h
  | .ix a b => fun e {i X W} g f h => by
    unfold chkE at h
    split at h
    · simp only [Bool.and_eq_true] at h
      exact (s_ix (okE a _ g f h.1.2) (okE b _ g f h.2) (sub_no h.1.1)).cast (by rw [ev])
    · cases h
  | .sl a lo hi => fun e {i X W} g f h => by
    unfold chkE at h
    split at h
    · simp only [Bool.and_eq_true] at h
      exact (s_sl (okE a _ g f h.1.1) (okO lo _ g f h.1.2) (okO hi _ g f h.2)).cast (by rw [ev])
    · cases h
  | .isi a tys => fun e {i X W} g f h => by
    unfold chkE at h
    split at h
    · simp only [Bool.and_eq_true, decide_eq_true_eq] at h
      obtain ⟨⟨⟨⟨⟨⟨q1, q2⟩, q3⟩, q4⟩, q5⟩, q6⟩, q7⟩ := h
      exact (isi_ok1 g f q1 q2 q3 q4 (okE a _ g f q5) q6 q7).cast (by rw [ev])
    · simp only [Bool.and_eq_true, decide_eq_true_eq] at h
      obtain ⟨⟨⟨⟨⟨⟨⟨⟨q1, q2⟩, q3⟩, q4⟩, q5⟩, q6⟩, q7⟩, q8⟩, q9⟩ := h
      exact (isi_okT g f q1 q2 q3 q4 (okE a _ g f q5) q6 q7 q9).cast (by rw [ev])
    · cases h
  | .lc a own tg it ifs => fun e {i X W} g f h => by
    unfold chkE at h
    split at h
    · rename_i pos
      simp only [Bool.and_eq_true] at h
      obtain ⟨⟨⟨⟨⟨⟨q1, q2⟩, q3⟩, q4⟩, q5⟩, q6⟩, q7⟩ := h
      obtain ⟨b1, b2⟩ := chkBlk_ok q1
      rw [← f.N, ← f.sc] at b1
      have := s_lc (pos := pos) (W := W) (tt := evTs Γ ifs) (m := ev Γ a) g.calm f.nd (okI it _ g f q5) b1 (fun j hj => by rw [b2]; exact List.contains_iff_mem.mp (List.all_eq_true.mp q2 j hj))
        (fun st H C cl fp => tg_ok (X := X.blk st H _ (compEnvC _ cl C X.env) fp) g.calm (f.blk st H _ cl C fp) tg _ q4)
        (fun st H C cl fp => okTs ifs _ (g.blk st H _ (compEnvC _ cl C X.env) fp) (f.blk st H _ cl C fp) q6)
        (fun st H C cl fp => okE a _ (g.blk st H _ (compEnvC _ cl C X.env) fp) (f.blk st H _ cl C fp) q7) (folded_no q3)
      rw [b2] at this
      exact this.cast (by rw [ev])
    · cases h
theorem okEs : ∀ (a : Es) (es : List Expr) {i : Info} {X : Cx} {W : WX}, Good s k Γ X W → Fits i X → es.all noStar = true → chkEs s i es a = true → PA X es (RdA X.K W (evs Γ a))
  | .nil => fun es {i X W} g f hs h => by
    unfold chkEs at h
    split at h
    · have : evs Γ .nil = mNil := by unfold evs; rfl
      rw [this]; exact a_nil
    · cases h
  | .cons a r => fun es {i X W} g f hs h => by
    unfold chkEs at h
    split at h
    · simp only [Bool.and_eq_true] at h
      simp only [List.all_cons, Bool.and_eq_true] at hs
      have : evs Γ (.cons a r) = mCons (ev Γ a) (evs Γ r) := by rw [evs]
      rw [this]
      exact a_cons (okE a _ g f h.1) (okEs r _ g f hs.2 h.2) (star_cons hs.1)
    · cases h
theorem okKs : ∀ (a : Es) (kws : List Keyword) {i : Info} {X : Cx} {W : WX}, Good s k Γ X W → Fits i X → chkEs s i (kwVals kws) a = true → PK X kws (RdA X.K W (evs Γ a))
  | .nil => fun kws {i X W} g f h => by
    cases kws with
    | nil =>
      have : evs Γ .nil = mNil := by unfold evs; rfl
      rw [this]; exact k_nil
    | cons kw kws => simp [kwVals, chkEs] at h
  | .cons a r => fun kws {i X W} g f h => by
    cases kws with
    | nil => simp [kwVals, chkEs] at h
    | cons kw kws =>
      obtain ⟨n, e, p⟩ := kw
      unfold chkEs at h
      simp only [kwVals, List.map_cons, Bool.and_eq_true] at h
      have : evs Γ (.cons a r) = mCons (ev Γ a) (evs Γ r) := by rw [evs]
      rw [this]
      exact k_cons (okE a _ g f h.1) (okKs r _ g f h.2)
theorem okPs : ∀ (a : Ps) (ks : List (Option Expr)) (vs : List Expr) {i : Info} {X : Cx} {W : WX} {pos : Pos}, Good s k Γ X W → Fits i X → chkPs s i ks vs a = true → PE X (.Dict ks vs pos) (RdE X.K W (mDct (evPs Γ a)))
  | .nil => fun ks vs {i X W pos} g f h => by
    unfold chkPs at h
    split at h
    · have := s_dct0 (X := X) (W := W) (pos := pos)
      rw [evPs]; exact this
    · cases h
  | .cons a b r => fun ks vs {i X W pos} g f h => by
    obtain ⟨L, q1, q2, q3, q4, q5⟩ := okPl (.cons a b r) ks vs (pos := pos) g f h
    rw [q1]
    refine s_dct q2 q3 q4 ?_ q5
    unfold chkPs at h
    split at h
    · simp
    · cases h
theorem okPl : ∀ (a : Ps) (ks : List (Option Expr)) (vs : List Expr) {i : Info} {X : Cx} {W : WX} {pos : Pos}, Good s k Γ X W → Fits i X → chkPs s i ks vs a = true →
    ∃ L : List (ME × ME), evPs Γ a = mPs L ∧ PPs X pos ks vs (L.map fun q => (RdE X.K W q.1, RdE X.K W q.2)) ∧ ks.all (·.isSome) = true ∧ ks.length = vs.length ∧ ks.length ≤ 15
  | .nil => fun ks vs {i X W pos} g f h => by
    unfold chkPs at h
    split at h
    · exact ⟨[], by rw [evPs]; rfl, pps_nil, rfl, rfl, by simp⟩
    · cases h
  | .cons a b r => fun ks vs {i X W pos} g f h => by
    unfold chkPs at h
    split at h
    · simp only [Bool.and_eq_true] at h
      obtain ⟨h, hz⟩ := h
      obtain ⟨L, q1, q2, q3, q4, _⟩ := okPl r _ _ (W := W) (pos := pos) g f h.2
      exact ⟨(ev Γ a, ev Γ b) :: L, by rw [evPs, q1]; rfl, pps_cons (okE a _ g f h.1.1) (okE b _ g f h.1.2) q2, by simp [q3], by simp [q4], of_decide_eq_true hz⟩
    · cases h
theorem okAnd : ∀ (a : Es) (es : List Expr) {i : Info} {X : Cx} {W : WX} {pos : Pos}, Good s k Γ X W → Fits i X → chkEs s i es a = true → PE X (.BoolOp .And es pos) (RdE X.K W (evAnd Γ a))
  | .nil => fun es {i X W pos} g f h => pe_bad.cast (by rw [evAnd])
  | .cons a r => fun es {i X W pos} g f h => by
    unfold chkEs at h
    split at h
    · simp only [Bool.and_eq_true] at h
      rename_i e es
      cases r with
      | nil =>
        cases es with
        | nil => exact (pe_one (okE a _ g f h.1)).cast (by rw [evAnd])
        | cons _ _ => unfold chkEs at h; cases h.2
      | cons a' r' =>
        cases es with
        | nil => unfold chkEs at h; cases h.2
        | cons e' es' => exact (s_and (okE a _ g f h.1) (okAnd (.cons a' r') _ g f h.2)).cast (by rw [evAnd])
    · cases h
theorem okOr : ∀ (a : Es) (es : List Expr) {i : Info} {X : Cx} {W : WX} {pos : Pos}, Good s k Γ X W → Fits i X → chkEs s i es a = true → PE X (.BoolOp .Or es pos) (RdE X.K W (evOr Γ a))
  | .nil => fun es {i X W pos} g f h => pe_bad.cast (by rw [evOr])
  | .cons a r => fun es {i X W pos} g f h => by
    unfold chkEs at h
    split at h
    · simp only [Bool.and_eq_true] at h
      rename_i e es
      cases r with
      | nil =>
        cases es with
        | nil => exact (pe_one (okE a _ g f h.1)).cast (by rw [evOr])
        | cons _ _ => unfold chkEs at h; cases h.2
      | cons a' r' =>
        cases es with
        | nil => unfold chkEs at h; cases h.2
        | cons e' es' => exact (s_or (okE a _ g f h.1) (okOr (.cons a' r') _ g f h.2)).cast (by rw [evOr])
    · cases h
theorem okT : ∀ (a : E) (e : Expr) {i : Info} {X : Cx} {W : WX}, Good s k Γ X W → Fits i X → chkT s i e a = true → PT X e (RdT X.K W (evT Γ a))
  | .no a => fun e {i X W} g f h => by
    unfold chkT at h
    split at h
    · exact (t_not (okT a _ g f h)).cast (by rw [evT])
    · cases h
  | .and es => fun e {i X W} g f h => by
    unfold chkT at h
    split at h
    · exact PT.cast (okTAnd es _ g f h).pt (by rw [evT])
    · cases h
  | .or es => fun e {i X W} g f h => by
    unfold chkT at h
    split at h
    · exact PT.cast (okTOr es _ g f h).pt (by rw [evT])
    · cases h
  | .ife t a b => fun e {i X W} g f h => by
    unfold chkT at h
    split at h
    · simp only [Bool.and_eq_true] at h
      exact (t_ife (okT t _ g f h.1.1) (okT a _ g f h.1.2) (okT b _ g f h.2)).cast (by rw [evT])
    · cases h
  | .cmp op a b => fun e {i X W} g f h => by
    unfold chkT at h
    split at h
    · simp only [Bool.and_eq_true, decide_eq_true_eq, Bool.not_eq_true'] at h
      obtain ⟨⟨⟨rfl, h0⟩, h1⟩, h2⟩ := h
      exact (t_cmp op g.units (okE a _ g f h1) (okE b _ g f h2) h0).cast (by rw [evT])
    · cases h
  | .cmp2 o1 o2 a b c => fun e {i X W} g f h => by
    unfold chkT at h
    split at h
    · simp only [Bool.and_eq_true, decide_eq_true_eq, Bool.not_eq_true'] at h
      obtain ⟨⟨⟨⟨⟨rfl, rfl⟩, h0⟩, h1⟩, h2⟩, h3⟩ := h
      exact (t_chain o1 o2 g.units (okE a _ g f h1) (okE b _ g f h2) (okE c _ g f h3) h0).cast (by rw [evT])
    · cases h
  | .v j => fun e {i X W} g f h => by
    unfold chkT at h
    split at h
    · simp only [Bool.and_eq_true, decide_eq_true_eq, Bool.not_eq_true'] at h
      exact (t_truth (s_var (pe_var (by rw [f.N]; exact h.1.1.1) (f.vis h.1.1.2) h.1.2 h.2)) truthy_name).cast (by rw [evT])
    · cases h
  | .call f' es ks => fun e {i X W} g f h => by
    unfold chkT at h
    split at h
    · have h' := h
      simp only [Bool.and_eq_true] at h
      exact (t_truth (call_ok g f h' (okEs es _ g f h.1.1.1.2 h.1.1.2) (okKs ks _ g f h.1.2)) truthy_call).cast (by rw [evT])
    · cases h
  | .bi b es => fun e {i X W} g f h => by
    unfold chkT at h
    split at h
    · have h' := h
      simp only [Bool.and_eq_true] at h
      exact (t_truth (bi_okE g f h' (okEs es _ g f h.1.2 h.2)) truthy_call).cast (by rw [evT])
    · cases h
  | .ix a b => fun e {i X W} g f h => by
    unfold chkT at h
    split at h
    · simp only [Bool.and_eq_true] at h
      exact (t_truth (s_ix (okE a _ g f h.1.2) (okE b _ g f h.2) (sub_no h.1.1)) truthy_sub).cast (by rw [evT])
    · cases h
  | .isi a tys => fun e {i X W} g f h => by
    unfold chkT at h
    split at h
    · simp only [Bool.and_eq_true, decide_eq_true_eq] at h
      obtain ⟨⟨⟨⟨⟨⟨q1, q2⟩, q3⟩, q4⟩, q5⟩, q6⟩, q7⟩ := h
      exact (t_truth (isi_ok1 g f q1 q2 q3 q4 (okE a _ g f q5) q6 q7) truthy_call).cast (by rw [evT])
    · simp only [Bool.and_eq_true, decide_eq_true_eq] at h
      obtain ⟨⟨⟨⟨⟨⟨⟨⟨q1, q2⟩, q3⟩, q4⟩, q5⟩, q6⟩, q7⟩, q8⟩, q9⟩ := h
      exact (t_truth (isi_okT g f q1 q2 q3 q4 (okE a _ g f q5) q6 q7 q9) truthy_call).cast (by rw [evT])
    · cases h
  | .c d => fun e {i X W} g f h => pt_bad.cast (by rw [evT] <;> nofun)
  | .g d => fun e {i X W} g f h => pt_bad.cast (by rw [evT] <;> nofun)
  | .bin _ _ _ => fun e {i X W} g f h => pt_bad.cast (by rw [evT] <;> nofun)
  | .neg _ => fun e {i X W} g f h => pt_bad.cast (by rw [evT] <;> nofun)
  | .tup _ => fun e {i X W} g f h => pt_bad.cast (by rw [evT] <;> nofun)
  | .dct _ => fun e {i X W} g f h => pt_bad.cast (by rw [evT] <;> nofun)
  | .lst _ => fun e {i X W} g f h => pt_bad.cast (by rw [evT] <;> nofun)
  | .sl _ _ _ => fun e {i X W} g f h => pt_bad.cast (by rw [evT] <;> nofun)
  | .lc _ _ _ _ _ => fun e {i X W} g f h => pt_bad.cast (by rw [evT] <;> nofun)
theorem okTAnd : ∀ (a : Es) (es : List Expr) {i : Info} {X : Cx} {W : WX} {pos : Pos}, Good s k Γ X W → Fits i X → chkTL s i es a = true → PW X (.BoolOp .And es pos) (RdT X.K W (evTAnd Γ a))
  | .nil => fun es {i X W pos} g f h => ⟨fun wh pins s σ H Q I ⟨_, _, _, _, _, h⟩ => by unfold evTAnd at h; exact h.elim⟩
  | .cons a r => fun es {i X W pos} g f h => by
    unfold chkTL at h
    split at h
    · simp only [Bool.and_eq_true] at h
      rename_i e es
      cases r with
      | nil =>
        cases es with
        | nil => exact (PW_imp (pw_and1 (okT a _ g f h.1)) fun _ _ _ q => by rw [evTAnd] at q; exact q)
        | cons _ _ => unfold chkTL at h; cases h.2
      | cons a' r' =>
        cases es with
        | nil => unfold chkTL at h; cases h.2
        | cons e' es' => exact (PW_imp (w_and (okT a _ g f h.1) (okTAnd (.cons a' r') _ g f h.2)) fun _ _ _ q => by rw [evTAnd] at q; exact q)
    · cases h
theorem okTOr : ∀ (a : Es) (es : List Expr) {i : Info} {X : Cx} {W : WX} {pos : Pos}, Good s k Γ X W → Fits i X → chkTL s i es a = true → PW X (.BoolOp .Or es pos) (RdT X.K W (evTOr Γ a))
  | .nil => fun es {i X W pos} g f h => ⟨fun wh pins s σ H Q I ⟨_, _, _, _, _, h⟩ => by unfold evTOr at h; exact h.elim⟩
  | .cons a r => fun es {i X W pos} g f h => by
    unfold chkTL at h
    split at h
    · simp only [Bool.and_eq_true] at h
      rename_i e es
      cases r with
      | nil =>
        cases es with
        | nil => exact (PW_imp (pw_or1 (okT a _ g f h.1)) fun _ _ _ q => by rw [evTOr] at q; exact q)
        | cons _ _ => unfold chkTL at h; cases h.2
      | cons a' r' =>
        cases es with
        | nil => unfold chkTL at h; cases h.2
        | cons e' es' => exact (PW_imp (w_or (okT a _ g f h.1) (okTOr (.cons a' r') _ g f h.2)) fun _ _ _ q => by rw [evTOr] at q; exact q)
    · cases h
theorem okTs : ∀ (a : Es) (es : List Expr) {i : Info} {X : Cx} {W : WX}, Good s k Γ X W → Fits i X → chkTs s i es a = true → PTs X es (RdT X.K W (evTs Γ a))
  | .nil => fun es {i X W} g f h => by
    unfold chkTs at h
    split at h
    · exact ⟨fun pins s σ H Q I ⟨μ, ρ, S, w, sl, q⟩ => pts_nil.run pins s σ H Q I (by unfold evTs at q; exact q true H μ Ext.refl w rfl)⟩
    · cases h
  | .cons a r => fun es {i X W} g f h => by
    unfold chkTs at h
    split at h
    · have := pts_one (okT a _ g f h)
      rw [evTs]; exact this
    · cases h
theorem okO : ∀ (a : Oe) (e : Option Expr) {i : Info} {X : Cx} {W : WX}, Good s k Γ X W → Fits i X → chkO s i e a = true → PO X e (RdO X.K W (evO Γ a))
  | .no => fun e {i X W} g f h => by
    unfold chkO at h
    split at h
    · rw [evO]; exact o_no
    · cases h
  | .so a => fun e {i X W} g f h => by
    unfold chkO at h
    split at h
    · rw [evO]; exact o_so (okE a _ g f h)
    · cases h
theorem okI : ∀ (a : It) (e : Expr) {tg : Expr} {i : Info} {X : Cx} {W : WX}, Good s k Γ X W → Fits i X → chkI s i (isTupE tg) e a = true → PI X tg e (RdI X.K W (evI Γ a))
  | .e a => fun e {tg i X W} g f h => by
    unfold chkI at h
    rw [evI]; exact i_seq (okE a _ g f h)
  | .rg1 a => fun e {tg i X W} g f h => by
    unfold chkI at h
    split at h
    · simp only [Bool.and_eq_true, decide_eq_true_eq] at h
      obtain ⟨⟨⟨⟨rfl, q1⟩, q2⟩, q3⟩, q4⟩ := h
      rw [evI]; exact i_rg1 (f.gl q1) (g.bs _ q2) (okE a _ g f q4) (star_cons q3)
    · cases h
  | .rg2 a b => fun e {tg i X W} g f h => by
    unfold chkI at h
    split at h
    · simp only [Bool.and_eq_true, decide_eq_true_eq] at h
      obtain ⟨⟨⟨⟨⟨⟨rfl, q1⟩, q2⟩, q3⟩, q4⟩, q5⟩, q6⟩ := h
      rw [evI]; exact i_rg2 (f.gl q1) (g.bs _ q2) (okE a _ g f q5) (okE b _ g f q6) (by rw [star_cons q3, star_cons q4]; rfl) (star_cons q4)
    · cases h
  | .zip a b => fun e {tg i X W} g f h => by
    unfold chkI at h
    split at h
    · simp only [Bool.and_eq_true, decide_eq_true_eq] at h
      obtain ⟨⟨⟨⟨⟨⟨⟨q0, rfl⟩, q1⟩, q2⟩, q3⟩, q4⟩, q5⟩, q6⟩ := h
      cases tg <;> first | cases q0 | skip
      rw [evI]; exact i_zip (f.gl q1) (g.bs _ q2) (okE a _ g f q5) (okE b _ g f q6) (star_cons q3) (star_cons q4)
    · cases h
  | .enm _ => fun e {tg i X W} g f h => by unfold chkI at h; cases h
end
end
end Ap
set_option Elab.async false
set_option linter.all false
set_option maxRecDepth 100000
set_option maxHeartbeats 4000000
namespace Ap
open PySem L2
def stB (e : Expr) : Bool := match e with | .Starred .. => true | _ => false
theorem stB_no {a : Expr} (h : noStar a = true) : stB a = false := by
  cases a <;> first | rfl | cases h
theorem stores_par {x y : Str} {a b : Expr} {px py pt pt2 : Pos} {kt k2 : Nat} {env : PySem.Env} (hk : env.blockKind = .function) (h1 : env.kindOf x = some .local) (h2 : env.kindOf y = some .local) (hl : py.line = px.line) (hxy : x ≠ y)
    (n1 : noStar a = true) (n2 : noStar b = true) (hf : [a, b].all (foldedForSure 8) = false) (hc : [a, b].all (constantsAlone 8) = false) :
    swappedStores [.Tuple [.Name x px, .Name y py] kt pt] (.Tuple [a, b] k2 pt2) env = pure (some [x, y]) := by
  have he : [x, y].eraseDups.length = 2 := by
    have : (y == x) = false := by simpa using fun q => hxy q.symm
    simp [List.eraseDups_cons, this]
  have hs : (stB a || (stB b || false)) = false := by rw [stB_no n1, stB_no n2]; rfl
  have hn : List.filterMap (fun (e : Expr) => match e with
    | .Name id pos => if (env.kindOf id == some .local && pos.line == px.line) = true then some id else none
    | _ => none) [.Name x px, .Name y py] = [x, y] := by
    simp [h1, h2, hl]
  unfold swappedStores
  simp only [hk]
  refine (if_neg fun h => nomatch (show false = true from h)).trans ?_
  refine (if_neg (Bool.eq_false_iff.mp hs)).trans ?_
  show (if ((List.filterMap (fun (e : Expr) => match e with
    | .Name id pos => if (env.kindOf id == some .local && pos.line == px.line) = true then some id else none
    | _ => none) [.Name x px, .Name y py]).length != 2 || (List.filterMap (fun (e : Expr) => match e with
    | .Name id pos => if (env.kindOf id == some .local && pos.line == px.line) = true then some id else none
    | _ => none) [.Name x px, .Name y py]).eraseDups.length != (List.filterMap (fun (e : Expr) => match e with
    | .Name id pos => if (env.kindOf id == some .local && pos.line == px.line) = true then some id else none
    | _ => none) [.Name x px, .Name y py]).length) = true then pure none else if [a, b].all (foldedForSure 8) = true then pure none else if [a, b].all (constantsAlone 8) = true then _ else pure (some (List.filterMap (fun (e : Expr) => match e with
    | .Name id pos => if (env.kindOf id == some .local && pos.line == px.line) = true then some id else none
    | _ => none) [.Name x px, .Name y py]))) = _
  rw [hn, he, hf, hc]
  rfl
theorem swapsSole_tup {es : List Expr} {n : Nat} {p : Pos} {e : Expr} {l : Nat} {env : PySem.Env} : swapsWithSole [.Tuple es n p] e l env = pure false := by cases e <;> rfl
theorem swapsSole_sub {o i : Expr} {p : Pos} {e : Expr} {l : Nat} {env : PySem.Env} : swapsWithSole [.Subscript o i p] e l env = pure false := by cases e <;> rfl

def stTag : Stmt → Nat
  | .Pass _ => 1
  | .Expr (.Constant (.str _) _ _) _ => 1
  | .Break _ => 2
  | .Continue _ => 3
  | .Return none _ => 4
  | _ => 0
def isFg : S → Bool
  | .fg _ => true
  | _ => false
theorem isFg_of {x : S} (h : isFg x = true) : ∃ js, x = .fg js := by
  cases x <;> first | exact ⟨_, rfl⟩ | cases h
mutual
def chkS (s : Sig) (i : Info) (st : Stmt) : S → Bool
  | .ex e => match st with
    | .Expr x _ => noComp x && chkE s i x e
    | _ => false
  | .as k e => match st with
    | .Assign [.Name x _] y _ => decide (i.N[k]? = some x) && i.loc x && chkE s i y e
    | _ => false
  | .un t e => match st with
    | .Assign [.Tuple xs n p] y _ => noTup y && chkTg i (.Tuple xs n p) t && chkE s i y e
    | _ => false
  | .par j k es => match st with
    | .Assign [.Tuple [.Name x px, .Name y py] _ _] (.Tuple [a, b] _ _) _ => decide (i.N[j]? = some x) && decide (i.N[k]? = some y) && isLocal (i.kind x) && isLocal (i.kind y) && decide (py.line = px.line) && decide (j ≠ k) && isFn i.sc.kind
        && noStar a && noStar b && !([a, b].all (foldedForSure 8)) && !([a, b].all (constantsAlone 8)) && decide (x ≠ y) && chkEs s i [a, b] es
    | _ => false
  | .ix o k e => match st with
    | .Assign [.Subscript x y _] z _ => noSlice y && chkE s i x o && chkE s i y k && chkE s i z e
    | _ => false
  | .aun k sub e => match st with
    | .AugAssign (.Name x _) op z _ => decide (op = subOp sub) && decide (i.N[k]? = some x) && i.loc x && chkE s i z e
    | _ => false
  | .app o e => match st with
    | .Expr (.Call (.Attribute x m ap) [y] [] cp) _ => decide (m = "append") && (ap.endLine == cp.line) && noCall x && noStar y && chkE s i x o && chkE s i y e
    | _ => false
  | .ret e => match st with
    | .Return (some x) _ => chkE s i x e
    | _ => false
  | .ret0 => decide (stTag st = 4)
  | .if_ t a b => match st with
    | .If x p q _ => chkT s i x t && chkSs s i p a && chkSs s i q b
    | _ => false
  | .for_ t it b => match st with
    | .For tg iter body [] _ => noSet iter && chkTg i tg t && chkI s i (isTupE tg) iter it && chkSs s i body b
    | _ => false
  | .whl t b => match st with
    | .While x body [] _ => chkT s i x t && chkSs s i body b
    | _ => false
  | .brk => decide (stTag st = 2)
  | .cnt => decide (stTag st = 3)
  | .pas => decide (stTag st = 1)
  | .nev => true
  | .fg _ => false
  | .rais C e => match st with
    | .Raise (some (.Call (.Name x _) [y] [] _)) none _ => decide (x = C) && i.gl x && !dbg x && noStar y && chkE s i y e
    | _ => false
  | .tr e C j z f => match st with
    | .Try [.Return (some y) _] [.ExceptHandler (some (.Name x _)) (some n) [.Return (some (.Tuple [.Constant (.str z') _ _, .Attribute (.Name n' _) f' _] _ _)) _] _] [] [] _ =>
      decide (x = C) && i.gl x && !dbg x && decide (i.N[j]? = some n) && isLocal (i.kind n) && decide (n' = n) && !dbg n && !cdt n && decide (z' = z) && decide (f' = f) && (decide (z.length ≤ line) && z.cps.all (· < 0x110000)) && chkE s i y e
    | _ => false
def chkSs (s : Sig) (i : Info) (sts : List Stmt) : Ss → Bool
  | .nil => match sts with
    | [] => true
    | _ => false
  | .cons x r => (match sts with
    | st :: sts => chkS s i st x && chkSs s i sts r
    | [] => false) || (isFg x && chkSs s i sts r)
end
section
variable {s : Sig} {k : Nat} {Γ : Ctx}
def MScast {X : Cx} {st : Stmt} {W : WX} {m m' : MS} (h : PS X st (RdS X.K W m)) (q : m' = m) : PS X st (RdS X.K W m') := q ▸ h
theorem isLocal_of {o : Option NameKind} (h : isLocal o = true) : o = some .local := by
  unfold isLocal at h
  split at h
  · rfl
  · cases h
theorem isFn_of {o : ScopeKind} (h : isFn o = true) : o = .function := by
  unfold isFn at h
  split at h
  · rfl
  · cases h
theorem as_ok {X : Cx} {W : WX} {i : Info} (g : Good s k Γ X W) (f : Fits i X) {j : Nat} {x : Str} {p pos : Pos} {y : Expr} {e : E} (h1 : i.N[j]? = some x) (h2 : i.loc x = true) (h3 : chkE s i y e = true) :
    PS X (.Assign [.Name x p] y pos) (RdS X.K W (xAs j (ev Γ e))) := by
  obtain ⟨l1, l2⟩ := f.loc h2
  have hN : X.N[j]? = some x := by rw [f.N]; exact h1
  by_cases hc : noComp y = true
  · exact x_as (ps_set f.nd hN l1 (okE e y g f h3) (swaps_no hc) l2) fun _ _ _ q => q
  · cases e with
    | lc a own tg it ifs =>
      unfold chkE at h3
      split at h3
      · rename_i elt t l cs sc lp
        simp only [Bool.and_eq_true] at h3
        obtain ⟨⟨⟨⟨⟨⟨q1, q2⟩, q3⟩, q4⟩, q5⟩, q6⟩, q7⟩ := h3
        have hall : chkE s i (.ListComp elt [⟨t, l, cs, 0⟩] sc lp) (.lc a own tg it ifs) = true := by
          unfold chkE
          simp only [q1, q2, q3, q4, q5, q6, q7, Bool.and_self]
        have hsw : swapsWith (.ListComp elt [⟨t, l, cs, 0⟩] sc lp) (some (.Name x p)) pos.line X.env = pure (X.env.blockKind == .function && X.env.kindOf x == some .local && p.line == lp.line && !(sc.names.any fun (n, k) => n == x && (k == .local || k == .cell))) := rfl
        cases hb : (X.env.blockKind == .function && X.env.kindOf x == some .local && p.line == lp.line && !(sc.names.any fun (n, k) => n == x && (k == .local || k == .cell)))
        · rw [hb] at hsw
          exact x_as (ps_set f.nd hN l1 (okE (.lc a own tg it ifs) _ g f hall) hsw l2) fun _ _ _ q => q
        · rw [hb] at hsw
          simp only [Bool.and_eq_true] at hb
          have hl : X.env.scope.names.lookup x = some .local := nk_beq hb.1.1.2
          obtain ⟨b1, b2⟩ := chkBlk_ok q1
          rw [← f.N, ← f.sc] at b1
          have := ps_setLc (wi := RdI X.K W (evI Γ it)) (g := RdG X.K tg) (tt := RdT X.K WX0 (evTs Γ ifs)) (te := RdE X.K WX0 (ev Γ a)) g.calm f.nd hN hl hsw (okI it _ g f q5) b1
            (fun st H C cl fp => tg_ok (X := X.blk st H _ (compEnvC _ cl C X.env) fp) g.calm (f.blk st H _ cl C fp) tg _ q4)
            (fun st H C cl fp => okTs ifs _ (g.blk st H _ (compEnvC _ cl C X.env) fp) (f.blk st H _ cl C fp) q6)
            (fun st H C cl fp => okE a _ (g.blk st H _ (compEnvC _ cl C X.env) fp) (f.blk st H _ cl C fp) q7) (folded_no q3)
          refine x_as this fun σ H Q q => ?_
          rw [ev, ← b2] at q
          exact lc_go (fun j hj => by rw [b2]; exact List.contains_iff_mem.mp (List.all_eq_true.mp q2 j hj)) q
      · cases h3
    | _ =>
      exfalso
      apply hc
      unfold chkE at h3
      split at h3 <;> first | rfl | cases h3
mutual
theorem okS : ∀ (a : S) (st : Stmt) {i : Info} {X : Cx} {W : WX}, Good s k Γ X W → Fits i X → Tp X → chkS s i st a = true → PS X st (RdS X.K W (ex Γ a))
  | .ex e => fun st {i X W} g f tp h => by
    unfold chkS at h
    split at h
    · simp only [Bool.and_eq_true] at h
      exact MScast (x_expr (ps_expr (okE e _ g f h.2) (swaps_no h.1)) fun _ _ _ q => q) (by rw [ex])
    · cases h
  | .as j e => fun st {i X W} g f tp h => by
    unfold chkS at h
    split at h
    · simp only [Bool.and_eq_true, decide_eq_true_eq] at h
      exact MScast (as_ok g f h.1.1 h.1.2 h.2) (by rw [ex])
    · cases h
  | .un t e => fun st {i X W} g f tp h => by
    unfold chkS at h
    split at h
    · simp only [Bool.and_eq_true] at h
      exact MScast (x_un (ps_asg (okE e _ g f h.2) (tg_ok g.calm f t _ h.1.2) swapsSole_tup (stores_no h.1.1) (by rw [each_cons rfl]; rfl)) fun _ _ _ q => q) (by rw [ex])
    · cases h
  | .par j1 j2 es => fun st {i X W} g f tp h => by
    unfold chkS at h
    split at h
    · simp only [Bool.and_eq_true, decide_eq_true_eq, Bool.not_eq_true'] at h
      obtain ⟨⟨⟨⟨⟨⟨⟨⟨⟨⟨⟨⟨q1, q2⟩, q3⟩, q4⟩, q5⟩, q6⟩, q7⟩, q8⟩, q9⟩, q10⟩, q11⟩, q12⟩, q13⟩ := h
      have k1 := isLocal_of q3
      have k2 := isLocal_of q4
      unfold Info.kind at k1 k2
      rw [← f.sc] at k1 k2
      have hb : X.env.blockKind = .function := by
        have := isFn_of q7
        unfold PySem.Env.blockKind
        rw [f.sc, this]; rfl
      exact MScast (x_par (ps_par g.calm f.nd (by rw [f.N]; exact q1) (by rw [f.N]; exact q2) q6 k1 k2 (okEs es _ g f (by simp only [List.all_cons, List.all_nil, q8, q9, Bool.and_self]) q13)
        (stores_par hb k1 k2 q5 q12 q8 q9 q10 q11) swapsSole_tup)) (by rw [ex])
    · cases h
  | .ix o j e => fun st {i X W} g f tp h => by
    unfold chkS at h
    split at h
    · simp only [Bool.and_eq_true] at h
      exact MScast (x_ix (by have := g.units; omega) (okE o _ g f h.1.1.2) (okE j _ g f h.1.2) (okE e _ g f h.2) swapsSole_sub stores_sub (sub_assign h.1.1.1)) (by rw [ex])
    · cases h
  | .aun j sub e => fun st {i X W} g f tp h => by
    unfold chkS at h
    split at h
    · simp only [Bool.and_eq_true, decide_eq_true_eq] at h
      obtain ⟨⟨⟨rfl, q1⟩, q2⟩, q3⟩ := h
      obtain ⟨l1, l2⟩ := f.loc q2
      exact MScast (x_aun sub f.nd (by rw [f.N]; exact q1) l1 l2 (okE e _ g f q3)) (by rw [ex])
    · cases h
  | .app o e => fun st {i X W} g f tp h => by
    unfold chkS at h
    split at h
    · simp only [Bool.and_eq_true, decide_eq_true_eq] at h
      obtain ⟨⟨⟨⟨⟨rfl, q1⟩, q2⟩, q3⟩, q4⟩, q5⟩ := h
      exact MScast (x_app (okE o _ g f q4) (okE e _ g f q5) (base_no q2) q1 (star_cons q3)) (by rw [ex])
    · cases h
  | .ret e => fun st {i X W} g f tp h => by
    unfold chkS at h
    split at h
    · exact MScast (x_ret (ps_ret (okE e _ g f h)) fun _ _ _ q => q) (by rw [ex])
    · cases h
  | .ret0 => fun st {i X W} g f tp h => by
    unfold chkS at h
    have h := of_decide_eq_true h
    unfold stTag at h
    split at h <;> first | exact absurd h (by decide) | exact MScast x_ret0 (by rw [ex])
  | .if_ t a b => fun st {i X W} g f tp h => by
    unfold chkS at h
    split at h
    · simp only [Bool.and_eq_true] at h
      exact MScast (x_if (okT t _ g f h.1.1) (okSs a _ g f tp h.1.2) (okSs b _ g f tp h.2)) (by rw [ex])
    · cases h
  | .for_ t it b => fun st {i X W} g f tp h => by
    unfold chkS at h
    split at h
    · simp only [Bool.and_eq_true] at h
      exact MScast (x_for g.ps g.calm (okI it _ g f h.1.2) (tg_ok g.calm f t _ h.1.1.2) (okSs b _ g f tp h.2) (folded_no h.1.1.1)) (by rw [ex])
    · cases h
  | .whl t b => fun st {i X W} g f tp h => by
    unfold chkS at h
    split at h
    · simp only [Bool.and_eq_true] at h
      exact MScast (x_wh g.ps (okT t _ g f h.1) (okSs b _ g f tp h.2)) (by rw [ex])
    · cases h
  | .brk => fun st {i X W} g f tp h => by
    unfold chkS at h
    have h := of_decide_eq_true h
    unfold stTag at h
    split at h <;> first | exact absurd h (by decide) | exact MScast x_brk (by rw [ex])
  | .cnt => fun st {i X W} g f tp h => by
    unfold chkS at h
    have h := of_decide_eq_true h
    unfold stTag at h
    split at h <;> first | exact absurd h (by decide) | exact MScast x_cnt (by rw [ex])
  | .pas => fun st {i X W} g f tp h => by
    unfold chkS at h
    have h := of_decide_eq_true h
    unfold stTag at h
    split at h <;> first | exact absurd h (by decide) | exact MScast (x_skip ps_pass) (by rw [ex]) | exact MScast (x_skip ps_doc) (by rw [ex])
  | .nev => fun st {i X W} g f tp h => MScast x_nev (by rw [ex])
  | .fg js => fun st {i X W} g f tp h => by unfold chkS at h; cases h
  | .rais C e => fun st {i X W} g f tp h => by
    unfold chkS at h
    split at h
    · simp only [Bool.and_eq_true, decide_eq_true_eq] at h
      obtain ⟨⟨⟨⟨rfl, q1⟩, q2⟩, q3⟩, q4⟩ := h
      rename_i x _ y _ _
      cases hc : Γ.cls x with
      | none => exact MScast (m := xNev) x_nev (by rw [ex, hc]; rfl)
      | some fl => exact MScast (x_raise (g.cls _ _ hc) g.one g.calm g.tk (f.gl q1) (okE e _ g f q4) (by simpa [dbg] using q2) (by rw [star_cons q3]; rfl)) (by rw [ex, hc])
    · cases h
  | .tr e C j z fl => fun st {i X W} g f tp h => by
    unfold chkS at h
    split at h
    · simp only [Bool.and_eq_true, decide_eq_true_eq] at h
      obtain ⟨⟨⟨⟨⟨⟨⟨⟨⟨⟨⟨rfl, q1⟩, q2⟩, q3⟩, q4⟩, rfl⟩, q5⟩, q6⟩, rfl⟩, rfl⟩, q7, q8⟩, q9⟩ := h
      have k1 := isLocal_of q4
      unfold Info.kind at k1
      rw [← f.sc] at k1
      exact MScast (x_try tp.stk tp.frm f.nd (by rw [f.N]; exact q3) k1 (f.gl q1) g.tk g.cls g.exm (by simpa [dbg] using q2) (by simpa [dbg] using q5) (by simpa [cdt] using q6) ⟨by rw [← line_eq]; exact q7, q8⟩ fun W' pn xe t1 t2 => okE e _ (g.tr t1 t2) f.tr q9) (by rw [ex])
    · cases h
theorem okSs : ∀ (a : Ss) (sts : List Stmt) {i : Info} {X : Cx} {W : WX}, Good s k Γ X W → Fits i X → Tp X → chkSs s i sts a = true → PSs X sts (RdS X.K W (exs Γ a))
  | .nil => fun sts {i X W} g f tp h => by
    unfold chkSs at h
    split at h
    · rw [exs]; exact xs_nil
    · cases h
  | .cons x r => fun sts {i X W} g f tp h => by
    unfold chkSs at h
    rw [exs]
    rcases Bool.or_eq_true _ _ ▸ h with h | h
    · split at h
      · simp only [Bool.and_eq_true] at h
        exact xs_cons (okS x _ g f tp h.1) (okSs r _ g f tp h.2)
      · cases h
    · simp only [Bool.and_eq_true] at h
      obtain ⟨js, rfl⟩ := isFg_of h.1
      rw [ex]
      exact xs_fg (okSs r _ g f tp h.2)
end
end
end Ap
set_option Elab.async false
set_option linter.all false
set_option maxRecDepth 100000
set_option maxHeartbeats 4000000
namespace Ap
open PySem L2

/-! ### defs -/
/-- a def of the text, as the interpreter has it -/
structure DefAt (K : PySem.W.Frag) (mg : Str → Option Value) (s : Sig) (T : Tb) (f : Str) (ps : List Str) : Prop where
  at_ : mg f = some (.ref (He.ga K f))
  ex : ∃ (d : Fn) (fd : FuncData) (name qual : Str) (params : Arguments) (body : List Stmt) (scope : Scope) (N : List Str), T.fns.lookup f = some d ∧ FunD K name qual params body scope [] [] (He.ga K f) fd ∧ FnScope N ps scope ∧
    chkSs s ⟨N, scope, fun _ => true⟩ body d.body = true ∧ d.ps = ps.length ∧ d.ns = N.length ∧ Bnd K fd ps
structure Lib (P : Program) (K : PySem.W.Frag) (mg : Str → Option Value) (s : Sig) (T : Tb) : Prop where
  con : ∀ x d, T.consts.lookup x = some d → ∃ u v, mg x = some u ∧ RelV v u ∧ ∀ H, RD K H v d
  fv : ∀ x, (T.fns.lookup x).isSome = true → mg x = some (.ref (He.ga K x))
  fn : ∀ f ps, s.fns.lookup f = some ps → DefAt K mg s T f ps
  bs : ∀ x, s.bs.contains x = true → mg x = none
  cls : ∀ C f, T.excs.lookup C = some f → ExIs K P mg C f
  exm : ∀ A B, (T.excs.lookup A).isSome = true → (T.excs.lookup B).isSome = true → PySem.W.exmOne K (.ref (He.ga K A)) (.ref (He.ga K B)) = some (decide (A = B))
theorem start_at {i : Nat} {x : Val} {xs : List Val} {n : Nat} (h : (Ap.start n xs)[i]? = some (some x)) : xs[i]? = some x := by
  unfold Ap.start at h
  by_cases hi : i < (xs.map some).length
  · rw [List.getElem?_append_left hi] at h
    simpa using h
  · rw [List.getElem?_append_right (by omega)] at h
    obtain ⟨hl, h⟩ := List.getElem?_eq_some_iff.mp h
    rw [List.getElem_replicate] at h
    cases h
theorem start_has {i : Nat} {v : V} {vs : List V} {N : List Str} (h : vs[i]? = some v) : (L2.start N vs)[i]? = some (some v) := by
  unfold L2.start
  have hi : i < (vs.map some).length := by
    have := (List.getElem?_eq_some_iff.mp h).1
    simpa using this
  rw [List.getElem?_append_left hi]
  simp [h]
theorem start_sl {K : PySem.W.Frag} {H : Hp} {μ : List Addr} {vs : List V} {xs : List Val} {N : List Str} (r : RVs K H μ vs xs) (hl : vs.length ≤ N.length) : Sl K H μ (L2.start N vs) (Ap.start N.length xs) := by
  have e := r.len
  refine ⟨by simp [L2.start, Ap.start, e], fun i x hx => ?_⟩
  obtain ⟨v, h1, h2⟩ := r.at (start_at hx)
  exact ⟨v, start_has h1, h2⟩
section
variable {P : Program} {K : PySem.W.Frag} {mg : Str → Option Value} {s : Sig} {T : Tb}
theorem defs_ok (L : Lib P K mg s T) : ∀ (n : Nat) (f : Str) (ps : List Str), s.fns.lookup f = some ps → mg f = some (.ref (He.ga K f)) ∧ PySem.W.keepIn K (.ref (He.ga K f)) = true ∧
    ∃ fd, Bnd K fd ps ∧ ∀ (w : World) (base : Heap), FnOk P w K mg base (L2.CX P w) (n + 1) (He.ga K f) fd ps (spFn K (callF T n) f)
  | 0 => fun f ps h => by
    have D := L.fn f ps h
    obtain ⟨d, fd, name, qual, params, body, scope, N, h1, h2, h3, h4, h5, h6, h7⟩ := D.ex
    exact ⟨D.at_, h2.kp, fd, h7, fun w base => ⟨fun vs H Q E ⟨_, _, _, _, _, q⟩ => q.elim, fun A outer s H args us vs Q E _ _ _ _ ⟨_, _, _, _, _, q⟩ => q.elim⟩⟩
  | n + 1 => fun f ps h => by
    have D := L.fn f ps h
    obtain ⟨d, fd, name, qual, params, body, scope, N, h1, h2, h3, h4, h5, h6, h7⟩ := D.ex
    refine ⟨D.at_, h2.kp, fd, h7, fun w base => h2.ok h3 (fun vs H Q E ⟨μ, S, xs, wd, rv, q⟩ => ?_) fun cdv A outer st H vs Q E hr ⟨μ, S, xs, wd, rv, q⟩ => ?_⟩
    · rw [rv.len]
      simp only [callF, h1, run] at q
      split at q
      · rename_i hl; rw [hl, h5]
      · exact q.elim
    · refine ⟨_, okSs (s := s) (k := n + 1) (Γ := T.ctx (callF T n)) (W := fun c d _ H => E c d H) d.body body (i := ⟨N, scope, fun _ => true⟩) (X := cxOf (L2.CX P w) P w K mg base N qual scope (He.ga K f) cdv A outer st H E) ?_ ⟨rfl, h3.nd, rfl, fun _ => rfl⟩ ⟨rfl, rfl⟩ h4, ?_⟩
      · exact ⟨rfl, hr, takes_of rfl rfl rfl rfl, passes_of rfl, L.con, L.fv, fun g gs hg => let ⟨a1, a2, fd, b, F⟩ := defs_ok L n g gs hg; ⟨a1, a2, fd, F w base, b⟩, L.bs, hr.mono (by omega), L.cls, L.exm⟩
      · simp only [callF, h1, run] at q
        split at q
        case isFalse => exact q.elim
        rename_i hl
        have hN : vs.length ≤ N.length := by
          rw [rv.len, hl, h5]
          have := congrArg List.length h3.pre
          simp at this
          omega
        refine ⟨H, μ, S.length, μ, Ap.start N.length xs, S, by rw [wd.len]; exact Nat.le_refl _, Ext.refl, wd, start_sl rv hN, ?_⟩
        rw [h6] at q
        cases hx : exs (T.ctx (callF T n)) d.body S.length (Ap.start N.length xs) S with
        | ok fl S2 =>
          rw [hx] at q
          cases fl with
          | ret t => exact fun v H2 μ2 e2 w2 r2 f2 => q v H2 μ2 e2 w2 ⟨r2, f2⟩
          | next ρ => exact fun σ H2 μ2 e2 w2 sl2 => q .non H2 μ2 e2 w2 ⟨by simp only [RT, RV, RD], trivial⟩
          | brk _ => exact q.elim
          | cnt _ => exact q.elim
        | exc x ρ S2 => rw [hx] at q; exact fun c d σ H2 μ2 e2 w2 sl2 r2 => q c d H2 μ2 e2 w2 r2
        | bad => rw [hx] at q; exact q.elim
end
end Ap
set_option Elab.async false
set_option linter.all false
set_option maxRecDepth 100000
set_option maxHeartbeats 4000000
namespace Ap
open PySem L2
/-! ### binding: plain parameters, by place or by name, in their order -/
theorem lookup_zip_in {α : Type} : ∀ {ps : List Str} {vs : List α} {k : Str}, k ∉ ps → (ps.zip vs).lookup k = none
  | [], _, _, _ => by simp
  | _ :: _, [], _, _ => by simp
  | p :: ps, v :: vs, k, h => by
    simp only [List.mem_cons, not_or] at h
    rw [List.zip_cons_cons, List.lookup_cons]
    have : (k == p) = false := by simpa using h.1
    rw [this]
    exact lookup_zip_in h.2
theorem lookup_app {α : Type} : ∀ {a b : List (Str × α)} {k : Str}, a.lookup k = none → (a ++ b).lookup k = b.lookup k
  | [], _, _, _ => rfl
  | (p, v) :: a, b, k, h => by
    rw [List.lookup_cons] at h
    rw [List.cons_append, List.lookup_cons]
    split at h
    · cases h
    · exact lookup_app h
theorem zip_split {α : Type} : ∀ {ps : List Str} {us ws : List α}, us.length + ws.length = ps.length → ps.zip us ++ (ps.drop us.length).zip ws = ps.zip (us ++ ws)
  | ps, [], ws, _ => by simp
  | [], u :: us, ws, h => by simp at h
  | p :: ps, u :: us, ws, h => by
    simp only [List.length_cons] at h
    simp only [List.zip_cons_cons, List.length_cons, List.drop_succ_cons, List.cons_append]
    rw [zip_split (by omega)]
theorem binds_self {α : Type} : ∀ {ps : List Str} {vs : List α}, ps.Nodup → vs.length = ps.length → ∀ (f : Str → Option α), (∀ k v, (k, v) ∈ ps.zip vs → f k = some v) → ps.filterMap (fun n => (f n).map (n, ·)) = ps.zip vs
  | [], [], _, _, _, _ => rfl
  | [], _ :: _, _, h, _, _ => by simp at h
  | _ :: _, [], _, h, _, _ => by simp at h
  | p :: ps, v :: vs, nd, h, f, hf => by
    rw [List.nodup_cons] at nd
    simp only [List.length_cons] at h
    rw [List.zip_cons_cons, List.filterMap_cons_some (b := (p, v)) (by rw [hf p v (by simp)]; rfl)]
    have hl : vs.length = ps.length := by omega
    rw [binds_self nd.2 hl f fun k v hk => hf k v (by rw [List.zip_cons_cons]; exact List.mem_cons_of_mem _ hk)]
theorem lookup_zip_at {α : Type} : ∀ {ps : List Str} {vs : List α}, ps.Nodup → ∀ {k : Str} {v : α}, (k, v) ∈ ps.zip vs → (ps.zip vs).lookup k = some v
  | [], _, _, _, _, h => by simp at h
  | _ :: _, [], _, _, _, h => by simp at h
  | p :: ps, u :: vs, nd, k, v, h => by
    rw [List.nodup_cons] at nd
    rw [List.zip_cons_cons] at h ⊢
    rw [List.lookup_cons]
    rcases List.mem_cons.mp h with h | h
    · cases h; simp
    · have hk : k ∈ ps := (List.of_mem_zip h).1
      have : (k == p) = false := by
        simp only [beq_eq_false_iff_ne]
        rintro rfl
        exact nd.1 hk
      rw [this]
      exact lookup_zip_at nd.2 h
def plainPs : Arguments → List Str → Bool
  | ⟨[], as, none, [], [], none, []⟩, ps => decide (as.map (·.arg) = ps)
  | _, _ => false
theorem bnd_of {K : PySem.W.Frag} {name qual : Str} {params : Arguments} {body : List Stmt} {scope : Scope} {f : Addr} {fd : FuncData} {ps : List Str} (F : FunD K name qual params body scope [] [] f fd) (hp : plainPs params ps = true) (nd : ps.Nodup) : Bnd K fd ps := by
  obtain ⟨oc, od, dV, kV, doc, pm, an, cdv, ct, osl, rfl, lk, hcd, hD, hK⟩ := F.ex
  unfold plainPs at hp
  split at hp
  case h_2 => cases hp
  rename_i as
  have hps : as.map (·.arg) = ps := of_decide_eq_true hp
  have hdv : dV = .none := by
    rcases hD with ⟨_, h⟩ | ⟨h, _⟩
    · exact h
    · exact (h rfl).elim
  subst hdv
  intro s us ws hl
  refine BindsTo.of_eq ?_
  have loop : ∀ (kws : List (Str × Value)) (slots : List (Str × Value)), (kws.map (·.1)).Nodup → (∀ k ∈ kws.map (·.1), k ∈ ps ∧ slots.lookup k = none) → ∀ (body : (Str × Value) → (List (Str × Value) × List (Str × Value)) → Sem (ForInStep (List (Str × Value) × List (Str × Value)))),
      (∀ k v ex sl, k ∈ ps → sl.lookup k = none → body (k, v) (sl, ex) = pure (.yield (sl ++ [(k, v)], ex))) → forIn kws ((slots, []) : List (Str × Value) × List (Str × Value)) body = pure (slots ++ kws, []) := by
    intro kws
    induction kws with
    | nil => intro slots _ _ body _; simp
    | cons p kws ih =>
      intro slots nd h body hb
      obtain ⟨k, v⟩ := p
      simp only [List.map_cons, List.nodup_cons] at nd
      obtain ⟨h1, h2⟩ := h k (by simp)
      rw [List.forIn_cons, hb k v [] slots h1 h2]
      simp only [pure_bind]
      rw [ih (slots ++ [(k, v)]) nd.2 (fun j hj => ?_) body hb]
      · simp
      · obtain ⟨q1, q2⟩ := h j (by simp [hj])
        refine ⟨q1, ?_⟩
        rw [lookup_app q2, List.lookup_cons]
        have : (j == k) = false := by
          simp only [beq_eq_false_iff_ne]
          rintro rfl
          exact nd.1 hj
        rw [this]; rfl
  have hm : (((ps.drop us.length).zip ws).map (·.1)) = ps.drop us.length := by
    rw [List.map_fst_zip]
    simp; omega
  have hz := zip_split (ps := ps) (us := us) (ws := ws) hl
  have hin : ∀ k v, (k, v) ∈ ps.zip (us ++ ws) → (ps.zip (us ++ ws)).lookup k = some v := fun k v h => lookup_zip_at nd h
  have hsome : ∀ k ∈ ps, ((ps.zip (us ++ ws)).lookup k).isNone = false := fun k hk => by
    obtain ⟨i, hi⟩ := List.mem_iff_getElem?.mp hk
    have hi' := (List.getElem?_eq_some_iff.mp hi).1
    have : i < (us ++ ws).length := by simp; omega
    have : (k, (us ++ ws)[i]) ∈ ps.zip (us ++ ws) := by
      refine List.mem_iff_getElem?.mpr ⟨i, ?_⟩
      rw [List.getElem?_zip_eq_some]
      exact ⟨hi, List.getElem?_eq_getElem this⟩
    rw [hin _ _ this]; rfl
  unfold bindArgs
  simp only [PySem.W.fnOf, List.map_nil, List.nil_append, hps]
  rw [loop _ _ (by rw [hm]; exact List.Nodup.sublist (List.drop_sublist _ _) nd) (by
    rw [hm]
    intro k hk
    refine ⟨List.mem_of_mem_drop hk, ?_⟩
    have e : ps.zip us = (ps.take us.length).zip us := by
      rw [List.zip_eq_zip_take_min]
      have : min ps.length us.length = us.length := by omega
      rw [this, List.take_length]
    rw [e]
    refine lookup_zip_in fun q => ?_
    have := List.nodup_append.mp (show (ps.take us.length ++ ps.drop us.length).Nodup by rw [List.take_append_drop]; exact nd)
    exact this.2.2 k q k hk rfl) _ (by
    intro k v ex sl h1 h2
    have : ps.contains k = true := List.contains_iff_mem.mpr h1
    simp only [this, Bool.true_or, if_true, h2]
    rfl)]
  simp only [pure_bind, hz]
  have e1 : seqItems? Value.none = pure none := rfl
  have e2 : decide (us.length > ps.length) = false := decide_eq_false (by omega)
  have e3 : List.filter (fun n => (List.lookup n (ps.zip (us ++ ws))).isNone) ps = [] := by
    rw [List.filter_eq_nil_iff]
    intro k hk
    rw [hsome k hk]; decide
  have e4 : List.filterMap (fun n => Option.map (n, ·) (List.lookup n (ps.zip (us ++ ws)))) ps = ps.zip (us ++ ws) :=
    binds_self nd (by simp; omega) _ fun k v h => hin k v h
  rw [e1]
  simp only [pure_bind, e2, Bool.false_and, Option.getD_none, Array.toList_empty, List.length_nil, List.drop_nil, Nat.sub_zero, List.take_length, e3, List.isEmpty_nil, Bool.not_true, List.zip_nil_right, List.append_nil]
  simp only [Bool.false_eq_true, if_false, List.forIn_nil, pure_bind, List.isEmpty_nil, Bool.not_true, e4]
end Ap
set_option Elab.async false
set_option linter.all false
set_option maxRecDepth 100000
set_option maxHeartbeats 4000000
namespace Ap
open PySem L2 PySem.W
/-! ### what the head tells of own exception classes -/
def parB (a : Arguments) (f : Str) : Bool := match a with
  | ⟨[], [⟨x, none, _⟩, ⟨y, none, _⟩], none, [], [], none, []⟩ => decide (x = Ee.selfS) && decide (y = f)
  | _ => false
theorem parB_ok {a : Arguments} {f : Str} (h : parB a f = true) : ∃ p0 p1, a = ⟨[], [⟨Ee.selfS, none, p0⟩, ⟨f, none, p1⟩], none, [], [], none, []⟩ := by
  unfold parB at h
  split at h
  · simp only [Bool.and_eq_true, decide_eq_true_eq] at h
    obtain ⟨rfl, rfl⟩ := h
    exact ⟨_, _, rfl⟩
  · cases h
def bdB (b : List Stmt) (f : Str) : Bool := match b with
  | [.Expr (.Call (.Attribute (.Call (.Name u _) [] [] _) v q2) [.Constant (.str _) _ _] [] q4) _, .Assign [.Attribute (.Name x _) g _] (.Name y _) _] =>
    decide (u = "super") && decide (v = "__init__") && (q2.endLine == q4.line) && decide (x = Ee.selfS) && decide (g = f) && decide (y = f)
  | _ => false
theorem bdB_ok {b : List Stmt} {f : Str} (h : bdB b f = true) : ∃ q0 q1 q2 q3 q4 q5 q6 q7 q8 q9 m k, (q2.endLine == q4.line) = true ∧ b = [.Expr (.Call (.Attribute (.Call (.Name "super" q0) [] [] q1) "__init__" q2) [.Constant (.str m) k q3] [] q4) q5, .Assign [.Attribute (.Name Ee.selfS q6) f q7] (.Name f q8) q9] := by
  unfold bdB at h
  split at h
  · simp only [Bool.and_eq_true, decide_eq_true_eq] at h
    obtain ⟨⟨⟨⟨⟨rfl, rfl⟩, h3⟩, rfl⟩, rfl⟩, rfl⟩ := h
    exact ⟨_, _, _, _, _, _, _, _, _, _, _, _, h3, rfl⟩
  · cases h
def isCellNK : NameKind → Bool
  | .cell => true
  | _ => false
def scI (sc : Scope) (f : Str) : Bool := isFn sc.kind && !sc.isCoroutine && !sc.isGenerator && (sc.names.lookup Ee.selfS == some .local) && (sc.names.lookup f == some .local) && (sc.names.lookup ("__class__" : Str) == some .free) && (sc.names.lookup ("super" : Str) == some .globalImplicit) && sc.names.all fun y => !isCellNK y.2
def initB (a : Arguments) (b : List Stmt) (sc : Scope) (f : Str) : Bool := parB a f && (bdB b f && scI sc f)
theorem initB_ok {a : Arguments} {b : List Stmt} {sc : Scope} {f : Str} (h : initB a b sc f = true) : Ee.InitT a b sc f := by
  unfold initB at h
  simp only [Bool.and_eq_true] at h
  obtain ⟨h1, h2, h3⟩ := h
  unfold scI at h3
  simp only [Bool.and_eq_true, Bool.not_eq_true'] at h3
  obtain ⟨⟨⟨⟨⟨⟨⟨a1, a2⟩, a3⟩, a4⟩, a5⟩, a6⟩, a7⟩, a8⟩ := h3
  refine ⟨parB_ok h1, bdB_ok h2, isFn_of a1, a2, a3, nk_beq a4, nk_beq a5, nk_beq a6, nk_beq a7, fun x hx q => ?_⟩
  have := List.all_eq_true.mp a8 x hx
  rw [q] at this
  cases this
def fileB (vs : Array Value) (file : Str) : Bool := match vs[2]? with
  | some (Value.str fl _) => decide (fl = file)
  | _ => false
theorem fileB_ok {vs : Array Value} {file : Str} (h : fileB vs file = true) : ∃ t, vs[2]? = some (Value.str file t) := by
  unfold fileB at h
  split at h
  · rename_i fl t e
    have := of_decide_eq_true h
    subst this
    exact ⟨t, e⟩
  · cases h
/-- the class's __init__ -/
def fnB (K : Frag) (file f : Str) (C : Addr) : Bool := match findIn K (.ref C) "__init__" with
  | some (some (.ref fI)) => decide (typeIn K (.ref fI) = some (.type "function")) && (match K.lookup fI with
    | some ⟨_, _, .func ⟨nm, qual, params, .stmts body, sc, gl, [(cn, cc)], .none, .none, _, _, _, .ref cda, _, bl⟩, _⟩ =>
      decide (nm = "__init__") && decide (cn = "__class__") && decide (gl = mainGlobals) && decide (bl = builtinsNs) && codeIn K (.ref cda) qual && initB params body sc f &&
      (match K.lookup cda with
        | some ⟨_, _, .fields vs, _⟩ => fileB vs file
        | _ => false) &&
      (match K.lookup cc with
        | some ⟨_, _, .cell (some (.ref C')), _⟩ => decide (C' = C)
        | _ => false)
    | _ => false)
  | _ => false
def exkB (K : Frag) (file f : Str) (C : Addr) : Bool := excInitIn K C Ee.exB "Exception.__new__" && excOver K C Ee.exB && hasDictIn K C && fnB K file f C && decide (ks_superIn K C C "__init__" = some (some (.builtin "Exception.__init__"))) && decide (nsIn K cStatics "thirdparty.any" = some none) &&
  decide (subIn K (.ref C) (.type "Exception") = some true) && decide (subIn K (.ref C) (.type "BaseException") = some true) && decide (typeIn K (.ref C) = some (.type "type")) && decide (mroIn K C (.ref C) = some true) && decide (findIn K (.ref C) "__setattr__" = some (some (.builtin "object.__setattr__"))) &&
  decide (takerIn K C f = some none) && decide (nsIn K mainGlobals "super" = some none) && !(f == Ee.selfS) && !(f == ("__debug__" : Str)) && !(f == ("super" : Str))
theorem exkB_ok {K : Frag} {P : Program} {file f : Str} {C : Addr} (h : exkB K file f C = true) (hf : P.main.file = file) (ht : (P.main.scope.names.lookup ("super" : Str)).isSome = false) : Ee.ExK K P C f := by
  unfold exkB at h
  simp only [Bool.and_eq_true, decide_eq_true_eq, Bool.not_eq_true'] at h
  obtain ⟨⟨⟨⟨⟨⟨⟨⟨⟨⟨⟨⟨⟨⟨⟨a1, a2⟩, a3⟩, a4⟩, a5⟩, a6⟩, a7⟩, a8⟩, a9⟩, b1⟩, b2⟩, b3⟩, b4⟩, b5⟩, b6⟩, b7⟩ := h
  refine ⟨a1, a2, a3, ?_, ht, a5, a6, a7, a8, a9, b1, b2, b3, b4, b5, b6, b7⟩
  unfold fnB at a4
  split at a4
  case h_2 => cases a4
  rename_i fI hfi
  simp only [Bool.and_eq_true, decide_eq_true_eq] at a4
  obtain ⟨c1, c2⟩ := a4
  split at c2
  case h_2 => cases c2
  rename_i oc od nm qual params body sc gl cn cc doc pm an cda ct bl osl hl
  simp only [Bool.and_eq_true, decide_eq_true_eq] at c2
  obtain ⟨⟨⟨⟨⟨⟨⟨rfl, rfl⟩, rfl⟩, rfl⟩, d1⟩, d2⟩, d3⟩, d4⟩ := c2
  split at d3
  case h_2 => cases d3
  rename_i ccl cdd vs ccs hcda
  obtain ⟨tf, hvs⟩ := fileB_ok d3
  split at d4
  case h_2 => cases d4
  rename_i cl cld C' csl hcc
  have d4 := of_decide_eq_true d4
  subst d4
  exact ⟨fI, cc, cda, qual, params, body, sc, doc, pm, ct, oc, ccl, cl, an, od, cdd, cld, osl, ccs, csl, vs, file, tf, hfi, c1, hl, d1, hcda, hvs, by rw [hf]; exact beq_self_eq_true _, hcc, initB_ok d2⟩
def exsB (K : Frag) (file : Str) (xs : List (Str × Str)) : Bool := xs.all fun c => eqO (nsIn K mainGlobals c.1) (some (some (.ref (He.ga K c.1)))) && (keepIn K (.ref (He.ga K c.1)) && (exkB K file c.2 (He.ga K c.1) && (xfB K (He.ga K c.1) && (decide (findIn K (.ref (He.ga K c.1)) c.2 = some none) && xs.all fun d => decide (exmOne K (.ref (He.ga K c.1)) (.ref (He.ga K d.1)) = some (decide (c.1 = d.1)))))))
where eqO (a b : Option (Option Value)) : Bool := decide (a = b)
theorem look_mem {xs : List (Str × Str)} {C f : Str} (h : xs.lookup C = some f) : (C, f) ∈ xs := by
  induction xs with
  | nil => simp at h
  | cons p r ih =>
    obtain ⟨a, b⟩ := p
    rw [List.lookup_cons] at h
    split at h
    · rename_i q
      cases h
      have : C = a := by simpa using q
      subst this; simp
    · exact List.mem_cons_of_mem _ (ih h)
theorem exsB_ok {K : Frag} {P : Program} {h : Heap} {mg : Str → Option Value} {file : Str} {xs : List (Str × Str)} (X : K.In h) (G : h.Ns mainGlobals mg) (hb : exsB K file xs = true) (hf : P.main.file = file) (ht : (P.main.scope.names.lookup ("super" : Str)).isSome = false) :
    (∀ C f, xs.lookup C = some f → ExIs K P mg C f) ∧ ∀ A B, (xs.lookup A).isSome = true → (xs.lookup B).isSome = true → exmOne K (.ref (He.ga K A)) (.ref (He.ga K B)) = some (decide (A = B)) := by
  unfold exsB at hb
  have one := fun c (hc : c ∈ xs) => List.all_eq_true.mp hb c hc
  refine ⟨fun C f hc => ?_, fun A B ha hb => ?_⟩
  · have := one _ (look_mem hc)
    simp only [Bool.and_eq_true, decide_eq_true_eq] at this
    obtain ⟨q1, q2, q3, q4, q5, _⟩ := this
    exact ⟨mg_of X G (of_decide_eq_true q1), q2, exkB_ok q3 hf ht, xfB_ok q4, q5⟩
  · obtain ⟨f, hc⟩ := Option.isSome_iff_exists.mp ha
    obtain ⟨g, hd⟩ := Option.isSome_iff_exists.mp hb
    have := one _ (look_mem hc)
    simp only [Bool.and_eq_true, decide_eq_true_eq] at this
    exact of_decide_eq_true (List.all_eq_true.mp this.2.2.2.2.2 _ (look_mem hd))
/-! ### the Hook -/
open He in
def obsX (fa : List Fa) (fn : List DefD) (file : Str) (xs : List (Str × Str)) (K : Frag) : AlD := ((obsD fa fn K).1 && exsB K file xs, (obsD fa fn K).2)
def SaysX (fa : List He.Fa) (fn : List He.DefD) (file : Str) (xs : List (Str × Str)) (K : Frag) : Prop := obsX fa fn file xs K = He.valD fn
theorem SaysX.d {fa : List He.Fa} {fn : List He.DefD} {file : Str} {xs : List (Str × Str)} {K : Frag} (c : SaysX fa fn file xs K) : He.SaysD fa fn K ∧ exsB K file xs = true := by
  have c1 : ((He.obsD fa fn K).1 && exsB K file xs) = true := congrArg (fun z : He.AlD => z.1) c
  have c3 : obsX fa fn file xs K = He.valD fn := c
  have c2 : (obsX fa fn file xs K).2 = (He.valD fn).2 := by rw [c3]
  simp only [Bool.and_eq_true] at c1
  exact ⟨Prod.ext c1.1 c2, c1.2⟩
def asX (g : Addr → Option PySem.Obj) (n : Nat) : List Addr := He.asD g n ++ [cStatics]
def obsXG (n : Nat) (fa : List He.Fa) (fn : List He.DefD) (file : Str) (xs : List (Str × Str)) (g : Addr → Option PySem.Obj) : He.AlD := obsX fa fn file xs (He.frG g (asX g n))
def hookX (n : Nat) (fa : List He.Fa) (fn : List He.DefD) (file : Str) (xs : List (Str × Str)) : Hook where
  α := He.AlD
  obs := fun s => obsXG n fa fn file xs s.heap.get?
  val := fun _ => He.valD fn
  says := fun _ h => ∃ K : Frag, K.In h ∧ SaysX fa fn file xs K
  of := fun _ _ e => ⟨_, He.frG_in, e⟩
  keeps := fun _ _ _ ⟨K, hK, c⟩ k => ⟨K, Frag.In.keeps hK k, c⟩
theorem obsXG_eq {n : Nat} {fa : List He.Fa} {fn : List He.DefD} {file : Str} {xs : List (Str × Str)} {g : Addr → Option PySem.Obj} {s : Shared} (h : ∀ a, g a = s.heap.get? a) : obsXG n fa fn file xs g = (hookX n fa fn file xs).obs s := by
  have e : g = s.heap.get? := funext h
  rw [e]; rfl
end Ap
set_option Elab.async false
set_option linter.all false
set_option maxRecDepth 100000
set_option maxHeartbeats 4000000
namespace Ap
open PySem L2
/-! ### a text's table -/
structure Ent where
  name : Str
  ps : List Str
  N : List Str
  fn : Fn
  st : Stmt
def Ent.defD (e : Ent) : He.DefD := ⟨(e.name, none), e.name, e.name, defArgs e.st, defBody e.st, defScope e.st, [], []⟩
def isFreeNK : NameKind → Bool
  | .free => true
  | _ => false
def scB (N ps : List Str) (sc : Scope) : Bool := isFn sc.kind && !sc.isCoroutine && !sc.isGenerator && decide N.Nodup && decide (N.take ps.length = ps) &&
  ps.all (fun x => match sc.names.lookup x with
    | some .local => true
    | some .cell => true
    | _ => false) && sc.names.all (fun y => !isFreeNK y.2)
theorem scB_ok {N ps : List Str} {sc : Scope} (h : scB N ps sc = true) : FnScope N ps sc := by
  simp only [scB, Bool.and_eq_true, Bool.not_eq_true', decide_eq_true_eq] at h
  obtain ⟨⟨⟨⟨⟨⟨h1, h2⟩, h3⟩, h4⟩, h5⟩, h6⟩, h7⟩ := h
  refine ⟨isFn_of h1, h2, h3, h4, h5, fun x hx => ?_, fun y hy => ?_⟩
  · have := List.all_eq_true.mp h6 x hx
    split at this
    · exact .inl ‹_›
    · exact .inr ‹_›
    · cases this
  · have := List.all_eq_true.mp h7 y hy
    intro q
    rw [q] at this
    cases this
def Ent.ok (s : Sig) (e : Ent) : Bool := chkSs s ⟨e.N, defScope e.st, fun _ => true⟩ (defBody e.st) e.fn.body && plainPs (defArgs e.st) e.ps && decide e.ps.Nodup && scB e.N e.ps (defScope e.st) && decide (e.fn.ps = e.ps.length) && decide (e.fn.ns = e.N.length)
inductive Cn where
  | int (i : Int)
  | str (x : Str)
def Cn.d : Cn → D
  | .int i => .int i
  | .str x => .str x
def Cn.fa (x : Str) : Cn → He.Fa
  | .int i => .int x i
  | .str z => .str x z
def Cn.ok : Cn → Bool
  | .int _ => true
  | .str z => decide (z.length ≤ line) && z.cps.all (· < 0x110000)
structure Text where
  ents : List Ent
  cns : List (Str × Cn)
  bs : List Str
  fuel : Nat := 0
  exs : List (Str × Str) := []
  file : Str := ""
def Text.tb (t : Text) : Tb := ⟨t.cns.map fun c => (c.1, c.2.d), t.ents.map fun e => (e.name, e.fn), t.fuel, t.exs⟩
def Text.sg (t : Text) : Sig := ⟨t.ents.map fun e => (e.name, e.ps), t.bs⟩
def Text.fn (t : Text) : List He.DefD := t.ents.map Ent.defD
def Text.fa (t : Text) : List He.Fa := (t.ents.map fun e => He.Fa.glo e.name) ++ ((t.cns.map fun c => c.2.fa c.1) ++ t.bs.map He.Fa.free)
def Text.ok (t : Text) : Bool := t.ents.all (Ent.ok t.sg) && t.cns.all fun c => c.2.ok
theorem look_map {α β γ : Type} {f : α → β} {g : α → γ} {nm : α → Str} : ∀ {l : List α} {x : Str} {b : β}, (l.map fun e => (nm e, f e)).lookup x = some b → ∃ e ∈ l, nm e = x ∧ f e = b ∧ (l.map fun e => (nm e, g e)).lookup x = some (g e)
  | [], _, _, h => by simp at h
  | a :: l, x, b, h => by
    simp only [List.map_cons, List.lookup_cons] at h ⊢
    split at h
    · rename_i q
      have e : x = nm a := by simpa using q
      exact ⟨a, by simp, e.symm, by simpa using h, rfl⟩
    · rename_i q
      obtain ⟨e, h1, h2, h3, h4⟩ := look_map (f := f) (g := g) h
      exact ⟨e, by simp [h1], h2, h3, h4⟩
theorem fact_mem {fa : List He.Fa} {fn : List He.DefD} {K : PySem.W.Frag} (c : He.SaysD fa fn K) {f : He.Fa} (h : f ∈ fa) : f.ok K = true := by
  obtain ⟨i, hi⟩ := List.mem_iff_getElem?.mp h
  exact c.fact i hi
theorem def_mem {fa : List He.Fa} {fn : List He.DefD} {K : PySem.W.Frag} (c : He.SaysD fa fn K) {d : He.DefD} (h : d ∈ fn) : ∃ fd, FunD K d.name d.qual d.params d.body d.scope (d.dvs K) (d.kws K) (He.fAd K d.at_) fd := by
  obtain ⟨i, hi⟩ := List.mem_iff_getElem?.mp h
  exact c.def_ i hi
theorem text_lib {P : Program} {t : Text} {K : PySem.W.Frag} {h : Heap} {mg : Str → Option Value} (ok : t.ok = true) (X : K.In h) (G : h.Ns mainGlobals mg) (cx : SaysX t.fa t.fn t.file t.exs K) (hf : P.main.file = t.file) (ht : (P.main.scope.names.lookup ("super" : Str)).isSome = false) : Lib P K mg t.sg t.tb := by
  obtain ⟨c, ce⟩ := cx.d
  obtain ⟨e1, e2⟩ := exsB_ok X G ce hf ht
  simp only [Text.ok, Bool.and_eq_true] at ok
  have glo : ∀ e ∈ t.ents, mg e.name = some (.ref (He.ga K e.name)) := fun e he =>
    He.glo_ok X G (fact_mem c (List.mem_append_left _ (List.mem_map.mpr ⟨e, he, rfl⟩)))
  refine ⟨fun x d hx => ?_, fun x hx => ?_, fun f ps hf => ?_, fun x hx => ?_, e1, e2⟩
  · obtain ⟨e, h1, rfl, rfl, _⟩ := look_map (f := fun c : Str × Cn => c.2.d) (g := fun c : Str × Cn => c.2.d) (nm := fun c : Str × Cn => c.1) hx
    have hf := fact_mem c (f := e.2.fa e.1) (List.mem_append_right _ (List.mem_append_left _ (List.mem_map.mpr ⟨e, h1, rfl⟩)))
    have ho := List.all_eq_true.mp ok.2 e h1
    obtain ⟨x, cn⟩ := e
    cases cn with
    | int i =>
      obtain ⟨tk, q⟩ := He.int_ok X G hf
      exact ⟨_, .int i, q, ⟨tk, rfl⟩, fun H => by show RD K H (.int i) (.int i); simp only [RD]⟩
    | str z =>
      obtain ⟨tk, q⟩ := He.str_ok X G hf
      simp only [Cn.ok, Bool.and_eq_true, decide_eq_true_eq] at ho
      exact ⟨_, .str z, q, ⟨tk, rfl⟩, fun H => by show RD K H (.str z) (.str z); unfold RD; exact ⟨rfl, by rw [← line_eq]; exact ho.1, ho.2⟩⟩
  · obtain ⟨d, hd⟩ := Option.isSome_iff_exists.mp hx
    obtain ⟨e, h1, rfl, _, _⟩ := look_map (f := fun e : Ent => e.fn) (g := fun e : Ent => e.fn) (nm := fun e : Ent => e.name) hd
    exact glo e h1
  · obtain ⟨e, h1, rfl, rfl, h2⟩ := look_map (f := fun e : Ent => e.ps) (g := fun e : Ent => e.fn) (nm := fun e : Ent => e.name) hf
    have he := List.all_eq_true.mp ok.1 e h1
    simp only [Ent.ok, Bool.and_eq_true, decide_eq_true_eq] at he
    obtain ⟨⟨⟨⟨⟨q1, q2⟩, q3⟩, q4⟩, q5⟩, q6⟩ := he
    obtain ⟨fd, F⟩ := def_mem c (d := e.defD) (List.mem_map.mpr ⟨e, h1, rfl⟩)
    exact ⟨glo e h1, e.fn, fd, e.name, e.name, defArgs e.st, defBody e.st, defScope e.st, e.N, h2, F, scB_ok q4, q1, q5, q6, bnd_of F q2 q3⟩
  · exact He.free_ok X G (fact_mem c (List.mem_append_right _ (List.mem_append_right _ (List.mem_map.mpr ⟨x, List.contains_iff_mem.mp hx, rfl⟩))))
theorem cx_none {P : Program} {w : World} {outer : List PySem.Env} {H : Hp} {s : Shared} {e : Value} {s' : Shared} (h : L2.CX P w outer H s (fun _ _ _ => False) e s') : False := by
  obtain ⟨_, _, _, _, _, _, _, _, _, _, _, _, h⟩ := h
  exact h
theorem fn_nox {P : Program} {w : World} {K : PySem.W.Frag} {mg : Str → Option Value} {base : Heap} {k : Nat} {f : Addr} {fd : FuncData} {ps : List Str} {sp : Sp} (F : FnOk P w K mg base (L2.CX P w) k f fd ps sp) :
    FnOk P w K mg base (fun _ _ _ _ _ _ => False) k f fd ps (fun vs H Q _ => sp vs H Q fun _ _ _ => False) :=
  ⟨fun vs H Q E h => F.len vs H Q _ h, fun A outer s H args us vs Q E hr e0 hb hv h => codeAny_mono (F.run A outer s H args us vs Q _ hr e0 hb hv h) fun r s' q => by
    cases r with
    | error e => exact cx_none q
    | ok fl =>
      cases fl with
      | ret u => exact q
      | next => exact q
      | brk => exact q
      | cont => exact q⟩
/-- what the law's def promises -/
theorem law_facts {P : Program} {t : Text} {n : Nat} {K : PySem.W.Frag} {h : Heap} {mg : Str → Option Value} {l x : Str} (ok : t.ok = true) (hl : t.sg.fns.lookup l = some [x]) (X : K.In h) (G : h.Ns mainGlobals mg) (c : SaysX t.fa t.fn t.file t.exs K) {fa : Addr} (hfa : mg l = some (.ref fa))
    (hf : P.main.file = t.file) (ht : (P.main.scope.names.lookup ("super" : Str)).isSome = false) (mirror : ∀ ns : List Int, ns.length ≤ 63 → ∃ S', callF t.tb n l [.scr ns] [] = .ok (vB true) S') :
    ∃ (fd : FuncData) (sp : Sp), (∀ (s : Shared) (u : Value), BindsTo s fd ⟨[u], []⟩ [(x, u)]) ∧ (∀ (H : Hp) (a : Addr) (ns : List Int), ns.length ≤ 63 → Only H → SqL K H a (ns.map V.int) → sp [.ref a] H (fun v _ => v = .bl true) fun _ _ _ => False) ∧
      ∀ (w : World) (base : Heap), FnOk P w K mg base (fun _ _ _ _ _ _ => False) (n + 1) fa fd [x] sp := by
  obtain ⟨a1, a2, fd, b, F⟩ := defs_ok (text_lib (P := P) ok X G c hf ht) n l [x] hl
  have e := hfa.symm.trans a1
  cases e
  refine ⟨fd, _, fun s u => b s [u] [] rfl, fun H a ns hn hO hS => ?_, fun w base => fn_nox (F w base)⟩
  obtain ⟨S', hm⟩ := mirror ns hn
  have hs : ns.length ≤ sizeLine := Nat.le_trans hn (by decide)
  refine ⟨[], [], [.scr ns], ⟨rfl, .nil, fun i a o h => by simp at h⟩, ?_, ?_⟩
  · simp only [RVs, RV]
    refine ⟨_, [], rfl, ⟨a, rfl, hs, ?_⟩, rfl⟩
    rcases hS with (h | ⟨o, h⟩) | h
    · rcases hO a with q | ⟨o, xs, q⟩
      · rw [h] at q; cases q
      · rw [h] at q; cases q
    · exact .inr ⟨o, h⟩
    · exact .inl fun H2 => .inr h
  · rw [hm]
    intro v H' μ' _ _ ⟨r, _⟩
    simpa only [RT, RV, RD, vB] using r
end Ap
set_option Elab.async false
set_option linter.all false
set_option maxRecDepth 100000
set_option maxHeartbeats 0
namespace Lw
open PySem L2 Ap
def top (i : Nat) : Stmt := PySem.Challenge.pw_eachsecond_k07_whole_seconds_in_bands.main.body.getD i (.Pass ⟨0, 0, 0, 0⟩)
def f_is_integer : Fn := ⟨1, 1,
    (.cons (.ret (.and (.cons (.isi (.v 0) [.int]) (.cons (.no (.isi (.v 0) [.bool])) .nil))))
    .nil)⟩
def f_is_within : Fn := ⟨3, 3,
    (.cons (.ret (.and (.cons (.call "is_integer" (.cons (.v 0) .nil) .nil) (.cons (.cmp2 .le .le (.v 1) (.v 0) (.v 2)) .nil))))
    .nil)⟩
def f_is_second : Fn := ⟨1, 1,
    (.cons (.ret (.call "is_within" (.cons (.v 0) (.cons (.c (.int 0)) (.cons (.g "MOST_SECOND") .nil))) .nil))
    .nil)⟩
def f_is_row : Fn := ⟨3, 3,
    (.cons (.ret (.and (.cons (.isi (.v 0) [.tuple]) (.cons (.cmp2 .le .le (.v 1) (.bi .len (.cons (.v 0) .nil)) (.v 2)) .nil))))
    .nil)⟩
def f_is_word : Fn := ⟨1, 2,
    (.cons (.ret (.and (.cons (.isi (.v 0) [.str]) (.cons (.cmp2 .le .le (.c (.int 1)) (.bi .len (.cons (.v 0) .nil)) (.g "MOST_LETTERS")) (.cons (.bi .all (.cons (.lc (.cmp .isin (.v 1) (.g "LETTERS")) [1] (.nm 1) (.e (.v 0)) .nil) .nil)) .nil)))))
    .nil)⟩
def f_ascending : Fn := ⟨1, 2,
    (.cons (.ret (.bi .all (.cons (.lc (.cmp .lt (.ix (.v 0) (.v 1)) (.ix (.v 0) (.bin .add (.v 1) (.c (.int 1))))) [1] (.nm 1) (.rg1 (.bin .sub (.bi .len (.cons (.v 0) .nil)) (.c (.int 1)))) .nil) .nil)))
    .nil)⟩
def f_frozen : Fn := ⟨1, 2,
    (.cons (.if_ (.isi (.v 0) [.list, .tuple])
    (.cons (.ret (.bi .tuple (.cons (.lc (.call "frozen" (.cons (.v 1) .nil) .nil) [1] (.nm 1) (.e (.v 0)) .nil) .nil)))
    .nil)
    .nil)
    (.cons (.ret (.v 0))
    .nil))⟩
def f_is_pair : Fn := ⟨1, 1,
    (.cons (.ret (.and (.cons (.call "is_row" (.cons (.v 0) (.cons (.c (.int 2)) (.cons (.c (.int 2)) .nil))) .nil) (.cons (.call "is_within" (.cons (.ix (.v 0) (.c (.int 0))) (.cons (.c (.int 0)) (.cons (.bin .sub (.g "DAY") (.c (.int 1))) .nil))) .nil) (.cons (.call "is_word" (.cons (.ix (.v 0) (.c (.int 1))) .nil) .nil) .nil)))))
    .nil)⟩
def f_is_day : Fn := ⟨1, 4,
    (.cons (.if_ (.or (.cons (.no (.call "is_row" (.cons (.v 0) (.cons (.c (.int 1)) (.cons (.g "MOST_PAIRS") .nil))) .nil)) (.cons (.no (.bi .all (.cons (.lc (.call "is_pair" (.cons (.v 1) .nil) .nil) [1] (.nm 1) (.e (.v 0)) .nil) .nil))) .nil)))
    (.cons (.ret (.c (.bl false)))
    .nil)
    .nil)
    (.cons (.ret (.and (.cons (.cmp .eq (.ix (.ix (.v 0) (.c (.int 0))) (.c (.int 0))) (.c (.int 0))) (.cons (.call "ascending" (.cons (.lc (.v 2) [2, 3] (.tp (.cons (.nm 2) (.cons (.nm 3) .nil))) (.e (.v 0)) .nil) .nil) .nil) .nil))))
    .nil))⟩
def f_are_feasts : Fn := ⟨1, 2,
    (.cons (.if_ (.or (.cons (.no (.call "is_row" (.cons (.v 0) (.cons (.c (.int 0)) (.cons (.g "MOST_FEASTS") .nil))) .nil)) (.cons (.no (.bi .all (.cons (.lc (.call "is_within" (.cons (.v 1) (.cons (.c (.int 0)) (.cons (.g "MOST_FEAST") .nil))) .nil) [1] (.nm 1) (.e (.v 0)) .nil) .nil))) .nil)))
    (.cons (.ret (.c (.bl false)))
    .nil)
    .nil)
    (.cons (.ret (.call "ascending" (.cons (.v 0) .nil) .nil))
    .nil))⟩
def f_is_shape : Fn := ⟨1, 2,
    (.cons (.if_ (.or (.cons (.no (.call "is_row" (.cons (.v 0) (.cons (.c (.int 2)) (.cons (.c (.int 2)) .nil))) .nil)) (.cons (.no (.call "is_row" (.cons (.ix (.v 0) (.c (.int 0))) (.cons (.g "DAYS") (.cons (.g "DAYS") .nil))) .nil)) (.cons (.no (.bi .all (.cons (.lc (.call "is_day" (.cons (.v 1) .nil) .nil) [1] (.nm 1) (.e (.ix (.v 0) (.c (.int 0)))) .nil) .nil))) .nil))))
    (.cons (.ret (.c (.bl false)))
    .nil)
    .nil)
    (.cons (.ret (.call "are_feasts" (.cons (.ix (.v 0) (.c (.int 1))) .nil) .nil))
    .nil))⟩
def f_day_of : Fn := ⟨2, 2,
    (.cons (.ret (.ix (.ix (.v 0) (.c (.int 0))) (.ife (.cmp .isin (.v 1) (.ix (.v 0) (.c (.int 1)))) (.g "WEEK") (.bin .mod (.v 1) (.g "WEEK")))))
    .nil)⟩
def f_day_parts : Fn := ⟨2, 9,
    (.cons (.as 2 (.call "day_of" (.cons (.v 0) (.cons (.v 1) .nil)) .nil))
    (.cons (.as 3 (.bin .mul (.v 1) (.g "DAY")))
    (.cons (.as 4 (.bin .add (.lc (.v 6) [6, 7] (.tp (.cons (.nm 6) (.cons (.nm 7) .nil))) (.e (.sl (.v 2) (.so (.c (.int 1))) .no)) .nil) (.lst (.cons (.g "DAY") .nil))))
    (.cons (.ret (.lc (.tup (.cons (.bin .add (.v 3) (.v 6)) (.cons (.bin .add (.v 3) (.v 5)) (.cons (.v 8) .nil)))) [5, 6, 8] (.tp (.cons (.tp (.cons (.nm 6) (.cons (.nm 8) .nil))) (.cons (.nm 5) .nil))) (.zip (.v 2) (.v 4)) .nil))
    .nil))))⟩
def f_parts_of : Fn := ⟨3, 8,
    (.cons (.as 3 (.lst .nil))
    (.cons (.for_ (.nm 4) (.rg2 (.bin .fdiv (.v 1) (.g "DAY")) (.bin .add (.bin .fdiv (.bin .sub (.v 2) (.c (.int 1))) (.g "DAY")) (.c (.int 1))))
    (.cons (.for_ (.tp (.cons (.nm 5) (.cons (.nm 6) (.cons (.nm 7) .nil)))) (.e (.call "day_parts" (.cons (.v 0) (.cons (.v 4) .nil)) .nil))
    (.cons (.if_ (.cmp .lt (.bi .max2 (.cons (.v 5) (.cons (.v 1) .nil))) (.bi .min2 (.cons (.v 6) (.cons (.v 2) .nil))))
    (.cons (.app (.v 3) (.tup (.cons (.bi .max2 (.cons (.v 5) (.cons (.v 1) .nil))) (.cons (.bi .min2 (.cons (.v 6) (.cons (.v 2) .nil))) (.cons (.v 7) .nil)))))
    .nil)
    .nil)
    .nil))
    .nil))
    (.cons (.ret (.v 3))
    .nil)))⟩
def f_taken_week : Fn := ⟨2, 3,
    (.cons (.as 2 (.call "frozen" (.cons (.v 0) .nil) .nil))
    (.cons (.if_ (.no (.call "is_shape" (.cons (.v 2) .nil) .nil))
    (.cons (.rais "BadValue" (.v 1))
    .nil)
    .nil)
    (.cons (.ret (.v 2))
    .nil)))⟩
def f_need_second : Fn := ⟨2, 2,
    (.cons (.if_ (.no (.call "is_second" (.cons (.v 0) .nil) .nil))
    (.cons (.rais "BadValue" (.v 1))
    .nil)
    .nil)
    .nil)⟩
def f_seconds_in : Fn := ⟨4, 8,
    (.cons (.as 4 (.call "taken_week" (.cons (.v 0) (.cons (.c (.int 0)) .nil)) .nil))
    (.cons (.ex (.call "need_second" (.cons (.v 1) (.cons (.c (.int 1)) .nil)) .nil))
    (.cons (.ex (.call "need_second" (.cons (.v 2) (.cons (.c (.int 2)) .nil)) .nil))
    (.cons (.if_ (.no (.call "is_word" (.cons (.v 3) .nil) .nil))
    (.cons (.rais "BadValue" (.c (.int 3)))
    .nil)
    .nil)
    (.cons (.ret (.bi .sum (.cons (.lc (.bin .sub (.v 6) (.v 5)) [5, 6, 7] (.tp (.cons (.nm 5) (.cons (.nm 6) (.cons (.nm 7) .nil)))) (.e (.call "parts_of" (.cons (.v 4) (.cons (.v 1) (.cons (.v 2) .nil))) .nil)) (.cons (.cmp .eq (.v 7) (.v 3)) .nil)) .nil)))
    .nil)))))⟩
def f_law_so : Fn := ⟨2, 3,
    (.cons (.if_ (.cmp .is (.v 1) (.c .non))
    (.cons (.ret (.cmp .is (.v 0) (.c .non)))
    .nil)
    .nil)
    (.cons (.if_ (.isi (.v 1) [.tuple])
    (.cons (.if_ (.or (.cons (.no (.isi (.v 0) [.tuple])) (.cons (.cmp .ne (.bi .len (.cons (.v 0) .nil)) (.bi .len (.cons (.v 1) .nil))) .nil)))
    (.cons (.ret (.c (.bl false)))
    .nil)
    .nil)
    (.cons (.for_ (.nm 2) (.rg1 (.bi .len (.cons (.v 1) .nil)))
    (.cons (.if_ (.no (.call "_law_so" (.cons (.ix (.v 0) (.v 2)) (.cons (.ix (.v 1) (.v 2)) .nil)) .nil))
    (.cons (.ret (.c (.bl false)))
    .nil)
    .nil)
    .nil))
    (.cons (.ret (.c (.bl true)))
    .nil)))
    .nil)
    (.cons (.if_ (.or (.cons (.isi (.v 1) [.bool]) (.cons (.isi (.v 0) [.bool]) .nil)))
    (.cons (.ret (.and (.cons (.isi (.v 1) [.bool]) (.cons (.isi (.v 0) [.bool]) (.cons (.cmp .eq (.v 0) (.v 1)) .nil)))))
    .nil)
    .nil)
    (.cons (.if_ (.isi (.v 1) [.int])
    (.cons (.ret (.and (.cons (.isi (.v 0) [.int]) (.cons (.cmp .eq (.v 0) (.v 1)) .nil))))
    .nil)
    .nil)
    (.cons (.ret (.and (.cons (.isi (.v 1) [.str]) (.cons (.isi (.v 0) [.str]) (.cons (.cmp .eq (.v 0) (.v 1)) .nil)))))
    .nil)))))⟩
def f_law_numbers : Fn := ⟨1, 6,
    (.cons (.as 1 (.lst .nil))
    (.cons (.for_ (.nm 2) (.e (.sl (.v 0) .no (.so (.c (.int 63)))))
    (.cons (.if_ (.cmp .ge (.v 2) (.bin .pow (.c (.int 10)) (.c (.int 18))))
    (.cons (.as 3 (.v 2))
    (.cons (.for_ (.nm 4) (.rg1 (.c (.int 60)))
    (.cons (.if_ (.cmp .eq (.v 3) (.c (.int 0)))
    (.cons .brk
    .nil)
    .nil)
    (.cons (.app (.v 1) (.bin .mod (.bi .int (.cons (.v 3) .nil)) (.c (.int 997))))
    (.cons (.as 3 (.bin .fdiv (.v 3) (.c (.int 997))))
    .nil))))
    .nil))
    (.cons (.for_ (.nm 4) (.rg1 (.c (.int 4)))
    (.cons (.as 5 (.bin .mod (.bi .int (.cons (.bin .add (.bin .add (.bin .mul (.v 2) (.c (.int 48271))) (.bin .mul (.v 4) (.c (.int 69621)))) (.c (.int 11))) .nil)) (.c (.int 2147483647))))
    (.cons (.app (.v 1) (.bin .mod (.bi .int (.cons (.bin .add (.bin .mul (.v 5) (.c (.int 16807))) (.v 4)) .nil)) (.c (.int 2147483629))))
    .nil)))
    .nil))
    .nil))
    (.cons (.if_ (.cmp .eq (.bi .len (.cons (.v 1) .nil)) (.c (.int 0)))
    (.cons (.app (.v 1) (.c (.int 0)))
    .nil)
    .nil)
    (.cons (.ret (.v 1))
    .nil))))⟩
def f_law_draw : Fn := ⟨3, 4,
    (.cons (.if_ (.cmp .lt (.v 1) (.bi .len (.cons (.v 0) .nil)))
    (.cons (.ret (.bin .mod (.bi .int (.cons (.ix (.v 0) (.v 1)) .nil)) (.v 2)))
    .nil)
    .nil)
    (.cons (.as 3 (.bin .mod (.bi .int (.cons (.bin .add (.bin .add (.bin .mul (.ix (.v 0) (.bin .mod (.bi .int (.cons (.v 1) .nil)) (.bi .len (.cons (.v 0) .nil)))) (.c (.int 40692))) (.bin .mul (.v 1) (.c (.int 7919)))) (.c (.int 3))) .nil)) (.c (.int 2147483399))))
    (.cons (.ret (.bin .mod (.bi .int (.cons (.bin .mod (.bi .int (.cons (.bin .add (.bin .mul (.v 3) (.c (.int 48271))) (.v 1)) .nil)) (.c (.int 2147483647))) .nil)) (.v 2)))
    .nil)))⟩
def f_law_take : Fn := ⟨3, 3,
    (.cons (.ix (.v 1) (.c (.int 0)) (.bin .add (.ix (.v 1) (.c (.int 0))) (.c (.int 1))))
    (.cons (.ret (.call "_law_draw" (.cons (.v 0) (.cons (.bin .sub (.ix (.v 1) (.c (.int 0))) (.c (.int 1))) (.cons (.v 2) .nil))) .nil))
    .nil))⟩
def f_law_wide : Fn := ⟨3, 6,
    (.cons (.as 3 (.call "_law_take" (.cons (.v 0) (.cons (.v 1) (.cons (.c (.int 997)) .nil))) .nil))
    (.cons (.as 4 (.call "_law_take" (.cons (.v 0) (.cons (.v 1) (.cons (.c (.int 997)) .nil))) .nil))
    (.cons (.as 5 (.call "_law_take" (.cons (.v 0) (.cons (.v 1) (.cons (.c (.int 997)) .nil))) .nil))
    (.cons (.ret (.bin .mod (.bi .int (.cons (.bin .add (.bin .add (.bin .mul (.v 3) (.c (.int 994009))) (.bin .mul (.v 4) (.c (.int 997)))) (.v 5)) .nil)) (.v 2)))
    .nil))))⟩
def f_law_listed : Fn := ⟨1, 2,
    (.cons (.if_ (.isi (.v 0) [.tuple])
    (.cons (.ret (.lc (.call "_law_listed" (.cons (.v 1) .nil) .nil) [1] (.nm 1) (.e (.v 0)) .nil))
    .nil)
    .nil)
    (.cons (.ret (.v 0))
    .nil))⟩
def f_law_either : Fn := ⟨3, 5,
    (.cons (.if_ (.isi (.v 2) [.tuple])
    (.cons (.as 3 (.lc (.call "_law_either" (.cons (.v 0) (.cons (.v 1) (.cons (.v 4) .nil))) .nil) [4] (.nm 4) (.e (.v 2)) .nil))
    (.cons (.ret (.ife (.cmp .eq (.call "_law_take" (.cons (.v 0) (.cons (.v 1) (.cons (.c (.int 2)) .nil))) .nil) (.c (.int 0))) (.v 3) (.bi .tuple (.cons (.v 3) .nil))))
    .nil))
    .nil)
    (.cons (.ret (.v 2))
    .nil))⟩
def f_law_handed : Fn := ⟨3, 4,
    (.cons (.as 3 (.call "_law_take" (.cons (.v 0) (.cons (.v 1) (.cons (.c (.int 3)) .nil))) .nil))
    (.cons (.if_ (.cmp .eq (.v 3) (.c (.int 2)))
    (.cons (.ret (.call "_law_either" (.cons (.v 0) (.cons (.v 1) (.cons (.v 2) .nil))) .nil))
    .nil)
    .nil)
    (.cons (.ret (.ife (.cmp .eq (.v 3) (.c (.int 0))) (.call "_law_listed" (.cons (.v 2) .nil) .nil) (.v 2)))
    .nil)))⟩
def f_law_pick : Fn := ⟨3, 3,
    (.cons (.ret (.ix (.v 2) (.call "_law_take" (.cons (.v 0) (.cons (.v 1) (.cons (.bi .len (.cons (.v 2) .nil)) .nil))) .nil)))
    .nil)⟩
def f_law_day_row : Fn := ⟨2, 2,
    (.cons (.ret (.ix (.ix (.v 0) (.c (.int 0))) (.ife (.cmp .isin (.v 1) (.ix (.v 0) (.c (.int 1)))) (.c (.int 7)) (.bin .sub (.v 1) (.bin .mul (.bin .fdiv (.v 1) (.c (.int 7))) (.c (.int 7)))))))
    .nil)⟩
def f_law_band : Fn := ⟨2, 5,
    (.cons (.as 2 (.c .non))
    (.cons (.for_ (.tp (.cons (.nm 3) (.cons (.nm 4) .nil))) (.e (.call "_law_day_row" (.cons (.v 0) (.cons (.bin .fdiv (.v 1) (.c (.int 86400))) .nil)) .nil))
    (.cons (.if_ (.cmp .le (.v 3) (.bin .sub (.v 1) (.bin .mul (.bin .fdiv (.v 1) (.c (.int 86400))) (.c (.int 86400)))))
    (.cons (.as 2 (.v 4))
    .nil)
    .nil)
    .nil))
    (.cons (.ret (.v 2))
    .nil)))⟩
def f_law_parts : Fn := ⟨3, 12,
    (.cons (.as 3 (.lst .nil))
    (.cons (.as 4 (.v 1))
    (.cons (.for_ (.nm 5) (.rg1 (.bin .pow (.c (.int 10)) (.c (.int 5))))
    (.cons (.if_ (.cmp .ge (.v 4) (.v 2))
    (.cons .brk
    .nil)
    .nil)
    (.cons (.as 6 (.bin .fdiv (.v 4) (.c (.int 86400))))
    (.cons (.as 7 (.bin .add (.lc (.bin .add (.bin .mul (.v 6) (.c (.int 86400))) (.v 9)) [9, 10] (.tp (.cons (.nm 9) (.cons (.nm 10) .nil))) (.e (.call "_law_day_row" (.cons (.v 0) (.cons (.v 6) .nil)) .nil)) .nil) (.lst (.cons (.bin .mul (.bin .add (.v 6) (.c (.int 1))) (.c (.int 86400))) .nil))))
    (.cons (.as 8 (.bi .min2 (.cons (.bin .add (.lc (.v 11) [11] (.nm 11) (.e (.v 7)) (.cons (.cmp .gt (.v 11) (.v 4)) .nil)) (.lst (.cons (.v 2) .nil))) .nil)))
    (.cons (.app (.v 3) (.tup (.cons (.v 4) (.cons (.v 8) (.cons (.call "_law_band" (.cons (.v 0) (.cons (.v 4) .nil)) .nil) .nil)))))
    (.cons (.as 4 (.v 8))
    .nil)))))))
    (.cons (.ret (.v 3))
    .nil))))⟩
def f_law_seconds_in : Fn := ⟨4, 14,
    (.cons (.as 4 (.c (.int 0)))
    (.cons (.as 5 (.v 1))
    (.cons (.for_ (.nm 6) (.rg1 (.c (.int 3000)))
    (.cons (.if_ (.cmp .ge (.v 5) (.v 2))
    (.cons .brk
    .nil)
    .nil)
    (.cons (.as 7 (.bin .fdiv (.v 5) (.c (.int 86400))))
    (.cons (.as 8 (.lc (.v 10) [10] (.nm 10) (.e (.ix (.v 0) (.c (.int 1)))) (.cons (.cmp2 .le .lt (.v 7) (.v 10) (.bin .add (.v 7) (.c (.int 7)))) .nil)))
    (.cons (.if_ (.and (.cons (.cmp .eq (.v 5) (.bin .mul (.v 7) (.c (.int 86400)))) (.cons (.cmp .gt (.bin .sub (.v 2) (.v 5)) (.bin .mul (.c (.int 14)) (.c (.int 86400)))) (.cons (.cmp .eq (.bi .len (.cons (.v 8) .nil)) (.c (.int 0))) .nil))))
    (.cons (.as 4 (.bin .add (.v 4) (.bi .sum (.cons (.lc (.bin .sub (.v 12) (.v 11)) [11, 12, 13] (.tp (.cons (.nm 11) (.cons (.nm 12) (.cons (.nm 13) .nil)))) (.e (.call "_law_parts" (.cons (.v 0) (.cons (.v 5) (.cons (.bin .add (.v 5) (.bin .mul (.c (.int 7)) (.c (.int 86400)))) .nil))) .nil)) (.cons (.cmp .eq (.v 13) (.v 3)) .nil)) .nil))))
    (.cons (.as 5 (.bin .add (.v 5) (.bin .mul (.c (.int 7)) (.c (.int 86400)))))
    .nil))
    (.cons (.as 9 (.bi .min2 (.cons (.v 2) (.cons (.bin .mul (.bin .add (.bin .fdiv (.v 5) (.c (.int 86400))) (.c (.int 1))) (.c (.int 86400))) .nil))))
    (.cons (.as 4 (.bin .add (.v 4) (.bi .sum (.cons (.lc (.bin .sub (.v 12) (.v 11)) [11, 12, 13] (.tp (.cons (.nm 11) (.cons (.nm 12) (.cons (.nm 13) .nil)))) (.e (.call "_law_parts" (.cons (.v 0) (.cons (.v 5) (.cons (.v 9) .nil))) .nil)) (.cons (.cmp .eq (.v 13) (.v 3)) .nil)) .nil))))
    (.cons (.as 5 (.v 9))
    .nil))))
    .nil)))))
    (.cons (.ret (.v 4))
    .nil))))⟩
def f_law_second_here : Fn := ⟨2, 3,
    (.cons (.as 2 (.call "_law_take" (.cons (.v 0) (.cons (.v 1) (.cons (.c (.int 6)) .nil))) .nil))
    (.cons (.if_ (.cmp .eq (.v 2) (.c (.int 0)))
    (.cons (.ret (.call "_law_wide" (.cons (.v 0) (.cons (.v 1) (.cons (.bin .add (.bin .pow (.c (.int 10)) (.c (.int 8))) (.c (.int 1))) .nil))) .nil))
    .nil)
    .nil)
    (.cons (.if_ (.cmp .eq (.v 2) (.c (.int 1)))
    (.cons (.ret (.call "_law_pick" (.cons (.v 0) (.cons (.v 1) (.cons (.lst (.cons (.c (.int 0)) (.cons (.c (.int 1)) (.cons (.c (.int 86399)) (.cons (.c (.int 86400)) (.cons (.bin .pow (.c (.int 10)) (.c (.int 8))) (.cons (.c (.int 28800)) (.cons (.c (.int 172800)) .nil)))))))) .nil))) .nil))
    .nil)
    .nil)
    (.cons (.ret (.bin .mul (.call "_law_take" (.cons (.v 0) (.cons (.v 1) (.cons (.c (.int 300)) .nil))) .nil) (.call "_law_pick" (.cons (.v 0) (.cons (.v 1) (.cons (.lst (.cons (.c (.int 1)) (.cons (.c (.int 1)) (.cons (.c (.int 60)) (.cons (.c (.int 600)) .nil))))) .nil))) .nil)))
    .nil))))⟩
def f_law_day : Fn := ⟨2, 5,
    (.cons (.as 2 (.dct (.cons (.c (.int 0)) (.c (.bl true)) .nil)))
    (.cons (.for_ (.nm 3) (.rg1 (.call "_law_take" (.cons (.v 0) (.cons (.v 1) (.cons (.c (.int 4)) .nil))) .nil))
    (.cons (.ix (.v 2) (.call "_law_pick" (.cons (.v 0) (.cons (.v 1) (.cons (.lst (.cons (.c (.int 1)) (.cons (.c (.int 100)) (.cons (.c (.int 28800)) (.cons (.c (.int 64800)) (.cons (.c (.int 86399)) (.cons (.call "_law_wide" (.cons (.v 0) (.cons (.v 1) (.cons (.c (.int 86400)) .nil))) .nil) .nil))))))) .nil))) .nil) (.c (.bl true)))
    .nil))
    (.cons (.ret (.bi .tuple (.cons (.lc (.tup (.cons (.v 4) (.cons (.call "_law_pick" (.cons (.v 0) (.cons (.v 1) (.cons (.lst (.cons (.c (.str "low")) (.cons (.c (.str "high")) (.cons (.c (.str "mid")) .nil)))) .nil))) .nil) .nil))) [4] (.nm 4) (.e (.bi .sorted (.cons (.v 2) .nil))) .nil) .nil)))
    .nil)))⟩
def f_law_week : Fn := ⟨2, 6,
    (.cons (.as 2 (.call "_law_day" (.cons (.v 0) (.cons (.v 1) .nil)) .nil))
    (.cons (.as 3 (.lc (.ife (.cmp .eq (.call "_law_take" (.cons (.v 0) (.cons (.v 1) (.cons (.c (.int 2)) .nil))) .nil) (.c (.int 0))) (.v 2) (.call "_law_day" (.cons (.v 0) (.cons (.v 1) .nil)) .nil)) [5] (.nm 5) (.rg1 (.c (.int 8))) .nil))
    (.cons (.as 4 (.dct .nil))
    (.cons (.for_ (.nm 5) (.rg1 (.call "_law_take" (.cons (.v 0) (.cons (.v 1) (.cons (.c (.int 4)) .nil))) .nil))
    (.cons (.ix (.v 4) (.call "_law_pick" (.cons (.v 0) (.cons (.v 1) (.cons (.lst (.cons (.c (.int 0)) (.cons (.c (.int 1)) (.cons (.c (.int 2)) (.cons (.c (.int 6)) (.cons (.c (.int 7)) (.cons (.c (.int 1000)) (.cons (.call "_law_take" (.cons (.v 0) (.cons (.v 1) (.cons (.c (.int 997)) .nil))) .nil) .nil)))))))) .nil))) .nil) (.c (.bl true)))
    .nil))
    (.cons (.ret (.tup (.cons (.bi .tuple (.cons (.v 3) .nil)) (.cons (.bi .tuple (.cons (.bi .sorted (.cons (.v 4) .nil)) .nil)) .nil))))
    .nil)))))⟩
def f_law_told : Fn := ⟨4, 5,
    (.cons (.tr (.call "seconds_in" .nil (.cons (.v 0) (.cons (.v 1) (.cons (.v 2) (.cons (.v 3) .nil))))) "BadValue" 4 "bad" "at")
    .nil)⟩
def f_law : Fn := ⟨1, 14,
    (.cons (.as 1 (.call "_law_numbers" (.cons (.v 0) .nil) .nil))
    (.cons (.as 2 (.lst (.cons (.c (.int 0)) .nil)))
    (.cons (.as 3 (.call "_law_week" (.cons (.v 1) (.cons (.v 2) .nil)) .nil))
    (.cons (.for_ (.nm 4) (.rg1 (.c (.int 4)))
    (.cons (.as 7 (.call "_law_second_here" (.cons (.v 1) (.cons (.v 2) .nil)) .nil))
    (.cons (.as 8 (.call "_law_pick" (.cons (.v 1) (.cons (.v 2) (.cons (.lst (.cons (.c (.int 0)) (.cons (.call "_law_take" (.cons (.v 1) (.cons (.v 2) (.cons (.c (.int 900)) .nil))) .nil) (.cons (.call "_law_wide" (.cons (.v 1) (.cons (.v 2) (.cons (.bin .pow (.c (.int 10)) (.c (.int 6))) .nil))) .nil) (.cons (.call "_law_wide" (.cons (.v 1) (.cons (.v 2) (.cons (.bin .pow (.c (.int 10)) (.c (.int 8))) .nil))) .nil) .nil))))) .nil))) .nil))
    (.cons (.as 9 (.bi .min2 (.cons (.bin .pow (.c (.int 10)) (.c (.int 8))) (.cons (.bin .add (.v 7) (.v 8)) .nil))))
    (.cons (.as 10 (.c (.int 0)))
    (.cons (.for_ (.nm 11) (.e (.tup (.cons (.c (.str "low")) (.cons (.c (.str "high")) (.cons (.c (.str "mid")) (.cons (.c (.str "none")) .nil))))))
    (.cons (.as 13 (.call "_law_told" (.cons (.call "_law_handed" (.cons (.v 1) (.cons (.v 2) (.cons (.v 3) .nil))) .nil) (.cons (.v 7) (.cons (.v 9) (.cons (.v 11) .nil)))) .nil))
    (.cons (.if_ (.no (.call "_law_so" (.cons (.v 13) (.cons (.call "_law_seconds_in" (.cons (.v 3) (.cons (.v 7) (.cons (.v 9) (.cons (.v 11) .nil)))) .nil) .nil)) .nil))
    (.cons (.ret (.c (.bl false)))
    .nil)
    .nil)
    (.cons (.as 10 (.bin .add (.v 10) (.v 13)))
    .nil))))
    (.cons (.if_ (.cmp .ne (.v 10) (.bin .sub (.v 9) (.v 7)))
    (.cons (.ret (.c (.bl false)))
    .nil)
    .nil)
    (.cons (.as 12 (.bin .add (.v 7) (.call "_law_wide" (.cons (.v 1) (.cons (.v 2) (.cons (.bin .add (.bin .sub (.v 9) (.v 7)) (.c (.int 1))) .nil))) .nil)))
    (.cons (.if_ (.no (.call "_law_so" (.cons (.bin .add (.call "_law_told" (.cons (.v 3) (.cons (.v 7) (.cons (.v 12) (.cons (.c (.str "low")) .nil)))) .nil) (.call "_law_told" (.cons (.v 3) (.cons (.v 12) (.cons (.v 9) (.cons (.c (.str "low")) .nil)))) .nil)) (.cons (.call "_law_told" (.cons (.v 3) (.cons (.v 7) (.cons (.v 9) (.cons (.c (.str "low")) .nil)))) .nil) .nil)) .nil))
    (.cons (.ret (.c (.bl false)))
    .nil)
    .nil)
    (.cons (.if_ (.no (.call "_law_so" (.cons (.call "_law_told" (.cons (.v 3) (.cons (.v 9) (.cons (.v 7) (.cons (.c (.str "low")) .nil)))) .nil) (.cons (.c (.int 0)) .nil)) .nil))
    (.cons (.ret (.c (.bl false)))
    .nil)
    .nil)
    (.cons (.fg [])
    .nil)))))))))))
    (.cons (.as 5 (.call "_law_pick" (.cons (.v 1) (.cons (.v 2) (.cons (.lst (.cons (.c .non) (.cons (.neg (.c (.int 1))) (.cons (.bin .add (.bin .pow (.c (.int 10)) (.c (.int 8))) (.c (.int 1))) (.cons (.c (.str "0")) (.cons (.c (.bl true)) .nil)))))) .nil))) .nil))
    (.cons (.fg [])
    (.cons (.as 6 (.call "_law_pick" (.cons (.v 1) (.cons (.v 2) (.cons (.lst (.cons (.c .non) (.cons (.c (.int 7)) (.cons (.c (.str "")) (.cons (.c (.str "A")) (.cons (.c (.str "abcdefghi")) .nil)))))) .nil))) .nil))
    (.cons (.fg [])
    (.cons (.if_ (.or (.cons (.no (.call "_law_so" (.cons (.call "_law_told" (.cons (.v 3) (.cons (.v 5) (.cons (.v 5) (.cons (.v 6) .nil)))) .nil) (.cons (.tup (.cons (.c (.str "bad")) (.cons (.c (.int 1)) .nil))) .nil)) .nil)) (.cons (.no (.call "_law_so" (.cons (.call "_law_told" (.cons (.v 3) (.cons (.c (.int 0)) (.cons (.v 5) (.cons (.v 6) .nil)))) .nil) (.cons (.tup (.cons (.c (.str "bad")) (.cons (.c (.int 2)) .nil))) .nil)) .nil)) .nil)))
    (.cons (.ret (.c (.bl false)))
    .nil)
    .nil)
    (.cons (.fg [])
    (.cons (.ret (.and (.cons (.call "_law_so" (.cons (.call "_law_told" (.cons (.v 3) (.cons (.c (.int 0)) (.cons (.c (.int 0)) (.cons (.v 6) .nil)))) .nil) (.cons (.tup (.cons (.c (.str "bad")) (.cons (.c (.int 3)) .nil))) .nil)) .nil) (.cons (.call "_law_so" (.cons (.call "_law_told" (.cons (.c .non) (.cons (.v 5) (.cons (.v 5) (.cons (.v 6) .nil)))) .nil) (.cons (.tup (.cons (.c (.str "bad")) (.cons (.c (.int 0)) .nil))) .nil)) .nil) .nil))))
    .nil)))))))))))⟩
def e_is_integer : Ent := ⟨"is_integer", ["value"], ["value"], f_is_integer, top 4⟩
def e_is_within : Ent := ⟨"is_within", ["value", "least", "most"], ["value", "least", "most"], f_is_within, top 5⟩
def e_is_second : Ent := ⟨"is_second", ["value"], ["value"], f_is_second, top 6⟩
def e_is_row : Ent := ⟨"is_row", ["value", "least", "most"], ["value", "least", "most"], f_is_row, top 7⟩
def e_is_word : Ent := ⟨"is_word", ["value"], ["value", "sign"], f_is_word, top 8⟩
def e_ascending : Ent := ⟨"ascending", ["row"], ["row", "at"], f_ascending, top 9⟩
def e_frozen : Ent := ⟨"frozen", ["value"], ["value", "part"], f_frozen, top 10⟩
def e_is_pair : Ent := ⟨"is_pair", ["value"], ["value"], f_is_pair, top 18⟩
def e_is_day : Ent := ⟨"is_day", ["value"], ["value", "pair", "start", "_"], f_is_day, top 19⟩
def e_are_feasts : Ent := ⟨"are_feasts", ["value"], ["value", "part"], f_are_feasts, top 20⟩
def e_is_shape : Ent := ⟨"is_shape", ["value"], ["value", "day"], f_is_shape, top 21⟩
def e_day_of : Ent := ⟨"day_of", ["week", "number"], ["week", "number"], f_day_of, top 22⟩
def e_day_parts : Ent := ⟨"day_parts", ["week", "number"], ["week", "number", "day", "begin", "ends", "end", "start", "_", "own"], f_day_parts, top 23⟩
def e_parts_of : Ent := ⟨"parts_of", ["week", "begin", "end"], ["week", "begin", "end", "found", "number", "first", "last", "own"], f_parts_of, top 24⟩
def e_taken_week : Ent := ⟨"taken_week", ["week", "at"], ["week", "at", "found"], f_taken_week, top 29⟩
def e_need_second : Ent := ⟨"need_second", ["second", "at"], ["second", "at"], f_need_second, top 30⟩
def e_seconds_in : Ent := ⟨"seconds_in", ["week", "first", "last", "band"], ["week", "first", "last", "band", "found", "begin", "end", "own"], f_seconds_in, top 31⟩
def e_law_so : Ent := ⟨"_law_so", ["found", "meant"], ["found", "meant", "k"], f_law_so, top 33⟩
def e_law_numbers : Ent := ⟨"_law_numbers", ["script"], ["script", "row", "cell", "left", "k", "mixed"], f_law_numbers, top 34⟩
def e_law_draw : Ent := ⟨"_law_draw", ["row", "at", "limit"], ["row", "at", "limit", "mixed"], f_law_draw, top 35⟩
def e_law_take : Ent := ⟨"_law_take", ["row", "spot", "limit"], ["row", "spot", "limit"], f_law_take, top 36⟩
def e_law_wide : Ent := ⟨"_law_wide", ["row", "spot", "limit"], ["row", "spot", "limit", "first", "second", "third"], f_law_wide, top 37⟩
def e_law_listed : Ent := ⟨"_law_listed", ["value"], ["value", "one"], f_law_listed, top 38⟩
def e_law_either : Ent := ⟨"_law_either", ["row", "spot", "value"], ["row", "spot", "value", "parts", "one"], f_law_either, top 39⟩
def e_law_handed : Ent := ⟨"_law_handed", ["row", "spot", "value"], ["row", "spot", "value", "kind"], f_law_handed, top 40⟩
def e_law_pick : Ent := ⟨"_law_pick", ["row", "spot", "things"], ["row", "spot", "things"], f_law_pick, top 41⟩
def e_law_day_row : Ent := ⟨"_law_day_row", ["week", "day"], ["week", "day"], f_law_day_row, top 42⟩
def e_law_band : Ent := ⟨"_law_band", ["week", "second"], ["week", "second", "made", "start", "word"], f_law_band, top 43⟩
def e_law_parts : Ent := ⟨"_law_parts", ["week", "first", "last"], ["week", "first", "last", "made", "at", "step", "day", "ends", "end", "start", "word", "one"], f_law_parts, top 44⟩
def e_law_seconds_in : Ent := ⟨"_law_seconds_in", ["week", "first", "last", "word"], ["week", "first", "last", "word", "total", "at", "step", "day", "feasts", "then", "one", "begin", "end", "band_here"], f_law_seconds_in, top 45⟩
def e_law_second_here : Ent := ⟨"_law_second_here", ["row", "spot"], ["row", "spot", "at"], f_law_second_here, top 46⟩
def e_law_day : Ent := ⟨"_law_day", ["row", "spot"], ["row", "spot", "starts", "k", "start"], f_law_day, top 47⟩
def e_law_week : Ent := ⟨"_law_week", ["row", "spot"], ["row", "spot", "day", "days", "feasts", "k"], f_law_week, top 48⟩
def e_law_told : Ent := ⟨"_law_told", ["week", "first", "last", "word"], ["week", "first", "last", "word", "wrong"], f_law_told, top 49⟩
def e_law : Ent := ⟨"law", ["script"], ["script", "row", "spot", "week", "again", "off", "bad", "first", "far", "last", "total", "word", "middle", "told"], f_law, top 50⟩
def tx : Text := { ents := [e_is_integer, e_is_within, e_is_second, e_is_row, e_is_word, e_ascending, e_frozen, e_is_pair, e_is_day, e_are_feasts, e_is_shape, e_day_of, e_day_parts, e_parts_of, e_taken_week, e_need_second, e_seconds_in, e_law_so, e_law_numbers, e_law_draw, e_law_take, e_law_wide, e_law_listed, e_law_either, e_law_handed, e_law_pick, e_law_day_row, e_law_band, e_law_parts, e_law_seconds_in, e_law_second_here, e_law_day, e_law_week, e_law_told, e_law], cns := [("LETTERS", .str "abcdefghijklmnopqrstuvwxyz"), ("MOST_LETTERS", .int 8), ("MOST_SECOND", .int 100000000), ("DAY", .int 86400), ("DAYS", .int 8), ("WEEK", .int 7), ("MOST_PAIRS", .int 8), ("MOST_FEASTS", .int 20), ("MOST_FEAST", .int 1000)], bs := ["isinstance", "int", "bool", "tuple", "len", "str", "all", "range", "list", "zip", "max", "min", "sum", "sorted"], exs := [("BadValue", "at")], file := "/claim/cut.py" }
end Lw
set_option Elab.async false
set_option linter.all false
set_option maxRecDepth 100000
set_option maxHeartbeats 1000000
namespace Ap
open PySem (Str)
/-! ### what a run gives: a small logic over the interpreter -/
def R.Ok {α : Type} (r : R α) (P : α → Store → Prop) : Prop := match r with
  | .ok a S => P a S
  | _ => False
def SR.Ok (r : SR) (P : Fl → Store → Prop) : Prop := match r with
  | .ok f S => P f S
  | _ => False
theorem R.Ok.mono {α : Type} {r : R α} {P Q : α → Store → Prop} (h : r.Ok P) (k : ∀ a S, P a S → Q a S) : r.Ok Q := by
  cases r with
  | ok a S => exact k a S h
  | exc _ _ => exact h
  | bad => exact h
theorem SR.Ok.mono {r : SR} {P Q : Fl → Store → Prop} (h : r.Ok P) (k : ∀ a S, P a S → Q a S) : r.Ok Q := by
  cases r with
  | ok a S => exact k a S h
  | exc _ _ _ => exact h
  | bad => exact h
theorem R.Ok.eq {α : Type} {r : R α} {P : α → Store → Prop} (h : r.Ok P) : ∃ a S, r = .ok a S ∧ P a S := by
  cases r with
  | ok a S => exact ⟨a, S, rfl, h⟩
  | exc _ _ => exact h.elim
  | bad => exact h.elim
theorem R.Ok.of {α : Type} {r : R α} {P : α → Store → Prop} {a : α} {S : Store} (e : r = .ok a S) (h : P a S) : r.Ok P := by rw [e]; exact h
@[simp] theorem ok_ok {α : Type} {a : α} {S : Store} {P : α → Store → Prop} : (R.ok a S).Ok P = P a S := rfl
@[simp] theorem ok_bad {α : Type} {P : α → Store → Prop} : (R.bad : R α).Ok P = False := rfl
@[simp] theorem ok_bind {α β : Type} {r : R α} {k : α → Store → R β} {P : β → Store → Prop} : (r.bind k).Ok P = r.Ok fun a S => (k a S).Ok P := by cases r <;> rfl
@[simp] theorem bind_ok {α β : Type} {a : α} {S : Store} {k : α → Store → R β} : (R.ok a S).bind k = k a S := rfl
@[simp] theorem orBad_some {α β : Type} {a : α} {k : α → R β} : orBad (some a) k = k a := rfl
@[simp] theorem orBadS_some {α : Type} {a : α} {k : α → SR} : orBadS (some a) k = k a := rfl
theorem ok_orBad {α β : Type} {o : Option α} {k : α → R β} {P : β → Store → Prop} {a : α} (e : o = some a) (h : (k a).Ok P) : (orBad o k).Ok P := by subst e; exact h
theorem ok_orBadS {α : Type} {o : Option α} {k : α → SR} {P : Fl → Store → Prop} {a : α} (e : o = some a) (h : (k a).Ok P) : (orBadS o k).Ok P := by subst e; exact h
@[simp] theorem sok_ok {f : Fl} {S : Store} {P : Fl → Store → Prop} : (SR.ok f S).Ok P = P f S := rfl
@[simp] theorem sok_bad {P : Fl → Store → Prop} : SR.bad.Ok P = False := rfl
@[simp] theorem sok_st {α : Type} {r : R α} {ρ : Env} {k : α → Store → SR} {P : Fl → Store → Prop} : (r.st ρ k).Ok P = r.Ok fun a S => (k a S).Ok P := by cases r <;> rfl
@[simp] theorem st_ok {α : Type} {a : α} {S : Store} {ρ : Env} {k : α → Store → SR} : (R.ok a S).st ρ k = k a S := rfl
def flNext (k : Env → Store → SR) (P : Fl → Store → Prop) : Fl → Store → Prop
  | .next ρ, S => (k ρ S).Ok P
  | f, S => P f S
@[simp] theorem sok_seq {r : SR} {k : Env → Store → SR} {P : Fl → Store → Prop} : (r.seq k).Ok P = r.Ok (flNext k P) := by
  cases r with
  | ok f S => cases f <;> rfl
  | exc _ _ _ => rfl
  | bad => rfl
@[simp] theorem flNext_next {k : Env → Store → SR} {P : Fl → Store → Prop} {ρ : Env} {S : Store} : flNext k P (.next ρ) S = (k ρ S).Ok P := rfl
@[simp] theorem flNext_ret {k : Env → Store → SR} {P : Fl → Store → Prop} {t : TV} {S : Store} : flNext k P (.ret t) S = P (.ret t) S := rfl
@[simp] theorem flNext_brk {k : Env → Store → SR} {P : Fl → Store → Prop} {ρ : Env} {S : Store} : flNext k P (.brk ρ) S = P (.brk ρ) S := rfl
@[simp] theorem flNext_cnt {k : Env → Store → SR} {P : Fl → Store → Prop} {ρ : Env} {S : Store} : flNext k P (.cnt ρ) S = P (.cnt ρ) S := rfl
@[simp] theorem seq_next {k : Env → Store → SR} {ρ : Env} {S : Store} : (SR.ok (.next ρ) S).seq k = k ρ S := rfl
@[simp] theorem seq_ret {k : Env → Store → SR} {t : TV} {S : Store} : (SR.ok (.ret t) S).seq k = SR.ok (.ret t) S := rfl
/-- the end of a def -/
def fin (P : TV → Store → Prop) : Fl → Store → Prop
  | .ret t, S => P t S
  | .next _, S => P (.val (.dat .non)) S
  | _, _ => False
@[simp] theorem fin_ret {P : TV → Store → Prop} {t : TV} {S : Store} : fin P (.ret t) S = P t S := rfl
@[simp] theorem fin_next {P : TV → Store → Prop} {ρ : Env} {S : Store} : fin P (.next ρ) S = P (.val (.dat .non)) S := rfl
theorem run_ok {Γ : Ctx} {f : Fn} {xs : List Val} {S : Store} {P : TV → Store → Prop} (hl : xs.length = f.ps) (h : (exs Γ f.body S.length (start f.ns xs) S).Ok (fin P)) : (run Γ f xs S).Ok P := by
  unfold run
  rw [if_pos hl]
  cases hx : exs Γ f.body S.length (start f.ns xs) S with
  | ok fl S2 => rw [hx] at h; cases fl <;> first | exact h | exact h.elim
  | exc _ _ _ => rw [hx] at h; exact h.elim
  | bad => rw [hx] at h; exact h.elim
theorem cal_ok {T : Tb} {n : Nat} {f : Str} {d : Fn} {xs : List Val} {S : Store} {P : TV → Store → Prop} (hf : T.fns.lookup f = some d) (hl : xs.length = d.ps) (h : (exs (T.ctx (callF T n)) d.body S.length (start d.ns xs) S).Ok (fin P)) : (callF T (n + 1) f xs S).Ok P := by
  simp only [callF, hf]
  exact run_ok hl h
theorem called_ok {cl : Or} {f : Str} {ts : List TV} {S : Store} {P : TV → Store → Prop} (h : (cl f (proms ts S).1 (proms ts S).2).Ok fun t S' => (settle S.length t S').Ok P) : (called cl f ts S).Ok P := by
  unfold called
  cases hx : cl f (proms ts S).1 (proms ts S).2 with
  | ok t S' => rw [hx] at h; exact h
  | exc _ _ => rw [hx] at h; exact h.elim
  | bad => rw [hx] at h; exact h.elim
/-- data and the store as it was -/
theorem settle_dat {d : D} {S : Store} : settle S.length (.val (.dat d)) S = .ok (.val (.dat d)) S := by
  unfold settle
  rw [List.take_length]
  split
  · simp
  · rfl
/-- a for loop, by an invariant -/
theorem for_ok {step : Val → Env → Store → SR} {src : Src} {P : Fl → Store → Prop} (Inv : Nat → Env → Store → Prop) {ρ : Env} {S : Store} (h0 : Inv 0 ρ S)
    (hs : ∀ i x ρ S, src.xs[i]? = some x → Inv i ρ S → src.still S = true ∧ (step x ρ S).Ok fun f S' => match f with
      | .next ρ' => Inv (i + 1) ρ' S'
      | .cnt ρ' => Inv (i + 1) ρ' S'
      | .brk ρ' => P (.next ρ') S'
      | .ret t => P (.ret t) S')
    (he : ∀ ρ S, Inv src.xs.length ρ S → src.still S = true ∧ P (.next ρ) S) : (forLoop step src src.xs ρ S).Ok P := by
  have go : ∀ (k i : Nat) (ρ : Env) (S : Store), i + k = src.xs.length → Inv i ρ S → (forLoop step src (src.xs.drop i) ρ S).Ok P := by
    intro k
    induction k with
    | zero =>
      intro i ρ S hi hI
      rw [List.drop_of_length_le (by omega)]
      have e : i = src.xs.length := by omega
      subst e
      obtain ⟨h1, h2⟩ := he ρ S hI
      simp only [forLoop, h1, if_true]
      exact h2
    | succ k ih =>
      intro i ρ S hi hI
      have hlt : i < src.xs.length := by omega
      rw [List.drop_eq_getElem_cons hlt]
      obtain ⟨h1, h2⟩ := hs i _ ρ S (List.getElem?_eq_getElem hlt) hI
      simp only [forLoop, h1, if_true]
      cases hx : step src.xs[i] ρ S with
      | ok f S2 =>
        rw [hx] at h2
        cases f with
        | next ρ' => exact ih (i + 1) ρ' S2 (by omega) h2
        | cnt ρ' => exact ih (i + 1) ρ' S2 (by omega) h2
        | brk ρ' => exact h2
        | ret t => exact h2
      | exc _ _ _ => rw [hx] at h2; exact h2.elim
      | bad => rw [hx] at h2; exact h2.elim
  have := go src.xs.length 0 ρ S (by omega) h0
  simpa using this
theorem upto_at : ∀ (n : Nat) (lo : Int) (i : Nat), (upto lo n)[i]? = if i < n then some (.dat (.int (lo + i))) else none
  | 0, lo, i => by simp [upto]
  | n + 1, lo, 0 => by simp [upto]
  | n + 1, lo, i + 1 => by
    simp only [upto, List.getElem?_cons_succ, upto_at n, Nat.add_lt_add_iff_right]
    split
    · congr 3; omega
    · rfl
theorem upto_ln : ∀ (n : Nat) (lo : Int), (upto lo n).length = n
  | 0, _ => rfl
  | n + 1, lo => by simp [upto, upto_ln n]
end Ap
set_option Elab.async false
set_option linter.all false
set_option maxRecDepth 100000
set_option maxHeartbeats 1000000
namespace Ap
open PySem (Str)
abbrev vD (d : D) : TV := .val (.dat d)
abbrev iD (i : Int) : TV := .val (.dat (.int i))
abbrev bD (b : Bool) : TV := .val (.dat (.bl b))
section
variable {Γ : Ctx} {ρ : Env} {S S1 S2 S3 : Store} {n0 : Nat} {P : Fl → Store → Prop}
/-! ### statements, one at a time -/
theorem s_cons {s : Ap.S} {r : Ss} (h : (ex Γ s n0 ρ S).Ok (flNext (exs Γ r n0) P)) : (exs Γ (.cons s r) n0 ρ S).Ok P := by
  rw [exs]; unfold xSeq; rw [sok_seq]; exact h
theorem s_nil (h : P (.next ρ) S) : (exs Γ .nil n0 ρ S).Ok P := by rw [exs]; exact h
theorem nx {r : Ss} (h : (exs Γ r n0 ρ S).Ok P) : flNext (exs Γ r n0) P (.next ρ) S := h
theorem s_ret {e : E} {t : TV} (he : ev Γ e ρ S = .ok t S1) (h : P (.ret t) S1) : (ex Γ (.ret e) n0 ρ S).Ok P := by
  rw [ex]; unfold xRet; rw [he]; exact h
theorem s_retO {e : E} (he : (ev Γ e ρ S).Ok fun t S1 => P (.ret t) S1) : (ex Γ (.ret e) n0 ρ S).Ok P := by
  rw [ex]; unfold xRet; rw [sok_st]; exact he
theorem s_if {t : E} {a b : Ss} {c : Bool} (ht : evT Γ t ρ S = .ok c S1) (h1 : c = true → (exs Γ a n0 ρ S1).Ok P) (h2 : c = false → (exs Γ b n0 ρ S1).Ok P) : (ex Γ (.if_ t a b) n0 ρ S).Ok P := by
  rw [ex]; unfold xIf; rw [ht]
  cases c with
  | true => exact h1 rfl
  | false => exact h2 rfl
theorem s_ifO {t : E} {a b : Ss} (ht : (evT Γ t ρ S).Ok fun c S1 => if c then (exs Γ a n0 ρ S1).Ok P else (exs Γ b n0 ρ S1).Ok P) : (ex Γ (.if_ t a b) n0 ρ S).Ok P := by
  rw [ex]; unfold xIf; rw [sok_st]
  exact ht.mono fun c S1 q => by cases c <;> exact q
theorem s_asD {e : E} {i : Nat} {d : Val} (he : ev Γ e ρ S = .ok (.val d) S1) (hi : i < ρ.length) (h : P (.next (ρ.set i (some d))) S1) : (ex Γ (.as i e) n0 ρ S).Ok P := by
  rw [ex]; unfold xAs; rw [he]; simp only [st_ok, prom, asg, if_pos hi, orBadS_some]; exact h
theorem s_asO {e : E} {i : Nat} (hi : i < ρ.length) (he : (ev Γ e ρ S).Ok fun t S1 => P (.next (ρ.set i (some (prom t S1).1))) (prom t S1).2) : (ex Γ (.as i e) n0 ρ S).Ok P := by
  rw [ex]; unfold xAs; rw [sok_st]
  refine he.mono fun t S1 q => ?_
  simp only [asg, if_pos hi, orBadS_some]; exact q
theorem s_for {tg : Tg} {it : It} {b : Ss} {src : Src} (hi : evI Γ it ρ S = .ok src S1) (Inv : Nat → Env → Store → Prop) (h0 : Inv 0 ρ S1)
    (hs : ∀ i x ρ S, src.xs[i]? = some x → Inv i ρ S → src.still S = true ∧ ∃ ρ', asg tg x ρ = some ρ' ∧ (exs Γ b S1.length ρ' S).Ok fun f S' => match f with
      | .next ρ' => Inv (i + 1) ρ' S'
      | .cnt ρ' => Inv (i + 1) ρ' S'
      | .brk ρ' => P (.next ρ') S'
      | .ret t => P (.ret t) S')
    (he : ∀ ρ S, Inv src.xs.length ρ S → src.still S = true ∧ P (.next ρ) S) : (ex Γ (.for_ tg it b) n0 ρ S).Ok P := by
  rw [ex]; unfold xFor; rw [hi]
  refine for_ok Inv h0 (fun i x ρ S hx hI => ?_) he
  obtain ⟨h1, ρ', h2, h3⟩ := hs i x ρ S hx hI
  exact ⟨h1, by rw [h2]; exact h3⟩
theorem s_brk (h : P (.brk ρ) S) : (ex Γ .brk n0 ρ S).Ok P := by rw [ex]; exact h
theorem s_cnt (h : P (.cnt ρ) S) : (ex Γ .cnt n0 ρ S).Ok P := by rw [ex]; exact h
theorem s_app {o e : E} {i : Nat} {x : Val} {xs : List Val} (ho : ev Γ o ρ S = .ok (.val (.ref i)) S) (hi : S[i]? = some (.lst xs)) (he : ev Γ e ρ S = .ok (.val x) S) (hl : xs.length < line) (h : P (.next ρ) (S.set i (.lst (xs ++ [x])))) :
    (ex Γ (.app o e) n0 ρ S).Ok P := by
  rw [ex]; unfold xApp; rw [ho]
  simp only [st_ok, lstIx, hi, orBadS_some, he, prom, if_pos hl]
  exact h
/-! ### expressions -/
theorem e_v {i : Nat} {x : Val} (h : ρ[i]? = some (some x)) : ev Γ (.v i) ρ S = .ok (.val x) S := by rw [ev]; unfold mVar; rw [h]
theorem e_c {d : D} : ev Γ (.c d) ρ S = .ok (vD d) S := by rw [ev]
theorem e_bin {op : Bop} {a b : E} {x y z : TV} (ha : ev Γ a ρ S = .ok x S1) (hb : ev Γ b ρ S1 = .ok y S2) (h : bin op x y S2 = some z) : ev Γ (.bin op a b) ρ S = .ok z S2 := by
  rw [ev]; unfold mBin; rw [ha, bind_ok, hb, bind_ok, h]; rfl
theorem e_cmp {op : Cop} {a b : E} {x y : TV} {z : Bool} (ha : ev Γ a ρ S = .ok x S1) (hb : ev Γ b ρ S1 = .ok y S2) (h : cmp op x y S2 = some z) : ev Γ (.cmp op a b) ρ S = .ok (bD z) S2 := by
  rw [ev]; unfold mBin; rw [ha, bind_ok, hb, bind_ok]; simp only [cmpT, h, Option.map_some, orBad_some, vB]
theorem t_cm {op : Cop} {a b : E} {x y : TV} {z : Bool} (ha : ev Γ a ρ S = .ok x S1) (hb : ev Γ b ρ S1 = .ok y S2) (h : cmp op x y S2 = some z) : evT Γ (.cmp op a b) ρ S = .ok z S2 := by
  rw [evT]; unfold mTb mBin; rw [ha, bind_ok, hb, bind_ok]; simp only [cmpT, h, Option.map_some, orBad_some, vB, bind_ok, blT]
theorem e_ix {a b : E} {x y z : TV} (ha : ev Γ a ρ S = .ok x S1) (hb : ev Γ b ρ S1 = .ok y S2) (h : index x y S2 = some z) : ev Γ (.ix a b) ρ S = .ok z S2 := by
  rw [ev]; unfold mBin; rw [ha, bind_ok, hb, bind_ok, h]; rfl
theorem e_bi1 {f : Bi} {a : E} {x z : TV} (ha : ev Γ a ρ S = .ok x S1) (h : bi1 f x S1 = some z) : ev Γ (.bi f (.cons a .nil)) ρ S = .ok z S1 := by
  rw [ev]; unfold mBi; rw [evs, evs]; unfold mCons mNil; rw [ha]; simp only [bind_ok, biF, h, orBad_some]
theorem e_bi2 {f : Bi} {a b : E} {x y z : TV} (ha : ev Γ a ρ S = .ok x S1) (hb : ev Γ b ρ S1 = .ok y S2) (h : bi2 f x y = some z) : ev Γ (.bi f (.cons a (.cons b .nil))) ρ S = .ok z S2 := by
  rw [ev]; unfold mBi; rw [evs, evs, evs]; unfold mCons mNil; rw [ha]; simp only [bind_ok, hb, biF, h, orBad_some]
theorem e_isi {a : E} {tys : List Ty} {x : TV} {b : Bool} (ha : ev Γ a ρ S = .ok x S1) (h : isTys x S1 tys = some b) : ev Γ (.isi a tys) ρ S = .ok (bD b) S1 := by
  rw [ev]; unfold mIsi; rw [ha]; simp only [bind_ok, h, orBad_some, vB]
theorem t_isi {a : E} {tys : List Ty} {x : TV} {b : Bool} (ha : ev Γ a ρ S = .ok x S1) (h : isTys x S1 tys = some b) : evT Γ (.isi a tys) ρ S = .ok b S1 := by
  rw [evT]; unfold mT mIsi; rw [ha]; simp only [bind_ok, h, orBad_some, vB, truth, D.truth]
theorem t_no {a : E} {b : Bool} (ha : evT Γ a ρ S = .ok b S1) : evT Γ (.no a) ρ S = .ok (!b) S1 := by
  rw [evT]; unfold mTNot; rw [ha]; rfl
/-- a call: its arguments, then what the def does -/
theorem e_call {f : Str} {es ks : Es} {ts us : List TV} {Q : TV → Store → Prop} (ha : evs Γ es ρ S = .ok ts S1) (hk : evs Γ ks ρ S1 = .ok us S2) (h : (called Γ.cl f (ts ++ us) S2).Ok Q) : (ev Γ (.call f es ks) ρ S).Ok Q := by
  rw [ev]; unfold mCall mApp; rw [ha, bind_ok, hk, bind_ok]; exact h
theorem a_nil0 : evs Γ .nil ρ S = .ok [] S := by rw [evs]; rfl
theorem a_cons0 {e : E} {r : Es} {t : TV} {ts : List TV} (he : ev Γ e ρ S = .ok t S1) (hr : evs Γ r ρ S1 = .ok ts S2) : evs Γ (.cons e r) ρ S = .ok (t :: ts) S2 := by
  rw [evs]; unfold mCons; rw [he, bind_ok, hr, bind_ok]
theorem i_r1 {a : E} {n : Nat} (he : ev Γ a ρ S = .ok (iD n) S1) (hr : okR n = true) : evI Γ (.rg1 a) ρ S = .ok ⟨upto 0 n, []⟩ S1 := by
  rw [evI]; unfold mRg1; rw [he, bind_ok, show intT (iD n) = some (n : Int) from rfl, orBad_some, if_pos hr, Int.toNat_natCast]
theorem i_r2 {a b : E} {i j : Int} (ha : ev Γ a ρ S = .ok (iD i) S1) (hb : ev Γ b ρ S1 = .ok (iD j) S2) (hi : okR i = true) (hj : okR j = true) : evI Γ (.rg2 a b) ρ S = .ok ⟨upto i (j - i).toNat, []⟩ S2 := by
  rw [evI]; unfold mRg2; rw [ha, bind_ok, hb, bind_ok, show intT (iD i) = some i from rfl, show intT (iD j) = some j from rfl, orBad_some, orBad_some, if_pos (by rw [hi, hj]; rfl)]
/-! ### operations on ints -/
theorem b_add {i j : Int} : bin .add (iD i) (iD j) S = some (iD (i + j)) := rfl
theorem b_sub {i j : Int} : bin .sub (iD i) (iD j) S = some (iD (i - j)) := rfl
theorem b_mod {i j : Int} (h : 0 < j) : bin .mod (iD i) (iD j) S = some (iD (i % j)) := by simp only [bin, binD, if_pos h, Option.map_some]
theorem b_mul {i j : Int} (h : mulOk i j = true) : bin .mul (iD i) (iD j) S = some (iD (i * j)) := by simp only [bin, binD, h, if_true, Option.map_some]
theorem mul_r {i j : Int} (h : j.natAbs < 2 ^ 64) : mulOk i j = true := by simp only [mulOk, Bool.or_eq_true, decide_eq_true_eq]; exact .inl (.inr h)
theorem mul_l {i j : Int} (h : i.natAbs < 2 ^ 64) : mulOk i j = true := by simp only [mulOk, Bool.or_eq_true, decide_eq_true_eq]; exact .inl (.inl h)
theorem b_fdiv {i j : Int} (h : 0 < j) (h2 : j.natAbs < 2 ^ 64) : bin .fdiv (iD i) (iD j) S = some (iD (i / j)) := by
  have : j.natAbs < 2 ^ 8000 := Nat.lt_of_lt_of_le h2 (Nat.pow_le_pow_right (by decide) (by decide))
  simp only [bin, binD, decide_eq_true h, decide_eq_true this, Bool.and_self, if_true, Option.map_some]
theorem c_lt {i j : Int} : cmp .lt (iD i) (iD j) S = some (decide (i < j)) := rfl
theorem c_ge {i j : Int} : cmp .ge (iD i) (iD j) S = some (!decide (i < j)) := rfl
theorem c_gt {i j : Int} : cmp .gt (iD i) (iD j) S = some (decide (j < i)) := rfl
theorem c_le {i j : Int} : cmp .le (iD i) (iD j) S = some (!decide (j < i)) := rfl
theorem c_eq {i j : Int} : cmp .eq (iD i) (iD j) S = some (decide (i = j)) := rfl
theorem l_len {i : Nat} {xs : List Val} (h : S[i]? = some (.lst xs)) : bi1 .len (.val (.ref i)) S = some (iD xs.length) := by
  simp only [bi1, lenT, seqOf, lstOf, objOf, h, Option.map_some, vI]
theorem l_int {i : Int} : bi1 .int (iD i) S = some (iD i) := rfl
theorem place_in {n : Nat} {k : Int} (h0 : 0 ≤ k) (h1 : k < n) : place n k = some k.toNat := by simp [place, h0, h1]
theorem l_ix {i : Nat} {xs : List Val} {k : Int} {x : Val} (h : S[i]? = some (.lst xs)) (h0 : 0 ≤ k) (h1 : k < xs.length) (hx : xs[k.toNat]? = some x) : index (.val (.ref i)) (iD k) S = some (.val x) := by
  simp only [index, seqOf, lstOf, objOf, h, Option.bind_some, item, place_in h0 h1, hx, Option.map_some]
end
end Ap
set_option Elab.async false
set_option linter.all false
set_option maxRecDepth 100000
set_option maxHeartbeats 1000000
namespace Ap
open PySem (Str)
def p_law_so : Fn := ⟨2, 3,
    (.cons (.if_ (.cmp .is (.v 1) (.c .non))
    (.cons (.ret (.cmp .is (.v 0) (.c .non)))
    .nil)
    .nil)
    (.cons (.if_ (.isi (.v 1) [.tuple])
    (.cons (.if_ (.or (.cons (.no (.isi (.v 0) [.tuple])) (.cons (.cmp .ne (.bi .len (.cons (.v 0) .nil)) (.bi .len (.cons (.v 1) .nil))) .nil)))
    (.cons (.ret (.c (.bl false)))
    .nil)
    .nil)
    (.cons (.for_ (.nm 2) (.rg1 (.bi .len (.cons (.v 1) .nil)))
    (.cons (.if_ (.no (.call "_law_so" (.cons (.ix (.v 0) (.v 2)) (.cons (.ix (.v 1) (.v 2)) .nil)) .nil))
    (.cons (.ret (.c (.bl false)))
    .nil)
    .nil)
    .nil))
    (.cons (.ret (.c (.bl true)))
    .nil)))
    .nil)
    (.cons (.if_ (.or (.cons (.isi (.v 1) [.bool]) (.cons (.isi (.v 0) [.bool]) .nil)))
    (.cons (.ret (.and (.cons (.isi (.v 1) [.bool]) (.cons (.isi (.v 0) [.bool]) (.cons (.cmp .eq (.v 0) (.v 1)) .nil)))))
    .nil)
    .nil)
    (.cons (.if_ (.isi (.v 1) [.int])
    (.cons (.ret (.and (.cons (.isi (.v 0) [.int]) (.cons (.cmp .eq (.v 0) (.v 1)) .nil))))
    .nil)
    .nil)
    (.cons (.ret (.and (.cons (.isi (.v 1) [.str]) (.cons (.isi (.v 0) [.str]) (.cons (.cmp .eq (.v 0) (.v 1)) .nil)))))
    .nil)))))⟩
def p_law_numbers : Fn := ⟨1, 6,
    (.cons (.as 1 (.lst .nil))
    (.cons (.for_ (.nm 2) (.e (.sl (.v 0) .no (.so (.c (.int 63)))))
    (.cons (.if_ (.cmp .ge (.v 2) (.bin .pow (.c (.int 10)) (.c (.int 18))))
    (.cons (.as 3 (.v 2))
    (.cons (.for_ (.nm 4) (.rg1 (.c (.int 60)))
    (.cons (.if_ (.cmp .eq (.v 3) (.c (.int 0)))
    (.cons .brk
    .nil)
    .nil)
    (.cons (.app (.v 1) (.bin .mod (.bi .int (.cons (.v 3) .nil)) (.c (.int 997))))
    (.cons (.as 3 (.bin .fdiv (.v 3) (.c (.int 997))))
    .nil))))
    .nil))
    (.cons (.for_ (.nm 4) (.rg1 (.c (.int 4)))
    (.cons (.as 5 (.bin .mod (.bi .int (.cons (.bin .add (.bin .add (.bin .mul (.v 2) (.c (.int 48271))) (.bin .mul (.v 4) (.c (.int 69621)))) (.c (.int 11))) .nil)) (.c (.int 2147483647))))
    (.cons (.app (.v 1) (.bin .mod (.bi .int (.cons (.bin .add (.bin .mul (.v 5) (.c (.int 16807))) (.v 4)) .nil)) (.c (.int 2147483629))))
    .nil)))
    .nil))
    .nil))
    (.cons (.if_ (.cmp .eq (.bi .len (.cons (.v 1) .nil)) (.c (.int 0)))
    (.cons (.app (.v 1) (.c (.int 0)))
    .nil)
    .nil)
    (.cons (.ret (.v 1))
    .nil))))⟩
def p_law_draw : Fn := ⟨3, 4,
    (.cons (.if_ (.cmp .lt (.v 1) (.bi .len (.cons (.v 0) .nil)))
    (.cons (.ret (.bin .mod (.bi .int (.cons (.ix (.v 0) (.v 1)) .nil)) (.v 2)))
    .nil)
    .nil)
    (.cons (.as 3 (.bin .mod (.bi .int (.cons (.bin .add (.bin .add (.bin .mul (.ix (.v 0) (.bin .mod (.bi .int (.cons (.v 1) .nil)) (.bi .len (.cons (.v 0) .nil)))) (.c (.int 40692))) (.bin .mul (.v 1) (.c (.int 7919)))) (.c (.int 3))) .nil)) (.c (.int 2147483399))))
    (.cons (.ret (.bin .mod (.bi .int (.cons (.bin .mod (.bi .int (.cons (.bin .add (.bin .mul (.v 3) (.c (.int 48271))) (.v 1)) .nil)) (.c (.int 2147483647))) .nil)) (.v 2)))
    .nil)))⟩
def p_law_take : Fn := ⟨3, 3,
    (.cons (.ix (.v 1) (.c (.int 0)) (.bin .add (.ix (.v 1) (.c (.int 0))) (.c (.int 1))))
    (.cons (.ret (.call "_law_draw" (.cons (.v 0) (.cons (.bin .sub (.ix (.v 1) (.c (.int 0))) (.c (.int 1))) (.cons (.v 2) .nil))) .nil))
    .nil))⟩
def p_law_wide : Fn := ⟨3, 6,
    (.cons (.as 3 (.call "_law_take" (.cons (.v 0) (.cons (.v 1) (.cons (.c (.int 997)) .nil))) .nil))
    (.cons (.as 4 (.call "_law_take" (.cons (.v 0) (.cons (.v 1) (.cons (.c (.int 997)) .nil))) .nil))
    (.cons (.as 5 (.call "_law_take" (.cons (.v 0) (.cons (.v 1) (.cons (.c (.int 997)) .nil))) .nil))
    (.cons (.ret (.bin .mod (.bi .int (.cons (.bin .add (.bin .add (.bin .mul (.v 3) (.c (.int 994009))) (.bin .mul (.v 4) (.c (.int 997)))) (.v 5)) .nil)) (.v 2)))
    .nil))))⟩
def p_law_listed : Fn := ⟨1, 2,
    (.cons (.if_ (.isi (.v 0) [.tuple])
    (.cons (.ret (.lc (.call "_law_listed" (.cons (.v 1) .nil) .nil) [1] (.nm 1) (.e (.v 0)) .nil))
    .nil)
    .nil)
    (.cons (.ret (.v 0))
    .nil))⟩
def p_law_either : Fn := ⟨3, 5,
    (.cons (.if_ (.isi (.v 2) [.tuple])
    (.cons (.as 3 (.lc (.call "_law_either" (.cons (.v 0) (.cons (.v 1) (.cons (.v 4) .nil))) .nil) [4] (.nm 4) (.e (.v 2)) .nil))
    (.cons (.ret (.ife (.cmp .eq (.call "_law_take" (.cons (.v 0) (.cons (.v 1) (.cons (.c (.int 2)) .nil))) .nil) (.c (.int 0))) (.v 3) (.bi .tuple (.cons (.v 3) .nil))))
    .nil))
    .nil)
    (.cons (.ret (.v 2))
    .nil))⟩
def p_law_handed : Fn := ⟨3, 4,
    (.cons (.as 3 (.call "_law_take" (.cons (.v 0) (.cons (.v 1) (.cons (.c (.int 3)) .nil))) .nil))
    (.cons (.if_ (.cmp .eq (.v 3) (.c (.int 2)))
    (.cons (.ret (.call "_law_either" (.cons (.v 0) (.cons (.v 1) (.cons (.v 2) .nil))) .nil))
    .nil)
    .nil)
    (.cons (.ret (.ife (.cmp .eq (.v 3) (.c (.int 0))) (.call "_law_listed" (.cons (.v 2) .nil) .nil) (.v 2)))
    .nil)))⟩
def p_law_pick : Fn := ⟨3, 3,
    (.cons (.ret (.ix (.v 2) (.call "_law_take" (.cons (.v 0) (.cons (.v 1) (.cons (.bi .len (.cons (.v 2) .nil)) .nil))) .nil)))
    .nil)⟩
def p_frozen : Fn := ⟨1, 2,
    (.cons (.if_ (.isi (.v 0) [.list, .tuple])
    (.cons (.ret (.bi .tuple (.cons (.lc (.call "frozen" (.cons (.v 1) .nil) .nil) [1] (.nm 1) (.e (.v 0)) .nil) .nil)))
    .nil)
    .nil)
    (.cons (.ret (.v 0))
    .nil))⟩
def p_is_integer : Fn := ⟨1, 1,
    (.cons (.ret (.and (.cons (.isi (.v 0) [.int]) (.cons (.no (.isi (.v 0) [.bool])) .nil))))
    .nil)⟩
def p_is_within : Fn := ⟨3, 3,
    (.cons (.ret (.and (.cons (.call "is_integer" (.cons (.v 0) .nil) .nil) (.cons (.cmp2 .le .le (.v 1) (.v 0) (.v 2)) .nil))))
    .nil)⟩
def p_is_row : Fn := ⟨3, 3,
    (.cons (.ret (.and (.cons (.isi (.v 0) [.tuple]) (.cons (.cmp2 .le .le (.v 1) (.bi .len (.cons (.v 0) .nil)) (.v 2)) .nil))))
    .nil)⟩
structure Pre (T : Tb) : Prop where
  so : T.fns.lookup ("_law_so" : Str) = some p_law_so
  numbers : T.fns.lookup ("_law_numbers" : Str) = some p_law_numbers
  draw : T.fns.lookup ("_law_draw" : Str) = some p_law_draw
  take : T.fns.lookup ("_law_take" : Str) = some p_law_take
structure PreW (T : Tb) : Prop where
  wide : T.fns.lookup ("_law_wide" : Str) = some p_law_wide
structure PreH (T : Tb) : Prop where
  listed : T.fns.lookup ("_law_listed" : Str) = some p_law_listed
  either : T.fns.lookup ("_law_either" : Str) = some p_law_either
  handed : T.fns.lookup ("_law_handed" : Str) = some p_law_handed
structure PreP (T : Tb) : Prop where
  pick : T.fns.lookup ("_law_pick" : Str) = some p_law_pick
structure PreK (T : Tb) : Prop where
  frozen : T.fns.lookup ("frozen" : Str) = some p_frozen
  integer : T.fns.lookup ("is_integer" : Str) = some p_is_integer
  within : T.fns.lookup ("is_within" : Str) = some p_is_within
  isrow : T.fns.lookup ("is_row" : Str) = some p_is_row
abbrev li (row : List Int) : List Val := row.map fun x => .dat (.int x)
section
variable {T : Tb} {n : Nat} {S : Store}
theorem draw_ok (p : Pre T) {row : List Int} (hne : row ≠ []) {i : Nat} (hi : S[i]? = some (.lst (li row))) {k limit : Int} (h0 : 0 ≤ k) (hl : 0 < limit) :
    (callF T (n + 1) "_law_draw" [.ref i, .dat (.int k), .dat (.int limit)] S).Ok fun t S' => ∃ r : Int, t = vI r ∧ 0 ≤ r ∧ r < limit ∧ S' = S := by
  have hlen : (0 : Int) < ((li row).length : Nat) := by
    cases row with
    | nil => exact (hne rfl).elim
    | cons _ _ => simp
  have at_ : ∀ k : Int, 0 ≤ k → k < ((li row).length : Nat) → ∃ x : Int, (li row)[k.toNat]? = some (.dat (.int x)) := fun k h0 h1 => by
    have : k.toNat < row.length := by simp at h1; omega
    exact ⟨row[k.toNat], by simp [li, List.getElem?_eq_getElem this]⟩
  refine cal_ok p.draw rfl ?_
  refine s_cons (s_if (t_cm (e_v rfl) (e_bi1 (e_v rfl) (l_len hi)) c_lt) (fun hc => ?_) fun hc => s_nil ?_)
  · obtain ⟨x, hx⟩ := at_ k h0 (of_decide_eq_true hc)
    exact s_cons (s_ret (e_bin (e_bi1 (e_ix (e_v rfl) (e_v rfl) (l_ix hi h0 (of_decide_eq_true hc) hx)) l_int) (e_v rfl) (b_mod hl)) ⟨_, rfl, Int.emod_nonneg _ (by omega), Int.emod_lt_of_pos _ hl, rfl⟩)
  · obtain ⟨x, hx⟩ := at_ (k % ((li row).length : Nat)) (Int.emod_nonneg _ (by omega)) (Int.emod_lt_of_pos _ hlen)
    have hix := l_ix hi (Int.emod_nonneg k (by omega)) (Int.emod_lt_of_pos _ hlen) hx
    refine s_cons (s_asD (e_bin (e_bi1 (e_bin (e_bin (e_bin (e_ix (e_v rfl) (e_bin (e_bi1 (e_v rfl) l_int) (e_bi1 (e_v rfl) (l_len hi)) (b_mod hlen)) hix) e_c (b_mul (mul_r (by decide)))) (e_bin (e_v rfl) e_c (b_mul (mul_r (by decide)))) b_add) e_c b_add) l_int) e_c (b_mod (by decide))) (by show 3 < 4; decide) ?_)
    exact s_cons (s_ret (e_bin (e_bi1 (e_bin (e_bi1 (e_bin (e_bin (e_v rfl) e_c (b_mul (mul_r (by decide)))) (e_v rfl) b_add) l_int) e_c (b_mod (by decide))) l_int) (e_v rfl) (b_mod hl)) ⟨_, rfl, Int.emod_nonneg _ (by omega), Int.emod_lt_of_pos _ hl, rfl⟩)
/-- the store of a law: the row at 0, the spot at 1 -/
structure Sp (S : Store) (S' : Store) : Prop where
  len : S'.length = S.length
  same : ∀ i, i ≠ 1 → S'[i]? = S[i]?
def Dr (S : Store) : Prop := (∃ row : List Int, row ≠ [] ∧ S[0]? = some (.lst (li row))) ∧ ∃ k : Int, 0 ≤ k ∧ S[1]? = some (.lst [.dat (.int k)])
theorem Sp.refl : Sp S S := ⟨rfl, fun _ _ => rfl⟩
theorem Sp.trans {S1 S2 : Store} (a : Sp S S1) (b : Sp S1 S2) : Sp S S2 := ⟨b.len.trans a.len, fun i h => (b.same i h).trans (a.same i h)⟩
theorem take_ok (p : Pre T) (hd : Dr S) {limit : Int} (hl : 0 < limit) :
    (callF T (n + 2) "_law_take" [.ref 0, .ref 1, .dat (.int limit)] S).Ok fun t S' => ∃ r : Int, t = iD r ∧ 0 ≤ r ∧ r < limit ∧ Dr S' ∧ Sp S S' := by
  obtain ⟨⟨row, hne, h0⟩, k, hk, h1⟩ := hd
  have hl1 : 1 < S.length := (List.getElem?_eq_some_iff.mp h1).1
  refine cal_ok p.take rfl ?_
  have hix : index (.val (.ref 1)) (iD 0) S = some (iD k) := l_ix h1 (by decide) (by simp) rfl
  refine s_cons ?_
  rw [ex]
  unfold xIx
  rw [e_bin (e_ix (e_v rfl) e_c hix) e_c b_add, st_ok]
  simp only [prom]
  rw [e_v rfl, st_ok, e_c, st_ok]
  have hs : setIx (.val (.ref 1)) (vD (.int 0)) (.dat (.int (k + 1))) S = some (S.set 1 (.lst [.dat (.int (k + 1))])) := by
    simp [setIx, h1, intT, place]
  rw [hs, orBadS_some, sok_ok, flNext_next]
  have h1' : (S.set 1 (.lst [.dat (.int (k + 1))]))[1]? = some (.lst [.dat (.int (k + 1))]) := by simp [hl1]
  have h0' : (S.set 1 (.lst [.dat (.int (k + 1))]))[0]? = some (.lst (li row)) := by simp [h0]
  have hix' : index (.val (.ref 1)) (iD 0) (S.set 1 (.lst [.dat (.int (k + 1))])) = some (iD (k + 1)) := l_ix h1' (by decide) (by simp) rfl
  refine s_cons (s_retO (e_call (a_cons0 (e_v rfl) (a_cons0 (e_bin (e_ix (e_v rfl) e_c hix') e_c b_sub) (a_cons0 (e_v rfl) a_nil0))) a_nil0 (called_ok ?_)))
  show (callF T (n + 1) "_law_draw" [.ref 0, .dat (.int (k + 1 - 1)), .dat (.int limit)] _).Ok _
  refine (draw_ok p hne h0' (by omega) hl).mono ?_
  rintro t S' ⟨r, rfl, q1, q2, rfl⟩
  show (settle _ (vD (.int r)) _).Ok _
  rw [show (S.set 1 (.lst [.dat (.int (k + 1))])).length = (S.set 1 (.lst [.dat (.int (k + 1))])).length from rfl]
  refine R.Ok.of settle_dat ⟨r, rfl, q1, q2, ⟨⟨row, hne, h0'⟩, k + 1, by omega, h1'⟩, by simp, fun i hi => by rw [List.getElem?_set_ne fun q => hi q.symm]⟩
theorem e_lst0 {Γ : Ctx} {ρ : Env} : ev Γ (.lst .nil) ρ S = .ok (.new (.lst [])) S := by rw [ev, evs]; rfl
theorem s_app' {Γ : Ctx} {n0 : Nat} {ρ : Env} {P : Fl → Store → Prop} {o e : E} {row : List Int} {x : Int} (ho : ev Γ o ρ (S ++ [.lst (li row)]) = .ok (.val (.ref S.length)) (S ++ [.lst (li row)])) (he : ev Γ e ρ (S ++ [.lst (li row)]) = .ok (iD x) (S ++ [.lst (li row)])) (hl : row.length < line)
    (h : P (.next ρ) (S ++ [.lst (li (row ++ [x]))])) : (ex Γ (.app o e) n0 ρ (S ++ [.lst (li row)])).Ok P := by
  refine s_app ho (xs := li row) (by simp) he (by simpa using hl) ?_
  have : (S ++ [Obj.lst (li row)]).set S.length (.lst (li row ++ [.dat (.int x)])) = S ++ [.lst (li (row ++ [x]))] := by
    rw [List.set_append_right _ _ (Nat.le_refl _)]; simp
  rw [this]; exact h
theorem numbers_ok (p : Pre T) (ns : List Int) :
    (callF T (n + 1) "_law_numbers" [.scr ns] S).Ok fun t S' => ∃ row : List Int, row ≠ [] ∧ t = .val (.ref S.length) ∧ S' = S ++ [.lst (li row)] := by
  refine cal_ok p.numbers rfl ?_
  refine s_cons (s_asO (by show 1 < 6; decide) (R.Ok.of e_lst0 ?_))
  show ((exs _ _ S.length [some (.scr ns), some (.ref S.length), none, none, none, none] (S ++ [.lst []])).Ok _)
  have hsl : ∀ {ρ : Env} {S : Store}, ρ[0]? = some (some (.scr ns)) → evI (T.ctx (callF T n)) (.e (.sl (.v 0) .no (.so (.c (.int 63))))) ρ S = .ok ⟨cut (li ns) none (some 63), []⟩ S := by
    intro ρ S h0
    rw [evI]; unfold mIt
    rw [ev, evO, evO]; unfold mSl
    rw [e_v h0]; unfold mONo mOSo
    simp only [bind_ok, e_c]
    rfl
  refine s_cons (s_for (hsl rfl) (fun i ρ S' => ∃ a b c d row, ρ = [some (.scr ns), some (.ref S.length), a, b, c, d] ∧ S' = S ++ [.lst (li row)] ∧ row.length ≤ 60 * i) ⟨none, none, none, none, [], rfl, rfl, Nat.zero_le _⟩ ?_ ?_)
  · rintro i x ρ S' hx ⟨a, b, c, d, row, rfl, rfl, hr⟩
    have hi : i < 63 := by
      have := (List.getElem?_eq_some_iff.mp hx).1
      simp only [cut, List.length_take, cutIx] at this
      simp at this
      omega
    have hxi : ∃ z : Int, x = .dat (.int z) := by
      have := List.mem_of_getElem? hx
      simp only [cut] at this
      have := List.mem_of_mem_drop (List.mem_of_mem_take this)
      simp only [li, List.mem_map] at this
      obtain ⟨z, _, rfl⟩ := this
      exact ⟨z, rfl⟩
    obtain ⟨z, rfl⟩ := hxi
    have hline : 60 * 63 < line := by decide
    refine ⟨rfl, _, rfl, s_cons (s_if (t_cm (e_v rfl) (e_bin e_c e_c (z := iD (10 ^ 18)) rfl) c_ge) (fun _ => ?_) fun _ => ?_)⟩
    · refine s_cons (s_asD (e_v rfl) (by show 3 < 6; decide) ?_)
      show ((exs _ _ _ [some (.scr ns), some (.ref S.length), some (.dat (.int z)), some (.dat (.int z)), c, d] _).Ok _)
      refine s_cons (s_for (src := ⟨upto 0 60, []⟩) (i_r1 e_c (by decide +kernel)) (fun j ρ S' => ∃ u w v row, ρ = [some (.scr ns), some (.ref S.length), some (.dat (.int z)), some (.dat (.int u)), w, v] ∧ S' = S ++ [.lst (li row)] ∧ row.length ≤ 60 * i + j) ⟨z, c, d, row, rfl, rfl, hr⟩ ?_ ?_)
      · rintro j y ρ S' hy ⟨u, w, v, row, rfl, rfl, hr⟩
        have hj : j < 60 := by
          have := (List.getElem?_eq_some_iff.mp hy).1
          simpa [upto_ln] using this
        refine ⟨rfl, _, rfl, s_cons (s_if (t_cm (e_v rfl) e_c c_eq) (fun _ => s_cons (s_brk ?_)) fun _ => s_nil (nx ?_))⟩
        · simp only [flNext_brk]
          exact nx (s_nil (nx (s_nil ⟨_, _, _, _, row, rfl, rfl, by omega⟩)))
        · refine s_cons (s_app' (e_v rfl) (e_bin (e_bi1 (e_v rfl) l_int) e_c (b_mod (by decide))) (by omega) ?_)
          refine nx (s_cons (s_asD (e_bin (e_v rfl) e_c (b_fdiv (by decide) (by decide))) (by show 3 < 6; decide) (nx (s_nil ?_))))
          exact ⟨_, _, _, _, rfl, rfl, by simp; omega⟩
      · rintro ρ S' ⟨u, w, v, row, rfl, rfl, hr⟩
        exact ⟨rfl, nx (s_nil (nx (s_nil ⟨_, _, _, _, row, rfl, rfl, by simp [upto_ln] at hr; omega⟩)))⟩
    · refine s_cons (s_for (src := ⟨upto 0 4, []⟩) (i_r1 e_c (by decide +kernel)) (fun j ρ S' => ∃ u w v row, ρ = [some (.scr ns), some (.ref S.length), some (.dat (.int z)), u, w, v] ∧ S' = S ++ [.lst (li row)] ∧ row.length ≤ 60 * i + j) ⟨b, c, d, row, rfl, rfl, hr⟩ ?_ ?_)
      · rintro j y ρ S' hy ⟨u, w, v, row, rfl, rfl, hr⟩
        have hj : j < 4 := by
          have := (List.getElem?_eq_some_iff.mp hy).1
          simpa [upto_ln] using this
        have ey : y = .dat (.int (0 + j)) := by
          simp only [upto_at, hj, if_true, Option.some.injEq] at hy
          exact hy.symm
        subst ey
        refine ⟨rfl, _, rfl, s_cons (s_asD (e_bin (e_bi1 (e_bin (e_bin (e_bin (e_v rfl) e_c (b_mul (mul_r (by decide)))) (e_bin (e_v rfl) e_c (b_mul (mul_r (by decide)))) b_add) e_c b_add) l_int) e_c (b_mod (by decide))) (by show 5 < 6; decide) ?_)⟩
        refine nx (s_cons (s_app' (e_v rfl) (e_bin (e_bi1 (e_bin (e_bin (e_v rfl) e_c (b_mul (mul_r (by decide)))) (e_v rfl) b_add) l_int) e_c (b_mod (by decide))) (by omega) (nx (s_nil ?_))))
        exact ⟨_, _, _, _, rfl, rfl, by simp; omega⟩
      · rintro ρ S' ⟨u, w, v, row, rfl, rfl, hr⟩
        exact ⟨rfl, nx (s_nil (nx (s_nil ⟨_, _, _, _, row, rfl, rfl, by simp [upto_ln] at hr; omega⟩)))⟩
  · rintro ρ S' ⟨a, b, c, d, row, rfl, rfl, hr⟩
    refine ⟨rfl, s_cons (s_if (t_cm (e_bi1 (e_v rfl) (l_len (i := S.length) (xs := li row) (by simp))) e_c c_eq) (fun hz => ?_) fun hz => ?_)⟩
    · refine s_cons (s_app' (e_v rfl) e_c ?_ (nx (s_nil (nx (s_cons (s_ret (e_v rfl) ⟨row ++ [0], by simp, rfl, rfl⟩))))))
      have := of_decide_eq_true hz
      simp at this
      simp [this]
      decide
    · refine s_nil (nx (s_cons (s_ret (e_v rfl) ⟨row, ?_, rfl, rfl⟩)))
      rintro rfl
      simp at hz
end
end Ap
set_option Elab.async false
set_option linter.all false
set_option maxRecDepth 100000
set_option maxHeartbeats 1000000
namespace Ap
open PySem (Str)
/-! ### what looks like data: lists for tuples, at any depth -/
mutual
inductive Lk (S : Store) : Val → D → Prop
  | dat (d : D) : Lk S (.dat d) d
  | tup {xs : List Val} {ds : List D} : Lks S xs ds → Lk S (.tup xs) (.tup ds)
  | lst {i : Nat} {xs : List Val} {ds : List D} : 2 ≤ i → S[i]? = some (.lst xs) → Lks S xs ds → Lk S (.ref i) (.tup ds)
inductive Lks (S : Store) : List Val → List D → Prop
  | nil : Lks S [] []
  | cons {x : Val} {xs : List Val} {d : D} {ds : List D} : Lk S x d → Lks S xs ds → Lks S (x :: xs) (d :: ds)
end
def LkT (S : Store) (t : TV) (d : D) : Prop := match t with
  | .val x => Lk S x d
  | .new (.lst xs) => ∃ ds, d = .tup ds ∧ Lks S xs ds
  | _ => False
/-- all but the spot stands -/
def Ge (S S' : Store) : Prop := S.length ≤ S'.length ∧ ∀ i o, i ≠ 1 → S[i]? = some o → S'[i]? = some o
theorem Ge.refl {S : Store} : Ge S S := ⟨Nat.le_refl _, fun _ _ _ h => h⟩
theorem Ge.trans {S S1 S2 : Store} (a : Ge S S1) (b : Ge S1 S2) : Ge S S2 := ⟨Nat.le_trans a.1 b.1, fun i o hi h => b.2 i o hi (a.2 i o hi h)⟩
theorem Ge.app {S : Store} (g : List Obj) : Ge S (S ++ g) := ⟨by simp, fun i o _ h => by rw [List.getElem?_append_left (List.getElem?_eq_some_iff.mp h).1]; exact h⟩
theorem Sp.ge {S S' : Store} (h : Sp S S') : Ge S S' := ⟨by rw [h.len]; exact Nat.le_refl _, fun i o hi q => by rw [h.same i hi]; exact q⟩
mutual
theorem Lk.mono {S S' : Store} (g : Ge S S') : ∀ {x : Val} {d : D}, Lk S x d → Lk S' x d
  | _, _, .dat d => .dat d
  | _, _, .tup h => .tup (Lks.mono g h)
  | _, _, .lst h1 h2 h3 => .lst h1 (g.2 _ _ (by omega) h2) (Lks.mono g h3)
theorem Lks.mono {S S' : Store} (g : Ge S S') : ∀ {xs : List Val} {ds : List D}, Lks S xs ds → Lks S' xs ds
  | _, _, .nil => .nil
  | _, _, .cons h1 h2 => .cons (Lk.mono g h1) (Lks.mono g h2)
end
theorem LkT.mono {S S' : Store} (g : Ge S S') {t : TV} {d : D} (h : LkT S t d) : LkT S' t d := by
  unfold LkT at h ⊢
  split at h
  · exact Lk.mono g h
  · obtain ⟨ds, e, q⟩ := h; exact ⟨ds, e, Lks.mono g q⟩
  · exact h.elim
mutual
theorem Lk.cut {S : Store} {n : Nat} (hc : closed n (S.take n) = true) : ∀ {x : Val} {d : D}, Lk S x d → x.mx ≤ n → Lk (S.take n) x d
  | _, _, .dat d, _ => .dat d
  | _, _, .tup h, hm => .tup (Lks.cut hc h (by simpa [Val.mx] using hm))
  | _, _, .lst (i := i) (xs := xs) h1 h2 h3, hm => by
    have hi : i < n := by simp only [Val.mx] at hm; omega
    have h2' : (S.take n)[i]? = some (.lst xs) := by rw [List.getElem?_take_of_lt hi]; exact h2
    have := List.all_eq_true.mp hc _ (List.mem_of_getElem? h2')
    exact .lst h1 h2' (Lks.cut hc h3 (of_decide_eq_true this))
theorem Lks.cut {S : Store} {n : Nat} (hc : closed n (S.take n) = true) : ∀ {xs : List Val} {ds : List D}, Lks S xs ds → Val.mxs xs ≤ n → Lks (S.take n) xs ds
  | _, _, .nil, _ => .nil
  | _, _, .cons h1 h2, hm => by
    simp only [Val.mxs] at hm
    exact .cons (Lk.cut hc h1 (by omega)) (Lks.cut hc h2 (by omega))
end
theorem ge_take {S S' : Store} (g : Ge S S') : Ge S (S'.take S.length) := ⟨by simp [g.1], fun i o hi h => by
  have := (List.getElem?_eq_some_iff.mp h).1
  rw [List.getElem?_take_of_lt this]; exact g.2 i o hi h⟩
theorem dr_take {S S' : Store} (d : Dr S) (g : Ge S S') (d' : Dr S') : Dr (S'.take S.length) := by
  obtain ⟨⟨row, h1, h2⟩, k, h3, h4⟩ := d'
  have l1 : 1 < S.length := by obtain ⟨_, k, _, h⟩ := d; exact (List.getElem?_eq_some_iff.mp h).1
  exact ⟨⟨row, h1, by rw [List.getElem?_take_of_lt (by omega)]; exact h2⟩, k, h3, by rw [List.getElem?_take_of_lt l1]; exact h4⟩
/-- behind a call that gives such a value -/
theorem settle_lk {S S' : Store} {t : TV} {d : D} {Q : TV → Store → Prop} (g : Ge S S') (h : LkT S' t d) (q : ∀ t' S'', LkT S'' t' d → Ge S S'' → (S'' = S' ∨ S'' = S'.take S.length) → Q t' S'') : (settle S.length t S').Ok Q := by
  unfold settle
  split
  · rename_i hc
    split
    · rename_i i
      cases h with
      | lst h1 h2 h3 =>
        split
        · rename_i hi
          exact q _ _ (Lk.cut hc (.lst h1 h2 h3) (by simp only [Val.mx]; omega)) (ge_take g) (.inr rfl)
        · rw [h2]
          dsimp only
          split
          · rename_i hm
            exact q (.new (.lst _)) _ ⟨_, rfl, Lks.cut hc h3 hm⟩ (ge_take g) (.inr rfl)
          · exact q _ _ (.lst h1 h2 h3) g (.inl rfl)
    · split
      · rename_i hm
        refine q _ _ ?_ (ge_take g) (.inr rfl)
        unfold LkT at h ⊢
        split at h
        · exact Lk.cut hc h hm
        · obtain ⟨ds, e, h⟩ := h; exact ⟨ds, e, Lks.cut hc h hm⟩
        · exact h.elim
      · exact q _ _ h g (.inl rfl)
  · exact q _ _ h g (.inl rfl)
theorem prom_lk {S : Store} {t : TV} {d : D} (h2 : 2 ≤ S.length) (h : LkT S t d) : Lk (prom t S).2 (prom t S).1 d ∧ Ge S (prom t S).2 := by
  cases t with
  | val x => exact ⟨h, Ge.refl⟩
  | new o =>
    cases o with
    | lst xs =>
      obtain ⟨ds, rfl, h⟩ := h
      exact ⟨.lst h2 (by simp [prom]) (Lks.mono (Ge.app [.lst xs]) h), Ge.app _⟩
    | dct _ => exact h.elim
    | ins _ _ => exact h.elim
/-! ### comprehensions -/
theorem lcLoop_run {step : Val → Store → R (Option Val)} {src : Src} {P : List Val → Store → Prop} (Inv : Nat → List Val → Store → Prop) {S : Store} (h0 : Inv 0 [] S)
    (hs : ∀ i x done S, src.xs[i]? = some x → Inv i done S → src.still S = true ∧ (step x S).Ok fun o S' => match o with
      | some y => Inv (i + 1) (done ++ [y]) S'
      | none => Inv (i + 1) done S')
    (he : ∀ done S, Inv src.xs.length done S → src.still S = true ∧ P done S) : (lcLoop step src src.xs S).Ok P := by
  have go : ∀ (k i : Nat) (done : List Val) (S : Store), i + k = src.xs.length → Inv i done S → (lcLoop step src (src.xs.drop i) S).Ok fun ys S' => P (done ++ ys) S' := by
    intro k
    induction k with
    | zero =>
      intro i done S hi hI
      rw [List.drop_of_length_le (by omega)]
      have e : i = src.xs.length := by omega
      subst e
      obtain ⟨h1, h2⟩ := he done S hI
      simp only [lcLoop, h1, if_true, ok_ok, List.append_nil]
      exact h2
    | succ k ih =>
      intro i done S hi hI
      have hlt : i < src.xs.length := by omega
      rw [List.drop_eq_getElem_cons hlt]
      obtain ⟨h1, h2⟩ := hs i _ done S (List.getElem?_eq_getElem hlt) hI
      simp only [lcLoop, h1, if_true]
      cases hx : step src.xs[i] S with
      | ok o S2 =>
        rw [hx] at h2
        cases o with
        | some y =>
          simp only [ok_bind, ok_ok]
          refine (ih (i + 1) _ S2 (by omega) h2).mono fun ys S3 q => ?_
          rw [List.append_assoc] at q
          exact q
        | none => exact ih (i + 1) done S2 (by omega) h2
      | exc _ _ => rw [hx] at h2; exact h2.elim
      | bad => rw [hx] at h2; exact h2.elim
  have := go src.xs.length 0 [] S (by omega) h0
  simpa using this
/-- [elt for one in it] -/
theorem e_lc {Γ : Ctx} {ρ : Env} {S S1 : Store} {elt : E} {own : List Nat} {tg : Tg} {it : It} {src : Src} {Q : TV → Store → Prop} (hi : evI Γ it ρ S = .ok src S1) (Inv : Nat → List Val → Store → Prop) (h0 : Inv 0 [] S1)
    (hs : ∀ i x done S, src.xs[i]? = some x → Inv i done S → src.still S = true ∧ ∃ ρ', asg tg x (wipe ρ own) = some ρ' ∧ (ev Γ elt ρ' S).Ok fun t S' => Inv (i + 1) (done ++ [(prom t S').1]) (prom t S').2)
    (he : ∀ done S, Inv src.xs.length done S → src.still S = true ∧ done.length ≤ line ∧ Q (.new (.lst done)) S) : (ev Γ (.lc elt own tg it .nil) ρ S).Ok Q := by
  rw [ev]; unfold mLc
  rw [hi, bind_ok, ok_bind]
  refine lcLoop_run Inv h0 (fun i x done S hx hI => ?_) fun done S hI => ?_
  · obtain ⟨h1, ρ', h2, h3⟩ := hs i x done S hx hI
    refine ⟨h1, ?_⟩
    rw [h2, orBad_some, evTs, bind_ok, if_pos rfl, ok_bind]
    exact h3.mono fun t S' q => q
  · obtain ⟨h1, h2, h3⟩ := he done S hI
    exact ⟨h1, by rw [if_pos h2]; exact h3⟩
end Ap
set_option Elab.async false
set_option linter.all false
set_option maxRecDepth 100000
set_option maxHeartbeats 1000000
namespace Ap
open PySem (Str)
variable {T : Tb} {S : Store}
mutual
def D.fits : D → Bool
  | .tup ds => decide (ds.length ≤ line) && D.fitss ds
  | _ => true
def D.fitss : List D → Bool
  | [] => true
  | d :: ds => d.fits && D.fitss ds
end
theorem fitss_at : ∀ {ds : List D}, D.fitss ds = true → ∀ {i : Nat} {d : D}, ds[i]? = some d → d.fits = true
  | d :: ds, h, 0, e, hi => by simp only [D.fitss, Bool.and_eq_true] at h; simp at hi; subst hi; exact h.1
  | d :: ds, h, i + 1, e, hi => by simp only [D.fitss, Bool.and_eq_true] at h; exact fitss_at h.2 (by simpa using hi)
theorem depths_at : ∀ {ds : List D} {n : Nat}, D.depths ds ≤ n → ∀ {i : Nat} {d : D}, ds[i]? = some d → d.depth ≤ n
  | d :: ds, n, h, 0, e, hi => by simp only [D.depths] at h; simp at hi; subst hi; omega
  | d :: ds, n, h, i + 1, e, hi => by simp only [D.depths] at h; exact depths_at (ds := ds) (by omega) (by simpa using hi)
theorem lks_snoc : ∀ {xs : List Val} {ds : List D} {x : Val} {d : D}, Lks S xs ds → Lk S x d → Lks S (xs ++ [x]) (ds ++ [d])
  | _, _, _, _, .nil, h => .cons h .nil
  | _, _, _, _, .cons h1 h2, h => .cons h1 (lks_snoc h2 h)
theorem lks_len : ∀ {xs : List Val} {ds : List D}, Lks S xs ds → xs.length = ds.length
  | _, _, .nil => rfl
  | _, _, .cons _ h => by simp [lks_len h]
theorem take_snoc {α : Type} {l : List α} {i : Nat} {a : α} (h : l[i]? = some a) : l.take (i + 1) = l.take i ++ [a] := by
  rw [List.take_add_one, h]; rfl
theorem i_tup {Γ : Ctx} {ρ : Env} {i : Nat} {ds : List D} (h : ρ[i]? = some (some (.dat (.tup ds)))) : evI Γ (.e (.v i)) ρ S = .ok ⟨ds.map .dat, []⟩ S := by
  rw [evI]; unfold mIt; rw [e_v h]; rfl
theorem proms_one {x : Val} : proms [.val x] S = ([x], S) := rfl
/-- a call with one value -/
theorem e_call1 {n : Nat} {ρ : Env} {f : Str} {i : Nat} {x : Val} {Q : TV → Store → Prop} (hi : ρ[i]? = some (some x)) (h : (callF T n f [x] S).Ok fun t S' => (settle S.length t S').Ok Q) : (ev (T.ctx (callF T n)) (.call f (.cons (.v i) .nil) .nil) ρ S).Ok Q :=
  e_call (a_cons0 (e_v hi) a_nil0) a_nil0 (called_ok (ts := [.val x]) h)
theorem isi_tup_dat {d : D} : isTys (vD d) S [.tuple] = some (match d with | .tup _ => true | _ => false) := by
  cases d <;> rfl
theorem listed_ok (p : PreH T) : ∀ (n : Nat) (d : D) (S : Store), 2 ≤ S.length → d.fits = true → d.depth ≤ n → (callF T (n + 1) "_law_listed" [.dat d] S).Ok fun t S' => LkT S' t d ∧ ∃ g, S' = S ++ g := by
  intro n
  induction n with
  | zero =>
    intro d S h2 hf hd
    refine cal_ok p.listed rfl ?_
    refine s_cons (s_if (t_isi (e_v rfl) isi_tup_dat) (fun hc => ?_) fun hc => s_nil (nx (s_cons (s_ret (e_v rfl) ⟨.dat d, [], by simp⟩))))
    cases d <;> first | exact nomatch (show false = true from hc) | (exfalso; simp [D.depth] at hd)
  | succ n ih =>
    intro d S h2 hf hd
    refine cal_ok p.listed rfl ?_
    refine s_cons (s_if (t_isi (e_v rfl) isi_tup_dat) (fun hc => ?_) fun hc => s_nil (nx (s_cons (s_ret (e_v rfl) ⟨.dat d, [], by simp⟩))))
    cases d with
    | tup ds =>
      simp only [D.fits, Bool.and_eq_true, decide_eq_true_eq] at hf
      simp only [D.depth] at hd
      refine s_cons (s_retO (e_lc (i_tup rfl) (fun i done S' => Lks S' done (ds.take i) ∧ ∃ g, S' = S ++ g) ⟨.nil, [], by simp⟩ ?_ ?_))
      · rintro i x done S' hx ⟨hl, g, rfl⟩
        simp only [List.getElem?_map, Option.map_eq_some_iff] at hx
        obtain ⟨d, hdi, rfl⟩ := hx
        refine ⟨rfl, _, rfl, e_call1 rfl ?_⟩
        refine (ih d (S ++ g) (by simp; omega) (fitss_at hf.2 hdi) (depths_at (by omega) hdi)).mono ?_
        rintro t S2 ⟨ht, g2, rfl⟩
        refine settle_lk (Ge.app g2) ht fun t' S3 ht' hg hS => ?_
        have h3 : 2 ≤ S3.length := by have := hg.1; simp at this; omega
        obtain ⟨q1, q2⟩ := prom_lk h3 ht'
        refine ⟨by rw [take_snoc hdi]; exact lks_snoc (Lks.mono (hg.trans q2) hl) q1, ?_⟩
        have : ∃ g', S3 = S ++ g' := by
          rcases hS with rfl | rfl
          · exact ⟨g ++ g2, by simp⟩
          · exact ⟨g, by rw [List.take_left']; rfl⟩
        obtain ⟨g', rfl⟩ := this
        cases t' with
        | val x => exact ⟨g', rfl⟩
        | new o => exact ⟨g' ++ [o], by simp [prom]⟩
      · rintro done S' ⟨hl, g, rfl⟩
        have e : ds.take (ds.map Val.dat).length = ds := by simp
        rw [e] at hl
        exact ⟨rfl, by rw [lks_len hl]; exact hf.1, ⟨ds, rfl, hl⟩, g, rfl⟩
    | _ => exact nomatch (show false = true from hc)
theorem lks_dats : ∀ {xs : List Val} {ds es : List D}, Lks S xs ds → datsOf xs = some es → Lks S (es.map .dat) ds
  | _, _, es, .nil, h => by simp only [datsOf, Option.some.injEq] at h; subst h; exact .nil
  | x :: xs, d :: ds, es, .cons h1 h2, h => by
    unfold datsOf at h
    split at h
    · rename_i q; cases q
    · rename_i e r q
      cases q
      simp only [Option.map_eq_some_iff] at h
      obtain ⟨fs, q2, rfl⟩ := h
      exact .cons h1 (lks_dats h2 q2)
    · cases h
theorem lks_eq : ∀ {es ds : List D}, Lks S (es.map .dat) ds → es = ds
  | [], _, .nil => rfl
  | e :: es, d :: ds, h => by
    cases h with
    | cons h1 h2 =>
      cases h1
      rw [lks_eq h2]
theorem lk_mk {xs : List Val} {ds : List D} (h : Lks S xs ds) : Lk S (mkTup xs) (.tup ds) := by
  unfold mkTup
  split
  · rename_i es he
    have := lks_eq (lks_dats h he)
    subst this
    exact .dat _
  · exact .tup h
theorem either_ok (p : Pre T) (ph : PreH T) : ∀ (n : Nat) (d : D) (S : Store), Dr S → d.fits = true → d.depth ≤ n → (callF T (n + 3) "_law_either" [.ref 0, .ref 1, .dat d] S).Ok fun t S' => LkT S' t d ∧ Dr S' ∧ Ge S S' := by
  intro n
  induction n with
  | zero =>
    intro d S h2 hf hd
    refine cal_ok ph.either rfl ?_
    refine s_cons (s_if (t_isi (e_v rfl) isi_tup_dat) (fun hc => ?_) fun hc => s_nil (nx (s_cons (s_ret (e_v rfl) ⟨.dat d, h2, Ge.refl⟩))))
    cases d <;> first | exact nomatch (show false = true from hc) | (exfalso; simp [D.depth] at hd)
  | succ n ih =>
    intro d S h2 hf hd
    refine cal_ok ph.either rfl ?_
    refine s_cons (s_if (t_isi (e_v rfl) isi_tup_dat) (fun hc => ?_) fun hc => s_nil (nx (s_cons (s_ret (e_v rfl) ⟨.dat d, h2, Ge.refl⟩))))
    cases d with
    | tup ds =>
      simp only [D.fits, Bool.and_eq_true, decide_eq_true_eq] at hf
      simp only [D.depth] at hd
      refine s_cons (s_asO (by show 3 < 5; decide) (e_lc (i_tup rfl) (fun i done S' => Lks S' done (ds.take i) ∧ Dr S' ∧ Ge S S') ⟨.nil, h2, Ge.refl⟩ ?_ ?_))
      · rintro i x done S' hx ⟨hl, hdr, hge⟩
        simp only [List.getElem?_map, Option.map_eq_some_iff] at hx
        obtain ⟨d, hdi, rfl⟩ := hx
        have hlen : 2 ≤ S'.length := by
          obtain ⟨_, k, _, h⟩ := hdr
          have := (List.getElem?_eq_some_iff.mp h).1
          omega
        refine ⟨rfl, _, rfl, e_call (a_cons0 (e_v rfl) (a_cons0 (e_v rfl) (a_cons0 (e_v rfl) a_nil0))) a_nil0 (called_ok ?_)⟩
        show (callF T (n + 3) "_law_either" [.ref 0, .ref 1, .dat d] S').Ok _
        refine (ih d S' hdr (fitss_at hf.2 hdi) (depths_at (by omega) hdi)).mono ?_
        rintro t S2 ⟨ht, hdr2, hge2⟩
        refine settle_lk hge2 ht fun t' S3 ht' hg hS => ?_
        have h3 : 2 ≤ S3.length := Nat.le_trans hlen hg.1
        have hdr3 : Dr S3 := by
          rcases hS with rfl | rfl
          · exact hdr2
          · exact dr_take hdr hge2 hdr2
        obtain ⟨q1, q2⟩ := prom_lk h3 ht'
        refine ⟨by rw [take_snoc hdi]; exact lks_snoc (Lks.mono (hg.trans q2) hl) q1, ?_, (hge.trans hg).trans q2⟩
        obtain ⟨⟨row, r1, r2⟩, k, k1, k2⟩ := hdr3
        cases t' with
        | val x => exact ⟨⟨row, r1, r2⟩, k, k1, k2⟩
        | new o => exact ⟨⟨row, r1, (Ge.app [o]).2 0 _ (by decide) r2⟩, k, k1, by simp only [prom]; rw [List.getElem?_append_left (by omega)]; exact k2⟩
      · rintro done S' ⟨hl, hdr, hge⟩
        have e : ds.take (ds.map Val.dat).length = ds := by simp
        rw [e] at hl
        refine ⟨rfl, by rw [lks_len hl]; exact hf.1, ?_⟩
        have hlen : 2 ≤ S'.length := by
          obtain ⟨_, k, _, h⟩ := hdr
          have := (List.getElem?_eq_some_iff.mp h).1
          omega
        have hp : ∃ n, S'.length = n := ⟨_, rfl⟩
        have hdr1 : Dr (S' ++ [.lst done]) := by
          obtain ⟨⟨row, r1, r2⟩, k, k1, k2⟩ := hdr
          exact ⟨⟨row, r1, (Ge.app _).2 0 _ (by decide) r2⟩, k, k1, by rw [List.getElem?_append_left (by omega)]; exact k2⟩
        refine nx (s_cons (s_retO ?_))
        show (ev _ (.ife _ _ _) [some (.ref 0), some (.ref 1), some (.dat (.tup ds)), some (.ref S'.length), none] (S' ++ [.lst done])).Ok _
        rw [ev]; unfold mIfe
        rw [ok_bind, evT]; unfold mTb mBin
        rw [ok_bind, ok_bind]
        refine e_call (a_cons0 (e_v rfl) (a_cons0 (e_v rfl) (a_cons0 e_c a_nil0))) a_nil0 (called_ok ?_)
        show (callF T (n + 3) "_law_take" [.ref 0, .ref 1, .dat (.int 2)] (S' ++ [.lst done])).Ok _
        refine (take_ok (n := n + 1) p hdr1 (by decide)).mono ?_
        rintro t S2 ⟨r, rfl, r0, r1, hdr2, hsp⟩
        have hS2 : S2[S'.length]? = some (.lst done) := by rw [hsp.same _ (by omega)]; simp
        have hl2 : Lks S2 done ds := Lks.mono ((Ge.app _).trans hsp.ge) hl
        rw [show (S' ++ [Obj.lst done]).length = S2.length from hsp.len.symm]
        refine R.Ok.of settle_dat ?_
        rw [e_c, bind_ok]
        simp only [cmpT, c_eq, Option.map_some, orBad_some, bind_ok, vB, blT, ok_ok]
        split
        · rw [e_v rfl]
          exact ⟨.lst hlen hS2 hl2, hdr2, (hge.trans (Ge.app _)).trans hsp.ge⟩
        · rw [e_bi1 (e_v rfl) (z := .val (mkTup done)) (by simp only [bi1, seqOf, lstOf, objOf, hS2, Option.map_some])]
          exact ⟨lk_mk hl2, hdr2, (hge.trans (Ge.app _)).trans hsp.ge⟩
    | _ => exact nomatch (show false = true from hc)
end Ap
set_option Elab.async false
set_option linter.all false
set_option maxRecDepth 100000
set_option maxHeartbeats 1000000
namespace Ap
open PySem (Str)
variable {T : Tb} {S : Store} {Γ : Ctx} {ρ : Env}
theorem dr_len (h : Dr S) : 2 ≤ S.length := by
  obtain ⟨_, k, _, h⟩ := h
  have := (List.getElem?_eq_some_iff.mp h).1
  omega
theorem dr_ge {S' : Store} (h : Dr S) (g : Ge S S') (h1 : S'[1]? = S[1]?) : Dr S' := by
  obtain ⟨⟨row, r1, r2⟩, k, k1, k2⟩ := h
  exact ⟨⟨row, r1, g.2 0 _ (by decide) r2⟩, k, k1, by rw [h1]; exact k2⟩
/-- a draw within an expression -/
theorem e_take {n : Nat} (p : Pre T) (hd : Dr S) {a b : Nat} {e : E} {limit : Int} (ha : ρ[a]? = some (some (.ref 0))) (hb : ρ[b]? = some (some (.ref 1))) (he : ev (T.ctx (callF T (n + 2))) e ρ S = .ok (iD limit) S) (hl : 0 < limit) {Q : TV → Store → Prop}
    (h : ∀ r S', 0 ≤ r → r < limit → Dr S' → Sp S S' → Q (iD r) S') : (ev (T.ctx (callF T (n + 2))) (.call "_law_take" (.cons (.v a) (.cons (.v b) (.cons e .nil))) .nil) ρ S).Ok Q := by
  refine e_call (a_cons0 (e_v ha) (a_cons0 (e_v hb) (a_cons0 he a_nil0))) a_nil0 (called_ok ?_)
  show (callF T (n + 2) "_law_take" [.ref 0, .ref 1, .dat (.int limit)] S).Ok _
  refine (take_ok p hd hl).mono ?_
  rintro t S' ⟨r, rfl, r0, r1, hd', hs⟩
  rw [← hs.len]
  exact R.Ok.of settle_dat (h r S' r0 r1 hd' hs)
theorem handed_ok (p : Pre T) (ph : PreH T) (n : Nat) {d : D} (hd : Dr S) (hf : d.fits = true) (hn : d.depth ≤ n) : (callF T (n + 4) "_law_handed" [.ref 0, .ref 1, .dat d] S).Ok fun t S' => LkT S' t d ∧ Dr S' ∧ Ge S S' := by
  refine cal_ok ph.handed rfl ?_
  refine s_cons (s_asO (by show 3 < 4; decide) (e_take (n := n + 1) p hd rfl rfl e_c (by decide) fun r S1 r0 r1 hd1 hs => ?_))
  refine nx (s_cons (s_if (t_cm (e_v rfl) e_c c_eq) (fun _ => ?_) fun _ => s_nil (nx ?_)))
  · refine s_cons (s_retO (e_call (a_cons0 (e_v rfl) (a_cons0 (e_v rfl) (a_cons0 (e_v rfl) a_nil0))) a_nil0 (called_ok ?_)))
    show (callF T (n + 3) "_law_either" [.ref 0, .ref 1, .dat d] S1).Ok _
    refine (either_ok p ph n d S1 hd1 hf hn).mono ?_
    rintro t S2 ⟨h1, h2, h3⟩
    refine settle_lk h3 h1 fun t' S3 q1 q2 q3 => ?_
    refine ⟨q1, ?_, hs.ge.trans q2⟩
    rcases q3 with rfl | rfl
    · exact h2
    · exact dr_take hd1 h3 h2
  · refine s_cons (s_retO ?_)
    rw [ev]; unfold mIfe
    rw [t_cm (e_v rfl) e_c c_eq, bind_ok]
    split
    · refine e_call1 rfl ?_
      show (callF T (n + 2 + 1) "_law_listed" [.dat d] S1).Ok _
      refine (listed_ok ph (n + 2) d S1 (dr_len hd1) hf (by omega)).mono ?_
      rintro t S2 ⟨h1, g, rfl⟩
      refine settle_lk (Ge.app g) h1 fun t' S3 q1 q2 q3 => ?_
      refine ⟨q1, ?_, hs.ge.trans q2⟩
      have l1 := dr_len hd1
      refine dr_ge hd1 q2 ?_
      rcases q3 with rfl | rfl
      · rw [List.getElem?_append_left (by omega)]
      · show (List.take S1.length (S1 ++ g))[1]? = _
        rw [List.take_left' rfl]
    · exact R.Ok.of (e_v rfl) ⟨.dat d, hd1, hs.ge⟩
/-! ### frozen -/
theorem isi_lt {d : D} {x : Val} (h : Lk S x d) : isTys (.val x) S [.list, .tuple] = some (match d with | .tup _ => true | _ => false) := by
  cases h with
  | dat d => cases d <;> rfl
  | tup _ => rfl
  | lst h1 h2 h3 => simp [isTys, isTy, objOf, h2]
theorem lks_at : ∀ {xs : List Val} {ds : List D}, Lks S xs ds → ∀ {i : Nat} {x : Val}, xs[i]? = some x → ∃ d, ds[i]? = some d ∧ Lk S x d
  | _, _, .cons (d := d) h1 h2, 0, x, hx => by simp at hx; subst hx; exact ⟨d, rfl, h1⟩
  | _, _, .cons h1 h2, i + 1, x, hx => by
    obtain ⟨d, q1, q2⟩ := lks_at h2 (i := i) (by simpa using hx)
    exact ⟨d, by simpa using q1, q2⟩
theorem lks_self : ∀ ds : List D, Lks S (ds.map .dat) ds
  | [] => .nil
  | d :: ds => .cons (.dat d) (lks_self ds)
theorem src_lk {x : Val} {ds : List D} (h : Lk S x (.tup ds)) : ∃ src, srcOf (.val x) S = some src ∧ src.still S = true ∧ Lks S src.xs ds := by
  cases h with
  | dat d => exact ⟨_, rfl, rfl, lks_self ds⟩
  | tup h => exact ⟨_, rfl, rfl, h⟩
  | lst h1 h2 h3 =>
    rename_i i xs
    exact ⟨⟨xs, [(i, .lst xs)]⟩, by simp only [srcOf, h2], by simp [Src.still, h2], h3⟩
theorem datsOf_self : ∀ ds : List D, datsOf (ds.map .dat) = some ds
  | [] => rfl
  | d :: ds => by simp only [List.map_cons, datsOf, datsOf_self ds, Option.map_some]
theorem mkTup_dats (ds : List D) : mkTup (ds.map .dat) = .dat (.tup ds) := by unfold mkTup; rw [datsOf_self]
theorem frozen_ok (p : PreK T) : ∀ (n : Nat) (d : D) (x : Val) (S : Store), Lk S x d → d.fits = true → d.depth ≤ n → (callF T (n + 1) "frozen" [x] S).Ok fun t S' => t = vD d ∧ S' = S := by
  intro n
  induction n with
  | zero =>
    intro d x S hx hf hd
    refine cal_ok p.frozen rfl ?_
    refine s_cons (s_if (t_isi (e_v rfl) (isi_lt hx)) (fun hc => ?_) fun hc => s_nil (nx (s_cons (s_ret (e_v rfl) ?_))))
    · cases d <;> first | exact nomatch (show false = true from hc) | (exfalso; simp [D.depth] at hd)
    · cases hx with
      | dat d => exact ⟨rfl, rfl⟩
      | tup _ => exact nomatch (show true = false from hc)
      | lst _ _ _ => exact nomatch (show true = false from hc)
  | succ n ih =>
    intro d x S hx hf hd
    refine cal_ok p.frozen rfl ?_
    refine s_cons (s_if (t_isi (e_v rfl) (isi_lt hx)) (fun hc => ?_) fun hc => s_nil (nx (s_cons (s_ret (e_v rfl) ?_))))
    · cases d with
      | tup ds =>
        simp only [D.fits, Bool.and_eq_true, decide_eq_true_eq] at hf
        simp only [D.depth] at hd
        obtain ⟨src, s1, s2, s3⟩ := src_lk hx
        have hi : ∀ {Γ : Ctx} {ρ : Env}, ρ[0]? = some (some x) → evI Γ (.e (.v 0)) ρ S = .ok src S := fun {Γ ρ} h => by
          rw [evI]; unfold mIt; rw [e_v h, bind_ok, s1]; rfl
        refine s_cons (s_retO ?_)
        rw [ev]; unfold mBi
        rw [evs, evs]; unfold mCons mNil
        rw [ok_bind, ok_bind]
        refine e_lc (hi rfl) (fun i done S' => S' = S ∧ done = (ds.take i).map .dat) ⟨rfl, rfl⟩ ?_ ?_
        · rintro i y done S' hy ⟨rfl, rfl⟩
          obtain ⟨d, hdi, hyd⟩ := lks_at s3 hy
          refine ⟨s2, _, rfl, e_call1 rfl ?_⟩
          refine (ih d y S' hyd (fitss_at hf.2 hdi) (depths_at (by omega) hdi)).mono ?_
          rintro t S2 ⟨rfl, rfl⟩
          refine R.Ok.of settle_dat ⟨rfl, ?_⟩
          rw [take_snoc hdi, List.map_append]; rfl
        · rintro done S' ⟨rfl, rfl⟩
          have e : ds.take src.xs.length = ds := by rw [lks_len s3]; simp
          rw [e]
          refine ⟨s2, by simpa using hf.1, ?_⟩
          simp only [bind_ok, ok_ok, ok_bind, biF, bi1, seqOf, lstOf, objOf, Option.map_some, orBad_some, mkTup_dats]
          exact ⟨rfl, rfl⟩
      | _ => exact nomatch (show false = true from hc)
    · cases hx with
      | dat d => exact ⟨rfl, rfl⟩
      | tup _ => exact nomatch (show true = false from hc)
      | lst _ _ _ => exact nomatch (show true = false from hc)
/-! ### _law_so of one thing with itself -/
theorem t_or2 {a b : E} {x y : Bool} {S1 S2 : Store} (ha : evT Γ a ρ S = .ok x S1) (hb : x = false → evT Γ b ρ S1 = .ok y S2) (h1 : x = true → S2 = S1 ∧ y = true) : evT Γ (.or (.cons a (.cons b .nil))) ρ S = .ok (x || y) S2 := by
  rw [evT, evTOr, evTOr]; unfold mTOr
  rw [ha, bind_ok]
  cases x with
  | true => obtain ⟨rfl, rfl⟩ := h1 rfl; rfl
  | false => rw [if_neg (by decide), hb rfl]; rfl
theorem e_and2 {a b : E} {x : Bool} {t : TV} {S1 S2 : Store} (ha : ev Γ a ρ S = .ok (bD x) S1) (hb : x = true → ev Γ b ρ S1 = .ok t S2) (h1 : x = false → S2 = S1 ∧ t = bD false) : ev Γ (.and (.cons a (.cons b .nil))) ρ S = .ok t S2 := by
  rw [ev, evAnd, evAnd]; unfold mAnd
  rw [ha, bind_ok]
  simp only [blT, orBad_some]
  cases x with
  | true => rw [if_pos rfl]; exact hb rfl
  | false => obtain ⟨rfl, rfl⟩ := h1 rfl; rfl
theorem e_and3 {a b c : E} {x y : Bool} {t : TV} {S1 S2 S3 : Store} (ha : ev Γ a ρ S = .ok (bD x) S1) (hx : x = true) (hb : ev Γ b ρ S1 = .ok (bD y) S2) (hy : y = true) (hc : ev Γ c ρ S2 = .ok t S3) : ev Γ (.and (.cons a (.cons b (.cons c .nil)))) ρ S = .ok t S3 := by
  subst hx hy
  rw [ev, evAnd, evAnd, evAnd]; unfold mAnd
  rw [ha, bind_ok]
  simp only [blT, orBad_some, if_true, hb, bind_ok]
  exact hc
theorem c_is {d : D} : cmp .is (vD d) (vD .non) S = some (match d with | .non => true | _ => false) := by cases d <;> rfl
theorem isi1 {d : D} {ty : Ty} {b : Bool} (h : isTy (vD d) S ty = some b) : isTys (vD d) S [ty] = some b := by
  simp only [isTys, h, Option.bind_some]
  cases b <;> rfl
theorem l_lenT {ds : List D} : bi1 .len (vD (.tup ds)) S = some (iD ds.length) := by
  simp [bi1, lenT, seqOf, vI]
theorem c_ne {i j : Int} : cmp .ne (iD i) (iD j) S = some (!decide (i = j)) := rfl
theorem l_ixT {ds : List D} {k : Int} {d : D} (h0 : 0 ≤ k) (h1 : k < ds.length) (hx : ds[k.toNat]? = some d) : index (vD (.tup ds)) (iD k) S = some (vD d) := by
  simp only [index, seqOf, Option.bind_some, item, List.length_map, place_in h0 h1, List.getElem?_map, hx, Option.map_some]
theorem eqv_self_str {x : Str} : D.eqv (.str x) (.str x) = true := by simp [D.eqv]
theorem okR_len {n : Nat} (h : n ≤ line) : okR (n : Int) = true := by
  have h2 : n ≤ 16777216 := h
  unfold okR bound
  rw [Bool.and_eq_true]
  refine ⟨decide_eq_true ?_, decide_eq_true ?_⟩ <;> omega
def soFor : Ap.S := .for_ (.nm 2) (.rg1 (.bi .len (.cons (.v 1) .nil)))
    (.cons (.if_ (.no (.call "_law_so" (.cons (.ix (.v 0) (.v 2)) (.cons (.ix (.v 1) (.v 2)) .nil)) .nil))
    (.cons (.ret (.c (.bl false)))
    .nil)
    .nil)
    .nil)
theorem so_loop {n n0 : Nat} {ds : List D} {S : Store} {P : Fl → Store → Prop} (hl : ds.length ≤ line) (hr : okR (ds.length : Int) = true) (ih : ∀ (i : Nat) (d : D), ds[i]? = some d → (callF T (n + 1) "_law_so" [.dat d, .dat d] S).Ok fun t S' => t = bD true ∧ S' = S)
    (h : ∀ w, P (.next [some (.dat (.tup ds)), some (.dat (.tup ds)), w]) S) : (ex (T.ctx (callF T (n + 1))) soFor n0 [some (.dat (.tup ds)), some (.dat (.tup ds)), none] S).Ok P := by
  have hI := i_r1 (Γ := T.ctx (callF T (n + 1))) (S := S) (S1 := S) (ρ := [some (.dat (.tup ds)), some (.dat (.tup ds)), none]) (a := .bi .len (.cons (.v 1) .nil)) (n := ds.length) (e_bi1 (e_v rfl) l_lenT) hr
  unfold soFor
  refine (s_for hI
        (fun i ρ S' => ∃ w, ρ = [some (.dat (.tup ds)), some (.dat (.tup ds)), w] ∧ S' = S) ⟨none, rfl, rfl⟩ ?_ ?_)
  · rintro i x ρ S' hx ⟨w, rfl, rfl⟩
    have hi : i < ds.length := by
      have := (List.getElem?_eq_some_iff.mp hx).1
      simpa [upto_ln] using this
    simp only [upto_at, hi, if_true, Option.some.injEq] at hx
    subst hx
    obtain ⟨d, hdi⟩ : ∃ d, ds[i]? = some d := ⟨ds[i], List.getElem?_eq_getElem hi⟩
    have hix : index (vD (.tup ds)) (iD (0 + i)) S' = some (vD d) := l_ixT (by omega) (by omega) (by
      have : (0 + (i : Int)).toNat = i := by omega
      rw [this]; exact hdi)
    refine ⟨rfl, _, rfl, s_cons (s_ifO ?_)⟩
    rw [evT]; unfold mTNot
    rw [ok_bind, evT]; unfold mT
    rw [ok_bind]
    have hcall : (mCall (T.ctx (callF T (n + 1))).cl "_law_so" (mApp (evs (T.ctx (callF T (n + 1))) (.cons (.ix (.v 0) (.v 2)) (.cons (.ix (.v 1) (.v 2)) .nil))) (evs (T.ctx (callF T (n + 1))) .nil)) [some (.dat (.tup ds)), some (.dat (.tup ds)), some (.dat (.int (0 + i)))] S').Ok fun t S2 => t = bD true ∧ S2 = S' := by
      unfold mCall mApp
      rw [a_cons0 (e_ix (e_v rfl) (e_v rfl) hix) (a_cons0 (e_ix (e_v rfl) (e_v rfl) hix) a_nil0), bind_ok, a_nil0]
      refine called_ok ?_
      show (callF T (n + 1) "_law_so" [.dat d, .dat d] S').Ok _
      refine (ih i d hdi).mono ?_
      rintro t S2 ⟨rfl, rfl⟩
      exact R.Ok.of settle_dat ⟨rfl, rfl⟩
    refine hcall.mono ?_
    rintro t S2 ⟨rfl, rfl⟩
    simp only [truth, D.truth, orBad_some, ok_ok, Bool.not_true]
    rw [if_neg (by decide)]
    exact s_nil (nx (s_nil ⟨_, rfl, rfl⟩))
  · rintro ρ S' ⟨w, rfl, rfl⟩
    exact ⟨rfl, h w⟩
theorem so_ok (p : Pre T) : ∀ (n : Nat) (d : D) (S : Store), d.depth ≤ n → d.fits = true → (callF T (n + 1) "_law_so" [.dat d, .dat d] S).Ok fun t S' => t = bD true ∧ S' = S := by
  have flat : ∀ (n : Nat) (d : D) (S : Store), (match d with | .tup _ => false | _ => true) = true → (callF T (n + 1) "_law_so" [.dat d, .dat d] S).Ok fun t S' => t = bD true ∧ S' = S := by
    intro n d S hd
    refine cal_ok p.so rfl ?_
    refine s_cons (s_if (t_cm (e_v rfl) e_c c_is) (fun hc => s_cons (s_ret (e_cmp (e_v rfl) e_c c_is) ⟨by rw [hc], rfl⟩)) fun hN => s_nil (nx ?_))
    refine s_cons (s_if (t_isi (e_v rfl) isi_tup_dat) (fun hc => ?_) fun hc => s_nil (nx ?_))
    · cases d <;> first | exact nomatch (show false = true from hc) | exact nomatch (show false = true from hd)
    cases d with
    | non => exact nomatch (show true = false from hN)
    | tup _ => exact nomatch (show false = true from hd)
    | bl k =>
      refine s_cons (s_if (t_or2 (x := true) (y := true) (S2 := S) (t_isi (e_v rfl) (isi1 rfl)) (fun q => nomatch q) (fun _ => ⟨rfl, rfl⟩)) (fun _ => ?_) fun q => nomatch q)
      exact s_cons (s_ret (e_and3 (e_isi (e_v rfl) (isi1 rfl)) rfl (e_isi (e_v rfl) (isi1 rfl)) rfl (e_cmp (e_v rfl) (e_v rfl) (z := true) (by simp [cmp, cmpD, D.depth, D.eqv]))) ⟨rfl, rfl⟩)
    | int i =>
      refine s_cons (s_if (t_or2 (x := false) (y := false) (S2 := S) (t_isi (e_v rfl) (isi1 rfl)) (fun _ => t_isi (e_v rfl) (isi1 rfl)) (fun q => nomatch q)) (fun q => nomatch q) fun _ => s_nil (nx ?_))
      refine s_cons (s_if (t_isi (e_v rfl) (isi1 rfl)) (fun _ => ?_) fun q => nomatch (show true = false from q))
      exact s_cons (s_ret (e_and2 (x := true) (e_isi (e_v rfl) (isi1 rfl)) (fun _ => e_cmp (e_v rfl) (e_v rfl) (z := true) (by simp [cmp, cmpD, D.depth, D.eqv])) (fun q => nomatch q)) ⟨rfl, rfl⟩)
    | str x =>
      refine s_cons (s_if (t_or2 (x := false) (y := false) (S2 := S) (t_isi (e_v rfl) (isi1 rfl)) (fun _ => t_isi (e_v rfl) (isi1 rfl)) (fun q => nomatch q)) (fun q => nomatch q) fun _ => s_nil (nx ?_))
      refine s_cons (s_if (t_isi (e_v rfl) (isi1 rfl)) (fun q => nomatch (show false = true from q)) fun _ => s_nil (nx ?_))
      exact s_cons (s_ret (e_and3 (e_isi (e_v rfl) (isi1 rfl)) rfl (e_isi (e_v rfl) (isi1 rfl)) rfl (e_cmp (e_v rfl) (e_v rfl) (z := true) (by simp [cmp, cmpD, D.depth, D.eqv]))) ⟨rfl, rfl⟩)
  intro n
  induction n with
  | zero =>
    intro d S hd hf
    refine flat 0 d S ?_
    cases d <;> first | rfl | (exfalso; simp [D.depth] at hd)
  | succ n ih =>
    intro d S hd hf
    cases d with
    | tup ds =>
      simp only [D.fits, Bool.and_eq_true, decide_eq_true_eq] at hf
      simp only [D.depth] at hd
      refine cal_ok p.so rfl ?_
      refine s_cons (s_if (t_cm (e_v rfl) e_c c_is) (fun hc => nomatch (show false = true from hc)) fun hc => s_nil (nx ?_))
      refine s_cons (s_if (t_isi (e_v rfl) isi_tup_dat) (fun _ => ?_) fun hc => nomatch (show true = false from hc))
      have hlen : cmp .ne (iD (ds.length : Int)) (iD (ds.length : Int)) S = some false := by rw [c_ne]; simp
      refine s_cons (s_if (c := false) (t_or2 (x := false) (y := false) (S2 := S) (t_no (b := true) (t_isi (e_v rfl) isi_tup_dat)) (fun _ => t_cm (e_bi1 (e_v rfl) l_lenT) (e_bi1 (e_v rfl) l_lenT) hlen) (fun q => absurd q (by decide))) ?_ ?_)
      · intro q; exact absurd q (by decide)
      intro _
      rw [exs]; unfold xSkip; rw [sok_ok, flNext_next]
      have hr := okR_len hf.1
      exact s_cons (so_loop hf.1 hr (fun i d hdi => ih d S (depths_at (by omega) hdi) (fitss_at hf.2 hdi)) fun w => nx (s_cons (s_ret e_c ⟨rfl, rfl⟩)))
    | _ => exact flat (n + 1) _ S rfl
end Ap
set_option Elab.async false
set_option linter.all false
set_option maxRecDepth 100000
set_option maxHeartbeats 1000000
namespace Ap
open PySem (Str)
variable {T : Tb} {S : Store} {ρ : Env}
/-- nothing names anything -/
def Flt (S : Store) : Prop := closed 0 S = true
theorem flt_sp {S' : Store} (h : Flt S) (d : Dr S') (s : Sp S S') : Flt S' := by
  unfold Flt closed at h ⊢
  rw [List.all_eq_true] at h ⊢
  intro o ho
  obtain ⟨i, hi⟩ := List.mem_iff_getElem?.mp ho
  by_cases h1 : i = 1
  · subst h1
    obtain ⟨_, k, _, h2⟩ := d
    rw [h2] at hi; cases hi; rfl
  · rw [s.same i h1] at hi
    exact h o (List.mem_of_getElem? hi)
theorem flt_app {o : Obj} (h : Flt S) (ho : o.mx = 0) : Flt (S ++ [o]) := by
  unfold Flt closed at h ⊢
  rw [List.all_append, h]; simp [ho]
theorem flt_closed {n : Nat} (h : Flt S) : closed n (S.take n) = true := by
  unfold Flt closed at h
  unfold closed
  rw [List.all_eq_true] at h ⊢
  intro o ho
  have := of_decide_eq_true (h o (List.mem_of_mem_take ho))
  exact decide_eq_true (by omega)
theorem settle_flt {n : Nat} {d : D} (h : Flt S) : settle n (vD d) S = .ok (vD d) (S.take n) := by
  unfold settle
  rw [if_pos (flt_closed h)]
  simp [TV.mx, Val.mx]
theorem wide_ok (p : Pre T) (pw : PreW T) (n : Nat) (hd : Dr S) {limit : Int} (hl : 0 < limit) : (callF T (n + 3) "_law_wide" [.ref 0, .ref 1, .dat (.int limit)] S).Ok fun t S' => ∃ r : Int, t = iD r ∧ 0 ≤ r ∧ r < limit ∧ Dr S' ∧ Sp S S' := by
  refine cal_ok pw.wide rfl ?_
  refine s_cons (s_asO (by show 3 < 6; decide) (e_take p hd rfl rfl e_c (by decide) fun r1 S1 _ _ d1 s1 => ?_))
  refine nx (s_cons (s_asO (by show 4 < 6; decide) (e_take p d1 rfl rfl e_c (by decide) fun r2 S2 _ _ d2 s2 => ?_)))
  refine nx (s_cons (s_asO (by show 5 < 6; decide) (e_take p d2 rfl rfl e_c (by decide) fun r3 S3 _ _ d3 s3 => ?_)))
  exact nx (s_cons (s_ret (e_bin (e_bi1 (e_bin (e_bin (e_bin (e_v rfl) e_c (b_mul (mul_r (by decide)))) (e_bin (e_v rfl) e_c (b_mul (mul_r (by decide)))) b_add) (e_v rfl) b_add) l_int) (e_v rfl) (b_mod hl)) ⟨_, rfl, Int.emod_nonneg _ (by omega), Int.emod_lt_of_pos _ hl, d3, (s1.trans s2).trans s3⟩))
theorem e_wide {n : Nat} (p : Pre T) (pw : PreW T) (hd : Dr S) {a b : Nat} {e : E} {limit : Int} (ha : ρ[a]? = some (some (.ref 0))) (hb : ρ[b]? = some (some (.ref 1))) (he : ev (T.ctx (callF T (n + 3))) e ρ S = .ok (iD limit) S) (hl : 0 < limit) {Q : TV → Store → Prop}
    (h : ∀ r S', 0 ≤ r → r < limit → Dr S' → Sp S S' → Q (iD r) S') : (ev (T.ctx (callF T (n + 3))) (.call "_law_wide" (.cons (.v a) (.cons (.v b) (.cons e .nil))) .nil) ρ S).Ok Q := by
  refine e_call (a_cons0 (e_v ha) (a_cons0 (e_v hb) (a_cons0 he a_nil0))) a_nil0 (called_ok ?_)
  show (callF T (n + 3) "_law_wide" [.ref 0, .ref 1, .dat (.int limit)] S).Ok _
  refine (wide_ok p pw n hd hl).mono ?_
  rintro t S' ⟨r, rfl, r0, r1, hd', hs⟩
  rw [← hs.len]
  exact R.Ok.of settle_dat (h r S' r0 r1 hd' hs)
theorem pick_ok (p : Pre T) (pp : PreP T) (n : Nat) (hd : Dr S) {i : Nat} {xs : List Val} (h1 : i ≠ 1) (hi : S[i]? = some (.lst xs)) (hne : xs ≠ []) : (callF T (n + 3) "_law_pick" [.ref 0, .ref 1, .ref i] S).Ok fun t S' => ∃ x, x ∈ xs ∧ t = .val x ∧ Dr S' ∧ Sp S S' := by
  refine cal_ok pp.pick rfl ?_
  refine s_cons (s_retO ?_)
  rw [ev]; unfold mBin
  rw [e_v rfl, bind_ok, ok_bind]
  have hpos : (0 : Int) < xs.length := by
    cases xs with
    | nil => exact (hne rfl).elim
    | cons _ _ => simp
  refine e_take p hd rfl rfl (e_bi1 (e_v rfl) (l_len hi)) hpos fun r S1 r0 r1 d1 s1 => ?_
  have hi1 : S1[i]? = some (.lst xs) := by rw [s1.same i h1]; exact hi
  have hlt : r.toNat < xs.length := by omega
  rw [l_ix hi1 r0 r1 (List.getElem?_eq_getElem hlt), orBad_some]
  exact ⟨_, List.getElem_mem hlt, rfl, d1, s1⟩
/-- a pick among data that are written in a list -/
theorem e_pick {n : Nat} (p : Pre T) (pp : PreP T) {a b : Nat} {es : Es} (A : D → Prop) (ha : ρ[a]? = some (some (.ref 0))) (hb : ρ[b]? = some (some (.ref 1)))
    (he : (evs (T.ctx (callF T (n + 3))) es ρ S).Ok fun ts S1 => ∃ ds : List D, ts = ds.map vD ∧ ds ≠ [] ∧ ds.length ≤ line ∧ (∀ d ∈ ds, A d) ∧ Dr S1 ∧ Flt S1 ∧ Sp S S1) {Q : TV → Store → Prop}
    (h : ∀ d S', A d → Dr S' → Flt S' → Sp S S' → Q (vD d) S') : (ev (T.ctx (callF T (n + 3))) (.call "_law_pick" (.cons (.v a) (.cons (.v b) (.cons (.lst es) .nil))) .nil) ρ S).Ok Q := by
  obtain ⟨ts, S1, e1, ds, rfl, hne, hl, hA, d1, f1, s1⟩ := he.eq
  have hprom : ∀ (ds : List D) (S : Store), proms (ds.map vD) S = (ds.map .dat, S) := by
    intro ds
    induction ds with
    | nil => intro S; rfl
    | cons d ds ih => intro S; simp only [List.map_cons, proms, prom, ih]
  have hlst : ev (T.ctx (callF T (n + 3))) (.lst es) ρ S = .ok (.new (.lst (ds.map .dat))) S1 := by
    rw [ev]; unfold mLst; rw [e1, bind_ok, if_pos (by simpa using hl), hprom]
  refine e_call (a_cons0 (e_v ha) (a_cons0 (e_v hb) (a_cons0 hlst a_nil0))) a_nil0 (called_ok ?_)
  show (callF T (n + 3) "_law_pick" [.ref 0, .ref 1, .ref S1.length] (S1 ++ [.lst (ds.map .dat)])).Ok _
  have l2 := dr_len d1
  have mx0 : ∀ ds : List D, Val.mxs (ds.map .dat) = 0 := by
    intro ds
    induction ds with
    | nil => rfl
    | cons d ds ih => simp [Val.mxs, Val.mx, ih]
  have f2 : Flt (S1 ++ [.lst (ds.map .dat)]) := flt_app f1 (mx0 ds)
  have d2 : Dr (S1 ++ [.lst (ds.map .dat)]) := dr_ge d1 (Ge.app _) (by rw [List.getElem?_append_left (by omega)])
  refine (pick_ok (xs := ds.map .dat) p pp n d2 (by omega) (by simp) (by simpa using hne)).mono ?_
  rintro t S2 ⟨x, hx, rfl, d3, s3⟩
  obtain ⟨d, hd, rfl⟩ := List.mem_map.mp hx
  have f3 := flt_sp f2 d3 s3
  refine R.Ok.of (settle_flt f3) (h d _ (hA d hd) (dr_take d1 ((Ge.app _).trans s3.ge) d3) ?_ ?_)
  · have := flt_closed (n := S1.length) f3
    unfold Flt closed at f3 ⊢
    rw [List.all_eq_true] at f3 ⊢
    exact fun o ho => f3 o (List.mem_of_mem_take ho)
  · refine s1.trans ⟨by have := s3.len; simp at this; simp; omega, fun i hi => ?_⟩
    by_cases hlt : i < S1.length
    · rw [List.getElem?_take_of_lt hlt, s3.same i hi, List.getElem?_append_left hlt]
    · rw [List.getElem?_eq_none (by have := s3.len; simp at this; simp; omega), List.getElem?_eq_none (by omega)]
end Ap
set_option Elab.async false
set_option linter.all false
set_option maxRecDepth 100000
set_option maxHeartbeats 1000000
namespace Ap
open PySem (Str)
variable {T : Tb} {S S1 S2 S3 : Store} {ρ : Env} {Γ : Ctx} {n : Nat}
/-! ### defs that only compute -/
theorem ok_eq {α : Type} {r : R α} {a : α} (h : r.Ok fun t S' => t = a ∧ S' = S) : r = .ok a S := by
  obtain ⟨t, S', e, rfl, rfl⟩ := h.eq
  exact e
theorem call_eq {f : Str} {d : Fn} {xs : List Val} {a : TV} (hf : T.fns.lookup f = some d) (hl : xs.length = d.ps) (h : (exs (T.ctx (callF T n)) d.body S.length (start d.ns xs) S).Ok (fin fun t S' => t = a ∧ S' = S)) : callF T (n + 1) f xs S = .ok a S := ok_eq (cal_ok hf hl h)
theorem proms_vals : ∀ (xs : List Val) (S : Store), proms (xs.map .val) S = (xs, S)
  | [], S => rfl
  | x :: xs, S => by simp only [List.map_cons, proms, prom, proms_vals xs]
theorem e_fn {f : Str} {es : Es} {xs : List Val} {d : D} (ha : evs (T.ctx (callF T n)) es ρ S = .ok (xs.map .val) S) (hc : callF T n f xs S = .ok (vD d) S) : ev (T.ctx (callF T n)) (.call f es .nil) ρ S = .ok (vD d) S := by
  refine ok_eq (e_call ha a_nil0 (called_ok ?_))
  rw [List.append_nil, proms_vals]
  show (callF T n f xs S).Ok _
  rw [hc, ok_ok]
  exact R.Ok.of settle_dat ⟨rfl, rfl⟩
theorem e_no {a : E} {b : Bool} (ha : ev Γ a ρ S = .ok (bD b) S1) : ev Γ (.no a) ρ S = .ok (bD (!b)) S1 := by
  rw [ev]; unfold mNot; rw [ha]; rfl
theorem e_and2' {a b : E} {x y : Bool} (ha : ev Γ a ρ S = .ok (bD x) S) (hb : x = true → ev Γ b ρ S = .ok (bD y) S) : ev Γ (.and (.cons a (.cons b .nil))) ρ S = .ok (bD (x && y)) S := by
  rw [ev, evAnd, evAnd]; unfold mAnd
  rw [ha, bind_ok]
  simp only [blT, orBad_some]
  cases x with
  | true => rw [if_pos rfl, hb rfl]; rfl
  | false => rfl
theorem e_and3' {a b c : E} {x y z : Bool} (ha : ev Γ a ρ S = .ok (bD x) S) (hb : x = true → ev Γ b ρ S = .ok (bD y) S) (hc : x = true → y = true → ev Γ c ρ S = .ok (bD z) S) : ev Γ (.and (.cons a (.cons b (.cons c .nil)))) ρ S = .ok (bD (x && (y && z))) S := by
  rw [ev, evAnd, evAnd, evAnd]; unfold mAnd
  rw [ha, bind_ok]
  simp only [blT, orBad_some]
  cases x with
  | true =>
    rw [if_pos rfl, hb rfl, bind_ok]
    simp only [blT, orBad_some]
    cases y with
    | true => rw [if_pos rfl, hc rfl rfl]; rfl
    | false => rfl
  | false => rfl
theorem e_c2 {o1 o2 : Cop} {a b c : E} {x y z : TV} {k1 k2 : Bool} (ha : ev Γ a ρ S = .ok x S) (hb : ev Γ b ρ S = .ok y S) (hc : k1 = true → ev Γ c ρ S = .ok z S) (h1 : cmp o1 x y S = some k1) (h2 : k1 = true → cmp o2 y z S = some k2) : ev Γ (.cmp2 o1 o2 a b c) ρ S = .ok (bD (k1 && k2)) S := by
  rw [ev]; unfold mChain
  rw [ha, bind_ok, hb, bind_ok, h1, orBad_some]
  cases k1 with
  | true => rw [if_pos rfl, hc rfl, bind_ok, h2 rfl]; rfl
  | false => rfl
theorem e_g {x : Str} {d : D} (h : Γ.consts x = some d) : ev Γ (.g x) ρ S = .ok (vD d) S := by rw [ev, h]
theorem t_or2' {a b : E} {x y : Bool} (ha : evT Γ a ρ S = .ok x S) (hb : x = false → evT Γ b ρ S = .ok y S) : evT Γ (.or (.cons a (.cons b .nil))) ρ S = .ok (x || y) S := by
  rw [evT, evTOr, evTOr]; unfold mTOr
  rw [ha, bind_ok]
  cases x with
  | true => rfl
  | false => rw [if_neg (by decide), hb rfl]; rfl
theorem t_or3' {a b c : E} {x y z : Bool} (ha : evT Γ a ρ S = .ok x S) (hb : x = false → evT Γ b ρ S = .ok y S) (hc : x = false → y = false → evT Γ c ρ S = .ok z S) : evT Γ (.or (.cons a (.cons b (.cons c .nil)))) ρ S = .ok (x || (y || z)) S := by
  rw [evT, evTOr, evTOr, evTOr]; unfold mTOr
  rw [ha, bind_ok]
  cases x with
  | true => rfl
  | false =>
    rw [if_neg (by decide), hb rfl, bind_ok]
    cases y with
    | true => rfl
    | false => rw [if_neg (by decide), hc rfl rfl]; rfl
theorem t_call {f : Str} {es ks : Es} {b : Bool} (h : ev Γ (.call f es ks) ρ S = .ok (bD b) S) : evT Γ (.call f es ks) ρ S = .ok b S := by
  rw [ev] at h
  rw [evT]; unfold mT; rw [h]; rfl
theorem t_bi {f : Bi} {es : Es} {b : Bool} (h : ev Γ (.bi f es) ρ S = .ok (bD b) S) : evT Γ (.bi f es) ρ S = .ok b S := by
  rw [ev] at h
  rw [evT]; unfold mT; rw [h]; rfl
theorem l_all {bs : List Bool} : bi1 .all (.new (.lst (bs.map fun b => .dat (.bl b)))) S = some (bD (bs.all id)) := by
  have : ∀ bs : List Bool, blsOf (bs.map fun b => Val.dat (.bl b)) = some bs := by
    intro bs
    induction bs with
    | nil => rfl
    | cons b bs ih => simp only [List.map_cons, blsOf, ih, Option.map_some]
  simp only [bi1, lstOf, objOf, Option.bind_some, this, Option.map_some, vB]
/-- [elt for one in data] -/
theorem e_lcP {elt : E} {own : List Nat} {tg : Tg} {it : It} {src : Src} {ys : List D} (hi : evI Γ it ρ S = .ok src S) (hst : src.still S = true) (hl : src.xs.length ≤ line) (hy : ys.length = src.xs.length)
    (hs : ∀ (i : Nat) (x : Val) (y : D), src.xs[i]? = some x → ys[i]? = some y → ∃ ρ', asg tg x (wipe ρ own) = some ρ' ∧ ev Γ elt ρ' S = .ok (vD y) S) : ev Γ (.lc elt own tg it .nil) ρ S = .ok (.new (.lst (ys.map .dat))) S := by
  refine ok_eq (e_lc hi (fun i done S' => S' = S ∧ done = (ys.take i).map .dat) ⟨rfl, rfl⟩ ?_ ?_)
  · rintro i x done S' hx ⟨rfl, rfl⟩
    have hi : i < ys.length := by have := (List.getElem?_eq_some_iff.mp hx).1; omega
    have hyi : ys[i]? = some ys[i] := List.getElem?_eq_getElem hi
    obtain ⟨ρ', h1, h2⟩ := hs i x _ hx hyi
    refine ⟨hst, ρ', h1, R.Ok.of h2 ⟨rfl, ?_⟩⟩
    rw [take_snoc hyi, List.map_append]; rfl
  · rintro done S' ⟨rfl, rfl⟩
    have e : ys.take src.xs.length = ys := by rw [← hy]; simp
    rw [e]
    exact ⟨hst, by simp; omega, rfl, rfl⟩
/-! ### kinds -/
def within (d : D) (a b : Int) : Bool := match d with
  | .int v => decide (a ≤ v) && decide (v ≤ b)
  | _ => false
theorem not_lt_le {a b : Int} : (!decide (b < a)) = decide (a ≤ b) := by
  by_cases h : a ≤ b
  · rw [decide_eq_true h, decide_eq_false (by omega)]; rfl
  · rw [decide_eq_false h, decide_eq_true (by omega)]; rfl
theorem integer_eq (p : PreK T) (d : D) : callF T (n + 1) "is_integer" [.dat d] S = .ok (bD (match d with | .int _ => true | _ => false)) S := by
  refine call_eq p.integer rfl (s_cons (s_ret (t := bD (match d with | .int _ => true | _ => false)) ?_ ⟨rfl, rfl⟩))
  cases d with
  | int i => exact e_and2' (x := true) (y := true) (e_isi (e_v rfl) (isi1 rfl)) fun _ => e_no (b := false) (e_isi (e_v rfl) (isi1 rfl))
  | bl i => exact e_and2' (x := true) (y := false) (e_isi (e_v rfl) (isi1 rfl)) fun _ => e_no (b := true) (e_isi (e_v rfl) (isi1 rfl))
  | non => exact e_and2' (x := false) (y := false) (e_isi (e_v rfl) (isi1 rfl)) fun h => nomatch h
  | str _ => exact e_and2' (x := false) (y := false) (e_isi (e_v rfl) (isi1 rfl)) fun h => nomatch h
  | tup _ => exact e_and2' (x := false) (y := false) (e_isi (e_v rfl) (isi1 rfl)) fun h => nomatch h
theorem within_eq (p : PreK T) (d : D) (a b : Int) : callF T (n + 2) "is_within" [.dat d, .dat (.int a), .dat (.int b)] S = .ok (bD (within d a b)) S := by
  refine call_eq p.within rfl (s_cons (s_ret (t := bD (within d a b)) ?_ ⟨rfl, rfl⟩))
  have h1 : ev (T.ctx (callF T (n + 1))) (.call "is_integer" (.cons (.v 0) .nil) .nil) [some (.dat d), some (.dat (.int a)), some (.dat (.int b))] S = .ok (bD (match d with | .int _ => true | _ => false)) S :=
    e_fn (xs := [.dat d]) (a_cons0 (e_v rfl) a_nil0) (integer_eq p d)
  cases d with
  | int v =>
    have := e_and2' (x := true) (y := (!decide (v < a)) && (!decide (b < v))) h1 fun _ => e_c2 (a := .v 1) (b := .v 0) (c := .v 2) (e_v rfl) (e_v rfl) (fun _ => e_v rfl) c_le (fun _ => c_le)
    rw [not_lt_le, not_lt_le] at this
    exact this
  | non => exact e_and2' (x := false) (y := false) h1 fun h => nomatch h
  | bl _ => exact e_and2' (x := false) (y := false) h1 fun h => nomatch h
  | str _ => exact e_and2' (x := false) (y := false) h1 fun h => nomatch h
  | tup _ => exact e_and2' (x := false) (y := false) h1 fun h => nomatch h
def rowOk (d : D) (a b : Int) : Bool := match d with
  | .tup ds => decide (a ≤ (ds.length : Int)) && decide ((ds.length : Int) ≤ b)
  | _ => false
theorem isrow_eq (p : PreK T) (d : D) (a b : Int) : callF T (n + 1) "is_row" [.dat d, .dat (.int a), .dat (.int b)] S = .ok (bD (rowOk d a b)) S := by
  refine call_eq p.isrow rfl (s_cons (s_ret (t := bD (rowOk d a b)) ?_ ⟨rfl, rfl⟩))
  cases d with
  | tup ds =>
    have := e_and2' (Γ := T.ctx (callF T n)) (ρ := [some (.dat (.tup ds)), some (.dat (.int a)), some (.dat (.int b))]) (S := S) (x := true) (y := (!decide ((ds.length : Int) < a)) && (!decide (b < (ds.length : Int)))) (e_isi (a := .v 0) (e_v rfl) (isi1 (ty := .tuple) rfl)) fun _ => e_c2 (a := .v 1) (b := .bi .len (.cons (.v 0) .nil)) (c := .v 2) (e_v rfl) (e_bi1 (e_v rfl) l_lenT) (fun _ => e_v rfl) c_le (fun _ => c_le)
    rw [not_lt_le, not_lt_le] at this
    exact this
  | non => exact e_and2' (x := false) (y := false) (e_isi (e_v rfl) (isi1 rfl)) fun h => nomatch h
  | bl _ => exact e_and2' (x := false) (y := false) (e_isi (e_v rfl) (isi1 rfl)) fun h => nomatch h
  | str _ => exact e_and2' (x := false) (y := false) (e_isi (e_v rfl) (isi1 rfl)) fun h => nomatch h
  | int _ => exact e_and2' (x := false) (y := false) (e_isi (e_v rfl) (isi1 rfl)) fun h => nomatch h
end Ap
set_option Elab.async false
set_option linter.all false
set_option maxRecDepth 100000
set_option maxHeartbeats 1000000
namespace Ap
open PySem (Str)
def p_is_second : Fn := ⟨1, 1,
    (.cons (.ret (.call "is_within" (.cons (.v 0) (.cons (.c (.int 0)) (.cons (.g "MOST_SECOND") .nil))) .nil))
    .nil)⟩
def p_is_word : Fn := ⟨1, 2,
    (.cons (.ret (.and (.cons (.isi (.v 0) [.str]) (.cons (.cmp2 .le .le (.c (.int 1)) (.bi .len (.cons (.v 0) .nil)) (.g "MOST_LETTERS")) (.cons (.bi .all (.cons (.lc (.cmp .isin (.v 1) (.g "LETTERS")) [1] (.nm 1) (.e (.v 0)) .nil) .nil)) .nil)))))
    .nil)⟩
def p_ascending : Fn := ⟨1, 2,
    (.cons (.ret (.bi .all (.cons (.lc (.cmp .lt (.ix (.v 0) (.v 1)) (.ix (.v 0) (.bin .add (.v 1) (.c (.int 1))))) [1] (.nm 1) (.rg1 (.bin .sub (.bi .len (.cons (.v 0) .nil)) (.c (.int 1)))) .nil) .nil)))
    .nil)⟩
def p_is_pair : Fn := ⟨1, 1,
    (.cons (.ret (.and (.cons (.call "is_row" (.cons (.v 0) (.cons (.c (.int 2)) (.cons (.c (.int 2)) .nil))) .nil) (.cons (.call "is_within" (.cons (.ix (.v 0) (.c (.int 0))) (.cons (.c (.int 0)) (.cons (.bin .sub (.g "DAY") (.c (.int 1))) .nil))) .nil) (.cons (.call "is_word" (.cons (.ix (.v 0) (.c (.int 1))) .nil) .nil) .nil)))))
    .nil)⟩
def p_is_day : Fn := ⟨1, 4,
    (.cons (.if_ (.or (.cons (.no (.call "is_row" (.cons (.v 0) (.cons (.c (.int 1)) (.cons (.g "MOST_PAIRS") .nil))) .nil)) (.cons (.no (.bi .all (.cons (.lc (.call "is_pair" (.cons (.v 1) .nil) .nil) [1] (.nm 1) (.e (.v 0)) .nil) .nil))) .nil)))
    (.cons (.ret (.c (.bl false)))
    .nil)
    .nil)
    (.cons (.ret (.and (.cons (.cmp .eq (.ix (.ix (.v 0) (.c (.int 0))) (.c (.int 0))) (.c (.int 0))) (.cons (.call "ascending" (.cons (.lc (.v 2) [2, 3] (.tp (.cons (.nm 2) (.cons (.nm 3) .nil))) (.e (.v 0)) .nil) .nil) .nil) .nil))))
    .nil))⟩
def p_are_feasts : Fn := ⟨1, 2,
    (.cons (.if_ (.or (.cons (.no (.call "is_row" (.cons (.v 0) (.cons (.c (.int 0)) (.cons (.g "MOST_FEASTS") .nil))) .nil)) (.cons (.no (.bi .all (.cons (.lc (.call "is_within" (.cons (.v 1) (.cons (.c (.int 0)) (.cons (.g "MOST_FEAST") .nil))) .nil) [1] (.nm 1) (.e (.v 0)) .nil) .nil))) .nil)))
    (.cons (.ret (.c (.bl false)))
    .nil)
    .nil)
    (.cons (.ret (.call "ascending" (.cons (.v 0) .nil) .nil))
    .nil))⟩
def p_is_shape : Fn := ⟨1, 2,
    (.cons (.if_ (.or (.cons (.no (.call "is_row" (.cons (.v 0) (.cons (.c (.int 2)) (.cons (.c (.int 2)) .nil))) .nil)) (.cons (.no (.call "is_row" (.cons (.ix (.v 0) (.c (.int 0))) (.cons (.g "DAYS") (.cons (.g "DAYS") .nil))) .nil)) (.cons (.no (.bi .all (.cons (.lc (.call "is_day" (.cons (.v 1) .nil) .nil) [1] (.nm 1) (.e (.ix (.v 0) (.c (.int 0)))) .nil) .nil))) .nil))))
    (.cons (.ret (.c (.bl false)))
    .nil)
    .nil)
    (.cons (.ret (.call "are_feasts" (.cons (.ix (.v 0) (.c (.int 1))) .nil) .nil))
    .nil))⟩
def p_day_of : Fn := ⟨2, 2,
    (.cons (.ret (.ix (.ix (.v 0) (.c (.int 0))) (.ife (.cmp .isin (.v 1) (.ix (.v 0) (.c (.int 1)))) (.g "WEEK") (.bin .mod (.v 1) (.g "WEEK")))))
    .nil)⟩
def p_day_parts : Fn := ⟨2, 9,
    (.cons (.as 2 (.call "day_of" (.cons (.v 0) (.cons (.v 1) .nil)) .nil))
    (.cons (.as 3 (.bin .mul (.v 1) (.g "DAY")))
    (.cons (.as 4 (.bin .add (.lc (.v 6) [6, 7] (.tp (.cons (.nm 6) (.cons (.nm 7) .nil))) (.e (.sl (.v 2) (.so (.c (.int 1))) .no)) .nil) (.lst (.cons (.g "DAY") .nil))))
    (.cons (.ret (.lc (.tup (.cons (.bin .add (.v 3) (.v 6)) (.cons (.bin .add (.v 3) (.v 5)) (.cons (.v 8) .nil)))) [5, 6, 8] (.tp (.cons (.tp (.cons (.nm 6) (.cons (.nm 8) .nil))) (.cons (.nm 5) .nil))) (.zip (.v 2) (.v 4)) .nil))
    .nil))))⟩
def p_parts_of : Fn := ⟨3, 8,
    (.cons (.as 3 (.lst .nil))
    (.cons (.for_ (.nm 4) (.rg2 (.bin .fdiv (.v 1) (.g "DAY")) (.bin .add (.bin .fdiv (.bin .sub (.v 2) (.c (.int 1))) (.g "DAY")) (.c (.int 1))))
    (.cons (.for_ (.tp (.cons (.nm 5) (.cons (.nm 6) (.cons (.nm 7) .nil)))) (.e (.call "day_parts" (.cons (.v 0) (.cons (.v 4) .nil)) .nil))
    (.cons (.if_ (.cmp .lt (.bi .max2 (.cons (.v 5) (.cons (.v 1) .nil))) (.bi .min2 (.cons (.v 6) (.cons (.v 2) .nil))))
    (.cons (.app (.v 3) (.tup (.cons (.bi .max2 (.cons (.v 5) (.cons (.v 1) .nil))) (.cons (.bi .min2 (.cons (.v 6) (.cons (.v 2) .nil))) (.cons (.v 7) .nil)))))
    .nil)
    .nil)
    .nil))
    .nil))
    (.cons (.ret (.v 3))
    .nil)))⟩
def p_band_at : Fn := ⟨2, 2,
    (.cons (.ret (.ix (.ix (.call "parts_of" (.cons (.v 0) (.cons (.v 1) (.cons (.bin .add (.v 1) (.c (.int 1))) .nil))) .nil) (.c (.int 0))) (.c (.int 2))))
    .nil)⟩
def p_taken_week : Fn := ⟨2, 3,
    (.cons (.as 2 (.call "frozen" (.cons (.v 0) .nil) .nil))
    (.cons (.if_ (.no (.call "is_shape" (.cons (.v 2) .nil) .nil))
    (.cons (.rais "BadValue" (.v 1))
    .nil)
    .nil)
    (.cons (.ret (.v 2))
    .nil)))⟩
def p_need_second : Fn := ⟨2, 2,
    (.cons (.if_ (.no (.call "is_second" (.cons (.v 0) .nil) .nil))
    (.cons (.rais "BadValue" (.v 1))
    .nil)
    .nil)
    .nil)⟩
def p_band : Fn := ⟨2, 3,
    (.cons (.as 2 (.call "taken_week" (.cons (.v 0) (.cons (.c (.int 0)) .nil)) .nil))
    (.cons (.ex (.call "need_second" (.cons (.v 1) (.cons (.c (.int 1)) .nil)) .nil))
    (.cons (.ret (.call "band_at" (.cons (.v 2) (.cons (.v 1) .nil)) .nil))
    .nil)))⟩
def p_next_change : Fn := ⟨2, 8,
    (.cons (.as 2 (.call "taken_week" (.cons (.v 0) (.cons (.c (.int 0)) .nil)) .nil))
    (.cons (.ex (.call "need_second" (.cons (.v 1) (.cons (.c (.int 1)) .nil)) .nil))
    (.cons (.as 3 (.call "band_at" (.cons (.v 2) (.cons (.v 1) .nil)) .nil))
    (.cons (.for_ (.nm 4) (.rg2 (.bin .fdiv (.v 1) (.g "DAY")) (.bin .add (.bin .fdiv (.g "MOST_SECOND") (.g "DAY")) (.c (.int 1))))
    (.cons (.for_ (.tp (.cons (.nm 5) (.cons (.nm 6) (.cons (.nm 7) .nil)))) (.e (.call "day_parts" (.cons (.v 2) (.cons (.v 4) .nil)) .nil))
    (.cons (.if_ (.and (.cons (.cmp .gt (.v 5) (.v 1)) (.cons (.cmp .ne (.v 7) (.v 3)) .nil)))
    (.cons (.ret (.ife (.cmp .le (.v 5) (.g "MOST_SECOND")) (.v 5) (.c .non)))
    .nil)
    .nil)
    .nil))
    .nil))
    (.cons (.ret (.c .non))
    .nil)))))⟩
def p_seconds_in : Fn := ⟨4, 8,
    (.cons (.as 4 (.call "taken_week" (.cons (.v 0) (.cons (.c (.int 0)) .nil)) .nil))
    (.cons (.ex (.call "need_second" (.cons (.v 1) (.cons (.c (.int 1)) .nil)) .nil))
    (.cons (.ex (.call "need_second" (.cons (.v 2) (.cons (.c (.int 2)) .nil)) .nil))
    (.cons (.if_ (.no (.call "is_word" (.cons (.v 3) .nil) .nil))
    (.cons (.rais "BadValue" (.c (.int 3)))
    .nil)
    .nil)
    (.cons (.ret (.bi .sum (.cons (.lc (.bin .sub (.v 6) (.v 5)) [5, 6, 7] (.tp (.cons (.nm 5) (.cons (.nm 6) (.cons (.nm 7) .nil)))) (.e (.call "parts_of" (.cons (.v 4) (.cons (.v 1) (.cons (.v 2) .nil))) .nil)) (.cons (.cmp .eq (.v 7) (.v 3)) .nil)) .nil)))
    .nil)))))⟩
structure PreS (T : Tb) : Prop where
  second : T.fns.lookup ("is_second" : Str) = some p_is_second
  word : T.fns.lookup ("is_word" : Str) = some p_is_word
  ascending : T.fns.lookup ("ascending" : Str) = some p_ascending
  pair : T.fns.lookup ("is_pair" : Str) = some p_is_pair
  day : T.fns.lookup ("is_day" : Str) = some p_is_day
  feasts : T.fns.lookup ("are_feasts" : Str) = some p_are_feasts
  shape : T.fns.lookup ("is_shape" : Str) = some p_is_shape
  cL : T.consts.lookup ("LETTERS" : Str) = some (.str "abcdefghijklmnopqrstuvwxyz")
  cML : T.consts.lookup ("MOST_LETTERS" : Str) = some (.int 8)
  cMS : T.consts.lookup ("MOST_SECOND" : Str) = some (.int 100000000)
  cD : T.consts.lookup ("DAY" : Str) = some (.int 86400)
  cDS : T.consts.lookup ("DAYS" : Str) = some (.int 8)
  cW : T.consts.lookup ("WEEK" : Str) = some (.int 7)
  cMP : T.consts.lookup ("MOST_PAIRS" : Str) = some (.int 8)
  cMF : T.consts.lookup ("MOST_FEASTS" : Str) = some (.int 20)
  cMT : T.consts.lookup ("MOST_FEAST" : Str) = some (.int 1000)
variable {T : Tb} {S S1 S2 S3 : Store} {ρ : Env} {Γ : Ctx} {n : Nat}
theorem second_eq (p : PreK T) (ps : PreS T) (d : D) : callF T (n + 3) "is_second" [.dat d] S = .ok (bD (within d 0 100000000)) S := by
  refine call_eq ps.second rfl (s_cons (s_ret (e_fn (xs := [.dat d, .dat (.int 0), .dat (.int 100000000)]) (a_cons0 (e_v rfl) (a_cons0 e_c (a_cons0 (e_g ps.cMS) a_nil0))) (within_eq p d _ _)) ⟨rfl, rfl⟩))
def letters : Str := "abcdefghijklmnopqrstuvwxyz"
def wordOk (x : Str) : Bool := (decide ((1 : Int) ≤ x.length) && decide ((x.length : Int) ≤ 8)) && x.cps.toList.all fun c => letters.cps.toList.contains c
theorem l_lenS {x : Str} : bi1 .len (vD (.str x)) S = some (iD x.length) := rfl
theorem word_eq (ps : PreS T) {x : Str} (hl : x.length ≤ line) : callF T (n + 1) "is_word" [.dat (.str x)] S = .ok (bD (wordOk x)) S := by
  have hall : ev (T.ctx (callF T n)) (.bi .all (.cons (.lc (.cmp .isin (.v 1) (.g "LETTERS")) [1] (.nm 1) (.e (.v 0)) .nil) .nil)) [some (.dat (.str x)), none] S = .ok (bD (x.cps.toList.all fun c => letters.cps.toList.contains c)) S := by
    refine e_bi1 (e_lcP (src := ⟨(signs x).map .dat, []⟩) (ys := x.cps.toList.map fun c => .bl (letters.cps.toList.contains c)) (by rw [evI]; unfold mIt; rw [e_v rfl, bind_ok]; rfl) rfl (by simpa [signs, Str.length] using hl) (by simp [signs]) fun i y z hy hz => ?_) ?_
    · simp only [signs, List.map_map, List.getElem?_map, Option.map_eq_some_iff, Function.comp] at hy hz
      obtain ⟨c, hc, rfl⟩ := hy
      obtain ⟨c', hc', rfl⟩ := hz
      rw [hc] at hc'
      cases hc'
      exact ⟨_, rfl, e_cmp (e_v rfl) (e_g ps.cL) rfl⟩
    · rw [List.map_map]
      have := l_all (S := S) (bs := x.cps.toList.map fun c => letters.cps.toList.contains c)
      rw [List.map_map, List.all_map] at this
      exact this
  refine call_eq ps.word rfl (s_cons (s_ret (t := bD (wordOk x)) ?_ ⟨rfl, rfl⟩))
  have h2 : ev (T.ctx (callF T n)) (.cmp2 .le .le (.c (.int 1)) (.bi .len (.cons (.v 0) .nil)) (.g "MOST_LETTERS")) [some (.dat (.str x)), none] S = .ok (bD (decide ((1 : Int) ≤ x.length) && decide ((x.length : Int) ≤ 8))) S := by
    have := e_c2 (Γ := T.ctx (callF T n)) (ρ := [some (.dat (.str x)), none]) (S := S) (a := .c (.int 1)) (b := .bi .len (.cons (.v 0) .nil)) (c := .g "MOST_LETTERS") e_c (e_bi1 (e_v rfl) l_lenS) (fun _ => e_g ps.cML) c_le (fun _ => c_le)
    rw [not_lt_le, not_lt_le] at this
    exact this
  exact e_and3' (x := true) (e_isi (e_v rfl) (isi1 rfl)) (fun _ => h2) fun _ _ => hall
theorem i_rgI {a : E} {j : Int} (he : ev Γ a ρ S = .ok (iD j) S1) (hr : okR j = true) : evI Γ (.rg1 a) ρ S = .ok ⟨upto 0 j.toNat, []⟩ S1 := by
  rw [evI]; unfold mRg1; rw [he, bind_ok, show intT (iD j) = some j from rfl, orBad_some, if_pos hr]
/-- a row of ints, as a tuple or as a list of the store -/
def RowI (S : Store) (x : Val) (ns : List Int) : Prop := seqOf (.val x) S = some (li ns)
theorem row_len {x : Val} {ns : List Int} (h : RowI S x ns) : bi1 .len (.val x) S = some (iD ns.length) := by
  have hx : ∀ s, x ≠ .dat (.str s) := by
    rintro s rfl
    simp [RowI, seqOf, lstOf, objOf] at h
  unfold RowI at h
  have : lenT (.val x) S = (seqOf (.val x) S).map List.length := by
    unfold lenT
    split
    · rename_i s q; cases q; exact (hx _ rfl).elim
    · rfl
  simp only [bi1, this, h, Option.map_some, List.length_map, vI]
theorem row_ix {x : Val} {ns : List Int} {k : Int} {z : Int} (h : RowI S x ns) (h0 : 0 ≤ k) (h1 : k < ns.length) (hz : ns[k.toNat]? = some z) : index (.val x) (iD k) S = some (iD z) := by
  have hx : ∀ s, x ≠ .dat (.str s) := by
    rintro s rfl
    simp [RowI, seqOf, lstOf, objOf] at h
  unfold RowI at h
  have : index (.val x) (iD k) S = (seqOf (.val x) S).bind fun xs => (item xs k).map .val := by
    unfold index
    split
    · rename_i q; cases q
      split
      · rename_i s q; cases q; exact (hx _ rfl).elim
      · rfl
    · rename_i q; exact (q _ rfl).elim
  rw [this, h]
  simp only [Option.bind_some, item, List.length_map, place_in h0 h1, List.getElem?_map, hz, Option.map_some]
def asc (ns : List Int) : Bool := (List.range (ns.length - 1)).all fun i => decide (ns.getD i 0 < ns.getD (i + 1) 0)
theorem asc_eq (ps : PreS T) {x : Val} {ns : List Int} (h : RowI S x ns) (hl : ns.length ≤ line) : callF T (n + 1) "ascending" [x] S = .ok (bD (asc ns)) S := by
  refine call_eq ps.ascending rfl (s_cons (s_ret (t := bD (asc ns)) ?_ ⟨rfl, rfl⟩))
  have hr : okR ((ns.length : Int) - 1) = true := by
    have h2 : ns.length ≤ 16777216 := hl
    unfold okR bound
    rw [Bool.and_eq_true]
    refine ⟨decide_eq_true ?_, decide_eq_true ?_⟩ <;> omega
  have hn : ((ns.length : Int) - 1).toNat = ns.length - 1 := by omega
  refine e_bi1 (e_lcP (src := ⟨upto 0 ((ns.length : Int) - 1).toNat, []⟩) (ys := (List.range (ns.length - 1)).map fun i => .bl (decide (ns.getD i 0 < ns.getD (i + 1) 0))) (i_rgI (e_bin (e_bi1 (e_v rfl) (row_len h)) e_c b_sub) hr) rfl (by rw [upto_ln]; omega) (by simp [upto_ln]) fun i y z hy hz => ?_) ?_
  · simp only [List.getElem?_map, Option.map_eq_some_iff] at hz
    obtain ⟨i', hi', rfl⟩ := hz
    have hi : i < ns.length - 1 := by
      have := (List.getElem?_eq_some_iff.mp hi').1
      simpa using this
    have e : i' = i := by
      rw [List.getElem?_range hi] at hi'
      cases hi'; rfl
    subst e
    rw [hn] at hy
    simp only [upto_at, hi, if_true, Option.some.injEq] at hy
    subst hy
    refine ⟨_, rfl, e_cmp (e_ix (e_v rfl) (e_v rfl) (row_ix (z := ns.getD i' 0) h (by omega) (by omega) ?_)) (e_ix (e_v rfl) (e_bin (e_v rfl) e_c b_add) (row_ix (z := ns.getD (i' + 1) 0) h (by omega) (by omega) ?_)) c_lt⟩
    · have : ((0 : Int) + (i' : Int)).toNat = i' := by omega
      rw [this, List.getD_eq_getElem?_getD, List.getElem?_eq_getElem (by omega)]; rfl
    · have : ((0 : Int) + (i' : Int) + 1).toNat = i' + 1 := by omega
      rw [this, List.getD_eq_getElem?_getD, List.getElem?_eq_getElem (by omega)]; rfl
  · rw [List.map_map]
    have := l_all (S := S) (bs := (List.range (ns.length - 1)).map fun i => decide (ns.getD i 0 < ns.getD (i + 1) 0))
    rw [List.map_map, List.all_map] at this
    exact this
end Ap
set_option Elab.async false
set_option linter.all false
set_option maxRecDepth 100000
set_option maxHeartbeats 1000000
namespace Ap
open PySem (Str)
variable {T : Tb} {S S1 S2 S3 : Store} {ρ : Env} {Γ : Ctx} {n : Nat}
/-! ### what only adds to the store -/
def Gr (S S' : Store) : Prop := ∃ g, S' = S ++ g
theorem Gr.refl : Gr S S := ⟨[], by simp⟩
theorem Gr.app (g : Store) : Gr S (S ++ g) := ⟨g, rfl⟩
theorem Gr.trans (a : Gr S S1) (b : Gr S1 S2) : Gr S S2 := by
  obtain ⟨g, rfl⟩ := a
  obtain ⟨h, rfl⟩ := b
  exact ⟨g ++ h, by simp⟩
theorem Gr.ge (a : Gr S S1) : Ge S S1 := by
  obtain ⟨g, rfl⟩ := a
  exact Ge.app g
theorem Gr.len (a : Gr S S1) : S.length ≤ S1.length := by
  obtain ⟨g, rfl⟩ := a
  simp
theorem Gr.take (a : Gr S S1) : S1.take S.length = S := by
  obtain ⟨g, rfl⟩ := a
  simp
theorem Gr.dr (a : Gr S S1) (d : Dr S) : Dr S1 := by
  refine dr_ge d a.ge ?_
  obtain ⟨g, rfl⟩ := a
  have := dr_len d
  rw [List.getElem?_append_left (by omega)]
theorem settle_dat_gr {d : D} (g : Gr S S1) : (settle S.length (vD d) S1).Ok fun t S' => t = vD d ∧ Gr S S' := by
  unfold settle
  split
  · refine R.Ok.of (a := vD d) (S := S) ?_ ⟨rfl, Gr.refl⟩
    show (if TV.mx (vD d) ≤ S.length then R.ok (vD d) (S1.take S.length) else R.ok (vD d) S1) = _
    rw [if_pos (show TV.mx (vD d) ≤ S.length from Nat.zero_le _), g.take]
  · exact ⟨rfl, g⟩
theorem settle_lk_gr {t : TV} {d : D} (g : Gr S S1) (h : LkT S1 t d) : (settle S.length t S1).Ok fun t' S' => LkT S' t' d ∧ Gr S S' := by
  refine settle_lk g.ge h fun t' S2 hl _ hs => ⟨hl, ?_⟩
  rcases hs with rfl | rfl
  · exact g
  · rw [g.take]; exact Gr.refl
theorem e_lcG {elt : E} {own : List Nat} {tg : Tg} {it : It} {src : Src} {ys : List D} (hi : evI Γ it ρ S = .ok src S1) (hg : Gr S S1) (hst : ∀ S, src.still S = true) (hl : src.xs.length ≤ line) (hy : ys.length = src.xs.length)
    (hs : ∀ (i : Nat) (x : Val) (y : D) (S2 : Store), Gr S S2 → src.xs[i]? = some x → ys[i]? = some y → ∃ ρ', asg tg x (wipe ρ own) = some ρ' ∧ (ev Γ elt ρ' S2).Ok fun t S3 => t = vD y ∧ Gr S2 S3) : (ev Γ (.lc elt own tg it .nil) ρ S).Ok fun t S3 => t = .new (.lst (ys.map .dat)) ∧ Gr S S3 := by
  refine e_lc hi (fun i done S' => Gr S S' ∧ done = (ys.take i).map .dat) ⟨hg, rfl⟩ ?_ ?_
  · rintro i x done S' hx ⟨g, rfl⟩
    have hi : i < ys.length := by have := (List.getElem?_eq_some_iff.mp hx).1; omega
    have hyi : ys[i]? = some ys[i] := List.getElem?_eq_getElem hi
    obtain ⟨ρ', h1, h2⟩ := hs i x _ S' g hx hyi
    refine ⟨hst _, ρ', h1, h2.mono ?_⟩
    rintro t S'' ⟨rfl, g'⟩
    refine ⟨g.trans g', ?_⟩
    rw [take_snoc hyi, List.map_append]; rfl
  · rintro done S' ⟨g, rfl⟩
    have e : ys.take src.xs.length = ys := by rw [← hy]; simp
    rw [e]
    exact ⟨hst _, by simp; omega, rfl, g⟩
theorem e_fnG {f : Str} {es : Es} {xs : List Val} {d : D} (ha : evs (T.ctx (callF T n)) es ρ S = .ok (xs.map .val) S) (hc : (callF T n f xs S).Ok fun t S' => t = vD d ∧ Gr S S') : (ev (T.ctx (callF T n)) (.call f es .nil) ρ S).Ok fun t S' => t = vD d ∧ Gr S S' := by
  refine e_call ha a_nil0 (called_ok ?_)
  rw [List.append_nil, proms_vals]
  refine hc.mono ?_
  rintro t S' ⟨rfl, g⟩
  exact settle_dat_gr g
theorem e_fnL {f : Str} {es : Es} {xs : List Val} {d : D} (ha : evs (T.ctx (callF T n)) es ρ S = .ok (xs.map .val) S) (hc : (callF T n f xs S).Ok fun t S' => LkT S' t d ∧ Gr S S') : (ev (T.ctx (callF T n)) (.call f es .nil) ρ S).Ok fun t S' => LkT S' t d ∧ Gr S S' := by
  refine e_call ha a_nil0 (called_ok ?_)
  rw [List.append_nil, proms_vals]
  exact hc.mono fun t S' h => settle_lk_gr h.2 h.1
/-- [elt for x in data] as a list of data is taken by a built-in -/
theorem o_bi1 {f : Bi} {a : E} {x z : TV} {Q : TV → Store → Prop} (ha : (ev Γ a ρ S).Ok fun t S1 => t = x ∧ Q z S1) (h : ∀ S1, bi1 f x S1 = some z) : (ev Γ (.bi f (.cons a .nil)) ρ S).Ok Q := by
  obtain ⟨t, S1, e, rfl, q⟩ := ha.eq
  exact R.Ok.of (e_bi1 e (h _)) q
/-! ### weeks -/
abbrev Day := List (Int × Str)
def dayD (d : Day) : D := .tup (d.map fun p => .tup [.int p.1, .str p.2])
structure Wk where
  days : List Day
  feasts : List Int
def Wk.toD (w : Wk) : D := .tup [.tup (w.days.map dayD), .tup (w.feasts.map .int)]
structure GoodDay (d : Day) : Prop where
  first : ∃ x r, d = (0, x) :: r
  most : d.length ≤ 8
  at_ : ∀ p ∈ d, 0 ≤ p.1 ∧ p.1 ≤ 86399
  word : ∀ p ∈ d, wordOk p.2 = true
  up : asc (d.map (·.1)) = true
structure GoodWk (w : Wk) : Prop where
  eight : w.days.length = 8
  day : ∀ d ∈ w.days, GoodDay d
  few : w.feasts.length ≤ 20
  at_ : ∀ f ∈ w.feasts, 0 ≤ f ∧ f ≤ 1000
  up : asc w.feasts = true
theorem within_true {v a b : Int} (h1 : a ≤ v) (h2 : v ≤ b) : within (.int v) a b = true := by
  show (decide (a ≤ v) && decide (v ≤ b)) = true
  rw [decide_eq_true h1, decide_eq_true h2]; rfl
theorem word_len {x : Str} (h : wordOk x = true) : x.length ≤ 8 := by
  unfold wordOk at h
  simp only [Bool.and_eq_true, decide_eq_true_eq] at h
  omega
theorem pair_ok (p : PreK T) (ps : PreS T) {a : Int} {x : Str} (h1 : 0 ≤ a) (h2 : a ≤ 86399) (hw : wordOk x = true) : callF T (n + 3) "is_pair" [.dat (.tup [.int a, .str x])] S = .ok (bD true) S := by
  have hl := word_len hw
  refine call_eq ps.pair rfl (s_cons (s_ret (t := bD true) ?_ ⟨rfl, rfl⟩))
  have i0 : index (vD (.tup [.int a, .str x])) (iD 0) S = some (iD a) := l_ixT (by decide) (by simp) rfl
  have i1 : index (vD (.tup [.int a, .str x])) (iD 1) S = some (vD (.str x)) := l_ixT (by decide) (by simp) rfl
  have hr := isrow_eq (S := S) (n := n + 1) p (.tup [.int a, .str x]) 2 2
  have hi := within_eq (S := S) (n := n) p (.int a) 0 (86400 - 1)
  rw [within_true h1 (by omega)] at hi
  have hx := word_eq (S := S) (n := n + 1) ps (x := x) (by unfold line; omega)
  rw [hw] at hx
  exact e_and3' (x := true) (y := true) (z := true) (e_fn (xs := [.dat (.tup [.int a, .str x]), .dat (.int 2), .dat (.int 2)]) (a_cons0 (e_v rfl) (a_cons0 e_c (a_cons0 e_c a_nil0))) hr)
    (fun _ => e_fn (xs := [.dat (.int a), .dat (.int 0), .dat (.int (86400 - 1))]) (a_cons0 (e_ix (e_v rfl) e_c i0) (a_cons0 e_c (a_cons0 (e_bin (e_g ps.cD) e_c b_sub) a_nil0))) hi)
    fun _ _ => e_fn (xs := [.dat (.str x)]) (a_cons0 (e_ix (e_v rfl) e_c i1) a_nil0) hx
theorem t_all {bs : List Bool} {e : E} (h : ev Γ e ρ S = .ok (.new (.lst ((bs.map fun b => D.bl b).map .dat))) S) : ev Γ (.bi .all (.cons e .nil)) ρ S = .ok (bD (bs.all id)) S := by
  refine e_bi1 h ?_
  rw [List.map_map]
  exact l_all
end Ap
set_option Elab.async false
set_option linter.all false
set_option maxRecDepth 100000
set_option maxHeartbeats 1000000
namespace Ap
open PySem (Str)
variable {T : Tb} {S S1 S2 S3 : Store} {ρ : Env} {Γ : Ctx} {n : Nat}
def pairD (p : Int × Str) : D := .tup [.int p.1, .str p.2]
theorem dayD_eq (d : Day) : dayD d = .tup (d.map pairD) := rfl
theorem day_i {i : Nat} {x : Val} {d : Day} (h : ((d.map pairD).map Val.dat)[i]? = some x) : ∃ p, d[i]? = some p ∧ x = .dat (pairD p) := by
  simp only [List.map_map, List.getElem?_map, Option.map_eq_some_iff, Function.comp] at h
  obtain ⟨p, hp, rfl⟩ := h
  exact ⟨p, hp, rfl⟩
theorem starts_ok {d : Day} (hl : d.length ≤ 8) (h : ρ[0]? = some (some (.dat (dayD d)))) (h4 : 4 ≤ ρ.length) : ev Γ (.lc (.v 2) [2, 3] (.tp (.cons (.nm 2) (.cons (.nm 3) .nil))) (.e (.v 0)) .nil) ρ S = .ok (.new (.lst ((d.map fun p => D.int p.1).map .dat))) S := by
  refine e_lcP (src := ⟨(d.map pairD).map .dat, []⟩) (i_tup h) rfl (by simp [line]; omega) (by simp) fun i x y hx hy => ?_
  obtain ⟨p, hp, rfl⟩ := day_i hx
  simp only [List.getElem?_map, hp, Option.map_some, Option.some.injEq] at hy
  subst hy
  obtain ⟨a, b, c, d, r, rfl⟩ : ∃ a b c d r, ρ = a :: b :: c :: d :: r := by
    match ρ, h4 with
    | a :: b :: c :: d :: r, _ => exact ⟨a, b, c, d, r, rfl⟩
  refine ⟨_, rfl, e_v rfl⟩
theorem all_true {α : Type} (l : List α) : (l.map fun _ => true).all id = true := by simp
theorem pairs_ok (p : PreK T) (ps : PreS T) {d : Day} (hd : GoodDay d) {ρ : Env} {a b : Option Val} {r : Env} (h : ρ = some (.dat (dayD d)) :: b :: r) : ev (T.ctx (callF T (n + 3))) (.bi .all (.cons (.lc (.call "is_pair" (.cons (.v 1) .nil) .nil) [1] (.nm 1) (.e (.v 0)) .nil) .nil)) ρ S = .ok (bD true) S := by
  have hm := hd.most
  rw [← all_true d]
  refine t_all (e_lcP (src := ⟨(d.map pairD).map .dat, []⟩) (i_tup (by rw [h]; rfl)) rfl (by simp [line]; omega) (by simp) fun i x y hx hy => ?_)
  obtain ⟨q, hq, rfl⟩ := day_i hx
  simp only [List.getElem?_map, hq, Option.map_some, Option.some.injEq] at hy
  subst hy
  have hmem := List.mem_of_getElem? hq
  subst h
  exact ⟨_, rfl, e_fn (xs := [.dat (pairD q)]) (a_cons0 (e_v rfl) a_nil0) (pair_ok p ps (hd.at_ q hmem).1 (hd.at_ q hmem).2 (hd.word q hmem))⟩
theorem rowOk_tup {ds : List D} {a b : Int} (h1 : a ≤ (ds.length : Int)) (h2 : (ds.length : Int) ≤ b) : rowOk (.tup ds) a b = true := by
  show (decide (a ≤ (ds.length : Int)) && decide ((ds.length : Int) ≤ b)) = true
  rw [decide_eq_true h1, decide_eq_true h2]; rfl
theorem map_li (ns : List Int) : (ns.map D.int).map Val.dat = li ns := by rw [List.map_map]; rfl
theorem day_ok (p : PreK T) (ps : PreS T) {d : Day} (hd : GoodDay d) : (callF T (n + 4) "is_day" [.dat (dayD d)] S).Ok fun t S' => t = bD true ∧ Gr S S' := by
  obtain ⟨w, r, hr⟩ := hd.first
  have hm := hd.most
  have hlen : 1 ≤ d.length := by rw [hr]; simp
  refine cal_ok ps.day rfl (s_cons (s_if (S1 := S) (c := false) ?_ (fun h => nomatch h) fun _ => s_nil (nx (s_cons (s_retO ?_)))))
  · have hrow := isrow_eq (S := S) (n := n + 2) p (dayD d) 1 8
    rw [dayD_eq, rowOk_tup (by simp; omega) (by simp; omega), ← dayD_eq] at hrow
    exact t_or2' (x := false) (y := false) (t_no (b := true) (t_call (e_fn (xs := [.dat (dayD d), .dat (.int 1), .dat (.int 8)]) (a_cons0 (e_v rfl) (a_cons0 e_c (a_cons0 (e_g ps.cMP) a_nil0))) hrow)))
      fun _ => t_no (b := true) (t_bi (pairs_ok (a := none) p ps hd rfl))
  · have h1 : (ev (T.ctx (callF T (n + 3))) (.call "ascending" (.cons (.lc (.v 2) [2, 3] (.tp (.cons (.nm 2) (.cons (.nm 3) .nil))) (.e (.v 0)) .nil) .nil) .nil) [some (.dat (dayD d)), none, none, none] S).Ok fun t S' => t = bD true ∧ Gr S S' := by
      refine e_call (a_cons0 (starts_ok hm rfl (by simp)) a_nil0) a_nil0 (called_ok ?_)
      rw [List.append_nil]
      show (callF T (n + 3) "ascending" [.ref S.length] (S ++ [.lst ((d.map fun p => D.int p.1).map .dat)])).Ok _
      have hrow : RowI (S ++ [.lst ((d.map fun p => D.int p.1).map .dat)]) (.ref S.length) (d.map (·.1)) := by
        unfold RowI
        have : (S ++ [Obj.lst ((d.map fun p => D.int p.1).map .dat)])[S.length]? = some (.lst ((d.map fun p => D.int p.1).map .dat)) := by simp
        simp only [seqOf, lstOf, objOf, this]
        rw [← map_li]; simp only [List.map_map]; rfl
      refine R.Ok.of (asc_eq (n := n + 2) ps hrow (by simp [line]; omega)) ?_
      rw [hd.up]
      exact settle_dat_gr (Gr.app _)
    obtain ⟨t, S1, e, rfl, g⟩ := h1.eq
    have i0 : index (vD (dayD d)) (iD 0) S = some (vD (pairD (0, w))) := by
      rw [dayD_eq]
      exact l_ixT (by decide) (by simp; omega) (by rw [hr]; rfl)
    have i1 : index (vD (pairD (0, w))) (iD 0) S = some (iD 0) := l_ixT (by decide) (by simp) rfl
    have h0 : ev (T.ctx (callF T (n + 3))) (.cmp .eq (.ix (.ix (.v 0) (.c (.int 0))) (.c (.int 0))) (.c (.int 0))) [some (.dat (dayD d)), none, none, none] S = .ok (bD true) S := by
      have := e_cmp (Γ := T.ctx (callF T (n + 3))) (ρ := [some (.dat (dayD d)), none, none, none]) (e_ix (e_ix (a := .v 0) (e_v rfl) e_c i0) e_c i1) e_c (c_eq (i := 0) (j := 0))
      simpa using this
    exact R.Ok.of (e_and2 h0 (fun _ => e) (fun h => nomatch h)) ⟨rfl, g⟩
theorem feasts_ok (p : PreK T) (ps : PreS T) {w : Wk} (hw : GoodWk w) : callF T (n + 4) "are_feasts" [.dat (.tup (w.feasts.map .int))] S = .ok (bD true) S := by
  have hm := hw.few
  have hr := isrow_eq (S := S) (n := n + 2) p (.tup (w.feasts.map .int)) 0 20
  rw [rowOk_tup (by simp) (by simp; omega)] at hr
  refine call_eq ps.feasts rfl (s_cons (s_if (S1 := S) (c := false) ?_ (fun h => nomatch h) fun _ => s_nil (nx (s_cons (s_ret (t := bD true) ?_ ⟨rfl, rfl⟩)))))
  · refine t_or2' (x := false) (y := false) (t_no (b := true) (t_call (e_fn (xs := [.dat (.tup (w.feasts.map .int)), .dat (.int 0), .dat (.int 20)]) (a_cons0 (e_v rfl) (a_cons0 e_c (a_cons0 (e_g ps.cMF) a_nil0))) hr)))
      fun _ => t_no (b := true) (t_bi ?_)
    rw [← all_true w.feasts]
    refine t_all (e_lcP (src := ⟨(w.feasts.map D.int).map .dat, []⟩) (i_tup rfl) rfl (by simp [line]; omega) (by simp) fun i x y hx hy => ?_)
    simp only [List.map_map, List.getElem?_map, Option.map_eq_some_iff, Function.comp] at hx hy
    obtain ⟨q, hq, rfl⟩ := hx
    obtain ⟨q', hq', rfl⟩ := hy
    have hmem := List.mem_of_getElem? hq
    have hi := within_eq (S := S) (n := n + 1) p (.int q) 0 1000
    rw [within_true (hw.at_ q hmem).1 (hw.at_ q hmem).2] at hi
    exact ⟨_, rfl, e_fn (xs := [.dat (.int q), .dat (.int 0), .dat (.int 1000)]) (a_cons0 (e_v rfl) (a_cons0 e_c (a_cons0 (e_g ps.cMT) a_nil0))) hi⟩
  · have ha := asc_eq (S := S) (n := n + 2) ps (x := .dat (.tup (w.feasts.map .int))) (ns := w.feasts) (by unfold RowI; show some ((w.feasts.map D.int).map Val.dat) = _; rw [map_li]) (by unfold line; omega)
    rw [hw.up] at ha
    exact e_fn (xs := [.dat (.tup (w.feasts.map .int))]) (a_cons0 (e_v rfl) a_nil0) ha
end Ap
set_option Elab.async false
set_option linter.all false
set_option maxRecDepth 100000
set_option maxHeartbeats 1000000
namespace Ap
open PySem (Str)
variable {T : Tb} {S S1 S2 S3 : Store} {ρ : Env} {Γ : Ctx} {n : Nat}
theorem t_or3f {a b c : E} {z : Bool} (ha : evT Γ a ρ S = .ok false S) (hb : evT Γ b ρ S = .ok false S) (hc : evT Γ c ρ S = .ok z S1) : evT Γ (.or (.cons a (.cons b (.cons c .nil)))) ρ S = .ok z S1 := by
  rw [evT, evTOr, evTOr, evTOr]; unfold mTOr
  rw [ha, bind_ok, if_neg (by decide), hb, bind_ok, if_neg (by decide), hc]
theorem t_biG {f : Bi} {es : Es} {b : Bool} (h : ev Γ (.bi f es) ρ S = .ok (bD b) S1) : evT Γ (.bi f es) ρ S = .ok b S1 := by
  rw [ev] at h
  rw [evT]; unfold mT; rw [h]; rfl
theorem t_callG {f : Str} {es ks : Es} {b : Bool} (h : ev Γ (.call f es ks) ρ S = .ok (bD b) S1) : evT Γ (.call f es ks) ρ S = .ok b S1 := by
  rw [ev] at h
  rw [evT]; unfold mT; rw [h]; rfl
theorem i_dat {a : E} {ds : List D} (h : ev Γ a ρ S = .ok (vD (.tup ds)) S1) : evI Γ (.e a) ρ S = .ok ⟨ds.map .dat, []⟩ S1 := by
  rw [evI]; unfold mIt; rw [h, bind_ok]; rfl
theorem s_exO {e : E} {n0 : Nat} {P : Fl → Store → Prop} (he : (ev Γ e ρ S).Ok fun _ S1 => P (.next ρ) S1) : (ex Γ (.ex e) n0 ρ S).Ok P := by
  rw [ex]; unfold xExpr
  rw [sok_st]
  exact he
theorem e_ife {t a b : E} {c : Bool} {x : TV} (ht : evT Γ t ρ S = .ok c S1) (h1 : c = true → ev Γ a ρ S1 = .ok x S2) (h2 : c = false → ev Γ b ρ S1 = .ok x S2) : ev Γ (.ife t a b) ρ S = .ok x S2 := by
  rw [ev]; unfold mIfe
  rw [ht, bind_ok]
  cases c with
  | true => exact h1 rfl
  | false => exact h2 rfl
/-! ### weeks as data -/
theorem depths_le : ∀ {ds : List D} {k : Nat}, (∀ d ∈ ds, d.depth ≤ k) → D.depths ds ≤ k
  | [], _, _ => Nat.zero_le _
  | x :: xs, k, h => by
    rw [D.depths]
    exact Nat.max_le.mpr ⟨h x (by simp), depths_le fun d hd => h d (by simp [hd])⟩
theorem fitss_of : ∀ {ds : List D}, (∀ d ∈ ds, d.fits = true) → D.fitss ds = true
  | [], _ => rfl
  | x :: xs, h => by
    rw [D.fitss, h x (by simp), fitss_of fun d hd => h d (by simp [hd])]; rfl
theorem fits_tup {ds : List D} (hl : ds.length ≤ line) (h : ∀ d ∈ ds, d.fits = true) : (D.tup ds).fits = true := by
  rw [D.fits, fitss_of h, decide_eq_true hl]; rfl
theorem dayD_depth (d : Day) : (dayD d).depth ≤ 2 := by
  rw [dayD_eq, D.depth]
  have : D.depths (d.map pairD) ≤ 1 := depths_le fun x hx => by
    obtain ⟨p, _, rfl⟩ := List.mem_map.mp hx
    exact Nat.le_refl _
  omega
theorem wk_depth (w : Wk) : w.toD.depth ≤ 4 := by
  have h1 : D.depths (w.days.map dayD) ≤ 2 := depths_le fun x hx => by
    obtain ⟨p, _, rfl⟩ := List.mem_map.mp hx
    exact dayD_depth p
  have h2 : D.depths (w.feasts.map .int) ≤ 0 := depths_le fun x hx => by
    obtain ⟨p, _, rfl⟩ := List.mem_map.mp hx
    exact Nat.le_refl _
  unfold Wk.toD
  simp only [D.depth, D.depths]
  omega
theorem wk_fits {w : Wk} (h : GoodWk w) : w.toD.fits = true := by
  have h8 := h.eight
  have h20 := h.few
  refine fits_tup (by simp [line]) fun d hd => ?_
  simp only [List.mem_cons, List.not_mem_nil, or_false] at hd
  rcases hd with rfl | rfl
  · refine fits_tup (by simp [line]; omega) fun d hd => ?_
    obtain ⟨p, hp, rfl⟩ := List.mem_map.mp hd
    have := (h.day p hp).most
    refine fits_tup (by simp [line]; omega) fun d hd => ?_
    obtain ⟨q, hq, rfl⟩ := List.mem_map.mp hd
    rfl
  · refine fits_tup (by simp [line]; omega) fun d hd => ?_
    obtain ⟨p, hp, rfl⟩ := List.mem_map.mp hd
    rfl
theorem wk_ix0 {w : Wk} : index (vD w.toD) (iD 0) S = some (vD (.tup (w.days.map dayD))) := l_ixT (by decide) (by simp) rfl
theorem wk_ix1 {w : Wk} : index (vD w.toD) (iD 1) S = some (vD (.tup (w.feasts.map .int))) := l_ixT (by decide) (by simp) rfl
theorem shape_ok (p : PreK T) (ps : PreS T) {w : Wk} (hw : GoodWk w) : (callF T (n + 5) "is_shape" [.dat w.toD] S).Ok fun t S' => t = bD true ∧ Gr S S' := by
  have h8 := hw.eight
  have h3 : (ev (T.ctx (callF T (n + 4))) (.lc (.call "is_day" (.cons (.v 1) .nil) .nil) [1] (.nm 1) (.e (.ix (.v 0) (.c (.int 0)))) .nil) [some (.dat w.toD), none] S).Ok fun t S' => t = .new (.lst (((w.days.map fun _ => true).map fun b => D.bl b).map .dat)) ∧ Gr S S' := by
    refine e_lcG (src := ⟨(w.days.map dayD).map .dat, []⟩) (i_dat (e_ix (e_v rfl) e_c wk_ix0)) Gr.refl (fun _ => rfl) (by simp [line]; omega) (by simp) fun i x y S2 g hx hy => ?_
    simp only [List.map_map, List.getElem?_map, Option.map_eq_some_iff, Function.comp] at hx hy
    obtain ⟨q, hq, rfl⟩ := hx
    obtain ⟨q', hq', rfl⟩ := hy
    have hmem := List.mem_of_getElem? hq
    exact ⟨_, rfl, e_fnG (xs := [.dat (dayD q)]) (a_cons0 (e_v rfl) a_nil0) (day_ok p ps (hw.day q hmem))⟩
  obtain ⟨t, S1, e, rfl, g⟩ := h3.eq
  have hall : ev (T.ctx (callF T (n + 4))) (.bi .all (.cons (.lc (.call "is_day" (.cons (.v 1) .nil) .nil) [1] (.nm 1) (.e (.ix (.v 0) (.c (.int 0)))) .nil) .nil)) [some (.dat w.toD), none] S = .ok (bD true) S1 := by
    rw [← all_true w.days]
    refine e_bi1 e ?_
    rw [List.map_map]
    exact l_all
  have r0 := isrow_eq (S := S) (n := n + 3) p w.toD 2 2
  have r1 := isrow_eq (S := S) (n := n + 3) p (.tup (w.days.map dayD)) 8 8
  rw [rowOk_tup (by simp; omega) (by simp; omega)] at r1
  refine cal_ok ps.shape rfl (s_cons (s_if (S1 := S1) (c := false) ?_ (fun h => nomatch h) fun _ => s_nil (nx (s_cons (s_ret (t := bD true) ?_ ⟨rfl, g⟩)))))
  · exact t_or3f (t_no (b := true) (t_call (e_fn (xs := [.dat w.toD, .dat (.int 2), .dat (.int 2)]) (a_cons0 (e_v rfl) (a_cons0 e_c (a_cons0 e_c a_nil0))) r0)))
      (t_no (b := true) (t_call (e_fn (xs := [.dat (.tup (w.days.map dayD)), .dat (.int 8), .dat (.int 8)]) (a_cons0 (e_ix (e_v rfl) e_c wk_ix0) (a_cons0 (e_g ps.cDS) (a_cons0 (e_g ps.cDS) a_nil0))) r1)))
      (t_no (b := true) (t_biG hall))
  · exact e_fn (xs := [.dat (.tup (w.feasts.map .int))]) (a_cons0 (e_ix (e_v rfl) e_c wk_ix1) a_nil0) (feasts_ok p ps hw)
structure PreN (T : Tb) : Prop where
  day_of : T.fns.lookup ("day_of" : Str) = some p_day_of
  day_parts : T.fns.lookup ("day_parts" : Str) = some p_day_parts
  parts_of : T.fns.lookup ("parts_of" : Str) = some p_parts_of
  taken : T.fns.lookup ("taken_week" : Str) = some p_taken_week
  need : T.fns.lookup ("need_second" : Str) = some p_need_second
abbrev HBa (T : Tb) : Prop := T.fns.lookup ("band_at" : Str) = some p_band_at
abbrev HBd (T : Tb) : Prop := T.fns.lookup ("band" : Str) = some p_band
abbrev HNc (T : Tb) : Prop := T.fns.lookup ("next_change" : Str) = some p_next_change
abbrev HSi (T : Tb) : Prop := T.fns.lookup ("seconds_in" : Str) = some p_seconds_in
theorem taken_ok (p : PreK T) (ps : PreS T) (pn : PreN T) {w : Wk} (hw : GoodWk w) {x : Val} {k : Int} (h : Lk S x w.toD) : (callF T (n + 6) "taken_week" [x, .dat (.int k)] S).Ok fun t S' => t = vD w.toD ∧ Gr S S' := by
  have hf : callF T (n + 5) "frozen" [x] S = .ok (vD w.toD) S := ok_eq (frozen_ok p (n + 4) w.toD x S h (wk_fits hw) (Nat.le_trans (wk_depth w) (by omega)))
  have hs : (ev (T.ctx (callF T (n + 5))) (.call "is_shape" (.cons (.v 2) .nil) .nil) [some x, some (.dat (.int k)), some (.dat w.toD)] S).Ok fun t S' => t = bD true ∧ Gr S S' :=
    e_fnG (xs := [.dat w.toD]) (a_cons0 (e_v rfl) a_nil0) (shape_ok p ps hw)
  obtain ⟨t, S1, e, rfl, g⟩ := hs.eq
  exact cal_ok pn.taken rfl (s_cons (s_asD (S1 := S) (d := .dat w.toD) (e_fn (xs := [x]) (a_cons0 (e_v rfl) a_nil0) hf) (show 2 < 3 by decide) (nx (s_cons (s_if (S1 := S1) (c := false) (t_no (b := true) (t_callG e)) (fun h => nomatch h) fun _ => s_nil (nx (s_cons (s_ret (e_v rfl) ⟨rfl, g⟩))))))))
theorem need_ok (p : PreK T) (ps : PreS T) (pn : PreN T) {s k : Int} (h0 : 0 ≤ s) (h1 : s ≤ 100000000) : callF T (n + 4) "need_second" [.dat (.int s), .dat (.int k)] S = .ok (vD .non) S := by
  have hs := second_eq (S := S) (n := n) p ps (.int s)
  rw [within_true h0 h1] at hs
  exact call_eq pn.need rfl (s_cons (s_if (S1 := S) (c := false) (t_no (b := true) (t_call (e_fn (xs := [.dat (.int s)]) (a_cons0 (e_v rfl) a_nil0) hs))) (fun h => nomatch h) fun _ => s_nil (nx (s_nil ⟨rfl, rfl⟩))))
end Ap
set_option Elab.async false
set_option linter.all false
set_option maxRecDepth 100000
set_option maxHeartbeats 1000000
namespace Ap
open PySem (Str)
variable {T : Tb} {S S1 S2 S3 : Store} {ρ : Env} {Γ : Ctx} {n : Nat}
/-! ### a list of data that is new -/
def Fresh (S : Store) (t : TV) (S1 : Store) (ds : List D) : Prop := Gr S S1 ∧ (t = .new (.lst (ds.map .dat)) ∨ ∃ j, S.length ≤ j ∧ t = .val (.ref j) ∧ S1[j]? = some (.lst (ds.map .dat)))
theorem mxs_dats : ∀ ds : List D, Val.mxs (ds.map .dat) = 0
  | [] => rfl
  | d :: ds => by
    rw [List.map_cons, Val.mxs, mxs_dats ds]; rfl
theorem lst_mx (ds : List D) : (Obj.lst (ds.map .dat)).mx = 0 := mxs_dats ds
theorem settle_fresh {t : TV} {ds : List D} (h : Fresh S t S1 ds) : (settle S.length t S1).Ok fun t' S' => Fresh S t' S' ds := by
  obtain ⟨g, h⟩ := h
  unfold settle
  split
  · rcases h with rfl | ⟨j, hj, rfl, hs⟩
    · refine R.Ok.of (a := .new (.lst (ds.map .dat))) (S := S) ?_ ⟨Gr.refl, .inl rfl⟩
      show (if TV.mx (TV.new (.lst (ds.map .dat))) ≤ S.length then R.ok (TV.new (.lst (ds.map .dat))) (S1.take S.length) else R.ok (TV.new (.lst (ds.map .dat))) S1) = _
      rw [if_pos (show TV.mx (TV.new (.lst (ds.map .dat))) ≤ S.length from by show (Obj.lst (ds.map .dat)).mx ≤ _; rw [lst_mx]; exact Nat.zero_le _), g.take]
    · refine R.Ok.of (a := .new (.lst (ds.map .dat))) (S := S) ?_ ⟨Gr.refl, .inl rfl⟩
      show (if j < S.length then _ else match S1[j]? with | some o => if o.mx ≤ S.length then R.ok (TV.new o) (S1.take S.length) else _ | none => .bad) = _
      rw [if_neg (by omega), hs]
      show (if (Obj.lst (ds.map .dat)).mx ≤ S.length then _ else _) = _
      rw [if_pos (by rw [lst_mx]; exact Nat.zero_le _), g.take]
  · exact ⟨g, h⟩
theorem e_fnF {f : Str} {es : Es} {xs : List Val} {ds : List D} (ha : evs (T.ctx (callF T n)) es ρ S = .ok (xs.map .val) S) (hc : (callF T n f xs S).Ok fun t S' => Fresh S t S' ds) : (ev (T.ctx (callF T n)) (.call f es .nil) ρ S).Ok fun t S' => Fresh S t S' ds := by
  refine e_call ha a_nil0 (called_ok ?_)
  rw [List.append_nil, proms_vals]
  exact hc.mono fun t S' h => settle_fresh h
theorem fresh_src {t : TV} {ds : List D} (h : Fresh S t S1 ds) : ∃ lv, srcOf t S1 = some ⟨ds.map .dat, lv⟩ ∧ ∀ S2 : Store, (∀ j, S.length ≤ j → S2[j]? = S1[j]?) → Src.still ⟨ds.map .dat, lv⟩ S2 = true := by
  obtain ⟨g, rfl | ⟨j, hj, rfl, hs⟩⟩ := h
  · exact ⟨[], rfl, fun _ _ => rfl⟩
  · refine ⟨[(j, .lst (ds.map .dat))], ?_, fun S2 h => ?_⟩
    · simp only [srcOf, hs]
    · simp [Src.still, h j hj, hs]
/-! ### days of a week -/
def Wk.row (w : Wk) (k : Int) : Day := w.days.getD (if k ∈ w.feasts then 7 else (k % 7).toNat) []
theorem row_at {w : Wk} (hw : GoodWk w) (k : Int) : w.days[if k ∈ w.feasts then 7 else (k % 7).toNat]? = some (w.row k) := by
  have h8 := hw.eight
  have : (if k ∈ w.feasts then 7 else (k % 7).toNat) < w.days.length := by
    split <;> omega
  unfold Wk.row
  rw [List.getD_eq_getElem?_getD, List.getElem?_eq_getElem this]; rfl
theorem row_good {w : Wk} (hw : GoodWk w) (k : Int) : GoodDay (w.row k) := hw.day _ (List.mem_of_getElem? (row_at hw k))
theorem datsOf_mp : ∀ ds : List D, datsOf (ds.map .dat) = some ds := datsOf_self
theorem c_isinI {k : Int} {ns : List Int} : cmp .isin (iD k) (vD (.tup (ns.map .int))) S = some (decide (k ∈ ns)) := by
  show inSeq (iD k) (vD (.tup (ns.map .int))) S = _
  unfold inSeq
  show (some ((ns.map D.int).map Val.dat)).bind _ = _
  rw [Option.bind_some, datsOf_self, Option.bind_some]
  have h1 : (ns.map D.int).all D.flat = true := by simp [D.flat]
  rw [h1]
  show some _ = _
  congr 1
  induction ns with
  | nil => simp
  | cons a r ih =>
    rw [List.map_cons, List.any_cons, ih (by simp [D.flat])]
    show (decide (a = k) || _) = _
    by_cases h : a = k
    · subst h; simp
    · have : k ≠ a := fun q => h q.symm
      simp [h, this]
theorem day_of_eq (ps : PreS T) (pn : PreN T) {w : Wk} (hw : GoodWk w) (k : Int) : callF T (n + 1) "day_of" [.dat w.toD, .dat (.int k)] S = .ok (vD (dayD (w.row k))) S := by
  have h8 := hw.eight
  have hrow := row_at hw k
  refine call_eq pn.day_of rfl (s_cons (s_ret (t := vD (dayD (w.row k))) ?_ ⟨rfl, rfl⟩))
  have hi : ev (T.ctx (callF T n)) (.ife (.cmp .isin (.v 1) (.ix (.v 0) (.c (.int 1)))) (.g "WEEK") (.bin .mod (.v 1) (.g "WEEK"))) [some (.dat w.toD), some (.dat (.int k))] S = .ok (iD (if k ∈ w.feasts then 7 else k % 7)) S := by
    refine e_ife (S1 := S) (t_cm (e_v rfl) (e_ix (e_v rfl) e_c wk_ix1) c_isinI) (fun h => ?_) fun h => ?_
    · rw [if_pos (of_decide_eq_true h)]; exact e_g ps.cW
    · rw [if_neg (of_decide_eq_false h)]; exact e_bin (e_v rfl) (e_g ps.cW) (b_mod (by decide))
  refine e_ix (e_ix (e_v rfl) e_c wk_ix0) hi (l_ixT ?_ ?_ ?_)
  · split <;> omega
  · rw [List.length_map, h8]; split <;> omega
  · rw [List.getElem?_map]
    have : (if k ∈ w.feasts then (7 : Int) else k % 7).toNat = if k ∈ w.feasts then 7 else (k % 7).toNat := by split <;> rfl
    rw [this, hrow]; rfl
end Ap
set_option Elab.async false
set_option linter.all false
set_option maxRecDepth 100000
set_option maxHeartbeats 1000000
namespace Ap
open PySem (Str)
variable {T : Tb} {S S1 S2 S3 : Store} {ρ : Env} {Γ : Ctx} {n : Nat}
abbrev Part := Int × Int × Str
def partD (q : Part) : D := .tup [.int q.1, .int q.2.1, .str q.2.2]
def dayEnds (d : Day) : List Int := (d.drop 1).map (·.1) ++ [86400]
def dayParts (k : Int) (d : Day) : List Part := (d.zip (dayEnds d)).map fun q => (k * 86400 + q.1.1, k * 86400 + q.2, q.1.2)
theorem zipV_map {α β : Type} {f : α → D} {g : β → D} : ∀ (as : List α) (bs : List β), zipV ((as.map f).map .dat) ((bs.map g).map .dat) = ((as.zip bs).map fun q => D.tup [f q.1, g q.2]).map .dat
  | [], _ => by simp [zipV]
  | _ :: _, [] => by simp [zipV]
  | a :: as, b :: bs => by
    simp only [List.map_cons, zipV, List.zip_cons_cons, zipV_map as bs]
    rfl
theorem cut_tail {α : Type} (xs : List α) : cut xs (some 1) none = xs.drop 1 := by
  show (xs.drop (min 1 xs.length)).take (xs.length - min 1 xs.length) = xs.drop 1
  cases xs with
  | nil => rfl
  | cons a r =>
    have : min 1 (a :: r).length = 1 := by simp
    rw [this]
    simp
theorem l_sl {ds : List D} : slice (vD (.tup ds)) (some 1) none S = some (vD (.tup (ds.drop 1))) := by
  show some (TV.val (.dat (.tup (cut ds (some 1) none)))) = _
  rw [cut_tail]
theorem e_sl1 {a : E} {ds : List D} (h : ev Γ a ρ S = .ok (vD (.tup ds)) S) : ev Γ (.sl a (.so (.c (.int 1))) .no) ρ S = .ok (vD (.tup (ds.drop 1))) S := by
  rw [ev]; unfold mSl
  rw [h, bind_ok, evO, evO]; unfold mOSo mONo
  rw [e_c]
  simp only [bind_ok, intT, orBad_some]
  rw [l_sl]; rfl
theorem e_lst1 {a : E} {d : D} (h : ev Γ a ρ S = .ok (vD d) S) : ev Γ (.lst (.cons a .nil)) ρ S = .ok (.new (.lst [.dat d])) S := by
  rw [ev]; unfold mLst
  rw [a_cons0 h a_nil0, bind_ok]; rfl
theorem b_addL {xs ys : List Val} (h : xs.length + ys.length ≤ line) : bin .add (.new (.lst xs)) (.new (.lst ys)) S = some (.new (.lst (xs ++ ys))) := by
  show (if xs.length + ys.length ≤ line then _ else _) = _
  rw [if_pos h]
theorem i_zp {a b : E} {x y : TV} {s s' : Src} (ha : ev Γ a ρ S = .ok x S) (hb : ev Γ b ρ S = .ok y S) (h : sqSrc x S = some s) (h' : sqSrc y S = some s') : evI Γ (.zip a b) ρ S = .ok ⟨zipV s.xs s'.xs, s.lv ++ s'.lv⟩ S := by
  rw [evI]; unfold mZip
  rw [ha, bind_ok, hb, bind_ok, h, orBad_some, h', orBad_some]
theorem e_tup3 {a b c : E} {x y z : D} (ha : ev Γ a ρ S = .ok (vD x) S) (hb : ev Γ b ρ S = .ok (vD y) S) (hc : ev Γ c ρ S = .ok (vD z) S) : ev Γ (.tup (.cons a (.cons b (.cons c .nil)))) ρ S = .ok (vD (.tup [x, y, z])) S := by
  rw [ev]; unfold mTup
  rw [a_cons0 ha (a_cons0 hb (a_cons0 hc a_nil0)), bind_ok]; rfl
theorem day_parts_ok (ps : PreS T) (pn : PreN T) {w : Wk} (hw : GoodWk w) (k : Int) : (callF T (n + 2) "day_parts" [.dat w.toD, .dat (.int k)] S).Ok fun t S' => Fresh S t S' ((dayParts k (w.row k)).map partD) := by
  have hd := row_good hw k
  have hm := hd.most
  generalize hrow : w.row k = d at hd hm
  have h1 : callF T (n + 1) "day_of" [.dat w.toD, .dat (.int k)] S = .ok (vD (dayD d)) S := by rw [← hrow]; exact day_of_eq ps pn hw k
  let L : Obj := .lst (((dayEnds d).map D.int).map .dat)
  refine cal_ok pn.day_parts rfl (s_cons (s_asD (S1 := S) (d := .dat (dayD d)) (e_fn (xs := [.dat w.toD, .dat (.int k)]) (a_cons0 (e_v rfl) (a_cons0 (e_v rfl) a_nil0)) h1) (show 2 < 9 by decide) (nx ?_)))
  refine s_cons (s_asD (S1 := S) (d := .dat (.int (k * 86400))) (e_bin (e_v rfl) (e_g ps.cD) (b_mul (mul_r (by decide)))) (show 3 < 9 by decide) (nx ?_))
  refine s_cons (s_asO (show 4 < 9 by decide) (R.Ok.of (a := .new L) (S := S) ?_ (nx ?_)))
  rotate_left
  refine s_cons (s_ret (t := .new (.lst (((dayParts k d).map partD).map .dat))) (S1 := S ++ [L]) ?_ ⟨Gr.app _, .inl rfl⟩)
  rotate_left
  · have hs : ev (T.ctx (callF T (n + 1))) (.sl (.v 2) (.so (.c (.int 1))) .no) [some (.dat w.toD), some (.dat (.int k)), some (.dat (dayD d)), some (.dat (.int (k * 86400))), none, none, none, none, none] S = .ok (vD (.tup ((d.map pairD).drop 1))) S := e_sl1 (e_v rfl)
    have hL : L = .lst ((((d.drop 1).map fun p => D.int p.1).map Val.dat) ++ [.dat (.int 86400)]) := by
      show Obj.lst _ = _
      unfold dayEnds
      simp
      rfl
    rw [hL]
    refine e_bin (e_lcP (src := ⟨((d.drop 1).map pairD).map .dat, []⟩) (ys := (d.drop 1).map fun p => D.int p.1) (i_dat (by rw [List.map_drop]; exact hs)) rfl (by simp [line]; omega) (by simp) fun i x y hx hy => ?_) (e_lst1 (e_g ps.cD)) (b_addL (by simp [line]; omega))
    obtain ⟨q, hq, rfl⟩ := day_i hx
    simp only [List.getElem?_map, hq, Option.map_some, Option.some.injEq] at hy
    subst hy
    exact ⟨_, rfl, e_v rfl⟩
  · have hi : (S ++ [L])[S.length]? = some L := by simp
    have hz : evI (T.ctx (callF T (n + 1))) (.zip (.v 2) (.v 4)) [some (.dat w.toD), some (.dat (.int k)), some (.dat (dayD d)), some (.dat (.int (k * 86400))), some (.ref S.length), none, none, none, none] (S ++ [L]) = .ok ⟨zipV ((d.map pairD).map .dat) (((dayEnds d).map D.int).map .dat), [] ++ [(S.length, L)]⟩ (S ++ [L]) :=
      i_zp (s := ⟨(d.map pairD).map .dat, []⟩) (s' := ⟨((dayEnds d).map D.int).map .dat, [(S.length, L)]⟩) (e_v rfl) (e_v rfl) rfl (by show (match (S ++ [L])[S.length]? with | some (.lst xs) => some (Src.mk xs [(S.length, .lst xs)]) | _ => none) = _; rw [hi])
    rw [zipV_map] at hz
    refine e_lcP hz (by show (decide ((S ++ [L])[S.length]? = some L) && true) = true; rw [hi]; simp) (by simp [line, dayEnds]; omega) (by simp [dayParts]) fun i x y hx hy => ?_
    simp only [dayParts, List.map_map, List.getElem?_map, Option.map_eq_some_iff, Function.comp] at hx hy
    obtain ⟨q, hq, rfl⟩ := hx
    obtain ⟨q', hq', rfl⟩ := hy
    rw [hq] at hq'
    cases hq'
    exact ⟨_, rfl, e_tup3 (e_bin (e_v rfl) (e_v rfl) b_add) (e_bin (e_v rfl) (e_v rfl) b_add) (e_v rfl)⟩
end Ap
set_option Elab.async false
set_option linter.all false
set_option maxRecDepth 100000
set_option maxHeartbeats 1000000
namespace Ap
open PySem (Str)
variable {T : Tb} {S S1 S2 S3 : Store} {ρ : Env} {Γ : Ctx} {n : Nat}
theorem okR_small {i : Int} (h0 : -1000000000 ≤ i) (h1 : i ≤ 1000000000) : okR i = true := by
  unfold okR bound
  rw [Bool.and_eq_true]
  refine ⟨decide_eq_true ?_, decide_eq_true ?_⟩ <;> omega
def later (b q : Int) : Int := if b > q then b else q
def sooner (e q : Int) : Int := if e < q then e else q
def clip (b e : Int) (q : Part) : Option Part := if later b q.1 < sooner e q.2.1 then some (later b q.1, sooner e q.2.1, q.2.2) else none
def dayCut (w : Wk) (b e : Int) (k : Int) : List Part := (dayParts k (w.row k)).filterMap (clip b e)
def accOf (w : Wk) (b e : Int) (i : Nat) : List Part := (List.range i).flatMap fun (j : Nat) => dayCut w b e (b / 86400 + j)
def partsOf (w : Wk) (b e : Int) : List Part := accOf w b e ((e - 1) / 86400 + 1 - b / 86400).toNat
theorem b_max {i j : Int} : bi2 .max2 (iD i) (iD j) = some (iD (later j i)) := rfl
theorem b_min {i j : Int} : bi2 .min2 (iD i) (iD j) = some (iD (sooner j i)) := rfl
theorem dayParts_len {w : Wk} (hw : GoodWk w) (k : Int) : (dayParts k (w.row k)).length ≤ 8 := by
  have := (row_good hw k).most
  simp only [dayParts, List.length_map, List.length_zip]
  omega
theorem dayCut_len {w : Wk} (hw : GoodWk w) (b e k : Int) : (dayCut w b e k).length ≤ 8 := Nat.le_trans (List.length_filterMap_le _ _) (dayParts_len hw k)
theorem acc_succ (w : Wk) (b e : Int) (i : Nat) : accOf w b e (i + 1) = accOf w b e i ++ dayCut w b e (b / 86400 + i) := by
  unfold accOf
  rw [List.range_succ, List.flatMap_append]; simp
theorem acc_len {w : Wk} (hw : GoodWk w) (b e : Int) : ∀ i : Nat, (accOf w b e i).length ≤ 8 * i
  | 0 => by simp [accOf]
  | i + 1 => by
    rw [acc_succ, List.length_append]
    have := acc_len hw b e i
    have := dayCut_len hw b e (b / 86400 + i)
    omega
theorem set_mid {S g : Store} {o o' : Obj} : (S ++ o :: g).set S.length o' = S ++ o' :: g := by simp
theorem at_mid {S g : Store} {o : Obj} : (S ++ o :: g)[S.length]? = some o := by simp
def partsBody : Ss := (.cons (.if_ (.cmp .lt (.bi .max2 (.cons (.v 5) (.cons (.v 1) .nil))) (.bi .min2 (.cons (.v 6) (.cons (.v 2) .nil))))
    (.cons (.app (.v 3) (.tup (.cons (.bi .max2 (.cons (.v 5) (.cons (.v 1) .nil))) (.cons (.bi .min2 (.cons (.v 6) (.cons (.v 2) .nil))) (.cons (.v 7) .nil)))))
    .nil)
    .nil)
    .nil)
theorem parts_step {b e : Int} {acc : List Part} {g : Store} {w k : Option Val} {q : Part} {n0 : Nat} {P : Fl → Store → Prop} (hl : acc.length < line)
    (h : P (.next [w, some (.dat (.int b)), some (.dat (.int e)), some (.ref S.length), k, some (.dat (.int q.1)), some (.dat (.int q.2.1)), some (.dat (.str q.2.2))]) (S ++ .lst (((acc ++ (clip b e q).toList).map partD).map .dat) :: g)) :
    (exs Γ partsBody n0 [w, some (.dat (.int b)), some (.dat (.int e)), some (.ref S.length), k, some (.dat (.int q.1)), some (.dat (.int q.2.1)), some (.dat (.str q.2.2))] (S ++ .lst ((acc.map partD).map .dat) :: g)).Ok P := by
  refine s_cons (s_if (t_cm (e_bi2 (e_v rfl) (e_v rfl) b_max) (e_bi2 (e_v rfl) (e_v rfl) b_min) c_lt) (fun hc => ?_) fun hc => s_nil (nx (s_nil ?_)))
  · refine s_cons (s_app (e_v rfl) at_mid (e_tup3 (e_bi2 (e_v rfl) (e_v rfl) b_max) (e_bi2 (e_v rfl) (e_v rfl) b_min) (e_v rfl)) (by simpa using hl) (nx (s_nil (nx (s_nil ?_)))))
    rw [set_mid]
    have : clip b e q = some (later b q.1, sooner e q.2.1, q.2.2) := by
      unfold clip
      rw [if_pos (of_decide_eq_true hc)]
    rw [this] at h
    simpa [partD] using h
  · have : clip b e q = none := by
      unfold clip
      rw [if_neg (of_decide_eq_false hc)]
    rw [this] at h
    simpa using h
end Ap
set_option Elab.async false
set_option linter.all false
set_option maxRecDepth 100000
set_option maxHeartbeats 1000000
namespace Ap
open PySem (Str)
variable {T : Tb} {S S1 S2 S3 : Store} {ρ : Env} {Γ : Ctx} {n : Nat}
theorem i_of {a : E} {t : TV} {src : Src} (h : ev Γ a ρ S = .ok t S1) (hs : srcOf t S1 = some src) : evI Γ (.e a) ρ S = .ok src S1 := by
  rw [evI]; unfold mIt; rw [h, bind_ok, hs, orBad_some]
theorem part_i {i : Nat} {x : Val} {l : List Part} (h : ((l.map partD).map Val.dat)[i]? = some x) : ∃ q, l[i]? = some q ∧ x = .dat (partD q) := by
  simp only [List.map_map, List.getElem?_map, Option.map_eq_some_iff, Function.comp] at h
  obtain ⟨p, hp, rfl⟩ := h
  exact ⟨p, hp, rfl⟩
/-- a loop over the parts of a day -/
theorem s_parts (ps : PreS T) (pn : PreN T) {w : Wk} (hw : GoodWk w) {k : Int} {tg : Tg} {a c : E} {body : Ss} {n0 : Nat} {P : Fl → Store → Prop} (ha : ev (T.ctx (callF T (n + 2))) a ρ S = .ok (vD w.toD) S) (hc : ev (T.ctx (callF T (n + 2))) c ρ S = .ok (iD k) S)
    (Inv : Nat → Env → Store → Store → Prop) (h0 : ∀ S1, Gr S S1 → Inv 0 ρ S1 S1)
    (hst : ∀ i ρ' S1 S2, Gr S S1 → Inv i ρ' S1 S2 → ∀ j, S.length ≤ j → S2[j]? = S1[j]?)
    (hs : ∀ i q ρ' S1 S2, Gr S S1 → (dayParts k (w.row k))[i]? = some q → Inv i ρ' S1 S2 → ∃ ρ2, asg tg (.dat (partD q)) ρ' = some ρ2 ∧ (exs (T.ctx (callF T (n + 2))) body S1.length ρ2 S2).Ok fun f S3 => match f with
      | .next ρ3 => Inv (i + 1) ρ3 S1 S3
      | .cnt ρ3 => Inv (i + 1) ρ3 S1 S3
      | .brk ρ3 => P (.next ρ3) S3
      | .ret t => P (.ret t) S3)
    (he : ∀ ρ' S1 S2, Gr S S1 → Inv (dayParts k (w.row k)).length ρ' S1 S2 → P (.next ρ') S2) :
    (ex (T.ctx (callF T (n + 2))) (.for_ tg (.e (.call "day_parts" (.cons a (.cons c .nil)) .nil)) body) n0 ρ S).Ok P := by
  have hf : (ev (T.ctx (callF T (n + 2))) (.call "day_parts" (.cons a (.cons c .nil)) .nil) ρ S).Ok fun t S' => Fresh S t S' ((dayParts k (w.row k)).map partD) :=
    e_fnF (xs := [.dat w.toD, .dat (.int k)]) (a_cons0 ha (a_cons0 hc a_nil0)) (day_parts_ok ps pn hw k)
  obtain ⟨t, S1, e, hF⟩ := hf.eq
  obtain ⟨lv, h1, h2⟩ := fresh_src hF
  refine s_for (i_of e h1) (fun i ρ' S2 => Inv i ρ' S1 S2) (h0 _ hF.1) (fun i x ρ' S2 hx hI => ?_) fun ρ' S2 hI => ?_
  · obtain ⟨q, hq, rfl⟩ := part_i hx
    exact ⟨h2 _ fun j hj => hst i ρ' S1 S2 hF.1 hI j hj, hs i q ρ' S1 S2 hF.1 hq hI⟩
  · have hI' : Inv (dayParts k (w.row k)).length ρ' S1 S2 := by simpa using hI
    exact ⟨h2 _ fun j hj => hst _ ρ' S1 S2 hF.1 hI' j hj, he ρ' S1 S2 hF.1 hI'⟩
theorem gr_mid {g : Store} {o : Obj} (h : Gr (S ++ o :: g) S1) : ∃ g', S1 = S ++ o :: g' := by
  obtain ⟨h, rfl⟩ := h
  exact ⟨g ++ h, by simp⟩
theorem filterMap_snoc {α β : Type} (f : α → Option β) (l : List α) {i : Nat} {a : α} (h : l[i]? = some a) : (l.take (i + 1)).filterMap f = (l.take i).filterMap f ++ (f a).toList := by
  rw [take_snoc h, List.filterMap_append]
  cases hf : f a <;> simp [hf]
theorem parts_ok (ps : PreS T) (pn : PreN T) {w : Wk} (hw : GoodWk w) {b e : Int} (hb : 0 ≤ b) (he : 0 ≤ e) (hb2 : b ≤ 200000000) (he2 : e ≤ 200000000) : (callF T (n + 3) "parts_of" [.dat w.toD, .dat (.int b), .dat (.int e)] S).Ok fun t S' => Fresh S t S' ((partsOf w b e).map partD) := by
  have hN : ((e - 1) / 86400 + 1 - b / 86400).toNat ≤ 3000 := by omega
  refine cal_ok pn.parts_of rfl (s_cons (s_asO (show 3 < 8 by decide) (R.Ok.of (a := .new (.lst [])) (S := S) (by rw [ev]; unfold mLst; rw [a_nil0, bind_ok]; rfl) (nx ?_))))
  refine s_cons (s_for (P := flNext _ _) (i_r2 (e_bin (e_v rfl) (e_g ps.cD) (b_fdiv (by decide) (by decide))) (e_bin (e_bin (e_bin (e_v rfl) e_c b_sub) (e_g ps.cD) (b_fdiv (by decide) (by decide))) e_c b_add) (okR_small (by omega) (by omega)) (okR_small (by omega) (by omega)))
    (fun i ρ' S' => (∃ x4 x5 x6 x7, ρ' = [some (.dat w.toD), some (.dat (.int b)), some (.dat (.int e)), some (.ref S.length), x4, x5, x6, x7]) ∧ i ≤ 3000 ∧ ∃ g, S' = S ++ .lst (((accOf w b e i).map partD).map .dat) :: g) ?_ ?_ ?_)
  · exact ⟨⟨_, _, _, _, rfl⟩, Nat.zero_le _, [], rfl⟩
  · rintro i x ρ' S' hx ⟨⟨x4, x5, x6, x7, rfl⟩, hi, g, rfl⟩
    have hi2 : i < 3000 := by
      have := (List.getElem?_eq_some_iff.mp hx).1
      rw [upto_ln] at this
      omega
    rw [upto_at] at hx
    split at hx
    · cases hx
      refine ⟨rfl, _, rfl, ?_⟩
      have hal := acc_len hw b e i
      refine s_cons (s_parts ps pn hw (e_v rfl) (e_v rfl) (fun j ρ' S1 S2 => (∃ x5 x6 x7, ρ' = [some (.dat w.toD), some (.dat (.int b)), some (.dat (.int e)), some (.ref S.length), some (.dat (.int (b / 86400 + i))), x5, x6, x7]) ∧ ∃ g', S1 = S ++ .lst (((accOf w b e i).map partD).map .dat) :: g' ∧ S2 = S ++ .lst (((accOf w b e i ++ ((dayParts (b / 86400 + i) (w.row (b / 86400 + i))).take j).filterMap (clip b e)).map partD).map .dat) :: g') ?_ ?_ ?_ ?_)
      · intro S1 h
        obtain ⟨g', rfl⟩ := gr_mid h
        exact ⟨⟨_, _, _, rfl⟩, g', rfl, by simp⟩
      · rintro j ρ' S1 S2 _ ⟨_, g', rfl, rfl⟩ m hm
        simp only [List.length_append, List.length_cons] at hm
        rw [List.getElem?_append_right (by omega), List.getElem?_append_right (by omega)]
        obtain ⟨d, hd⟩ : ∃ d, m - S.length = d + 1 := ⟨m - S.length - 1, by omega⟩
        rw [hd]; rfl
      · rintro j q ρ' S1 S2 _ hq ⟨⟨x5, x6, x7, rfl⟩, g', rfl, rfl⟩
        refine ⟨_, rfl, parts_step ?_ ⟨⟨_, _, _, rfl⟩, g', rfl, ?_⟩⟩
        · rw [List.length_append]
          have h1 : (((dayParts (b / 86400 + i) (w.row (b / 86400 + i))).take j).filterMap (clip b e)).length ≤ 8 := Nat.le_trans (List.length_filterMap_le _ _) (Nat.le_trans (List.length_take_le' _ _) (dayParts_len hw _))
          show _ < 16777216
          omega
        · rw [filterMap_snoc _ _ hq, List.append_assoc]
      · rintro ρ' S1 S2 _ ⟨⟨x5, x6, x7, rfl⟩, g', rfl, rfl⟩
        refine nx (s_nil ⟨⟨_, _, _, _, rfl⟩, hi2, g', ?_⟩)
        rw [List.take_length, acc_succ]; rfl
    · cases hx
  · rintro ρ' S' ⟨⟨x4, x5, x6, x7, rfl⟩, hi, g, rfl⟩
    rw [upto_ln]
    refine ⟨rfl, nx (s_cons (s_ret (e_v rfl) ⟨⟨_, rfl⟩, .inr ⟨S.length, Nat.le_refl _, rfl, ?_⟩⟩))⟩
    rw [at_mid]; rfl
end Ap
set_option Elab.async false
set_option linter.all false
set_option maxRecDepth 100000
set_option maxHeartbeats 1000000
namespace Ap
open PySem (Str)
variable {T : Tb} {S S1 S2 S3 : Store} {ρ : Env} {Γ : Ctx} {n : Nat}
theorem fresh_ix {t : TV} {ds : List D} {k : Int} {d : D} (h : Fresh S t S1 ds) (h0 : 0 ≤ k) (h1 : k < ds.length) (hd : ds[k.toNat]? = some d) : index t (iD k) S1 = some (vD d) := by
  have hi : (item (ds.map Val.dat) k).map TV.val = some (vD d) := by
    simp only [item, List.length_map, place_in h0 h1, Option.bind_some, List.getElem?_map, hd, Option.map_some]
  obtain ⟨g, rfl | ⟨j, hj, rfl, hs⟩⟩ := h
  · exact hi
  · show (seqOf (.val (.ref j)) S1).bind _ = _
    simp only [seqOf, lstOf, objOf, hs, Option.bind_some]
    exact hi
theorem band_at_ok (ps : PreS T) (pn : PreN T) (ha : HBa T) {w : Wk} (hw : GoodWk w) {s : Int} {q : Part} (hs : 0 ≤ s) (hs2 : s ≤ 100000000) (hq : (partsOf w s (s + 1))[0]? = some q) : (callF T (n + 4) "band_at" [.dat w.toD, .dat (.int s)] S).Ok fun t S' => t = vD (.str q.2.2) ∧ Gr S S' := by
  have hf : (ev (T.ctx (callF T (n + 3))) (.call "parts_of" (.cons (.v 0) (.cons (.v 1) (.cons (.bin .add (.v 1) (.c (.int 1))) .nil))) .nil) [some (.dat w.toD), some (.dat (.int s))] S).Ok fun t S' => Fresh S t S' ((partsOf w s (s + 1)).map partD) :=
    e_fnF (xs := [.dat w.toD, .dat (.int s), .dat (.int (s + 1))]) (a_cons0 (e_v rfl) (a_cons0 (e_v rfl) (a_cons0 (e_bin (e_v rfl) e_c b_add) a_nil0))) (parts_ok ps pn hw hs (by omega) (by omega) (by omega))
  obtain ⟨t, S1, e, hF⟩ := hf.eq
  have hl : 0 < (partsOf w s (s + 1)).length := (List.getElem?_eq_some_iff.mp hq).1
  refine cal_ok ha rfl (s_cons (s_ret (t := vD (.str q.2.2)) (S1 := S1) ?_ ⟨rfl, hF.1⟩))
  exact e_ix (e_ix e e_c (fresh_ix hF (by decide) (by simpa using hl) (by rw [List.getElem?_map]; show (partsOf w s (s + 1))[0]?.map partD = _; rw [hq]; rfl))) e_c (l_ixT (by decide) (by simp) rfl)
theorem band_ok (p : PreK T) (ps : PreS T) (pn : PreN T) (ha : HBa T) (hbd : HBd T) {w : Wk} (hw : GoodWk w) {x : Val} (hx : Lk S x w.toD) {s : Int} {q : Part} (hs : 0 ≤ s) (hs2 : s ≤ 100000000) (hq : (partsOf w s (s + 1))[0]? = some q) : (callF T (n + 7) "band" [x, .dat (.int s)] S).Ok fun t S' => t = vD (.str q.2.2) ∧ Gr S S' := by
  have h1 : (ev (T.ctx (callF T (n + 6))) (.call "taken_week" (.cons (.v 0) (.cons (.c (.int 0)) .nil)) .nil) [some x, some (.dat (.int s)), none] S).Ok fun t S' => t = vD w.toD ∧ Gr S S' :=
    e_fnG (xs := [x, .dat (.int 0)]) (a_cons0 (e_v rfl) (a_cons0 e_c a_nil0)) (taken_ok p ps pn hw hx)
  obtain ⟨t, S1, e, rfl, g⟩ := h1.eq
  refine cal_ok hbd rfl (s_cons (s_asD (S1 := S1) (d := .dat w.toD) e (show 2 < 3 by decide) (nx ?_)))
  refine s_cons (s_exO (R.Ok.of (a := vD .non) (S := S1) (e_fn (xs := [.dat (.int s), .dat (.int 1)]) (a_cons0 (e_v rfl) (a_cons0 e_c a_nil0)) (need_ok (n := n + 2) p ps pn hs hs2)) (nx ?_)))
  have h2 : (ev (T.ctx (callF T (n + 6))) (.call "band_at" (.cons (.v 2) (.cons (.v 1) .nil)) .nil) [some x, some (.dat (.int s)), some (.dat w.toD)] S1).Ok fun t S' => t = vD (.str q.2.2) ∧ Gr S1 S' :=
    e_fnG (xs := [.dat w.toD, .dat (.int s)]) (a_cons0 (e_v rfl) (a_cons0 (e_v rfl) a_nil0)) (band_at_ok (n := n + 2) ps pn ha hw hs hs2 hq)
  obtain ⟨t, S2, e2, rfl, g2⟩ := h2.eq
  exact s_cons (s_ret (t := vD (.str q.2.2)) (S1 := S2) e2 ⟨rfl, g.trans g2⟩)
end Ap
set_option Elab.async false
set_option linter.all false
set_option maxRecDepth 100000
set_option maxHeartbeats 1000000
namespace Ap
open PySem (Str)
variable {T : Tb} {S S1 S2 S3 : Store} {ρ : Env} {Γ : Ctx} {n : Nat}
/-- [elt for one in data if test] -/
theorem e_lcF {α : Type} {elt test : E} {own : List Nat} {tg : Tg} {it : It} {src : Src} {l : List α} {f : α → Val} (keep : α → Bool) (out : α → D) (hi : evI Γ it ρ S = .ok src S1) (hst : src.still S1 = true) (hx : src.xs = l.map f) (hl : l.length ≤ line)
    (hs : ∀ a, a ∈ l → ∃ ρ', asg tg (f a) (wipe ρ own) = some ρ' ∧ evT Γ test ρ' S1 = .ok (keep a) S1 ∧ (keep a = true → ev Γ elt ρ' S1 = .ok (vD (out a)) S1)) : ev Γ (.lc elt own tg it (.cons test .nil)) ρ S = .ok (.new (.lst (((l.filter keep).map out).map .dat))) S1 := by
  refine ok_eq ?_
  rw [ev]; unfold mLc
  rw [hi, bind_ok, ok_bind]
  refine lcLoop_run (fun i done S' => S' = S1 ∧ done = (((l.take i).filter keep).map out).map .dat) ⟨rfl, rfl⟩ ?_ ?_
  · rintro i x done S' hxi ⟨rfl, rfl⟩
    rw [hx, List.getElem?_map, Option.map_eq_some_iff] at hxi
    obtain ⟨a, ha, rfl⟩ := hxi
    obtain ⟨ρ', h1, h2, h3⟩ := hs a (List.mem_of_getElem? ha)
    refine ⟨hst, ?_⟩
    rw [h1, orBad_some, evTs, h2, bind_ok]
    cases hk : keep a with
    | true =>
      rw [if_pos rfl, h3 hk, bind_ok]
      refine ⟨rfl, ?_⟩
      rw [take_snoc ha, List.filter_append, List.map_append, List.map_append]
      simp [hk, prom]
    | false =>
      rw [if_neg (by decide)]
      refine ⟨rfl, ?_⟩
      rw [take_snoc ha, List.filter_append, List.map_append, List.map_append]
      simp [hk]
  · rintro done S' ⟨rfl, rfl⟩
    have e : l.take src.xs.length = l := by rw [hx]; simp
    rw [e]
    have h2 : (((l.filter keep).map out).map Val.dat).length ≤ line := by
      simp only [List.length_map]
      exact Nat.le_trans (List.length_filter_le _ _) hl
    rw [if_pos h2]
    exact ⟨hst, rfl, rfl⟩
theorem partsOf_len {w : Wk} (hw : GoodWk w) {b e : Int} (hb : 0 ≤ b) (he2 : e ≤ 200000000) : (partsOf w b e).length ≤ line := by
  have := acc_len hw b e ((e - 1) / 86400 + 1 - b / 86400).toNat
  have hN : ((e - 1) / 86400 + 1 - b / 86400).toNat ≤ 3000 := by omega
  show _ ≤ 16777216
  unfold partsOf
  omega
def secsOf (w : Wk) (b e : Int) (x : Str) : Int := (((partsOf w b e).filter fun q => decide (q.2.2 = x)).map fun q => q.2.1 - q.1).sum
theorem intsOf_map : ∀ ns : List Int, intsOf ((ns.map D.int).map .dat) = some ns
  | [] => rfl
  | a :: r => by simp only [List.map_cons, intsOf, intsOf_map r, Option.map_some]
theorem c_eqS {x y : Str} : cmp .eq (vD (.str x)) (vD (.str y)) S = some (decide (x = y)) := rfl
theorem seconds_ok (p : PreK T) (ps : PreS T) (pn : PreN T) (hsi : HSi T) {w : Wk} (hw : GoodWk w) {x : Val} (hx : Lk S x w.toD) {b e : Int} {v : Str} (hb : 0 ≤ b) (hbe : 0 ≤ e) (hb2 : b ≤ 100000000) (he : e ≤ 100000000) (hv : wordOk v = true) : (callF T (n + 7) "seconds_in" [x, .dat (.int b), .dat (.int e), .dat (.str v)] S).Ok fun t S' => t = iD (secsOf w b e v) ∧ Gr S S' := by
  have h1 : (ev (T.ctx (callF T (n + 6))) (.call "taken_week" (.cons (.v 0) (.cons (.c (.int 0)) .nil)) .nil) [some x, some (.dat (.int b)), some (.dat (.int e)), some (.dat (.str v)), none, none, none, none] S).Ok fun t S' => t = vD w.toD ∧ Gr S S' :=
    e_fnG (xs := [x, .dat (.int 0)]) (a_cons0 (e_v rfl) (a_cons0 e_c a_nil0)) (taken_ok p ps pn hw hx)
  obtain ⟨t, S1, e1, rfl, g⟩ := h1.eq
  have hwv := word_eq (S := S1) (n := n + 5) ps (x := v) (by have := word_len hv; unfold line; omega)
  rw [hv] at hwv
  refine cal_ok hsi rfl (s_cons (s_asD (S1 := S1) (d := .dat w.toD) e1 (show 4 < 8 by decide) (nx ?_)))
  refine s_cons (s_exO (R.Ok.of (a := vD .non) (S := S1) (e_fn (xs := [.dat (.int b), .dat (.int 1)]) (a_cons0 (e_v rfl) (a_cons0 e_c a_nil0)) (need_ok (n := n + 2) p ps pn hb (by omega))) (nx ?_)))
  refine s_cons (s_exO (R.Ok.of (a := vD .non) (S := S1) (e_fn (xs := [.dat (.int e), .dat (.int 2)]) (a_cons0 (e_v rfl) (a_cons0 e_c a_nil0)) (need_ok (n := n + 2) p ps pn (by omega) he)) (nx ?_)))
  refine s_cons (s_if (S1 := S1) (c := false) (t_no (b := true) (t_call (e_fn (xs := [.dat (.str v)]) (a_cons0 (e_v rfl) a_nil0) hwv))) (fun h => nomatch h) fun _ => s_nil (nx ?_))
  have hf : (ev (T.ctx (callF T (n + 6))) (.call "parts_of" (.cons (.v 4) (.cons (.v 1) (.cons (.v 2) .nil))) .nil) (wipe [some x, some (.dat (.int b)), some (.dat (.int e)), some (.dat (.str v)), some (.dat w.toD), none, none, none] []) S1).Ok fun t S' => Fresh S1 t S' ((partsOf w b e).map partD) :=
    e_fnF (xs := [.dat w.toD, .dat (.int b), .dat (.int e)]) (a_cons0 (e_v rfl) (a_cons0 (e_v rfl) (a_cons0 (e_v rfl) a_nil0))) (parts_ok (n := n + 3) ps pn hw hb hbe (by omega) (by omega))
  obtain ⟨t, S2, e2, hF⟩ := hf.eq
  obtain ⟨lv, k1, k2⟩ := fresh_src hF
  refine s_cons (s_ret (t := iD (secsOf w b e v)) (S1 := S2) (e_bi1 (e_lcF (l := partsOf w b e) (f := fun q => .dat (partD q)) (fun q => decide (q.2.2 = v)) (fun q => .int (q.2.1 - q.1)) (i_of e2 k1) (k2 _ fun _ _ => rfl) (by rw [List.map_map]; rfl) (partsOf_len hw hb (by omega)) fun q _ => ⟨_, rfl, t_cm (e_v rfl) (e_v rfl) c_eqS, fun _ => e_bin (e_v rfl) (e_v rfl) b_sub⟩) ?_) ⟨rfl, g.trans hF.1⟩)
  show (some ((((partsOf w b e).filter fun q => decide (q.2.2 = v)).map fun q => D.int (q.2.1 - q.1)).map Val.dat)).bind (fun xs => (intsOf xs).map fun ns => vI ns.sum) = _
  rw [Option.bind_some]
  have : ((((partsOf w b e).filter fun q => decide (q.2.2 = v)).map fun q => D.int (q.2.1 - q.1)).map Val.dat) = (((((partsOf w b e).filter fun q => decide (q.2.2 = v)).map fun q => q.2.1 - q.1)).map D.int).map Val.dat := by
    rw [List.map_map (f := fun q : Part => q.2.1 - q.1)]; rfl
  rw [this, intsOf_map]; rfl
end Ap
set_option Elab.async false
set_option linter.all false
set_option maxRecDepth 100000
set_option maxHeartbeats 1000000
namespace Ap
open PySem (Str)
variable {T : Tb} {S S1 S2 S3 : Store} {ρ : Env} {Γ : Ctx} {n : Nat}
def hit (s : Int) (v : Str) (q : Part) : Bool := decide (s < q.1) && !decide (q.2.2 = v)
def dayAt (w : Wk) (s : Int) (i : Nat) : List Part := dayParts (s / 86400 + i) (w.row (s / 86400 + i))
def changeD (q : Part) : D := if q.1 ≤ 100000000 then .int q.1 else .non
/-- the first part behind s with another band than v, among N days -/
def Change (w : Wk) (s : Int) (v : Str) (N : Nat) (d : D) : Prop :=
  (∃ i j q, i < N ∧ (dayAt w s i)[j]? = some q ∧ hit s v q = true ∧ (∀ i' < i, ∀ q' ∈ dayAt w s i', hit s v q' = false) ∧ (∀ q' ∈ (dayAt w s i).take j, hit s v q' = false) ∧ d = changeD q) ∨
  ((∀ i < N, ∀ q ∈ dayAt w s i, hit s v q = false) ∧ d = .non)
theorem c_gtI {i j : Int} : cmp .gt (iD i) (iD j) S = some (decide (j < i)) := c_gt
theorem c_neS {x y : Str} : cmp .ne (vD (.str x)) (vD (.str y)) S = some (!decide (x = y)) := rfl
theorem t_and2 {a b : E} {x y : Bool} (ha : evT Γ a ρ S = .ok x S) (hb : evT Γ b ρ S = .ok y S) : evT Γ (.and (.cons a (.cons b .nil))) ρ S = .ok (x && y) S := by
  rw [evT, evTAnd, evTAnd]; unfold mTAnd
  rw [ha, bind_ok]
  cases x with
  | true => rw [if_pos rfl, hb]; rfl
  | false => rfl
theorem change_ok (p : PreK T) (ps : PreS T) (pn : PreN T) (ha : HBa T) (hnc : HNc T) {w : Wk} (hw : GoodWk w) {x : Val} (hx : Lk S x w.toD) {s : Int} {q : Part} (hs : 0 ≤ s) (hs2 : s ≤ 100000000) (hq : (partsOf w s (s + 1))[0]? = some q) : (callF T (n + 7) "next_change" [x, .dat (.int s)] S).Ok fun t S' => ∃ d, t = vD d ∧ Change w s q.2.2 (1158 - s / 86400).toNat d ∧ Gr S S' := by
  have h1 : (ev (T.ctx (callF T (n + 6))) (.call "taken_week" (.cons (.v 0) (.cons (.c (.int 0)) .nil)) .nil) [some x, some (.dat (.int s)), none, none, none, none, none, none] S).Ok fun t S' => t = vD w.toD ∧ Gr S S' :=
    e_fnG (xs := [x, .dat (.int 0)]) (a_cons0 (e_v rfl) (a_cons0 e_c a_nil0)) (taken_ok p ps pn hw hx)
  obtain ⟨t, S1, e, rfl, g⟩ := h1.eq
  refine cal_ok hnc rfl (s_cons (s_asD (S1 := S1) (d := .dat w.toD) e (show 2 < 8 by decide) (nx ?_)))
  refine s_cons (s_exO (R.Ok.of (a := vD .non) (S := S1) (e_fn (xs := [.dat (.int s), .dat (.int 1)]) (a_cons0 (e_v rfl) (a_cons0 e_c a_nil0)) (need_ok (n := n + 2) p ps pn hs hs2)) (nx ?_)))
  have h2 : (ev (T.ctx (callF T (n + 6))) (.call "band_at" (.cons (.v 2) (.cons (.v 1) .nil)) .nil) [some x, some (.dat (.int s)), some (.dat w.toD), none, none, none, none, none] S1).Ok fun t S' => t = vD (.str q.2.2) ∧ Gr S1 S' :=
    e_fnG (xs := [.dat w.toD, .dat (.int s)]) (a_cons0 (e_v rfl) (a_cons0 (e_v rfl) a_nil0)) (band_at_ok (n := n + 2) ps pn ha hw hs hs2 hq)
  obtain ⟨t, S2, e2, rfl, g2⟩ := h2.eq
  refine s_cons (s_asD (S1 := S2) (d := .dat (.str q.2.2)) e2 (show 3 < 8 by decide) (nx ?_))
  have hN : ((100000000 : Int) / 86400 + 1 - s / 86400).toNat = (1158 - s / 86400).toNat := by omega
  refine s_cons (s_for (P := flNext _ _) (i_r2 (e_bin (e_v rfl) (e_g ps.cD) (b_fdiv (by decide) (by decide))) (e_bin (e_bin (e_g ps.cMS) (e_g ps.cD) (b_fdiv (by decide) (by decide))) e_c b_add) (okR_small (by omega) (by omega)) (okR_small (by omega) (by omega)))
    (fun i ρ' S' => (∃ x4 x5 x6 x7, ρ' = [some x, some (.dat (.int s)), some (.dat w.toD), some (.dat (.str q.2.2)), x4, x5, x6, x7]) ∧ Gr S S' ∧ ∀ i' < i, ∀ q' ∈ dayAt w s i', hit s q.2.2 q' = false) ?_ ?_ ?_)
  · exact ⟨⟨_, _, _, _, rfl⟩, g.trans g2, fun i' h => absurd h (Nat.not_lt_zero _)⟩
  · rintro i y ρ' S' hy ⟨⟨x4, x5, x6, x7, rfl⟩, g3, hno⟩
    rw [upto_at] at hy
    split at hy
    · rename_i hlt
      rw [hN] at hlt
      cases hy
      refine ⟨rfl, _, rfl, ?_⟩
      refine s_cons (s_parts (n := n + 4) ps pn hw (e_v rfl) (e_v rfl) (fun j ρ' S4 S5 => (∃ x5 x6 x7, ρ' = [some x, some (.dat (.int s)), some (.dat w.toD), some (.dat (.str q.2.2)), some (.dat (.int (s / 86400 + i))), x5, x6, x7]) ∧ S5 = S4 ∧ ∀ q' ∈ (dayAt w s i).take j, hit s q.2.2 q' = false) ?_ ?_ ?_ ?_)
      · exact fun S4 _ => ⟨⟨_, _, _, rfl⟩, rfl, by simp⟩
      · rintro j ρ' S4 S5 _ ⟨_, rfl, _⟩ m _; rfl
      · rintro j q2 ρ' S4 S5 g4 hq2 ⟨⟨x5, x6, x7, rfl⟩, rfl, hno2⟩
        refine ⟨_, rfl, s_cons (s_if (S1 := S5) (t_and2 (t_cm (e_v rfl) (e_v rfl) c_gtI) (t_cm (e_v rfl) (e_v rfl) c_neS)) (fun hc => ?_) fun hc => s_nil (nx (s_nil ⟨⟨_, _, _, rfl⟩, rfl, ?_⟩)))⟩
        · refine s_cons (s_ret (t := vD (changeD q2)) (S1 := S5) (e_ife (S1 := S5) (t_cm (e_v rfl) (e_g ps.cMS) c_le) (fun h => ?_) fun h => ?_) ⟨_, rfl, .inl ⟨i, j, q2, hlt, hq2, hc, hno, hno2, rfl⟩, g3.trans g4⟩)
          · have h' : ¬ (100000000 : Int) < q2.1 := by simpa using h
            unfold changeD
            rw [if_pos (by omega)]; exact e_v rfl
          · have h' : (100000000 : Int) < q2.1 := by simpa using h
            unfold changeD
            rw [if_neg (by omega)]; exact e_c
        · intro q' hq'
          have hq2' : (dayAt w s i)[j]? = some q2 := hq2
          rw [take_snoc hq2', List.mem_append] at hq'
          rcases hq' with h | h
          · exact hno2 q' h
          · rw [List.mem_singleton] at h
            subst h; exact hc
      · rintro ρ' S4 S5 g4 ⟨⟨x5, x6, x7, rfl⟩, rfl, hno2⟩
        refine nx (s_nil ⟨⟨_, _, _, _, rfl⟩, g3.trans g4, fun i' hi' q' hq' => ?_⟩)
        rcases Nat.lt_succ_iff_lt_or_eq.mp hi' with h | rfl
        · exact hno i' h q' hq'
        · refine hno2 q' ?_
          have : (dayAt w s i').take (dayParts (s / 86400 + i') (w.row (s / 86400 + i'))).length = dayAt w s i' := List.take_length
          rw [this]; exact hq'
    · cases hy
  · rintro ρ' S' ⟨⟨x4, x5, x6, x7, rfl⟩, g3, hno⟩
    rw [upto_ln, hN] at hno
    exact ⟨rfl, nx (s_cons (s_ret (e_c) ⟨_, rfl, .inr ⟨hno, rfl⟩, g3⟩))⟩
end Ap
set_option Elab.async false
set_option linter.all false
set_option maxRecDepth 100000
set_option maxHeartbeats 1000000
namespace Ap
open PySem (Str)
variable {T : Tb} {S S1 S2 S3 : Store} {ρ : Env} {Γ : Ctx} {n : Nat}
def p_law_day_row : Fn := ⟨2, 2,
    (.cons (.ret (.ix (.ix (.v 0) (.c (.int 0))) (.ife (.cmp .isin (.v 1) (.ix (.v 0) (.c (.int 1)))) (.c (.int 7)) (.bin .sub (.v 1) (.bin .mul (.bin .fdiv (.v 1) (.c (.int 7))) (.c (.int 7)))))))
    .nil)⟩
def p_law_band : Fn := ⟨2, 5,
    (.cons (.as 2 (.c .non))
    (.cons (.for_ (.tp (.cons (.nm 3) (.cons (.nm 4) .nil))) (.e (.call "_law_day_row" (.cons (.v 0) (.cons (.bin .fdiv (.v 1) (.c (.int 86400))) .nil)) .nil))
    (.cons (.if_ (.cmp .le (.v 3) (.bin .sub (.v 1) (.bin .mul (.bin .fdiv (.v 1) (.c (.int 86400))) (.c (.int 86400)))))
    (.cons (.as 2 (.v 4))
    .nil)
    .nil)
    .nil))
    (.cons (.ret (.v 2))
    .nil)))⟩
theorem law_row_eq (hf : T.fns.lookup ("_law_day_row" : Str) = some p_law_day_row) {w : Wk} (hw : GoodWk w) (k : Int) : callF T (n + 1) "_law_day_row" [.dat w.toD, .dat (.int k)] S = .ok (vD (dayD (w.row k))) S := by
  have h8 := hw.eight
  have hrow := row_at hw k
  refine call_eq hf rfl (s_cons (s_ret (t := vD (dayD (w.row k))) ?_ ⟨rfl, rfl⟩))
  have hi : ev (T.ctx (callF T n)) (.ife (.cmp .isin (.v 1) (.ix (.v 0) (.c (.int 1)))) (.c (.int 7)) (.bin .sub (.v 1) (.bin .mul (.bin .fdiv (.v 1) (.c (.int 7))) (.c (.int 7))))) [some (.dat w.toD), some (.dat (.int k))] S = .ok (iD (if k ∈ w.feasts then 7 else k - k / 7 * 7)) S := by
    refine e_ife (S1 := S) (t_cm (e_v rfl) (e_ix (e_v rfl) e_c wk_ix1) c_isinI) (fun h => ?_) fun h => ?_
    · rw [if_pos (of_decide_eq_true h)]; exact e_c
    · rw [if_neg (of_decide_eq_false h)]; exact e_bin (e_v rfl) (e_bin (e_bin (e_v rfl) e_c (b_fdiv (by decide) (by decide))) e_c (b_mul (mul_r (by decide)))) b_sub
  refine e_ix (e_ix (e_v rfl) e_c wk_ix0) hi (l_ixT ?_ ?_ ?_)
  · split <;> omega
  · rw [List.length_map, h8]; split <;> omega
  · rw [List.getElem?_map]
    have : (if k ∈ w.feasts then (7 : Int) else k - k / 7 * 7).toNat = if k ∈ w.feasts then 7 else (k % 7).toNat := by
      split
      · rfl
      · congr 1; omega
    rw [this, hrow]; rfl
def lawBand (d : Day) (o : Int) : D := d.foldl (fun acc p => if p.1 ≤ o then .str p.2 else acc) .non
theorem lawBand_snoc (d : Day) (o : Int) {i : Nat} {p : Int × Str} (h : d[i]? = some p) : lawBand (d.take (i + 1)) o = if p.1 ≤ o then .str p.2 else lawBand (d.take i) o := by
  unfold lawBand
  rw [take_snoc h, List.foldl_append]; rfl
theorem law_band_eq (hf : T.fns.lookup ("_law_day_row" : Str) = some p_law_day_row) (hb : T.fns.lookup ("_law_band" : Str) = some p_law_band) {w : Wk} (hw : GoodWk w) (s : Int) : callF T (n + 2) "_law_band" [.dat w.toD, .dat (.int s)] S = .ok (vD (lawBand (w.row (s / 86400)) (s - s / 86400 * 86400))) S := by
  refine call_eq hb rfl (s_cons (s_asD (S1 := S) (d := .dat .non) e_c (show 2 < 5 by decide) (nx ?_)))
  have hr : ev (T.ctx (callF T (n + 1))) (.call "_law_day_row" (.cons (.v 0) (.cons (.bin .fdiv (.v 1) (.c (.int 86400))) .nil)) .nil) [some (.dat w.toD), some (.dat (.int s)), some (.dat .non), none, none] S = .ok (vD (dayD (w.row (s / 86400)))) S :=
    e_fn (xs := [.dat w.toD, .dat (.int (s / 86400))]) (a_cons0 (e_v rfl) (a_cons0 (e_bin (e_v rfl) e_c (b_fdiv (by decide) (by decide))) a_nil0)) (law_row_eq hf hw _)
  generalize w.row (s / 86400) = d at hr
  refine s_cons (s_for (P := flNext _ _) (i_dat (ds := d.map pairD) hr) (fun i ρ' S' => S' = S ∧ ∃ x3 x4, ρ' = [some (.dat w.toD), some (.dat (.int s)), some (.dat (lawBand (d.take i) (s - s / 86400 * 86400))), x3, x4]) ⟨rfl, _, _, rfl⟩ ?_ ?_)
  · rintro i x ρ' S' hx ⟨rfl, x3, x4, rfl⟩
    obtain ⟨p, hp, rfl⟩ := day_i hx
    refine ⟨rfl, _, rfl, s_cons (s_if (S1 := S') (t_cm (e_v rfl) (e_bin (e_v rfl) (e_bin (e_bin (e_v rfl) e_c (b_fdiv (by decide) (by decide))) e_c (b_mul (mul_r (by decide)))) b_sub) c_le) (fun h => ?_) fun h => s_nil (nx (s_nil ⟨rfl, some (.dat (.int p.1)), some (.dat (.str p.2)), ?_⟩)))⟩
    · refine s_cons (s_asD (S1 := S') (d := .dat (.str p.2)) (e_v rfl) (show 2 < 5 by decide) (nx (s_nil (nx (s_nil ⟨rfl, some (.dat (.int p.1)), some (.dat (.str p.2)), ?_⟩)))))
      have h' : p.1 ≤ s - s / 86400 * 86400 := by
        have := h; simp at this; omega
      rw [lawBand_snoc d _ hp, if_pos h']; rfl
    · have h' : ¬ p.1 ≤ s - s / 86400 * 86400 := by
        have := h; simp at this; omega
      rw [lawBand_snoc d _ hp, if_neg h']; rfl
  · rintro ρ' S' ⟨rfl, x3, x4, rfl⟩
    have e : d.take (((d.map pairD).map Val.dat).length) = d := by simp
    rw [e]
    exact ⟨rfl, nx (s_cons (s_ret (e_v rfl) ⟨rfl, rfl⟩))⟩
end Ap
set_option Elab.async false
set_option linter.all false
set_option maxRecDepth 100000
set_option maxHeartbeats 1000000
namespace Ap
open PySem (Str)
variable {T : Tb} {S S1 S2 S3 : Store} {ρ : Env} {Γ : Ctx} {n : Nat}
def p_law_next_change : Fn := ⟨2, 7,
    (.cons (.as 2 (.call "_law_band" (.cons (.v 0) (.cons (.v 1) .nil)) .nil))
    (.cons (.for_ (.nm 3) (.rg2 (.bin .fdiv (.v 1) (.c (.int 86400))) (.bin .add (.bin .fdiv (.bin .pow (.c (.int 10)) (.c (.int 8))) (.c (.int 86400))) (.c (.int 1))))
    (.cons (.for_ (.tp (.cons (.nm 4) (.cons (.nm 5) .nil))) (.e (.call "_law_day_row" (.cons (.v 0) (.cons (.v 3) .nil)) .nil))
    (.cons (.as 6 (.bin .add (.bin .mul (.v 3) (.c (.int 86400))) (.v 4)))
    (.cons (.if_ (.and (.cons (.cmp2 .lt .le (.v 1) (.v 6) (.bin .pow (.c (.int 10)) (.c (.int 8)))) (.cons (.cmp .ne (.v 5) (.v 2)) .nil)))
    (.cons (.ret (.v 6))
    .nil)
    .nil)
    .nil)))
    (.cons (.if_ (.cmp .gt (.v 3) (.bin .add (.bin .fdiv (.v 1) (.c (.int 86400))) (.c (.int 2100))))
    (.cons .brk
    .nil)
    .nil)
    .nil)))
    (.cons (.ret (.c .non))
    .nil)))⟩
theorem e_pow8 {k : Int} (hk : k = 10 ^ 8) : ev Γ (.bin .pow (.c (.int 10)) (.c (.int 8))) ρ S = .ok (iD k) S := by
  subst hk
  exact e_bin e_c e_c rfl
def hitL (s k : Int) (v : Str) (p : Int × Str) : Bool := (decide (s < k * 86400 + p.1) && decide (k * 86400 + p.1 ≤ 100000000)) && !decide (p.2 = v)
/-- the law's own search -/
def LChange (w : Wk) (s : Int) (v : Str) (N : Nat) (d : D) : Prop :=
  (∃ i j p, i < N ∧ (w.row (s / 86400 + i))[j]? = some p ∧ hitL s (s / 86400 + i) v p = true ∧ (∀ (i' : Nat), i' < i → ∀ q ∈ w.row (s / 86400 + i'), hitL s (s / 86400 + i') v q = false) ∧ (∀ q ∈ (w.row (s / 86400 + i)).take j, hitL s (s / 86400 + i) v q = false) ∧ d = .int ((s / 86400 + i) * 86400 + p.1)) ∨
  ((∀ (i : Nat), i < N → ∀ q ∈ w.row (s / 86400 + i), hitL s (s / 86400 + i) v q = false) ∧ d = .non)
theorem t_c2 {o1 o2 : Cop} {a b c : E} {x y z : TV} {k1 k2 : Bool} (ha : ev Γ a ρ S = .ok x S) (hb : ev Γ b ρ S = .ok y S) (hc : ev Γ c ρ S = .ok z S) (h1 : cmp o1 x y S = some k1) (h2 : cmp o2 y z S = some k2) : evT Γ (.cmp2 o1 o2 a b c) ρ S = .ok (k1 && k2) S := by
  have := e_c2 ha hb (fun _ => hc) h1 (fun _ => h2)
  rw [ev] at this
  rw [evT]; unfold mTb
  rw [this]; rfl
theorem law_change_ok (hf : T.fns.lookup ("_law_day_row" : Str) = some p_law_day_row) (hb : T.fns.lookup ("_law_band" : Str) = some p_law_band) (hc : T.fns.lookup ("_law_next_change" : Str) = some p_law_next_change) {w : Wk} (hw : GoodWk w) {s : Int} {v : Str} (hs : 0 ≤ s) (hs2 : s ≤ 100000000) (hv : lawBand (w.row (s / 86400)) (s - s / 86400 * 86400) = .str v) : (callF T (n + 3) "_law_next_change" [.dat w.toD, .dat (.int s)] S).Ok fun t S' => ∃ d, t = vD d ∧ LChange w s v (1158 - s / 86400).toNat d ∧ S' = S := by
  have h1 := law_band_eq (S := S) (n := n) hf hb hw s
  rw [hv] at h1
  refine cal_ok hc rfl (s_cons (s_asD (S1 := S) (d := .dat (.str v)) (e_fn (xs := [.dat w.toD, .dat (.int s)]) (a_cons0 (e_v rfl) (a_cons0 (e_v rfl) a_nil0)) h1) (show 2 < 7 by decide) (nx ?_)))
  have hN : ((100000000 : Int) / 86400 + 1 - s / 86400).toNat = (1158 - s / 86400).toNat := by omega
  refine s_cons (s_for (P := flNext _ _) (i_r2 (e_bin (e_v rfl) e_c (b_fdiv (by decide) (by decide))) (e_bin (e_bin (e_pow8 (k := 100000000) rfl) e_c (b_fdiv (by decide) (by decide))) e_c b_add) (okR_small (by omega) (by omega)) (okR_small (by omega) (by omega)))
    (fun i ρ' S' => (∃ x3 x4 x5 x6, ρ' = [some (.dat w.toD), some (.dat (.int s)), some (.dat (.str v)), x3, x4, x5, x6]) ∧ S' = S ∧ ∀ i' : Nat, i' < i → ∀ q ∈ w.row (s / 86400 + i'), hitL s (s / 86400 + i') v q = false) ?_ ?_ ?_)
  · exact ⟨⟨_, _, _, _, rfl⟩, rfl, fun i' h => absurd h (Nat.not_lt_zero _)⟩
  · rintro i y ρ' S' hy ⟨⟨x3, x4, x5, x6, rfl⟩, rfl, hno⟩
    rw [upto_at] at hy
    split at hy
    · rename_i hlt
      rw [hN] at hlt
      cases hy
      refine ⟨rfl, _, rfl, ?_⟩
      have hr : ev (T.ctx (callF T (n + 2))) (.call "_law_day_row" (.cons (.v 0) (.cons (.v 3) .nil)) .nil) [some (.dat w.toD), some (.dat (.int s)), some (.dat (.str v)), some (.dat (.int (s / 86400 + i))), x4, x5, x6] S' = .ok (vD (dayD (w.row (s / 86400 + i)))) S' :=
        e_fn (xs := [.dat w.toD, .dat (.int (s / 86400 + i))]) (a_cons0 (e_v rfl) (a_cons0 (e_v rfl) a_nil0)) (law_row_eq (n := n + 1) hf hw _)
      refine s_cons (s_for (P := flNext _ _) (i_dat (ds := (w.row (s / 86400 + i)).map pairD) hr) (fun j ρ' S4 => (∃ x4 x5 x6, ρ' = [some (.dat w.toD), some (.dat (.int s)), some (.dat (.str v)), some (.dat (.int (s / 86400 + i))), x4, x5, x6]) ∧ S4 = S' ∧ ∀ q ∈ (w.row (s / 86400 + i)).take j, hitL s (s / 86400 + i) v q = false) ⟨⟨_, _, _, rfl⟩, rfl, by simp⟩ ?_ ?_)
      · rintro j x ρ' S4 hx ⟨⟨y4, y5, y6, rfl⟩, rfl, hno2⟩
        obtain ⟨p, hp, rfl⟩ := day_i hx
        refine ⟨rfl, _, rfl, s_cons (s_asD (S1 := S4) (d := .dat (.int ((s / 86400 + i) * 86400 + p.1))) (e_bin (e_bin (e_v rfl) e_c (b_mul (mul_r (by decide)))) (e_v rfl) b_add) (show 6 < 7 by decide) (nx ?_))⟩
        have ht : evT (T.ctx (callF T (n + 2))) (.and (.cons (.cmp2 .lt .le (.v 1) (.v 6) (.bin .pow (.c (.int 10)) (.c (.int 8)))) (.cons (.cmp .ne (.v 5) (.v 2)) .nil))) [some (.dat w.toD), some (.dat (.int s)), some (.dat (.str v)), some (.dat (.int (s / 86400 + i))), some (.dat (.int p.1)), some (.dat (.str p.2)), some (.dat (.int ((s / 86400 + i) * 86400 + p.1)))] S4 = .ok (hitL s (s / 86400 + i) v p) S4 := by
          have := t_and2 (Γ := T.ctx (callF T (n + 2))) (ρ := [some (.dat w.toD), some (.dat (.int s)), some (.dat (.str v)), some (.dat (.int (s / 86400 + i))), some (.dat (.int p.1)), some (.dat (.str p.2)), some (.dat (.int ((s / 86400 + i) * 86400 + p.1)))]) (S := S4) (t_c2 (a := .v 1) (b := .v 6) (e_v rfl) (e_v rfl) (e_pow8 (k := 100000000) rfl) c_lt c_le) (t_cm (a := .v 5) (b := .v 2) (e_v rfl) (e_v rfl) c_neS)
          rw [not_lt_le] at this
          exact this
        refine s_cons (s_if (S1 := S4) ht (fun h => ?_) fun h => s_nil (nx (s_nil ⟨⟨some (.dat (.int p.1)), some (.dat (.str p.2)), _, rfl⟩, rfl, ?_⟩)))
        · exact s_cons (s_ret (e_v rfl) ⟨_, rfl, .inl ⟨i, j, p, hlt, hp, h, hno, hno2, rfl⟩, rfl⟩)
        · intro q hq
          rw [take_snoc hp, List.mem_append] at hq
          rcases hq with hq | hq
          · exact hno2 q hq
          · rw [List.mem_singleton] at hq
            subst hq; exact h
      · rintro ρ' S4 ⟨⟨y4, y5, y6, rfl⟩, rfl, hno2⟩
        refine ⟨rfl, nx (s_cons (s_if (S1 := S4) (c := false) ?_ (fun h => nomatch h) fun _ => s_nil (nx (s_nil ⟨⟨_, _, _, _, rfl⟩, rfl, fun i' hi' q hq => ?_⟩))))⟩
        · have := t_cm (Γ := T.ctx (callF T (n + 2))) (ρ := [some (.dat w.toD), some (.dat (.int s)), some (.dat (.str v)), some (.dat (.int (s / 86400 + i))), y4, y5, y6]) (S := S4) (a := .v 3) (b := .bin .add (.bin .fdiv (.v 1) (.c (.int 86400))) (.c (.int 2100))) (e_v rfl) (e_bin (e_bin (e_v rfl) e_c (b_fdiv (by decide) (by decide))) e_c b_add) c_gtI
          rw [decide_eq_false (by omega)] at this
          exact this
        · rcases Nat.lt_succ_iff_lt_or_eq.mp hi' with h | rfl
          · exact hno i' h q hq
          · refine hno2 q ?_
            have : (w.row (s / 86400 + i')).take (((w.row (s / 86400 + i')).map pairD).map Val.dat).length = w.row (s / 86400 + i') := by simp
            rw [this]; exact hq
    · cases hy
  · rintro ρ' S' ⟨⟨x3, x4, x5, x6, rfl⟩, rfl, hno⟩
    rw [upto_ln, hN] at hno
    exact ⟨rfl, nx (s_cons (s_ret e_c ⟨_, rfl, .inr ⟨hno, rfl⟩, rfl⟩))⟩
end Ap
set_option Elab.async false
set_option linter.all false
set_option maxRecDepth 100000
set_option maxHeartbeats 1000000
namespace Ap
open PySem (Str)
theorem ends_len {d : Day} (h : d ≠ []) : (dayEnds d).length = d.length := by
  cases d with
  | nil => exact absurd rfl h
  | cons a r => simp [dayEnds]
theorem parts_len {k : Int} {d : Day} (h : d ≠ []) : (dayParts k d).length = d.length := by
  simp [dayParts, ends_len h]
theorem parts_at {k : Int} {d : Day} {j : Nat} {q : Part} (hq : (dayParts k d)[j]? = some q) : ∃ p e, d[j]? = some p ∧ (dayEnds d)[j]? = some e ∧ q = (k * 86400 + p.1, k * 86400 + e, p.2) := by
  unfold dayParts at hq
  rw [List.getElem?_map, Option.map_eq_some_iff] at hq
  obtain ⟨⟨p, e⟩, h, rfl⟩ := hq
  rw [List.getElem?_zip_eq_some] at h
  exact ⟨p, e, h.1, h.2, rfl⟩
theorem parts_of_row {k : Int} {d : Day} {j : Nat} {p : Int × Str} (hp : d[j]? = some p) : ∃ e, (dayParts k d)[j]? = some (k * 86400 + p.1, k * 86400 + e, p.2) ∧ (dayEnds d)[j]? = some e := by
  have hne : d ≠ [] := by rintro rfl; simp at hp
  have hj := (List.getElem?_eq_some_iff.mp hp).1
  have hj2 : j < (dayParts k d).length := by rw [parts_len hne]; exact hj
  obtain ⟨p', e, h1, h2, h3⟩ := parts_at (List.getElem?_eq_getElem hj2)
  rw [hp] at h1
  cases h1
  exact ⟨e, by rw [List.getElem?_eq_getElem hj2, h3], h2⟩
theorem end_next {d : Day} {j : Nat} {e : Int} (h : (dayEnds d)[j]? = some e) (hne : d ≠ []) : (∃ p, d[j + 1]? = some p ∧ e = p.1) ∨ (d[j + 1]? = none ∧ e = 86400) := by
  cases d with
  | nil => exact absurd rfl hne
  | cons a r =>
    simp only [dayEnds, List.drop_succ_cons, List.drop_zero] at h
    by_cases hj : j < r.length
    · rw [List.getElem?_append_left (by simpa using hj), List.getElem?_map, Option.map_eq_some_iff] at h
      obtain ⟨p, hp, rfl⟩ := h
      exact .inl ⟨p, by simpa using hp, rfl⟩
    · rw [List.getElem?_append_right (by simp; omega)] at h
      refine .inr ⟨by simp; omega, ?_⟩
      have := (List.getElem?_eq_some_iff.mp h).1
      simp only [List.length_map, List.length_cons, List.length_nil] at this h
      have e0 : j - r.length = 0 := by omega
      rw [e0] at h
      simpa using h.symm
end Ap
set_option Elab.async false
set_option linter.all false
set_option maxRecDepth 100000
set_option maxHeartbeats 1000000
namespace Ap
open PySem (Str)
theorem asc_step {ns : List Int} (h : asc ns = true) {i : Nat} {a b : Int} (ha : ns[i]? = some a) (hb : ns[i + 1]? = some b) : a < b := by
  unfold asc at h
  rw [List.all_eq_true] at h
  have hl := (List.getElem?_eq_some_iff.mp hb).1
  have := h i (List.mem_range.mpr (by omega))
  rw [List.getD_eq_getElem?_getD, List.getD_eq_getElem?_getD, ha, hb] at this
  simpa using this
theorem asc_lt {ns : List Int} (h : asc ns = true) : ∀ {k i : Nat} {a b : Int}, ns[i]? = some a → ns[i + k + 1]? = some b → a < b
  | 0, _, _, _, ha, hb => asc_step h ha hb
  | k + 1, i, a, b, ha, hb => by
    have hl := (List.getElem?_eq_some_iff.mp hb).1
    have hc : ns[i + k + 1]? = some ns[i + k + 1] := List.getElem?_eq_getElem (by omega)
    have h1 := asc_lt h (k := k) ha hc
    have h2 := asc_step h hc hb
    omega
theorem starts_lt {d : Day} (hd : GoodDay d) {i j : Nat} {p q : Int × Str} (hp : d[i]? = some p) (hq : d[j]? = some q) (hij : i < j) : p.1 < q.1 := by
  obtain ⟨k, rfl⟩ : ∃ k, j = i + k + 1 := ⟨j - i - 1, by omega⟩
  exact asc_lt hd.up (k := k) (by rw [List.getElem?_map, hp]; rfl) (by rw [List.getElem?_map, hq]; rfl)
end Ap
set_option Elab.async false
set_option linter.all false
set_option maxRecDepth 100000
set_option maxHeartbeats 1000000
namespace Ap
open PySem (Str)
theorem hitL_hit {s k e : Int} {v : Str} {p : Int × Str} : hitL s k v p = (hit s v (k * 86400 + p.1, e, p.2) && decide (k * 86400 + p.1 ≤ 100000000)) := by
  unfold hitL hit
  cases decide (s < k * 86400 + p.1) <;> cases decide (k * 86400 + p.1 ≤ 100000000) <;> cases decide (p.2 = v) <;> rfl
theorem mem_take_of {α : Type} {l : List α} {i j : Nat} {a : α} (h : l[i]? = some a) (hij : i < j) : a ∈ l.take j := by
  refine List.mem_of_getElem? (i := i) ?_
  rw [List.getElem?_take_of_lt hij]; exact h
theorem change_same {w : Wk} (hw : GoodWk w) {s : Int} {v : Str} {N : Nat} {d d' : D} (h : Change w s v N d) (h' : LChange w s v N d') : d = d' := by
  rcases h with ⟨i, j, q, hi, hq, hh, hd, hp, rfl⟩ | ⟨hno, rfl⟩
  · obtain ⟨p, e, h1, h2, rfl⟩ := parts_at hq
    have gd := (row_good hw (s / 86400 + i)).at_ p (List.mem_of_getElem? h1)
    rcases h' with ⟨i', j', p', hi', hp', hh', hd', ht', rfl⟩ | ⟨hno', rfl⟩
    · obtain ⟨e', h3, h4⟩ := parts_of_row (k := s / 86400 + i') hp'
      have gd' := (row_good hw (s / 86400 + i')).at_ p' (List.mem_of_getElem? hp')
      have hh2 := hh'
      rw [hitL_hit (e := (s / 86400 + i') * 86400 + e'), Bool.and_eq_true] at hh2
      have hle : (s / 86400 + i') * 86400 + p'.1 ≤ 100000000 := of_decide_eq_true hh2.2
      have c1 : i ≤ i' := by
        refine Nat.le_of_not_lt fun hlt => ?_
        have := hd i' hlt _ (List.mem_of_getElem? h3)
        rw [hh2.1] at this; cases this
      have c2 : i = i' → j ≤ j' := by
        rintro rfl
        refine Nat.le_of_not_lt fun hlt => ?_
        have := hp _ (mem_take_of h3 hlt)
        rw [hh2.1] at this; cases this
      have hq1 : (s / 86400 + i) * 86400 + p.1 ≤ 100000000 := by
        rcases Nat.lt_or_eq_of_le c1 with hlt | rfl
        · omega
        · rcases Nat.lt_or_eq_of_le (c2 rfl) with hlt | rfl
          · have := starts_lt (row_good hw _) h1 hp' hlt
            omega
          · rw [h1] at hp'; cases hp'; exact hle
      have hhl : hitL s (s / 86400 + i) v p = true := by
        rw [hitL_hit (e := (s / 86400 + i) * 86400 + e), hh, decide_eq_true hq1]; rfl
      have c3 : i' ≤ i := by
        refine Nat.le_of_not_lt fun hlt => ?_
        have := hd' i hlt _ (List.mem_of_getElem? h1)
        rw [hhl] at this; cases this
      have c4 : i = i' := Nat.le_antisymm c1 c3
      subst c4
      have c5 : j' ≤ j := by
        refine Nat.le_of_not_lt fun hlt => ?_
        have := ht' _ (mem_take_of h1 hlt)
        rw [hhl] at this; cases this
      have c6 : j = j' := Nat.le_antisymm (c2 rfl) c5
      subst c6
      rw [h1] at hp'; cases hp'
      unfold changeD
      rw [if_pos hq1]
    · unfold changeD
      by_cases hq1 : (s / 86400 + i) * 86400 + p.1 ≤ 100000000
      · have hhl : hitL s (s / 86400 + i) v p = true := by
          rw [hitL_hit (e := (s / 86400 + i) * 86400 + e), hh, decide_eq_true hq1]; rfl
        have := hno' i hi _ (List.mem_of_getElem? h1)
        rw [hhl] at this; cases this
      · rw [if_neg hq1]
  · rcases h' with ⟨i', j', p', hi', hp', hh', hd', ht', rfl⟩ | ⟨hno', rfl⟩
    · obtain ⟨e', h3, h4⟩ := parts_of_row (k := s / 86400 + i') hp'
      rw [hitL_hit (e := (s / 86400 + i') * 86400 + e'), Bool.and_eq_true] at hh'
      have := hno i' hi' _ (List.mem_of_getElem? h3)
      rw [hh'.1] at this; cases this
    · rfl
end Ap
set_option Elab.async false
set_option linter.all false
set_option maxRecDepth 100000
set_option maxHeartbeats 1000000
namespace Ap
open PySem (Str)
/-- the row of an offset: the last that begins by then -/
theorem row_of {d : Day} (hd : GoodDay d) {o : Int} (h0 : 0 ≤ o) (h1 : o < 86400) : ∃ (j : Nat) (p : Int × Str) (e : Int), d[j]? = some p ∧ (dayEnds d)[j]? = some e ∧ p.1 ≤ o ∧ o < e := by
  obtain ⟨x, r, hr⟩ := hd.first
  have hne : d ≠ [] := by rw [hr]; simp
  have go : ∀ (m j : Nat) (p : Int × Str), d.length = j + m → d[j]? = some p → p.1 ≤ o → ∃ (j : Nat) (p : Int × Str) (e : Int), d[j]? = some p ∧ (dayEnds d)[j]? = some e ∧ p.1 ≤ o ∧ o < e := by
    intro m
    induction m with
    | zero =>
      intro j p hl hp _
      have := (List.getElem?_eq_some_iff.mp hp).1
      omega
    | succ m ih =>
      intro j p hl hp hle
      have hj : j < (dayEnds d).length := by rw [ends_len hne]; omega
      have he := List.getElem?_eq_getElem hj
      rcases end_next he hne with ⟨p', hp', e1⟩ | ⟨_, e1⟩
      · by_cases h : p'.1 ≤ o
        · exact ih (j + 1) p' (by omega) hp' h
        · exact ⟨j, p, _, hp, he, hle, by omega⟩
      · exact ⟨j, p, _, hp, he, hle, by omega⟩
  exact go d.length 0 (0, x) (by omega) (by rw [hr]; rfl) h0
theorem lawBand_row {d : Day} (hd : GoodDay d) {o : Int} {j : Nat} {p : Int × Str} {e : Int} (hp : d[j]? = some p) (he : (dayEnds d)[j]? = some e) (h1 : p.1 ≤ o) (h2 : o < e) : lawBand d o = .str p.2 := by
  have hne : d ≠ [] := by rintro rfl; simp at hp
  have hj := (List.getElem?_eq_some_iff.mp hp).1
  have go : ∀ m : Nat, j + 1 + m ≤ d.length → lawBand (d.take (j + 1 + m)) o = .str p.2 := by
    intro m
    induction m with
    | zero => intro _; rw [Nat.add_zero, lawBand_snoc d o hp, if_pos h1]
    | succ m ih =>
      intro hl
      have hq := List.getElem?_eq_getElem (l := d) (i := j + 1 + m) (by omega)
      rw [show j + 1 + (m + 1) = (j + 1 + m) + 1 by omega, lawBand_snoc d o hq, if_neg ?_]
      · exact ih (by omega)
      · rcases end_next he hne with ⟨p', hp', e1⟩ | ⟨hn, _⟩
        · rcases Nat.eq_zero_or_pos m with rfl | hm
          · have : p' = d[j + 1 + 0] := by
              have := hp'.symm.trans hq
              exact Option.some.inj this
            rw [← this]; omega
          · have := starts_lt hd hp' hq (by omega)
            omega
        · have := List.getElem?_eq_none_iff.mp hn
          omega
  have := go (d.length - (j + 1)) (by omega)
  rw [show j + 1 + (d.length - (j + 1)) = d.length by omega, List.take_length] at this
  exact this
end Ap
set_option Elab.async false
set_option linter.all false
set_option maxRecDepth 100000
set_option maxHeartbeats 1000000
namespace Ap
open PySem (Str)
theorem one_day (w : Wk) (s : Int) : partsOf w s (s + 1) = dayCut w s (s + 1) (s / 86400) := by
  unfold partsOf
  have : ((s + 1 - 1) / 86400 + 1 - s / 86400).toNat = 1 := by
    rw [show s + 1 - 1 = s by omega]; omega
  rw [this, acc_succ]
  simp [accOf]
theorem filterMap_head {α β : Type} (f : α → Option β) : ∀ (l : List α) (j : Nat) (a : α) (b : β), l[j]? = some a → f a = some b → (∀ i < j, ∀ x, l[i]? = some x → f x = none) → (l.filterMap f)[0]? = some b
  | [], _, _, _, h, _, _ => by simp at h
  | x :: r, 0, a, b, h, hf, _ => by
    simp at h; subst h
    simp [List.filterMap_cons, hf]
  | x :: r, j + 1, a, b, h, hf, hn => by
    have h0 := hn 0 (by omega) x rfl
    rw [List.filterMap_cons, h0]
    exact filterMap_head f r j a b (by simpa using h) hf fun i hi y hy => hn (i + 1) (by omega) y (by simpa using hy)
/-- the band at a second -/
theorem band_same {w : Wk} (hw : GoodWk w) (s : Int) : ∃ q : Part, (partsOf w s (s + 1))[0]? = some q ∧ lawBand (w.row (s / 86400)) (s - s / 86400 * 86400) = .str q.2.2 := by
  have hd := row_good hw (s / 86400)
  obtain ⟨j, p, e, hp, he, h1, h2⟩ := row_of hd (o := s - s / 86400 * 86400) (by omega) (by omega)
  obtain ⟨e', h3, h4⟩ := parts_of_row (k := s / 86400) hp
  rw [he] at h4; cases h4
  refine ⟨(s, s + 1, p.2), ?_, (lawBand_row hd (p := p) hp he h1 h2 : lawBand _ _ = .str p.2)⟩
  rw [one_day]
  unfold dayCut
  refine filterMap_head _ _ j _ _ h3 ?_ fun i hi x hx => ?_
  · have a1 : later s (s / 86400 * 86400 + p.1) = s := by unfold later; split <;> omega
    have a2 : sooner (s + 1) (s / 86400 * 86400 + e) = s + 1 := by unfold sooner; split <;> omega
    unfold clip
    rw [a1, a2, if_pos (by omega)]
  · obtain ⟨p', e', h5, h6, rfl⟩ := parts_at hx
    have hne : w.row (s / 86400) ≠ [] := by intro h; rw [h] at hp; simp at hp
    have hle : e' ≤ p.1 := by
      rcases end_next h6 hne with ⟨p2, hp2, rfl⟩ | ⟨hn, _⟩
      · rcases Nat.lt_or_eq_of_le (show i + 1 ≤ j from hi) with h | rfl
        · exact Int.le_of_lt (starts_lt hd hp2 hp h)
        · rw [hp] at hp2; cases hp2; exact Int.le_refl _
      · have := List.getElem?_eq_none_iff.mp hn
        have := (List.getElem?_eq_some_iff.mp hp).1
        omega
    unfold clip
    refine if_neg ?_
    show ¬ later s (s / 86400 * 86400 + p'.1) < sooner (s + 1) (s / 86400 * 86400 + e')
    unfold later sooner
    split <;> split <;> omega
end Ap
set_option Elab.async false
set_option linter.all false
set_option maxRecDepth 100000
set_option maxHeartbeats 1000000
namespace Ap
open PySem (Str)
def clampI (b e x : Int) : Int := later b (sooner e x)
/-- parts one behind another, from a to z -/
def Chain : Int → Int → List Part → Prop
  | a, z, [] => a = z
  | a, z, q :: r => q.1 = a ∧ a ≤ q.2.1 ∧ Chain q.2.1 z r
def lens (l : List Part) : Int := (l.map fun q => q.2.1 - q.1).sum
theorem later_max (b q : Int) : later b q = max b q := by unfold later; split <;> omega
theorem sooner_min (e q : Int) : sooner e q = min e q := by unfold sooner; split <;> omega
theorem clip_len {b e : Int} (h : b ≤ e) (q : Part) (hq : q.1 ≤ q.2.1) : lens (clip b e q).toList = clampI b e q.2.1 - clampI b e q.1 := by
  unfold clip
  by_cases hc : later b q.1 < sooner e q.2.1
  · rw [if_pos hc]
    show sooner e q.2.1 - later b q.1 + 0 = _
    unfold clampI
    simp only [later_max, sooner_min] at hc ⊢
    omega
  · rw [if_neg hc]
    show 0 = _
    unfold clampI
    simp only [later_max, sooner_min] at hc ⊢
    omega
theorem lens_app (l m : List Part) : lens (l ++ m) = lens l + lens m := by simp [lens]
theorem chain_len {b e : Int} (h : b ≤ e) : ∀ (l : List Part) (a z : Int), Chain a z l → lens (l.filterMap (clip b e)) = clampI b e z - clampI b e a
  | [], a, z, hc => by
    cases (show a = z from hc)
    show 0 = _
    omega
  | q :: r, a, z, ⟨h1, h2, h3⟩ => by
    have ih := chain_len h r _ _ h3
    have e1 : (q :: r).filterMap (clip b e) = (clip b e q).toList ++ r.filterMap (clip b e) := by
      rw [List.filterMap_cons]
      cases clip b e q <;> rfl
    rw [e1, lens_app, ih, clip_len h q (by omega), h1]
    omega
end Ap
set_option Elab.async false
set_option linter.all false
set_option maxRecDepth 100000
set_option maxHeartbeats 1000000
namespace Ap
open PySem (Str)
theorem row_chain {k : Int} : ∀ {d : Day} {p : Int × Str}, (∀ q ∈ p :: d, q.1 ≤ 86399) → (∀ (i j : Nat) (x y : Int × Str), (p :: d)[i]? = some x → (p :: d)[j]? = some y → i < j → x.1 < y.1) → Chain (k * 86400 + p.1) (k * 86400 + 86400) (dayParts k (p :: d))
  | [], p, hm, _ => by
    have := hm p (by simp)
    exact ⟨rfl, by show k * 86400 + p.1 ≤ k * 86400 + 86400; omega, rfl⟩
  | q :: r, p, hm, hu => by
    have h1 := hu 0 1 p q rfl rfl (by omega)
    have ih := row_chain (k := k) (d := r) (p := q) (fun x hx => hm x (List.mem_cons_of_mem _ hx)) fun i j x y hx hy hij => hu (i + 1) (j + 1) x y (by simpa using hx) (by simpa using hy) (by omega)
    have e : dayParts k (p :: q :: r) = (k * 86400 + p.1, k * 86400 + q.1, p.2) :: dayParts k (q :: r) := by
      simp [dayParts, dayEnds]
    rw [e]
    exact ⟨rfl, by show k * 86400 + p.1 ≤ k * 86400 + q.1; omega, ih⟩
theorem day_chain {d : Day} (hd : GoodDay d) (k : Int) : Chain (k * 86400) (k * 86400 + 86400) (dayParts k d) := by
  obtain ⟨x, r, rfl⟩ := hd.first
  have := row_chain (k := k) (d := r) (p := (0, x)) (fun q hq => (hd.at_ q hq).2) fun i j a b ha hb hij => starts_lt hd ha hb hij
  simpa using this
theorem acc_lens {w : Wk} (hw : GoodWk w) {b e : Int} (h : b ≤ e) : ∀ i : Nat, lens (accOf w b e i) = clampI b e ((b / 86400 + i) * 86400) - clampI b e (b / 86400 * 86400)
  | 0 => by simp [accOf, lens]
  | i + 1 => by
    rw [acc_succ, lens_app, acc_lens hw h i]
    unfold dayCut
    rw [chain_len h _ _ _ (day_chain (row_good hw _) _)]
    have : (b / 86400 + (i : Int)) * 86400 + 86400 = (b / 86400 + ((i + 1 : Nat) : Int)) * 86400 := by omega
    rw [this]
    omega
theorem parts_lens {w : Wk} (hw : GoodWk w) {b e : Int} (h : b < e) : lens (partsOf w b e) = e - b := by
  unfold partsOf
  rw [acc_lens hw (by omega)]
  unfold clampI
  simp only [later_max, sooner_min]
  omega
end Ap
set_option Elab.async false
set_option linter.all false
set_option maxRecDepth 100000
set_option maxHeartbeats 1000000
namespace Ap
open PySem (Str)
theorem acc_mem {w : Wk} {b e : Int} {q : Part} {N : Nat} (h : q ∈ accOf w b e N) : ∃ i < N, ∃ q0 ∈ dayAt w b i, clip b e q0 = some q := by
  unfold accOf at h
  rw [List.mem_flatMap] at h
  obtain ⟨i, hi, h⟩ := h
  unfold dayCut at h
  rw [List.mem_filterMap] at h
  obtain ⟨q0, h0, h1⟩ := h
  exact ⟨i, List.mem_range.mp hi, q0, h0, h1⟩
theorem all_word {w : Wk} (hw : GoodWk w) {s at_ : Int} {v : Str} {N : Nat} (hv : lawBand (w.row (s / 86400)) (s - s / 86400 * 86400) = .str v) (h : LChange w s v N (.int at_)) : s < at_ ∧ at_ ≤ 100000000 ∧ ∀ q ∈ partsOf w s at_, q.2.2 = v := by
  rcases h with ⟨i, j, p, hi, hp, hh, hd, ht, hat⟩ | ⟨_, hat⟩
  · have ea : at_ = (s / 86400 + i) * 86400 + p.1 := D.int.inj hat
    unfold hitL at hh
    simp only [Bool.and_eq_true, decide_eq_true_eq] at hh
    have gp := (row_good hw (s / 86400 + i)).at_ p (List.mem_of_getElem? hp)
    refine ⟨by omega, by omega, fun q hq => ?_⟩
    obtain ⟨i0, hi0, q0, hq0, hc⟩ := acc_mem hq
    obtain ⟨j0, hj0⟩ := List.getElem?_of_mem hq0
    obtain ⟨p0, e0, h1, h2, rfl⟩ := parts_at hj0
    have gp0 := (row_good hw (s / 86400 + i0)).at_ p0 (List.mem_of_getElem? h1)
    have hne : w.row (s / 86400 + i0) ≠ [] := by intro h; rw [h] at h1; simp at h1
    unfold clip at hc
    split at hc
    · rename_i hlt
      simp only [later_max, sooner_min] at hlt
      have eq2 : q.2.2 = p0.2 := by cases hc; rfl
      rw [eq2]
      by_cases hs : s < (s / 86400 + i0) * 86400 + p0.1
      · have hno : hitL s (s / 86400 + i0) v p0 = false := by
          rcases Nat.lt_trichotomy i0 i with hl | rfl | hl
          · exact hd i0 hl _ (List.mem_of_getElem? h1)
          · rcases Nat.lt_trichotomy j0 j with hl | rfl | hl
            · exact ht _ (mem_take_of h1 hl)
            · rw [hp] at h1; cases h1; omega
            · have := starts_lt (row_good hw _) hp h1 hl
              omega
          · omega
        unfold hitL at hno
        rw [decide_eq_true hs, decide_eq_true (by omega)] at hno
        simpa using hno
      · have hez : e0 ≤ 86400 := by
          rcases end_next h2 hne with ⟨p2, hp2, rfl⟩ | ⟨_, rfl⟩
          · have := (row_good hw _).at_ p2 (List.mem_of_getElem? hp2)
            omega
          · omega
        have i00 : i0 = 0 := by omega
        subst i00
        have := lawBand_row (row_good hw _) h1 h2 (o := s - s / 86400 * 86400) (by omega) (by omega)
        simp only [Int.ofNat_zero, Int.add_zero, Int.natCast_zero] at this
        rw [hv] at this
        exact (D.str.inj this).symm
    · cases hc
  · cases hat
end Ap
set_option Elab.async false
set_option linter.all false
set_option maxRecDepth 100000
set_option maxHeartbeats 1000000
namespace Ap
open PySem (Str)
theorem secs_same {w : Wk} (hw : GoodWk w) {s at_ : Int} {v : Str} {N : Nat} (hv : lawBand (w.row (s / 86400)) (s - s / 86400 * 86400) = .str v) (h : LChange w s v N (.int at_)) : secsOf w s at_ v = at_ - s := by
  obtain ⟨h1, _, h3⟩ := all_word hw hv h
  rw [← parts_lens hw h1]
  unfold secsOf lens
  rw [List.filter_eq_self.mpr fun q hq => decide_eq_true (h3 q hq)]
end Ap
set_option Elab.async false
set_option linter.all false
set_option maxRecDepth 100000
set_option maxHeartbeats 1000000
namespace Ap
open PySem (Str)
variable {T : Tb} {S S1 S2 S3 : Store} {ρ : Env} {Γ : Ctx} {n : Nat}
def p_law_near_second : Fn := ⟨2, 2,
    (.cons (.ret (.call "_law_pick" (.cons (.v 0) (.cons (.v 1) (.cons (.lst (.cons (.c (.int 0)) (.cons (.c (.int 0)) (.cons (.call "_law_take" (.cons (.v 0) (.cons (.v 1) (.cons (.c (.int 900)) .nil))) .nil) (.cons (.bin .mul (.call "_law_take" (.cons (.v 0) (.cons (.v 1) (.cons (.c (.int 997)) .nil))) .nil) (.c (.int 100))) (.cons (.bin .mul (.call "_law_take" (.cons (.v 0) (.cons (.v 1) (.cons (.c (.int 997)) .nil))) .nil) (.c (.int 300))) .nil)))))) .nil))) .nil))
    .nil)⟩
theorem a_consO {e : E} {r : Es} {Q : List TV → Store → Prop} (h : (ev Γ e ρ S).Ok fun t S1 => (evs Γ r ρ S1).Ok fun ts S2 => Q (t :: ts) S2) : (evs Γ (.cons e r) ρ S).Ok Q := by
  obtain ⟨t, S1, e1, h1⟩ := h.eq
  obtain ⟨ts, S2, e2, h2⟩ := h1.eq
  exact R.Ok.of (a_cons0 e1 e2) h2
theorem o_bin {op : Bop} {a b : E} {Q : TV → Store → Prop} (h : (ev Γ a ρ S).Ok fun x S1 => (ev Γ b ρ S1).Ok fun y S2 => ∃ z, bin op x y S2 = some z ∧ Q z S2) : (ev Γ (.bin op a b) ρ S).Ok Q := by
  obtain ⟨x, S1, e1, h1⟩ := h.eq
  obtain ⟨y, S2, e2, z, hz, q⟩ := h1.eq
  exact R.Ok.of (e_bin e1 e2 hz) q
theorem near_ok (p : Pre T) (pp : PreP T) (hn : T.fns.lookup ("_law_near_second" : Str) = some p_law_near_second) (hd : Dr S) (hf : Flt S) : (callF T (n + 4) "_law_near_second" [.ref 0, .ref 1] S).Ok fun t S' => ∃ k : Int, t = iD k ∧ 0 ≤ k ∧ k ≤ 1000000 ∧ Dr S' ∧ Flt S' ∧ Sp S S' := by
  refine cal_ok hn rfl (s_cons (s_retO (e_pick (n := n) p pp (fun d => ∃ k : Int, d = .int k ∧ 0 ≤ k ∧ k ≤ 1000000) rfl rfl ?_ ?_)))
  · refine a_consO (R.Ok.of e_c (a_consO (R.Ok.of e_c (a_consO ?_))))
    refine e_take (n := n + 1) p hd rfl rfl e_c (by decide) fun r1 S1 h1 h1' d1 s1 => a_consO (o_bin ?_)
    refine e_take (n := n + 1) p d1 rfl rfl e_c (by decide) fun r2 S2 h2 h2' d2 s2 => R.Ok.of e_c ⟨_, b_mul (mul_r (by decide)), a_consO (o_bin ?_)⟩
    refine e_take (n := n + 1) p d2 rfl rfl e_c (by decide) fun r3 S3 h3 h3' d3 s3 => R.Ok.of e_c ⟨_, b_mul (mul_r (by decide)), R.Ok.of a_nil0 ⟨[.int 0, .int 0, .int r1, .int (r2 * 100), .int (r3 * 300)], rfl, by simp, by simp [line], ?_, d3, flt_sp (flt_sp (flt_sp hf d1 s1) d2 s2) d3 s3, (s1.trans s2).trans s3⟩⟩
    intro d hd
    simp only [List.mem_cons, List.not_mem_nil, or_false] at hd
    rcases hd with rfl | rfl | rfl | rfl | rfl <;> exact ⟨_, rfl, by omega, by omega⟩
  · rintro d S' ⟨k, rfl, h0, h1⟩ d' f' s'
    exact ⟨k, rfl, h0, h1, d', f', s'⟩
end Ap
set_option Elab.async false
set_option linter.all false
set_option maxRecDepth 100000
set_option maxHeartbeats 1000000
namespace Ap
open PySem (Str)
variable {T : Tb} {S S1 S2 S3 : Store} {ρ : Env} {Γ : Ctx} {n : Nat} {n0 : Nat} {P : Fl → Store → Prop}
/-! ### steps that the laws' own bodies take -/
theorem e_num (p : Pre T) {ns : List Int} (h : ρ[0]? = some (some (.scr ns))) : ∃ row : List Int, row ≠ [] ∧ ev (T.ctx (callF T (n + 1))) (.call "_law_numbers" (.cons (.v 0) .nil) .nil) ρ [] = .ok (.new (.lst (li row))) [] := by
  have hc := numbers_ok (n := n) (S := []) p ns
  obtain ⟨t, S', e, row, hr, rfl, rfl⟩ := hc.eq
  refine ⟨row, hr, ?_⟩
  rw [ev]; unfold mCall mApp
  rw [a_cons0 (e_v h) a_nil0, bind_ok, a_nil0, bind_ok, bind_ok]
  unfold called
  show (match callF T (n + 1) "_law_numbers" [.scr ns] [] with | .ok t S' => settle 0 t S' | .exc x S' => settleX 0 x S' | .bad => .bad) = _
  rw [e]
  have hm : (Obj.lst (li row)).mx = 0 := by
    have := mxs_dats (row.map D.int)
    rw [map_li] at this
    exact this
  show settle 0 (.val (.ref 0)) [.lst (li row)] = _
  unfold settle
  rw [if_pos (by rfl)]
  show (if (0 : Nat) < 0 then _ else _) = _
  rw [if_neg (by decide)]
  show (if (Obj.lst (li row)).mx ≤ 0 then _ else _) = _
  rw [hm, if_pos (Nat.le_refl _)]; rfl
theorem proms_dats (ds : List D) (S : Store) : proms (ds.map vD) S = (ds.map .dat, S) := by
  induction ds generalizing S with
  | nil => rfl
  | cons d ds ih => simp only [List.map_cons, proms, prom, ih]
theorem s_par2 {i j : Nat} {es : Es} (hi : i < ρ.length) (hj : j < ρ.length) (h : (evs Γ es ρ S).Ok fun ts S1 => ∃ x y : D, ts = [vD x, vD y] ∧ P (.next ((ρ.set i (some (.dat x))).set j (some (.dat y)))) S1) : (ex Γ (.par i j es) n0 ρ S).Ok P := by
  rw [ex]; unfold xPar
  rw [sok_st]
  refine h.mono ?_
  rintro ts S1 ⟨x, y, rfl, q⟩
  simp only [proms, prom, asg2, hi, hj, and_self, if_true, orBadS_some, sok_ok]
  exact q
theorem e_tupD {es : Es} {ds : List D} (h : evs Γ es ρ S = .ok (ds.map vD) S1) (hl : ds.length ≤ line) : ev Γ (.tup es) ρ S = .ok (vD (.tup ds)) S1 := by
  rw [ev]; unfold mTup
  rw [h, bind_ok, if_pos (by simpa using hl), proms_dats, mkTup_dats]
theorem e_lstD {es : Es} {ds : List D} (h : evs Γ es ρ S = .ok (ds.map vD) S1) (hl : ds.length ≤ line) : ev Γ (.lst es) ρ S = .ok (.new (.lst (ds.map .dat))) S1 := by
  rw [ev]; unfold mLst
  rw [h, bind_ok, if_pos (by simpa using hl), proms_dats]
theorem o_cmp {op : Cop} {a b : E} {Q : Bool → Store → Prop} (h : (ev Γ a ρ S).Ok fun x S1 => (ev Γ b ρ S1).Ok fun y S2 => ∃ z, cmp op x y S2 = some z ∧ Q z S2) : (evT Γ (.cmp op a b) ρ S).Ok Q := by
  obtain ⟨x, S1, e1, h1⟩ := h.eq
  obtain ⟨y, S2, e2, z, hz, q⟩ := h1.eq
  exact R.Ok.of (t_cm e1 e2 hz) q
theorem s_ixL {o i e : E} {a : Nat} {k : Int} {x : D} {xs : List Val} (he : ev Γ e ρ S = .ok (vD x) S) (ho : ev Γ o ρ S = .ok (.val (.ref a)) S) (hi : ev Γ i ρ S = .ok (iD k) S) (hs : S[a]? = some (.lst xs)) (h0 : 0 ≤ k) (h1 : k < xs.length) (h : P (.next ρ) (S.set a (.lst (xs.set k.toNat (.dat x))))) : (ex Γ (.ix o i e) n0 ρ S).Ok P := by
  rw [ex]; unfold xIx
  rw [he, st_ok]
  simp only [prom]
  rw [ho, st_ok, hi, st_ok]
  have : setIx (.val (.ref a)) (iD k) (.dat x) S = some (S.set a (.lst (xs.set k.toNat (.dat x)))) := by
    simp only [setIx, hs, intT, Option.bind_some, place_in h0 h1, Option.map_some]
  rw [this, orBadS_some]
  exact h
theorem s_ixD {o i e : E} {a : Nat} {x : D} (he : ev Γ e ρ S = .ok (vD x) S) (ho : ev Γ o ρ S = .ok (.val (.ref a)) S) (hi : (ev Γ i ρ S).Ok fun t S1 => ∃ k ps, t = iD k ∧ S1[a]? = some (.dct ps) ∧ ps.length < line ∧ P (.next ρ) (S1.set a (.dct (putD ps (.int k) (.dat x))))) : (ex Γ (.ix o i e) n0 ρ S).Ok P := by
  obtain ⟨t, S1, e1, k, ps, rfl, hs, hl, h⟩ := hi.eq
  rw [ex]; unfold xIx
  rw [he, st_ok]
  simp only [prom]
  rw [ho, st_ok, e1, st_ok]
  have : setIx (.val (.ref a)) (iD k) (.dat x) S1 = some (S1.set a (.dct (putD ps (.int k) (.dat x)))) := by
    simp only [setIx, hs, keyT, Option.bind_some, if_pos hl]
  rw [this, orBadS_some]
  exact h
/-- a dict whose values are all True -/
def kd (keys : List Int) : List (D × Val) := keys.map fun k => (.int k, .dat (.bl true))
def addK (keys : List Int) (k : Int) : List Int := if k ∈ keys then keys else keys ++ [k]
theorem kd_any (keys : List Int) (k : Int) : ((kd keys).any fun p => decide (p.1 = D.int k)) = decide (k ∈ keys) := by
  induction keys with
  | nil => rfl
  | cons a r ih =>
    have : kd (a :: r) = (.int a, .dat (.bl true)) :: kd r := rfl
    rw [this, List.any_cons, ih]
    by_cases h : a = k
    · subst h; simp
    · have h2 : ¬ (D.int a = D.int k) := fun e => h (D.int.inj e)
      simp [h2, Ne.symm h, eq_comm]
theorem kd_put (keys : List Int) (k : Int) : putD (kd keys) (.int k) (.dat (.bl true)) = kd (addK keys k) := by
  unfold putD addK
  rw [kd_any]
  by_cases h : k ∈ keys
  · rw [if_pos (by simpa using h), if_pos h]
    unfold kd
    rw [List.map_map]
    refine List.map_congr_left fun a _ => ?_
    simp only [Function.comp]
    split <;> rfl
  · rw [if_neg (by simpa using h), if_neg h]
    simp [kd]
theorem kd_len (keys : List Int) : (kd keys).length = keys.length := by simp [kd]
theorem addK_len (keys : List Int) (k : Int) : (addK keys k).length ≤ keys.length + 1 := by
  unfold addK
  split <;> simp
theorem addK_mem {keys : List Int} {k x : Int} (h : x ∈ addK keys k) : x ∈ keys ∨ x = k := by
  unfold addK at h
  split at h
  · exact .inl h
  · simpa using h
theorem addK_nodup {keys : List Int} {k : Int} (h : keys.Nodup) : (addK keys k).Nodup := by
  unfold addK
  split
  · exact h
  · rename_i hk
    rw [List.nodup_append]
    exact ⟨h, by simp, fun a ha b hb => by simp only [List.mem_singleton] at hb; subst hb; rintro rfl; exact hk ha⟩
theorem intKeys_kd (keys : List Int) : intKeys (kd keys) = some keys := by
  induction keys with
  | nil => rfl
  | cons a r ih =>
    show (intKeys (kd r)).map (a :: ·) = _
    rw [ih]; rfl
def sortI (ns : List Int) : List Int := ns.mergeSort fun a b => decide (a ≤ b)
theorem sortI_len (ns : List Int) : (sortI ns).length = ns.length := List.length_mergeSort _
theorem sortI_mem {ns : List Int} {x : Int} : x ∈ sortI ns ↔ x ∈ ns := List.mem_mergeSort
theorem asc_of {ns : List Int} (h : ns.Pairwise (· < ·)) : asc ns = true := by
  unfold asc
  rw [List.all_eq_true]
  intro i hi
  rw [List.mem_range] at hi
  rw [decide_eq_true_eq]
  have h1 : i < ns.length := by omega
  have h2 : i + 1 < ns.length := by omega
  rw [List.getD_eq_getElem?_getD, List.getD_eq_getElem?_getD, List.getElem?_eq_getElem h1, List.getElem?_eq_getElem h2]
  exact List.pairwise_iff_getElem.mp h i (i + 1) h1 h2 (by omega)
theorem sortI_asc {ns : List Int} (h : ns.Nodup) : asc (sortI ns) = true := by
  refine asc_of ?_
  have h1 : (sortI ns).Pairwise fun a b => decide (a ≤ b) = true := List.pairwise_mergeSort (fun a b c h1 h2 => by simp only [decide_eq_true_eq] at *; omega) (fun a b => by simp only [Bool.or_eq_true, decide_eq_true_eq]; omega) ns
  have h2 : (sortI ns).Nodup := (List.mergeSort_perm ns _).nodup_iff.mpr h
  have h3 := h1.and h2
  exact h3.imp fun {a b} q => by simp only [decide_eq_true_eq] at q; omega
theorem l_sortK {a : Nat} {keys : List Int} (h : S[a]? = some (.dct (kd keys))) (hl : keys.length < 64) : bi1 .sorted (.val (.ref a)) S = some (.new (.lst (li (sortI keys)))) := by
  simp only [bi1, dctOf, objOf, h, sortK, intKeys_kd, Option.bind_some, if_pos hl]
  rfl
theorem l_tupL {xs : List D} : bi1 .tuple (.new (.lst (xs.map .dat))) S = some (vD (.tup xs)) := by
  simp only [bi1, seqOf, lstOf, objOf, Option.map_some, mkTup_dats]
theorem l_tupR {a : Nat} {xs : List D} (h : S[a]? = some (.lst (xs.map .dat))) : bi1 .tuple (.val (.ref a)) S = some (vD (.tup xs)) := by
  simp only [bi1, seqOf, lstOf, objOf, h, Option.map_some, mkTup_dats]
theorem e_dct0 : ev Γ (.dct .nil) ρ S = .ok (.new (.dct [])) S := by rw [ev, evPs]; rfl
theorem i_rgO {a : E} {Q : Src → Store → Prop} (h : (ev Γ a ρ S).Ok fun t S1 => ∃ k : Int, t = iD k ∧ okR k = true ∧ Q ⟨upto 0 k.toNat, []⟩ S1) : (evI Γ (.rg1 a) ρ S).Ok Q := by
  obtain ⟨t, S1, e, k, rfl, hk, q⟩ := h.eq
  exact R.Ok.of (i_rgI e hk) q
theorem s_fg {js : List Nat} (h : ∀ S', (S' = S ∨ S' = S.take (max n0 (mxE (wipe ρ js)))) → (closed (max n0 (mxE (wipe ρ js))) (S.take (max n0 (mxE (wipe ρ js)))) = true → S' = S.take (max n0 (mxE (wipe ρ js)))) → P (.next (wipe ρ js)) S') : (ex Γ (.fg js) n0 ρ S).Ok P := by
  rw [ex]; unfold xFg
  split
  · exact h _ (.inr rfl) fun _ => rfl
  · rename_i hc
    exact h _ (.inl rfl) fun hc' => absurd hc' hc
end Ap
set_option Elab.async false
set_option linter.all false
set_option maxRecDepth 100000
set_option maxHeartbeats 1000000
namespace Ap
open PySem (Str)
variable {T : Tb} {S S1 S2 S3 : Store} {ρ : Env} {Γ : Ctx} {n : Nat} {n0 : Nat} {P : Fl → Store → Prop}
theorem o_ix {a b : E} {Q : TV → Store → Prop} (h : (ev Γ a ρ S).Ok fun x S1 => (ev Γ b ρ S1).Ok fun y S2 => ∃ z, index x y S2 = some z ∧ Q z S2) : (ev Γ (.ix a b) ρ S).Ok Q := by
  obtain ⟨x, S1, e1, h1⟩ := h.eq
  obtain ⟨y, S2, e2, z, hz, q⟩ := h1.eq
  exact R.Ok.of (e_ix e1 e2 hz) q
theorem o_lstD {es : Es} {Q : TV → Store → Prop} (h : (evs Γ es ρ S).Ok fun ts S1 => ∃ ds : List D, ts = ds.map vD ∧ ds.length ≤ line ∧ Q (.new (.lst (ds.map .dat))) S1) : (ev Γ (.lst es) ρ S).Ok Q := by
  obtain ⟨ts, S1, e1, ds, rfl, hl, q⟩ := h.eq
  exact R.Ok.of (e_lstD e1 hl) q
theorem o_call {f : Str} {es : Es} {Q : TV → Store → Prop} (h : (evs Γ es ρ S).Ok fun ts S1 => (called Γ.cl f ts S1).Ok Q) : (ev Γ (.call f es .nil) ρ S).Ok Q := by
  obtain ⟨ts, S1, e1, h1⟩ := h.eq
  exact e_call e1 a_nil0 (by rw [List.append_nil]; exact h1)
theorem t_callO {f : Str} {es ks : Es} {Q : Bool → Store → Prop} (h : (ev Γ (.call f es ks) ρ S).Ok fun t S1 => ∃ b, t = bD b ∧ Q b S1) : (evT Γ (.call f es ks) ρ S).Ok Q := by
  obtain ⟨t, S1, e1, b, rfl, q⟩ := h.eq
  exact R.Ok.of (t_callG e1) q
theorem t_noO {a : E} {Q : Bool → Store → Prop} (h : (evT Γ a ρ S).Ok fun b S1 => Q (!b) S1) : (evT Γ (.no a) ρ S).Ok Q := by
  obtain ⟨b, S1, e1, q⟩ := h.eq
  exact R.Ok.of (t_no e1) q
theorem t_or2O {a b : E} {Q : Bool → Store → Prop} (h : (evT Γ a ρ S).Ok fun x S1 => if x then Q true S1 else (evT Γ b ρ S1).Ok Q) : (evT Γ (.or (.cons a (.cons b .nil))) ρ S).Ok Q := by
  obtain ⟨x, S1, e1, q⟩ := h.eq
  rw [evT, evTOr, evTOr]; unfold mTOr
  rw [e1, bind_ok]
  cases x with
  | true => exact q
  | false => exact q
theorem t_and2O {a b : E} {Q : Bool → Store → Prop} (h : (evT Γ a ρ S).Ok fun x S1 => if x then (evT Γ b ρ S1).Ok Q else Q false S1) : (evT Γ (.and (.cons a (.cons b .nil))) ρ S).Ok Q := by
  obtain ⟨x, S1, e1, q⟩ := h.eq
  rw [evT, evTAnd, evTAnd]; unfold mTAnd
  rw [e1, bind_ok]
  cases x with
  | true => exact q
  | false => exact q
theorem dr_gr (g : Gr S S1) (d : Dr S) : Dr S1 := g.dr d
/-- data of a call that only adds -/
theorem c_gr {f : Str} {ts : List TV} {xs : List Val} {Q R : TV → Store → Prop} (hp : proms ts S = (xs, S1)) (hl : S1.length = S.length) (hc : (callF T n f xs S1).Ok fun t S' => ∃ d, t = vD d ∧ R t S' ∧ Gr S1 S') (hR : ∀ t S' S'', R t S' → R t S'') (h : ∀ d S', R (vD d) S' → Gr S1 S' → Q (vD d) S') : (called (callF T n) f ts S).Ok Q := by
  refine called_ok ?_
  rw [hp]
  refine hc.mono ?_
  rintro t S' ⟨d, rfl, hr, g⟩
  rw [← hl]
  refine (settle_dat_gr (d := d) g).mono ?_
  rintro t' S'' ⟨rfl, g'⟩
  exact h d S'' (hR _ _ _ hr) g'
theorem e_near {a b : Nat} (p : Pre T) (pp : PreP T) (hn : T.fns.lookup ("_law_near_second" : Str) = some p_law_near_second) (hd : Dr S) (hf : Flt S) (ha : ρ[a]? = some (some (.ref 0))) (hb : ρ[b]? = some (some (.ref 1))) {Q : TV → Store → Prop}
    (h : ∀ k S', 0 ≤ k → k ≤ 1000000 → Dr S' → Flt S' → Sp S S' → Q (iD k) S') : (ev (T.ctx (callF T (n + 4))) (.call "_law_near_second" (.cons (.v a) (.cons (.v b) .nil)) .nil) ρ S).Ok Q := by
  refine e_call (a_cons0 (e_v ha) (a_cons0 (e_v hb) a_nil0)) a_nil0 (called_ok ?_)
  show (callF T (n + 4) "_law_near_second" [.ref 0, .ref 1] S).Ok _
  refine (near_ok p pp hn hd hf).mono ?_
  rintro t S' ⟨k, rfl, h0, h1, hd', hf', hs⟩
  rw [← hs.len]
  exact R.Ok.of settle_dat (h k S' h0 h1 hd' hf' hs)
theorem e_handed {a b c : Nat} {d : D} (p : Pre T) (ph : PreH T) (hd : Dr S) (hf : d.fits = true) (hn : d.depth ≤ n) (ha : ρ[a]? = some (some (.ref 0))) (hb : ρ[b]? = some (some (.ref 1))) (hc : ρ[c]? = some (some (.dat d))) {Q : TV → Store → Prop}
    (h : ∀ t S', LkT S' t d → Dr S' → Ge S S' → Q t S') : (ev (T.ctx (callF T (n + 4))) (.call "_law_handed" (.cons (.v a) (.cons (.v b) (.cons (.v c) .nil))) .nil) ρ S).Ok Q := by
  refine e_call (a_cons0 (e_v ha) (a_cons0 (e_v hb) (a_cons0 (e_v hc) a_nil0))) a_nil0 (called_ok ?_)
  show (callF T (n + 4) "_law_handed" [.ref 0, .ref 1, .dat d] S).Ok _
  refine (handed_ok p ph n hd hf hn).mono ?_
  rintro t S' ⟨h1, hd', g⟩
  refine settle_lk g h1 fun t' S3 q1 q2 q3 => h t' S3 q1 ?_ q2
  rcases q3 with rfl | rfl
  · exact hd'
  · exact dr_take hd g hd'
/-- _law_so of data and itself -/
theorem e_so {es : Es} {d : D} (p : Pre T) (hd : d.depth ≤ n) (hf : d.fits = true) {Q : TV → Store → Prop} (h : (evs (T.ctx (callF T (n + 1))) es ρ S).Ok fun ts S1 => ts = [vD d, vD d] ∧ Q (bD true) S1) : (ev (T.ctx (callF T (n + 1))) (.call "_law_so" es .nil) ρ S).Ok Q := by
  refine o_call (h.mono ?_)
  rintro ts S1 ⟨rfl, q⟩
  refine called_ok ?_
  show (callF T (n + 1) "_law_so" [.dat d, .dat d] S1).Ok _
  refine (so_ok p n d S1 hd hf).mono ?_
  rintro t S' ⟨rfl, rfl⟩
  exact R.Ok.of settle_dat q
end Ap
set_option Elab.async false
set_option linter.all false
set_option maxRecDepth 100000
set_option maxHeartbeats 1000000
namespace Ap
open PySem (Str)
variable {T : Tb} {S S1 S2 S3 : Store} {ρ : Env} {Γ : Ctx} {n : Nat} {n0 : Nat} {P : Fl → Store → Prop}
/-! ### more of the logic: and, or as values; exceptions -/
theorem o_and1 {a : E} {Q : TV → Store → Prop} (h : (ev Γ a ρ S).Ok Q) : (ev Γ (.and (.cons a .nil)) ρ S).Ok Q := by
  rw [ev, evAnd]; exact h
theorem o_and {a b : E} {r : Es} {Q : TV → Store → Prop} (h : (ev Γ a ρ S).Ok fun t S1 => ∃ x, t = bD x ∧ if x then (ev Γ (.and (.cons b r)) ρ S1).Ok Q else Q (bD false) S1) : (ev Γ (.and (.cons a (.cons b r))) ρ S).Ok Q := by
  obtain ⟨t, S1, e, x, rfl, h⟩ := h.eq
  rw [ev, evAnd]; unfold mAnd
  rw [e, bind_ok]
  rw [ev] at h
  cases x with
  | true => simp only [blT, orBad_some, if_true]; exact h
  | false => simp only [blT, orBad_some, Bool.false_eq_true, if_false]; exact h
theorem o_or1 {a : E} {Q : TV → Store → Prop} (h : (ev Γ a ρ S).Ok Q) : (ev Γ (.or (.cons a .nil)) ρ S).Ok Q := by
  rw [ev, evOr]; exact h
theorem o_or {a b : E} {r : Es} {Q : TV → Store → Prop} (h : (ev Γ a ρ S).Ok fun t S1 => ∃ x, t = bD x ∧ if x then Q (bD true) S1 else (ev Γ (.or (.cons b r)) ρ S1).Ok Q) : (ev Γ (.or (.cons a (.cons b r))) ρ S).Ok Q := by
  obtain ⟨t, S1, e, x, rfl, h⟩ := h.eq
  rw [ev, evOr]; unfold mOr
  rw [e, bind_ok]
  rw [ev] at h
  cases x with
  | true => simp only [blT, orBad_some, if_true]; exact h
  | false => simp only [blT, orBad_some, Bool.false_eq_true, if_false]; exact h
theorem t_or1 {a : E} {Q : Bool → Store → Prop} (h : (evT Γ a ρ S).Ok Q) : (evT Γ (.or (.cons a .nil)) ρ S).Ok Q := by
  rw [evT, evTOr]; exact h
theorem t_or {a b : E} {r : Es} {Q : Bool → Store → Prop} (h : (evT Γ a ρ S).Ok fun x S1 => if x then Q true S1 else (evT Γ (.or (.cons b r)) ρ S1).Ok Q) : (evT Γ (.or (.cons a (.cons b r))) ρ S).Ok Q := by
  obtain ⟨x, S1, e, h⟩ := h.eq
  rw [evT, evTOr]; unfold mTOr
  rw [e, bind_ok]
  rw [evT] at h
  cases x with
  | true => exact h
  | false => exact h
theorem t_and1 {a : E} {Q : Bool → Store → Prop} (h : (evT Γ a ρ S).Ok Q) : (evT Γ (.and (.cons a .nil)) ρ S).Ok Q := by
  rw [evT, evTAnd]; exact h
theorem t_and {a b : E} {r : Es} {Q : Bool → Store → Prop} (h : (evT Γ a ρ S).Ok fun x S1 => if x then (evT Γ (.and (.cons b r)) ρ S1).Ok Q else Q false S1) : (evT Γ (.and (.cons a (.cons b r))) ρ S).Ok Q := by
  obtain ⟨x, S1, e, h⟩ := h.eq
  rw [evT, evTAnd]; unfold mTAnd
  rw [e, bind_ok]
  rw [evT] at h
  cases x with
  | true => exact h
  | false => exact h
theorem oo_no {a : E} {Q : TV → Store → Prop} (h : (ev Γ a ρ S).Ok fun t S1 => ∃ b, t = bD b ∧ Q (bD (!b)) S1) : (ev Γ (.no a) ρ S).Ok Q := by
  obtain ⟨t, S1, e, b, rfl, h⟩ := h.eq
  exact R.Ok.of (e_no e) h
theorem o_cmpE {op : Cop} {a b : E} {Q : TV → Store → Prop} (h : (ev Γ a ρ S).Ok fun x S1 => (ev Γ b ρ S1).Ok fun y S2 => ∃ z, cmp op x y S2 = some z ∧ Q (bD z) S2) : (ev Γ (.cmp op a b) ρ S).Ok Q := by
  obtain ⟨x, S1, e1, h1⟩ := h.eq
  obtain ⟨y, S2, e2, z, hz, q⟩ := h1.eq
  exact R.Ok.of (e_cmp e1 e2 hz) q
theorem o_biS {f : Bi} {a : E} {Q : TV → Store → Prop} (h : (ev Γ a ρ S).Ok fun t S1 => ∃ z, bi1 f t S1 = some z ∧ Q z S1) : (ev Γ (.bi f (.cons a .nil)) ρ S).Ok Q := by
  obtain ⟨t, S1, e, z, hz, q⟩ := h.eq
  exact R.Ok.of (e_bi1 e hz) q
theorem t_biO {f : Bi} {es : Es} {Q : Bool → Store → Prop} (h : (ev Γ (.bi f es) ρ S).Ok fun t S1 => ∃ b, t = bD b ∧ Q b S1) : (evT Γ (.bi f es) ρ S).Ok Q := by
  obtain ⟨t, S1, e, b, rfl, h⟩ := h.eq
  exact R.Ok.of (t_biG e) h
theorem o_ife {t a b : E} {Q : TV → Store → Prop} (h : (evT Γ t ρ S).Ok fun c S1 => if c then (ev Γ a ρ S1).Ok Q else (ev Γ b ρ S1).Ok Q) : (ev Γ (.ife t a b) ρ S).Ok Q := by
  obtain ⟨c, S1, e, h⟩ := h.eq
  rw [ev]; unfold mIfe
  rw [e, bind_ok]
  cases c <;> exact h
theorem o_tupD {es : Es} {Q : TV → Store → Prop} (h : (evs Γ es ρ S).Ok fun ts S1 => ∃ ds : List D, ts = ds.map vD ∧ ds.length ≤ line ∧ Q (vD (.tup ds)) S1) : (ev Γ (.tup es) ρ S).Ok Q := by
  obtain ⟨ts, S1, e1, ds, rfl, hl, q⟩ := h.eq
  exact R.Ok.of (e_tupD e1 hl) q
/-- a call of a def that only adds to the store -/
theorem o_fnG {f : Str} {es : Es} {xs : List Val} {d : D} {Q : TV → Store → Prop} (ha : evs (T.ctx (callF T n)) es ρ S = .ok (xs.map .val) S) (hc : (callF T n f xs S).Ok fun t S' => t = vD d ∧ Gr S S') (h : ∀ S', Gr S S' → Q (vD d) S') : (ev (T.ctx (callF T n)) (.call f es .nil) ρ S).Ok Q :=
  (e_fnG ha hc).mono fun t S' q => by obtain ⟨rfl, g⟩ := q; exact h S' g
/-! ### exceptions -/
def R.Exn {α : Type} (r : R α) (x : Exc) (P : Store → Prop) : Prop := ∃ S', r = .exc x S' ∧ P S'
def SR.Exn (r : SR) (x : Exc) (P : Store → Prop) : Prop := ∃ ρ' S', r = .exc x ρ' S' ∧ P S'
section
variable {x : Exc} {Q : Store → Prop}
theorem call_ex {f : Str} {d : Fn} {xs : List Val} (hf : T.fns.lookup f = some d) (hl : xs.length = d.ps) (h : (exs (T.ctx (callF T n)) d.body S.length (start d.ns xs) S).Exn x Q) : (callF T (n + 1) f xs S).Exn x Q := by
  obtain ⟨ρ', S', e, q⟩ := h
  refine ⟨S', ?_, q⟩
  simp only [callF, hf, run]
  rw [if_pos hl, e]
theorem x_head {s : Ap.S} {r : Ss} (h : (ex Γ s n0 ρ S).Exn x Q) : (exs Γ (.cons s r) n0 ρ S).Exn x Q := by
  obtain ⟨ρ', S', e, q⟩ := h
  refine ⟨ρ', S', ?_, q⟩
  rw [exs]; unfold xSeq; rw [e]; rfl
theorem x_next {s : Ap.S} {r : Ss} (h : (ex Γ s n0 ρ S).Ok fun f S1 => match f with | .next ρ' => (exs Γ r n0 ρ' S1).Exn x Q | _ => False) : (exs Γ (.cons s r) n0 ρ S).Exn x Q := by
  cases hs : ex Γ s n0 ρ S with
  | ok f S1 =>
    rw [hs] at h
    cases f with
    | next ρ' =>
      obtain ⟨ρ2, S2, e, q⟩ := (show (exs Γ r n0 ρ' S1).Exn x Q from h)
      refine ⟨ρ2, S2, ?_, q⟩
      rw [exs]; unfold xSeq; rw [hs]; exact e
    | brk _ => exact h.elim
    | cnt _ => exact h.elim
    | ret _ => exact h.elim
  | exc _ _ _ => rw [hs] at h; exact h.elim
  | bad => rw [hs] at h; exact h.elim
theorem xx_if {t : E} {a b : Ss} (h : (evT Γ t ρ S).Ok fun c S1 => if c then (exs Γ a n0 ρ S1).Exn x Q else (exs Γ b n0 ρ S1).Exn x Q) : (ex Γ (.if_ t a b) n0 ρ S).Exn x Q := by
  obtain ⟨c, S1, e, h⟩ := h.eq
  have : ex Γ (.if_ t a b) n0 ρ S = if c then exs Γ a n0 ρ S1 else exs Γ b n0 ρ S1 := by
    rw [ex]; unfold xIf; rw [e]; rfl
  rw [this]
  cases c <;> exact h
theorem xx_as {i : Nat} {e : E} (h : (ev Γ e ρ S).Exn x Q) : (ex Γ (.as i e) n0 ρ S).Exn x Q := by
  obtain ⟨S', e1, q⟩ := h
  exact ⟨ρ, S', by rw [ex]; unfold xAs; rw [e1]; rfl, q⟩
theorem xx_ex {e : E} (h : (ev Γ e ρ S).Exn x Q) : (ex Γ (.ex e) n0 ρ S).Exn x Q := by
  obtain ⟨S', e1, q⟩ := h
  exact ⟨ρ, S', by rw [ex]; unfold xExpr; rw [e1]; rfl, q⟩
theorem xx_rais {C f : Str} {e : E} {d : D} (hc : Γ.cls C = some f) (he : ev Γ e ρ S = .ok (vD d) S1) (h : Q S1) : (ex Γ (.rais C e) n0 ρ S).Exn ⟨C, [(f, .dat d)]⟩ Q :=
  ⟨ρ, S1, by rw [ex, hc]; unfold xRaise; rw [orBadS_some, he]; rfl, h⟩
theorem xx_call {f : Str} {es : Es} {ts : List TV} (ha : evs Γ es ρ S = .ok ts S1) (h : (Γ.cl f (proms ts S1).1 (proms ts S1).2).Exn x fun S' => ∀ S'', (S'' = S' ∨ S'' = S'.take S1.length) → Q S'') : (ev Γ (.call f es .nil) ρ S).Exn x Q := by
  obtain ⟨S', e, q⟩ := h
  have : ev Γ (.call f es .nil) ρ S = settleX S1.length x S' := by
    rw [ev]; unfold mCall mApp
    rw [ha, bind_ok, a_nil0, bind_ok, bind_ok, List.append_nil]
    unfold called
    rw [e]
  rw [this]
  unfold settleX
  split
  · exact ⟨_, rfl, q _ (.inr rfl)⟩
  · exact ⟨_, rfl, q _ (.inl rfl)⟩
theorem x_callK {f : Str} {ks : Es} {ts : List TV} (ha : evs Γ ks ρ S = .ok ts S1) (h : (Γ.cl f (proms ts S1).1 (proms ts S1).2).Exn x fun S' => ∀ S'', (S'' = S' ∨ S'' = S'.take S1.length) → Q S'') : (ev Γ (.call f .nil ks) ρ S).Exn x Q := by
  obtain ⟨S', e, q⟩ := h
  have : ev Γ (.call f .nil ks) ρ S = settleX S1.length x S' := by
    rw [ev]; unfold mCall mApp
    rw [a_nil0, bind_ok, ha, bind_ok, bind_ok, List.nil_append]
    unfold called
    rw [e]
  rw [this]
  unfold settleX
  split
  · exact ⟨_, rfl, q _ (.inr rfl)⟩
  · exact ⟨_, rfl, q _ (.inl rfl)⟩
theorem s_try {e : E} {C f s : Str} {j : Nat} (hc : Γ.cls C = some f) (hj : j < ρ.length) (he : (ev Γ e ρ S).Ok fun t S1 => P (.ret t) S1) : (ex Γ (.tr e C j s f) n0 ρ S).Ok P := by
  obtain ⟨t, S1, e1, h⟩ := he.eq
  rw [ex]; unfold xTry
  rw [if_pos (by simp [hc, hj]), e1]
  exact h
theorem s_tryX {e : E} {C f s : Str} {j : Nat} {d : D} (hc : Γ.cls C = some f) (hj : j < ρ.length) (he : (ev Γ e ρ S).Exn ⟨C, [(f, .dat d)]⟩ fun S1 => P (.ret (vD (.tup [.str s, d]))) S1) : (ex Γ (.tr e C j s f) n0 ρ S).Ok P := by
  obtain ⟨S1, e1, h⟩ := he
  rw [ex]; unfold xTry
  rw [if_pos (by simp [hc, hj]), e1]
  simp only [hc, Option.isSome_some, if_true, List.lookup_cons, beq_self_eq_true, orBadS_some]
  exact h
end
/-- f(a = e, ..) -/
theorem o_callK {f : Str} {ks : Es} {Q : TV → Store → Prop} (h : (evs Γ ks ρ S).Ok fun ts S1 => (called Γ.cl f ts S1).Ok Q) : (ev Γ (.call f .nil ks) ρ S).Ok Q := by
  obtain ⟨ts, S1, e1, h1⟩ := h.eq
  exact e_call a_nil0 e1 h1
end Ap
set_option Elab.async false
set_option linter.all false
set_option maxRecDepth 100000
set_option maxHeartbeats 1000000
namespace Ap
open PySem (Str)
variable {T : Tb} {S S1 S2 S3 : Store} {ρ : Env} {Γ : Ctx} {n : Nat} {n0 : Nat} {P : Fl → Store → Prop}
/-! ### is_shape of any data -/
mutual
/-- no overlong texts -/
def D.sm : D → Bool
  | .str s => decide (s.length ≤ line)
  | .tup ds => D.sms ds
  | _ => true
def D.sms : List D → Bool
  | [] => true
  | d :: ds => d.sm && D.sms ds
end
theorem sms_mem : ∀ {ds : List D}, D.sms ds = true → ∀ {d : D}, d ∈ ds → d.sm = true
  | e :: ds, h, d, hd => by
    simp only [D.sms, Bool.and_eq_true] at h
    rcases List.mem_cons.mp hd with rfl | hd
    · exact h.1
    · exact sms_mem h.2 hd
def wordD (d : D) : Bool := match d with
  | .str s => wordOk s
  | _ => false
theorem wordD_eq (ps : PreS T) {d : D} (h : d.sm = true) : callF T (n + 1) "is_word" [.dat d] S = .ok (bD (wordD d)) S := by
  cases d with
  | str x => exact word_eq ps (by simpa [D.sm] using h)
  | non => exact ok_eq (cal_ok ps.word rfl (s_cons (s_retO (o_and (R.Ok.of (e_isi (e_v rfl) (isi1 rfl)) ⟨false, rfl, rfl, rfl⟩)))))
  | bl _ => exact ok_eq (cal_ok ps.word rfl (s_cons (s_retO (o_and (R.Ok.of (e_isi (e_v rfl) (isi1 rfl)) ⟨false, rfl, rfl, rfl⟩)))))
  | int _ => exact ok_eq (cal_ok ps.word rfl (s_cons (s_retO (o_and (R.Ok.of (e_isi (e_v rfl) (isi1 rfl)) ⟨false, rfl, rfl, rfl⟩)))))
  | tup _ => exact ok_eq (cal_ok ps.word rfl (s_cons (s_retO (o_and (R.Ok.of (e_isi (e_v rfl) (isi1 rfl)) ⟨false, rfl, rfl, rfl⟩)))))
def pairB (d : D) : Bool := match d with
  | .tup [a, b] => within a 0 86399 && wordD b
  | _ => false
theorem rowOk_two {d : D} : rowOk d 2 2 = true ↔ ∃ a b, d = .tup [a, b] := by
  constructor
  · intro h
    cases d with
    | tup ds =>
      simp only [rowOk, Bool.and_eq_true, decide_eq_true_eq] at h
      have hl : ds.length = 2 := by omega
      match ds, hl with
      | [a, b], _ => exact ⟨a, b, rfl⟩
    | _ => simp [rowOk] at h
  · rintro ⟨a, b, rfl⟩
    simp [rowOk]
theorem pair_eq (p : PreK T) (ps : PreS T) {d : D} (h : d.sm = true) : callF T (n + 3) "is_pair" [.dat d] S = .ok (bD (pairB d)) S := by
  refine ok_eq (cal_ok ps.pair rfl (s_cons (s_retO (o_and ?_))))
  refine R.Ok.of (e_fn (xs := [.dat d, .dat (.int 2), .dat (.int 2)]) (a_cons0 (e_v rfl) (a_cons0 e_c (a_cons0 e_c a_nil0))) (isrow_eq (n := n + 1) p d 2 2)) ⟨_, rfl, ?_⟩
  cases hr : rowOk d 2 2 with
  | false =>
    simp only [Bool.false_eq_true, if_false]
    refine ⟨?_, rfl⟩
    have : pairB d = false := by
      unfold pairB
      split
      · rename_i a b
        have := (rowOk_two (d := .tup [a, b])).mpr ⟨a, b, rfl⟩
        rw [this] at hr; cases hr
      · rfl
    rw [this]
  | true =>
    simp only [if_true]
    obtain ⟨a, b, rfl⟩ := rowOk_two.mp hr
    simp only [D.sm, D.sms, Bool.and_eq_true, Bool.and_true] at h
    have i0 : index (vD (.tup [a, b])) (iD 0) S = some (vD a) := l_ixT (by decide) (by simp) rfl
    have i1 : index (vD (.tup [a, b])) (iD 1) S = some (vD b) := l_ixT (by decide) (by simp) rfl
    refine o_and (R.Ok.of (e_fn (xs := [.dat a, .dat (.int 0), .dat (.int 86399)]) (a_cons0 (e_ix (e_v rfl) e_c i0) (a_cons0 e_c (a_cons0 (e_bin (e_g ps.cD) e_c b_sub) a_nil0))) (within_eq (n := n) p a 0 86399)) ⟨_, rfl, ?_⟩)
    show (if within a 0 86399 = true then _ else _)
    cases hw : within a 0 86399 with
    | false =>
      simp only [Bool.false_eq_true, if_false]
      refine ⟨?_, rfl⟩
      simp [pairB, hw]
    | true =>
      simp only [if_true]
      refine o_and1 (R.Ok.of (e_fn (xs := [.dat b]) (a_cons0 (e_ix (e_v rfl) e_c i1) a_nil0) (wordD_eq (n := n + 1) ps h.2)) ⟨?_, rfl⟩)
      simp [pairB, hw]
def startI (d : D) : Int := match d with
  | .tup (.int a :: _) => a
  | _ => 0
def dayB (d : D) : Bool := match d with
  | .tup ds => rowOk (.tup ds) 1 8 && ds.all pairB && (decide (startI (ds.headD .non) = 0) && asc (ds.map startI))
  | _ => false
theorem dayB_eq (ds : List D) : dayB (.tup ds) = (rowOk (.tup ds) 1 8 && ds.all pairB && (decide (startI (ds.headD .non) = 0) && asc (ds.map startI))) := rfl
theorem pairB_ok {d : D} (h : pairB d = true) : ∃ a w, d = .tup [.int a, .str w] ∧ 0 ≤ a ∧ a ≤ 86399 ∧ wordOk w = true := by
  unfold pairB at h
  split at h
  · rename_i a b
    simp only [Bool.and_eq_true] at h
    cases a with
    | int v =>
      simp only [within, Bool.and_eq_true, decide_eq_true_eq] at h
      cases b with
      | str w => exact ⟨v, w, rfl, h.1.1, h.1.2, h.2⟩
      | _ => simp [wordD] at h
    | _ => simp [within] at h
  · cases h
theorem all_map {α : Type} (l : List α) (f : α → Bool) : (l.map f).all id = l.all f := by
  induction l with
  | nil => rfl
  | cons a l ih => simp only [List.map_cons, List.all_cons, ih, id]
theorem dats_i {i : Nat} {x : Val} {ds : List D} (h : (ds.map Val.dat)[i]? = some x) : ∃ d, ds[i]? = some d ∧ x = .dat d := by
  simp only [List.getElem?_map, Option.map_eq_some_iff] at h
  obtain ⟨d, h1, h2⟩ := h
  exact ⟨d, h1, h2.symm⟩
theorem rowOk_len {ds : List D} {a b : Int} (h : rowOk (.tup ds) a b = true) : a ≤ (ds.length : Int) ∧ (ds.length : Int) ≤ b := by
  simpa [rowOk] using h
theorem day_eq (p : PreK T) (ps : PreS T) {d : D} (h : d.sm = true) : (callF T (n + 4) "is_day" [.dat d] S).Ok fun t S' => t = bD (dayB d) ∧ Gr S S' := by
  refine cal_ok ps.day rfl (s_cons (s_ifO (t_or (t_noO (t_callO (R.Ok.of (e_fn (xs := [.dat d, .dat (.int 1), .dat (.int 8)]) (a_cons0 (e_v rfl) (a_cons0 e_c (a_cons0 (e_g ps.cMP) a_nil0))) (isrow_eq (n := n + 2) p d 1 8)) ⟨_, rfl, ?_⟩))))))
  cases hr : rowOk d 1 8 with
  | false =>
    simp only [Bool.not_false, if_true]
    refine s_cons (s_ret e_c ⟨?_, Gr.refl⟩)
    cases d <;> simp [dayB, hr]
  | true =>
    simp only [Bool.not_true, Bool.false_eq_true, if_false]
    cases d with
    | tup ds =>
      have hl := rowOk_len hr
      have hall : ev (T.ctx (callF T (n + 3))) (.bi .all (.cons (.lc (.call "is_pair" (.cons (.v 1) .nil) .nil) [1] (.nm 1) (.e (.v 0)) .nil) .nil)) [some (.dat (.tup ds)), none, none, none] S = .ok (bD (ds.all pairB)) S := by
        rw [← all_map]
        refine t_all (e_lcP (src := ⟨ds.map .dat, []⟩) (i_tup rfl) rfl (by simp [line]; omega) (by simp) fun i x y hx hy => ?_)
        obtain ⟨e, he, rfl⟩ := dats_i hx
        simp only [List.map_map, List.getElem?_map, he, Option.map_some, Option.some.injEq, Function.comp] at hy
        subst hy
        exact ⟨_, rfl, e_fn (xs := [.dat e]) (a_cons0 (e_v rfl) a_nil0) (pair_eq p ps (sms_mem h (List.mem_of_getElem? he)))⟩
      refine t_or1 (t_noO (t_biO (R.Ok.of hall ⟨_, rfl, ?_⟩)))
      cases hp : ds.all pairB with
      | false =>
        simp only [Bool.not_false, if_true]
        refine s_cons (s_ret e_c ⟨?_, Gr.refl⟩)
        simp [dayB, hp]
      | true =>
        simp only [Bool.not_true, Bool.false_eq_true, if_false]
        have hpair : ∀ e ∈ ds, ∃ a w, e = .tup [.int a, .str w] ∧ 0 ≤ a ∧ a ≤ 86399 ∧ wordOk w = true := fun e he => pairB_ok (List.all_eq_true.mp hp e he)
        obtain ⟨e0, r, rfl⟩ : ∃ e0 r, ds = e0 :: r := by
          cases ds with
          | nil => simp at hl
          | cons a b => exact ⟨a, b, rfl⟩
        obtain ⟨a0, w0, rfl, _⟩ := hpair e0 (by simp)
        have i0 : index (vD (.tup (.tup [.int a0, .str w0] :: r))) (iD 0) S = some (vD (.tup [.int a0, .str w0])) := l_ixT (by decide) (by simp only [List.length_cons]; omega) rfl
        have i1 : index (vD (.tup [.int a0, .str w0])) (iD 0) S = some (iD a0) := l_ixT (by decide) (by simp) rfl
        refine s_nil (nx (s_cons (s_retO (o_and (o_cmpE (R.Ok.of (e_ix (e_ix (e_v rfl) e_c i0) e_c i1) (R.Ok.of e_c ⟨_, c_eq, _, rfl, ?_⟩)))))))
        show (if decide (a0 = 0) = true then _ else _)
        by_cases h0 : a0 = 0
        · rw [if_pos (by simp [h0])]
          refine o_and1 (o_call (R.Ok.of (a_cons0 (e_lcP (src := ⟨(.tup [.int a0, .str w0] :: r).map .dat, []⟩) (ys := ((.tup [.int a0, .str w0] :: r).map startI).map .int) (i_tup rfl) rfl (by simp only [line, List.length_map, List.length_cons] at hl ⊢; omega) (by simp) fun i x y hx hy => ?_) a_nil0) (called_ok ?_)))
          · obtain ⟨e, he, rfl⟩ := dats_i hx
            obtain ⟨a, w, rfl, _⟩ := hpair e (List.mem_of_getElem? he)
            rw [List.map_map, List.getElem?_map, he] at hy
            cases hy
            exact ⟨_, rfl, e_v rfl⟩
          · show (callF T (n + 3) "ascending" [.ref S.length] (S ++ [.lst ((((.tup [.int a0, .str w0] :: r).map startI).map D.int).map .dat)])).Ok _
            have hrow : RowI (S ++ [.lst ((((.tup [.int a0, .str w0] :: r).map startI).map D.int).map .dat)]) (.ref S.length) ((.tup [.int a0, .str w0] :: r).map startI) := by
              unfold RowI
              have : (S ++ [Obj.lst ((((.tup [.int a0, .str w0] :: r).map startI).map D.int).map .dat)])[S.length]? = some (.lst ((((.tup [.int a0, .str w0] :: r).map startI).map D.int).map .dat)) := by simp
              simp only [seqOf, lstOf, objOf, this]
              rw [map_li]
            refine R.Ok.of (asc_eq (n := n + 2) ps hrow (by simp only [line, List.length_map, List.length_cons] at hl ⊢; omega)) ?_
            refine (settle_dat_gr (Gr.app _)).mono ?_
            rintro t S' ⟨rfl, g⟩
            refine ⟨?_, g⟩
            have : dayB (.tup (.tup [.int a0, .str w0] :: r)) = asc ((.tup [.int a0, .str w0] :: r).map startI) := by
              rw [dayB_eq, hr, hp]
              simp [startI, h0]
            rw [this]
        · rw [if_neg (by simp [h0])]
          refine ⟨?_, Gr.refl⟩
          have : dayB (.tup (.tup [.int a0, .str w0] :: r)) = false := by
            rw [dayB_eq, hr, hp]
            simp [startI, h0]
          rw [this]
    | _ => simp [rowOk] at hr
def intD (d : D) : Int := match d with
  | .int a => a
  | _ => 0
def feastsB (d : D) : Bool := match d with
  | .tup ds => rowOk (.tup ds) 0 20 && (ds.all (fun e => within e 0 1000) && asc (ds.map intD))
  | _ => false
theorem within_int {d : D} {a b : Int} (h : within d a b = true) : ∃ v, d = .int v ∧ a ≤ v ∧ v ≤ b := by
  cases d with
  | int v =>
    simp only [within, Bool.and_eq_true, decide_eq_true_eq] at h
    exact ⟨v, rfl, h⟩
  | _ => simp [within] at h
theorem ints_of : ∀ {ds : List D} {a b : Int}, ds.all (fun e => within e a b) = true → (ds.map intD).map D.int = ds
  | [], _, _, _ => rfl
  | d :: ds, a, b, h => by
    simp only [List.all_cons, Bool.and_eq_true] at h
    obtain ⟨v, rfl, _⟩ := within_int h.1
    simp only [List.map_cons, ints_of h.2, intD]
theorem feastsB_eq (ds : List D) : feastsB (.tup ds) = (rowOk (.tup ds) 0 20 && (ds.all (fun e => within e 0 1000) && asc (ds.map intD))) := rfl
theorem feasts_eq (p : PreK T) (ps : PreS T) (d : D) : callF T (n + 4) "are_feasts" [.dat d] S = .ok (bD (feastsB d)) S := by
  refine ok_eq (cal_ok ps.feasts rfl (s_cons (s_ifO (t_or (t_noO (t_callO (R.Ok.of (e_fn (xs := [.dat d, .dat (.int 0), .dat (.int 20)]) (a_cons0 (e_v rfl) (a_cons0 e_c (a_cons0 (e_g ps.cMF) a_nil0))) (isrow_eq (n := n + 2) p d 0 20)) ⟨_, rfl, ?_⟩)))))))
  cases hr : rowOk d 0 20 with
  | false =>
    simp only [Bool.not_false, if_true]
    refine s_cons (s_ret e_c ⟨?_, rfl⟩)
    cases d <;> simp [feastsB, hr]
  | true =>
    simp only [Bool.not_true, Bool.false_eq_true, if_false]
    cases d with
    | tup ds =>
      have hl := rowOk_len hr
      have hall : ev (T.ctx (callF T (n + 3))) (.bi .all (.cons (.lc (.call "is_within" (.cons (.v 1) (.cons (.c (.int 0)) (.cons (.g "MOST_FEAST") .nil))) .nil) [1] (.nm 1) (.e (.v 0)) .nil) .nil)) [some (.dat (.tup ds)), none] S = .ok (bD (ds.all fun e => within e 0 1000)) S := by
        rw [← all_map]
        refine t_all (e_lcP (src := ⟨ds.map .dat, []⟩) (i_tup rfl) rfl (by simp only [line, List.length_map]; omega) (by simp) fun i x y hx hy => ?_)
        obtain ⟨e, he, rfl⟩ := dats_i hx
        simp only [List.map_map, List.getElem?_map, he, Option.map_some, Option.some.injEq, Function.comp] at hy
        subst hy
        exact ⟨_, rfl, e_fn (xs := [.dat e, .dat (.int 0), .dat (.int 1000)]) (a_cons0 (e_v rfl) (a_cons0 e_c (a_cons0 (e_g ps.cMT) a_nil0))) (within_eq (n := n + 1) p e 0 1000)⟩
      refine t_or1 (t_noO (t_biO (R.Ok.of hall ⟨_, rfl, ?_⟩)))
      cases hp : ds.all fun e => within e 0 1000 with
      | false =>
        simp only [Bool.not_false, if_true]
        refine s_cons (s_ret e_c ⟨?_, rfl⟩)
        rw [feastsB_eq, hp]; simp
      | true =>
        simp only [Bool.not_true, Bool.false_eq_true, if_false]
        have ha := asc_eq (S := S) (n := n + 2) ps (x := .dat (.tup ds)) (ns := ds.map intD) (by unfold RowI; show some (ds.map Val.dat) = _; rw [← map_li, ints_of hp]) (by simp only [line, List.length_map]; omega)
        refine s_nil (nx (s_cons (s_ret (e_fn (xs := [.dat (.tup ds)]) (a_cons0 (e_v rfl) a_nil0) ha) ⟨?_, rfl⟩)))
        rw [feastsB_eq, hr, hp]; rfl
    | _ => simp [rowOk] at hr
def shapeB (d : D) : Bool := match d with
  | .tup [.tup ds, b] => rowOk (.tup ds) 8 8 && (ds.all dayB && feastsB b)
  | _ => false
theorem shapeB_eq (ds : List D) (b : D) : shapeB (.tup [.tup ds, b]) = (rowOk (.tup ds) 8 8 && (ds.all dayB && feastsB b)) := rfl
theorem shape_eq (p : PreK T) (ps : PreS T) {d : D} (h : d.sm = true) : (callF T (n + 5) "is_shape" [.dat d] S).Ok fun t S' => t = bD (shapeB d) ∧ Gr S S' := by
  refine cal_ok ps.shape rfl (s_cons (s_ifO (t_or (t_noO (t_callO (R.Ok.of (e_fn (xs := [.dat d, .dat (.int 2), .dat (.int 2)]) (a_cons0 (e_v rfl) (a_cons0 e_c (a_cons0 e_c a_nil0))) (isrow_eq (n := n + 3) p d 2 2)) ⟨_, rfl, ?_⟩))))))
  cases hr : rowOk d 2 2 with
  | false =>
    simp only [Bool.not_false, if_true]
    refine s_cons (s_ret e_c ⟨?_, Gr.refl⟩)
    have : shapeB d = false := by
      unfold shapeB
      split
      · rename_i ds b
        have := (rowOk_two (d := .tup [.tup ds, b])).mpr ⟨_, b, rfl⟩
        rw [this] at hr; cases hr
      · rfl
    rw [this]
  | true =>
    simp only [Bool.not_true, Bool.false_eq_true, if_false]
    obtain ⟨a, b, rfl⟩ := rowOk_two.mp hr
    simp only [D.sm, D.sms, Bool.and_eq_true, Bool.and_true] at h
    have i0 : ∀ {S : Store}, index (vD (.tup [a, b])) (iD 0) S = some (vD a) := fun {S} => l_ixT (by decide) (by simp) rfl
    have i1 : ∀ {S : Store}, index (vD (.tup [a, b])) (iD 1) S = some (vD b) := fun {S} => l_ixT (by decide) (by simp) rfl
    refine t_or (t_noO (t_callO (R.Ok.of (e_fn (xs := [.dat a, .dat (.int 8), .dat (.int 8)]) (a_cons0 (e_ix (e_v rfl) e_c i0) (a_cons0 (e_g ps.cDS) (a_cons0 (e_g ps.cDS) a_nil0))) (isrow_eq (n := n + 3) p a 8 8)) ⟨_, rfl, ?_⟩)))
    cases hr8 : rowOk a 8 8 with
    | false =>
      simp only [Bool.not_false, if_true]
      refine s_cons (s_ret e_c ⟨?_, Gr.refl⟩)
      cases a <;> simp [shapeB, hr8]
    | true =>
      simp only [Bool.not_true, Bool.false_eq_true, if_false]
      cases a with
      | tup ds =>
        have hl := rowOk_len hr8
        have hsm := h.1
        simp only [D.sm] at hsm
        have h3 : (ev (T.ctx (callF T (n + 4))) (.lc (.call "is_day" (.cons (.v 1) .nil) .nil) [1] (.nm 1) (.e (.ix (.v 0) (.c (.int 0)))) .nil) [some (.dat (.tup [.tup ds, b])), none] S).Ok fun t S' => t = .new (.lst (((ds.map dayB).map D.bl).map .dat)) ∧ Gr S S' := by
          refine e_lcG (src := ⟨ds.map .dat, []⟩) (i_dat (e_ix (e_v rfl) e_c i0)) Gr.refl (fun _ => rfl) (by simp only [line, List.length_map]; omega) (by simp) fun i x y S2 g hx hy => ?_
          obtain ⟨e, he, rfl⟩ := dats_i hx
          simp only [List.map_map, List.getElem?_map, he, Option.map_some, Option.some.injEq, Function.comp] at hy
          subst hy
          exact ⟨_, rfl, e_fnG (xs := [.dat e]) (a_cons0 (e_v rfl) a_nil0) (day_eq p ps (sms_mem hsm (List.mem_of_getElem? he)))⟩
        refine t_or1 (t_noO (t_biO (o_biS (h3.mono ?_))))
        rintro t S1 ⟨rfl, g⟩
        refine ⟨bD ((ds.map dayB).all id), by rw [List.map_map]; exact l_all, _, rfl, ?_⟩
        rw [all_map]
        cases hd : ds.all dayB with
        | false =>
          simp only [Bool.not_false, if_true]
          refine s_cons (s_ret e_c ⟨?_, g⟩)
          rw [shapeB_eq, hd]; simp
        | true =>
          simp only [Bool.not_true, Bool.false_eq_true, if_false]
          refine s_nil (nx (s_cons (s_ret (e_fn (xs := [.dat b]) (a_cons0 (e_ix (e_v rfl) e_c i1) a_nil0) (feasts_eq p ps b)) ⟨?_, g⟩)))
          rw [shapeB_eq, hr8, hd]; rfl
      | _ => simp [rowOk] at hr8
end Ap
set_option Elab.async false
set_option linter.all false
set_option maxRecDepth 100000
set_option maxHeartbeats 1000000
namespace Ap
open PySem (Str)
variable {T : Tb} {S S1 S2 S3 : Store} {ρ : Env} {Γ : Ctx} {n : Nat} {n0 : Nat} {P : Fl → Store → Prop}
structure PreX (T : Tb) : Prop where
  bad : T.excs.lookup ("BadValue" : Str) = some "at"
def badX (d : D) : Exc := ⟨"BadValue", [("at", .dat d)]⟩
theorem gr_take {m : Nat} (hm : S.length = m) (g : Gr S S1) (h : S2 = S1 ∨ S2 = S1.take m) : Gr S S2 := by
  subst hm
  rcases h with rfl | rfl
  · exact g
  · rw [g.take]; exact Gr.refl
/-- data that a tuple-maker can take -/
structure Nice (d : D) (m : Nat) : Prop where
  fits : d.fits = true
  deep : d.depth ≤ m
  sm : d.sm = true
theorem taken_bad (p : PreK T) (ps : PreS T) (pn : PreN T) (px : PreX T) {d : D} {x : Val} {k : Int} (hx : Lk S x d) (hd : Nice d (n + 4)) (hs : shapeB d = false) : (callF T (n + 6) "taken_week" [x, .dat (.int k)] S).Exn (badX (.int k)) (Gr S) := by
  have hf : callF T (n + 5) "frozen" [x] S = .ok (vD d) S := ok_eq (frozen_ok p (n + 4) d x S hx hd.fits hd.deep)
  refine call_ex pn.taken rfl (x_next (s_asD (S1 := S) (d := .dat d) (e_fn (xs := [x]) (a_cons0 (e_v rfl) a_nil0) hf) (show 2 < 3 by decide) (x_head (xx_if (t_noO (t_callO (o_fnG (xs := [.dat d]) (a_cons0 (e_v rfl) a_nil0) (shape_eq p ps hd.sm) fun S' g => ⟨_, rfl, ?_⟩)))))))
  rw [hs]
  simp only [Bool.not_false, if_true]
  exact x_head (xx_rais px.bad (e_v rfl) g)
theorem need_bad (p : PreK T) (ps : PreS T) (pn : PreN T) (px : PreX T) {d : D} {k : Int} (hd : within d 0 100000000 = false) : (callF T (n + 4) "need_second" [.dat d, .dat (.int k)] S).Exn (badX (.int k)) (Gr S) := by
  refine call_ex pn.need rfl (x_head (xx_if (t_noO (t_callO (R.Ok.of (e_fn (xs := [.dat d]) (a_cons0 (e_v rfl) a_nil0) (second_eq (n := n) p ps d)) ⟨_, rfl, ?_⟩)))))
  rw [hd]
  simp only [Bool.not_false, if_true]
  exact x_head (xx_rais px.bad (e_v rfl) Gr.refl)
/-- a call that raises, its arguments values -/
theorem x_fn {f : Str} {es : Es} {xs : List Val} {x : Exc} (ha : evs (T.ctx (callF T n)) es ρ S = .ok (xs.map .val) S) (hc : (callF T n f xs S).Exn x (Gr S)) : (ev (T.ctx (callF T n)) (.call f es .nil) ρ S).Exn x (Gr S) := by
  refine xx_call ha ?_
  rw [proms_vals]
  obtain ⟨S', e, g⟩ := hc
  exact ⟨S', e, fun S'' h => gr_take rfl g h⟩
theorem x_fnK {f : Str} {es : Es} {xs : List Val} {x : Exc} (ha : evs (T.ctx (callF T n)) es ρ S = .ok (xs.map .val) S) (hc : (callF T n f xs S).Exn x (Gr S)) : (ev (T.ctx (callF T n)) (.call f .nil es) ρ S).Exn x (Gr S) := by
  refine x_callK ha ?_
  rw [proms_vals]
  obtain ⟨S', e, g⟩ := hc
  exact ⟨S', e, fun S'' h => gr_take rfl g h⟩
theorem R.Exn.up {α : Type} {r : R α} {x : Exc} (g : Gr S S1) (h : r.Exn x (Gr S1)) : r.Exn x (Gr S) := by
  obtain ⟨S', e, g'⟩ := h
  exact ⟨S', e, g.trans g'⟩
theorem SR.Exn.up {r : SR} {x : Exc} (g : Gr S S1) (h : r.Exn x (Gr S1)) : r.Exn x (Gr S) := by
  obtain ⟨ρ', S', e, g'⟩ := h
  exact ⟨ρ', S', e, g.trans g'⟩
theorem change_bad0 (p : PreK T) (ps : PreS T) (pn : PreN T) (hnc : HNc T) (px : PreX T) {d : D} {x y : Val} (hx : Lk S x d) (hd : Nice d (n + 4)) (hs : shapeB d = false) : (callF T (n + 7) "next_change" [x, y] S).Exn (badX (.int 0)) (Gr S) :=
  call_ex hnc rfl (x_head (xx_as (x_fn (xs := [x, .dat (.int 0)]) (a_cons0 (e_v rfl) (a_cons0 e_c a_nil0)) (taken_bad p ps pn px hx hd hs))))
theorem change_bad1 (p : PreK T) (ps : PreS T) (pn : PreN T) (hnc : HNc T) (px : PreX T) {w : Wk} (hw : GoodWk w) {x : Val} {d : D} (hx : Lk S x w.toD) (hd : within d 0 100000000 = false) : (callF T (n + 7) "next_change" [x, .dat d] S).Exn (badX (.int 1)) (Gr S) := by
  refine call_ex hnc rfl (x_next (s_asO (by show 2 < 8; decide) (o_fnG (xs := [x, .dat (.int 0)]) (a_cons0 (e_v rfl) (a_cons0 e_c a_nil0)) (taken_ok p ps pn hw hx) fun S' g => ?_)))
  exact x_head (xx_ex ((x_fn (xs := [.dat d, .dat (.int 1)]) (a_cons0 (e_v rfl) (a_cons0 e_c a_nil0)) (need_bad (n := n + 2) p ps pn px hd)).up g))
theorem band_bad0 (p : PreK T) (ps : PreS T) (pn : PreN T) (hbd : HBd T) (px : PreX T) {d : D} {x y : Val} (hx : Lk S x d) (hd : Nice d (n + 4)) (hs : shapeB d = false) : (callF T (n + 7) "band" [x, y] S).Exn (badX (.int 0)) (Gr S) :=
  call_ex hbd rfl (x_head (xx_as (x_fn (xs := [x, .dat (.int 0)]) (a_cons0 (e_v rfl) (a_cons0 e_c a_nil0)) (taken_bad p ps pn px hx hd hs))))
theorem band_bad1 (p : PreK T) (ps : PreS T) (pn : PreN T) (hbd : HBd T) (px : PreX T) {w : Wk} (hw : GoodWk w) {x : Val} {d : D} (hx : Lk S x w.toD) (hd : within d 0 100000000 = false) : (callF T (n + 7) "band" [x, .dat d] S).Exn (badX (.int 1)) (Gr S) := by
  refine call_ex hbd rfl (x_next (s_asO (by show 2 < 3; decide) (o_fnG (xs := [x, .dat (.int 0)]) (a_cons0 (e_v rfl) (a_cons0 e_c a_nil0)) (taken_ok p ps pn hw hx) fun S' g => ?_)))
  exact x_head (xx_ex ((x_fn (xs := [.dat d, .dat (.int 1)]) (a_cons0 (e_v rfl) (a_cons0 e_c a_nil0)) (need_bad (n := n + 2) p ps pn px hd)).up g))
/-! ### _law_told: what is raised is told -/
def p_told (f : Str) : Fn := ⟨2, 3,
    (.cons (.tr (.call f .nil (.cons (.v 0) (.cons (.v 1) .nil))) "BadValue" 2 "bad" "at")
    .nil)⟩
def badD (k : Int) : D := .tup [.str "bad", .int k]
theorem told_bad (px : PreX T) {f : Str} (ht : T.fns.lookup ("_law_told" : Str) = some (p_told f)) {x y : Val} {k : Int} (h : (callF T n f [x, y] S).Exn (badX (.int k)) (Gr S)) : (callF T (n + 1) "_law_told" [x, y] S).Ok fun t S' => t = vD (badD k) ∧ Gr S S' := by
  refine cal_ok ht rfl (s_cons (s_tryX (d := .int k) px.bad (show 2 < 3 by decide) ?_))
  obtain ⟨S', e, g⟩ := x_fnK (ρ := [some x, some y, none]) (es := .cons (.v 0) (.cons (.v 1) .nil)) (xs := [x, y]) (a_cons0 (e_v rfl) (a_cons0 (e_v rfl) a_nil0)) h
  exact ⟨S', e, rfl, g⟩
theorem told_ok (px : PreX T) {f : Str} (ht : T.fns.lookup ("_law_told" : Str) = some (p_told f)) {x y : Val} {A : D → Prop} (h : (callF T n f [x, y] S).Ok fun t S' => ∃ d, A d ∧ t = vD d ∧ Gr S S') : (callF T (n + 1) "_law_told" [x, y] S).Ok fun t S' => ∃ d, A d ∧ t = vD d ∧ Gr S S' := by
  refine cal_ok ht rfl (s_cons (s_try px.bad (show 2 < 3 by decide) (o_callK (R.Ok.of (a_cons0 (e_v rfl) (a_cons0 (e_v rfl) a_nil0)) (called_ok ?_)))))
  show (callF T n f [x, y] S).Ok _
  refine h.mono ?_
  rintro t S' ⟨d, ha, rfl, g⟩
  refine (settle_dat_gr g).mono ?_
  rintro t S'' ⟨rfl, g'⟩
  exact ⟨d, ha, rfl, g'⟩
end Ap
set_option Elab.async false
set_option linter.all false
set_option maxRecDepth 100000
set_option maxHeartbeats 1000000
namespace Ap
open PySem (Str)
variable {T : Tb} {S S1 S2 S3 : Store} {ρ : Env} {Γ : Ctx} {n : Nat} {n0 : Nat} {P : Fl → Store → Prop}
theorem settle_any {d : D} {m : Nat} : (settle m (vD d) S1).Ok fun t S' => t = vD d ∧ (S' = S1 ∨ S' = S1.take m) := by
  unfold settle
  split
  · split
    · rename_i q; cases q
    · split
      · exact ⟨rfl, .inr rfl⟩
      · exact ⟨rfl, .inl rfl⟩
  · exact ⟨rfl, .inl rfl⟩
theorem after {m : Nat} (hm : S.length = m) (d : Dr S) (g : Ge S S1) (d1 : Dr S1) (h : S2 = S1 ∨ S2 = S1.take m) : Dr S2 ∧ Ge S S2 := by
  subst hm
  rcases h with rfl | rfl
  · exact ⟨d1, g⟩
  · exact ⟨dr_take d g d1, ge_take g⟩
def mo : Option Val → Nat
  | some x => x.mx
  | none => 0
theorem mxE_cons (x : Option Val) (r : Env) : mxE (x :: r) = max (mo x) (mxE r) := by
  cases x <;> simp [mxE, mo]
theorem mxE_nil : mxE [] = 0 := rfl
theorem lawBand_mem {d : Day} {o : Int} {v : Str} (h : lawBand d o = .str v) : ∃ p ∈ d, p.2 = v := by
  unfold lawBand at h
  have go : ∀ (d : Day) (acc : D), d.foldl (fun acc p => if p.1 ≤ o then D.str p.2 else acc) acc = .str v → acc = .str v ∨ ∃ p ∈ d, p.2 = v := by
    intro d
    induction d with
    | nil => intro acc h; exact .inl h
    | cons p r ih =>
      intro acc h
      rw [List.foldl_cons] at h
      rcases ih _ h with h | ⟨q, hq, e⟩
      · split at h
        · exact .inr ⟨p, by simp, D.str.inj h⟩
        · exact .inl h
      · exact .inr ⟨q, by simp [hq], e⟩
  rcases go d .non h with h | h
  · cases h
  · exact h
def k50body : Ss :=
    (.cons (.as 11 (.bin .mul (.c (.int 86400)) (.bin .add (.v 9) (.bin .mul (.c (.int 7)) (.call "_law_take" (.cons (.v 1) (.cons (.v 2) (.cons (.c (.int 22)) .nil))) .nil)))))
    (.cons (.as 12 (.ix (.lst (.cons (.c (.int 0)) (.cons (.call "_law_near_second" (.cons (.v 1) (.cons (.v 2) .nil)) .nil) (.cons (.v 11) (.cons (.call "_law_wide" (.cons (.v 1) (.cons (.v 2) (.cons (.bin .pow (.c (.int 10)) (.c (.int 8))) .nil))) .nil) .nil))))) (.call "_law_take" (.cons (.v 1) (.cons (.v 2) (.cons (.c (.int 4)) .nil))) .nil)))
    (.cons (.as 13 (.call "_law_next_change" (.cons (.v 6) (.cons (.v 12) .nil)) .nil))
    (.cons (.if_ (.or (.cons (.no (.call "_law_so" (.cons (.call "next_change" (.cons (.call "_law_handed" (.cons (.v 1) (.cons (.v 2) (.cons (.v 6) .nil))) .nil) (.cons (.v 12) .nil)) .nil) (.cons (.v 13) .nil)) .nil)) (.cons (.no (.call "_law_so" (.cons (.call "band" (.cons (.v 6) (.cons (.v 12) .nil)) .nil) (.cons (.call "_law_band" (.cons (.v 6) (.cons (.v 12) .nil)) .nil) .nil)) .nil)) .nil)))
    (.cons (.ret (.c (.bl false)))
    .nil)
    .nil)
    (.cons (.if_ (.and (.cons (.cmp .isnot (.v 13) (.c .non)) (.cons (.cmp .lt (.bin .sub (.v 13) (.v 12)) (.bin .pow (.c (.int 10)) (.c (.int 7)))) .nil)))
    (.cons (.if_ (.no (.call "_law_so" (.cons (.call "seconds_in" (.cons (.v 6) (.cons (.v 12) (.cons (.v 13) (.cons (.call "_law_band" (.cons (.v 6) (.cons (.v 12) .nil)) .nil) .nil)))) .nil) (.cons (.bin .sub (.v 13) (.v 12)) .nil)) .nil))
    (.cons (.ret (.c (.bl false)))
    .nil)
    .nil)
    .nil)
    .nil)
    (.cons (.fg []) .nil))))))
structure PreB (T : Tb) : Prop where
  near : T.fns.lookup ("_law_near_second" : Str) = some p_law_near_second
  row : T.fns.lookup ("_law_day_row" : Str) = some p_law_day_row
  band : T.fns.lookup ("_law_band" : Str) = some p_law_band
  change : T.fns.lookup ("_law_next_change" : Str) = some p_law_next_change
def At50 (ns : List Int) (w : Wk) (o : Int) (ρ : Env) (S : Store) : Prop := (∃ x3 x7 x8 x10 x11 x12 x13, ρ = [some (.scr ns), some (.ref 0), some (.ref 1), x3, some (.ref 2), some (.ref 3), some (.dat w.toD), x7, x8, some (.dat (.int o)), x10, x11, x12, x13] ∧ mxE ρ ≤ 4) ∧ Dr S ∧ Flt S ∧ S.length = 4
theorem c_isnotI {i : Int} : cmp .isnot (iD i) (vD .non) S = some true := rfl
theorem c_isnotN : cmp .isnot (vD .non) (vD .non) S = some false := rfl
theorem change_int {w : Wk} {s : Int} {v : Str} {N : Nat} {d : D} (h : LChange w s v N d) : d = .non ∨ ∃ a, d = .int a := by
  rcases h with ⟨_, _, _, _, _, _, _, _, rfl⟩ | ⟨_, rfl⟩
  · exact .inr ⟨_, rfl⟩
  · exact .inl rfl
theorem body_ok (p : Pre T) (pw : PreW T) (ph : PreH T) (pp : PreP T) (pk : PreK T) (ps : PreS T) (pn : PreN T) (ha : HBa T) (hbd : HBd T) (hnc : HNc T) (hsi : HSi T) (pb : PreB T) {ns : List Int} {w : Wk} (hw : GoodWk w) {o : Int} (o0 : 0 ≤ o) (o1 : o < 7) {x7 : Option Val} (h7 : ∃ k : Int, x7 = some (.dat (.int k))) (h : ∃ x3 x8 x10 x11 x12 x13, ρ = [some (.scr ns), some (.ref 0), some (.ref 1), x3, some (.ref 2), some (.ref 3), some (.dat w.toD), x7, x8, some (.dat (.int o)), x10, x11, x12, x13] ∧ mxE ρ ≤ 4) (hd : Dr S) (hf : Flt S) (hl : S.length = 4) :
    (exs (T.ctx (callF T (n + 10))) k50body 4 ρ S).Ok fun f S' => match f with
      | .next ρ' => At50 ns w o ρ' S'
      | _ => False := by
  obtain ⟨x3, x8, x10, x11, x12, x13, rfl, hm⟩ := h
  unfold k50body
  refine s_cons (s_asO (by show 11 < 14; decide) (o_bin (R.Ok.of e_c (o_bin (R.Ok.of (e_v rfl) (o_bin (R.Ok.of e_c ?_)))))))
  refine e_take (n := n + 8) p hd rfl rfl e_c (by decide) fun r1 S1 a0 a1 d1 s1 => ⟨_, b_mul (mul_l (by decide)), _, b_add, _, b_mul (mul_l (by decide)), nx ?_⟩
  have f1 := flt_sp hf d1 s1
  have l1 := s1.len.trans hl
  show (exs _ _ 4 [some (.scr ns), some (.ref 0), some (.ref 1), x3, some (.ref 2), some (.ref 3), some (.dat w.toD), x7, x8, some (.dat (.int o)), x10, some (.dat (.int (86400 * (o + 7 * r1)))), x12, x13] S1).Ok _
  refine s_cons (s_asO (by show 12 < 14; decide) (o_ix (o_lstD (a_consO (R.Ok.of e_c (a_consO ?_))))))
  refine e_near (n := n + 6) p pp pb.near d1 f1 rfl rfl fun r2 S2 b0 b1 d2 f2 s2 => a_consO (R.Ok.of (e_v rfl) (a_consO ?_))
  refine e_wide (n := n + 7) p pw d2 rfl rfl (e_bin e_c e_c (z := iD 100000000) rfl) (by decide) fun r3 S3 c0 c1 d3 s3 => R.Ok.of a_nil0 ⟨[.int 0, .int r2, .int (86400 * (o + 7 * r1)), .int r3], rfl, show 4 ≤ line by decide, ?_⟩
  refine e_take (n := n + 8) p d3 rfl rfl e_c (by decide) fun r4 S4 e0 e1 d4 s4 => ?_
  have f4 := flt_sp (flt_sp f2 d3 s3) d4 s4
  have l4 : S4.length = 4 := s4.len.trans (s3.len.trans (s2.len.trans l1))
  have hs : ∃ s : Int, index (.new (.lst ([D.int 0, .int r2, .int (86400 * (o + 7 * r1)), .int r3].map .dat))) (iD r4) S4 = some (iD s) ∧ 0 ≤ s ∧ s ≤ 100000000 := by
    have hr : r4 = 0 ∨ r4 = 1 ∨ r4 = 2 ∨ r4 = 3 := by omega
    rcases hr with rfl | rfl | rfl | rfl
    · exact ⟨0, rfl, by omega, by omega⟩
    · exact ⟨r2, rfl, by omega, by omega⟩
    · exact ⟨86400 * (o + 7 * r1), rfl, by omega, by omega⟩
    · exact ⟨r3, rfl, by omega, by omega⟩
  obtain ⟨s, hix, hs0, hs1⟩ := hs
  refine ⟨_, hix, nx ?_⟩
  show (exs _ _ 4 [some (.scr ns), some (.ref 0), some (.ref 1), x3, some (.ref 2), some (.ref 3), some (.dat w.toD), x7, x8, some (.dat (.int o)), x10, some (.dat (.int (86400 * (o + 7 * r1)))), some (.dat (.int s)), x13] S4).Ok _
  obtain ⟨q, hq, hv⟩ := band_same hw s
  refine s_cons (s_asO (by show 13 < 14; decide) (o_call (R.Ok.of (a_cons0 (e_v rfl) (a_cons0 (e_v rfl) a_nil0)) (called_ok ?_))))
  show (callF T (n + 10) "_law_next_change" [.dat w.toD, .dat (.int s)] S4).Ok _
  refine (law_change_ok (n := n + 7) pb.row pb.band pb.change hw hs0 hs1 hv).mono ?_
  rintro t S5 ⟨d, rfl, hc, rfl⟩
  refine R.Ok.of settle_dat (nx ?_)
  show (exs _ _ 4 [some (.scr ns), some (.ref 0), some (.ref 1), x3, some (.ref 2), some (.ref 3), some (.dat w.toD), x7, x8, some (.dat (.int o)), x10, some (.dat (.int (86400 * (o + 7 * r1)))), some (.dat (.int s)), some (.dat d)] S5).Ok _
  have hdd : d.depth ≤ n + 9 ∧ d.fits = true := by
    rcases change_int hc with rfl | ⟨a, rfl⟩ <;> exact ⟨Nat.zero_le _, rfl⟩
  have hband : ∀ {ρ : Env} {S : Store}, ρ[6]? = some (some (.dat w.toD)) → ρ[12]? = some (some (.dat (.int s))) → ev (T.ctx (callF T (n + 10))) (.call "_law_band" (.cons (.v 6) (.cons (.v 12) .nil)) .nil) ρ S = .ok (vD (.str q.2.2)) S := fun h1 h2 =>
    e_fn (xs := [.dat w.toD, .dat (.int s)]) (a_cons0 (e_v h1) (a_cons0 (e_v h2) a_nil0)) (by rw [law_band_eq (n := n + 8) pb.row pb.band hw s, hv])
  refine s_cons (s_ifO (t_or2O (t_noO (t_callO (e_so (n := n + 9) p hdd.1 hdd.2 (a_consO (o_call (a_consO ?_))))))))
  refine e_handed (n := n + 6) (d := w.toD) p ph d4 (wk_fits hw) (Nat.le_trans (wk_depth w) (by omega)) rfl rfl rfl fun t S6 ht d6 g6 => a_consO (R.Ok.of (e_v rfl) (R.Ok.of a_nil0 (called_ok ?_)))
  show (callF T (n + 10) "next_change" [(prom t S6).1, .dat (.int s)] (prom t S6).2).Ok _
  obtain ⟨lk, gp⟩ := prom_lk (dr_len d6) ht
  have dp : Dr (prom t S6).2 := by
    refine dr_ge d6 gp ?_
    have := dr_len d6
    cases t with
    | val x => rfl
    | new o => simp only [prom]; rw [List.getElem?_append_left (by omega)]
  refine (change_ok (n := n + 3) pk ps pn ha hnc hw lk hs0 hs1 hq).mono ?_
  rintro t' S7 ⟨d', rfl, hc', g7⟩
  have : d' = d := change_same hw hc' hc
  subst this
  refine settle_any.mono ?_
  rintro t' S8 ⟨rfl, h8⟩
  obtain ⟨d8, g8⟩ := after rfl d6 (gp.trans g7.ge) (g7.dr dp) h8
  refine R.Ok.of (a_cons0 (e_v rfl) a_nil0) ⟨rfl, _, rfl, ?_⟩
  show (evT _ _ _ S8).Ok _
  refine t_noO (t_callO (e_so (n := n + 9) (d := .str q.2.2) p (Nat.zero_le _) rfl (a_consO (o_call (R.Ok.of (a_cons0 (e_v rfl) (a_cons0 (e_v rfl) a_nil0)) (called_ok ?_))))))
  show (callF T (n + 10) "band" [.dat w.toD, .dat (.int s)] S8).Ok _
  refine (band_ok (n := n + 3) pk ps pn ha hbd hw (.dat _) hs0 hs1 hq).mono ?_
  rintro t' S9 ⟨rfl, g9⟩
  refine (settle_dat_gr g9).mono ?_
  rintro t' S10 ⟨rfl, g10⟩
  refine R.Ok.of (a_cons0 (hband rfl rfl) a_nil0) ⟨rfl, _, rfl, ?_⟩
  rw [if_neg (by decide)]
  refine s_nil (nx ?_)
  have d10 := g10.dr d8
  have ge10 : Ge S5 S10 := (g6.trans g8).trans g10.ge
  -- the end of a turn
  have last : ∀ S' : Store, Dr S' → Ge S5 S' → (exs (T.ctx (callF T (n + 10))) (.cons (.fg []) .nil) 4 [some (.scr ns), some (.ref 0), some (.ref 1), x3, some (.ref 2), some (.ref 3), some (.dat w.toD), x7, x8, some (.dat (.int o)), x10, some (.dat (.int (86400 * (o + 7 * r1)))), some (.dat (.int s)), some (.dat d')] S').Ok fun f S' => match f with
      | .next ρ' => At50 ns w o ρ' S'
      | _ => False := by
    intro S' dS gS
    have hmx : mxE [some (.scr ns), some (.ref 0), some (.ref 1), x3, some (.ref 2), some (.ref 3), some (.dat w.toD), x7, x8, some (.dat (.int o)), x10, some (.dat (.int (86400 * (o + 7 * r1)))), some (.dat (.int s)), some (.dat d')] ≤ 4 := by
      obtain ⟨k, rfl⟩ := h7
      simp only [mxE_cons, mo, Val.mx, mxE_nil] at hm ⊢
      omega
    have he : max 4 (mxE (wipe [some (.scr ns), some (.ref 0), some (.ref 1), x3, some (.ref 2), some (.ref 3), some (.dat w.toD), x7, x8, some (.dat (.int o)), x10, some (.dat (.int (86400 * (o + 7 * r1)))), some (.dat (.int s)), some (.dat d')] [])) = 4 := by
      rw [show ∀ r : Env, wipe r [] = r from fun _ => rfl]
      omega
    have hlen : 4 ≤ S'.length := by have := gS.1; omega
    have same : ∀ i, i ≠ 1 → i < 4 → S'[i]? = S5[i]? := fun i h1 h2 => by
      have h3 : i < S5.length := by omega
      rw [List.getElem?_eq_getElem h3]
      exact gS.2 i _ h1 (List.getElem?_eq_getElem h3)
    have fl : Flt (S'.take 4) := by
      unfold Flt closed
      rw [List.all_eq_true]
      intro o ho
      obtain ⟨i, hi⟩ := List.mem_iff_getElem?.mp ho
      have h4 : i < 4 := by
        have := (List.getElem?_eq_some_iff.mp hi).1
        simp at this; omega
      rw [List.getElem?_take_of_lt h4] at hi
      by_cases h1 : i = 1
      · subst h1
        obtain ⟨_, k, _, h2⟩ := dS
        rw [h2] at hi; cases hi; rfl
      · rw [same i h1 h4] at hi
        have f4' := f4
        unfold Flt closed at f4'
        rw [List.all_eq_true] at f4'
        exact f4' o (List.mem_of_getElem? hi)
    have hcl : closed 4 (S'.take 4) = true := by
      have := flt_closed (n := 4) fl
      rw [List.take_take] at this
      simpa using this
    refine s_cons (s_fg fun S'' _ h2 => ?_)
    rw [he] at h2
    have e2 := h2 hcl
    subst e2
    refine nx (s_nil ⟨⟨_, _, _, _, _, _, _, rfl, hmx⟩, ?_, fl, by simp; omega⟩)
    obtain ⟨⟨row, r1, r2⟩, k, k1, k2⟩ := dS
    exact ⟨⟨row, r1, by rw [List.getElem?_take_of_lt (by decide)]; exact r2⟩, k, k1, by rw [List.getElem?_take_of_lt (by decide)]; exact k2⟩
  rcases change_int hc with rfl | ⟨a, rfl⟩
  · refine s_cons (s_ifO (t_and2O (R.Ok.of (t_cm (e_v rfl) e_c c_isnotN) ?_)))
    simp only [Bool.false_eq_true, if_false]
    exact s_nil (nx (last S10 d10 ge10))
  · refine s_cons (s_ifO (t_and2O (R.Ok.of (t_cm (e_v rfl) e_c c_isnotI) ?_)))
    rw [if_pos rfl]
    refine R.Ok.of (t_cm (e_bin (e_v rfl) (e_v rfl) b_sub) (e_bin e_c e_c (z := iD 10000000) rfl) c_lt) ?_
    obtain ⟨hsa, ha', _⟩ := all_word hw hv hc
    have hwq : wordOk q.2.2 = true := by
      obtain ⟨p, hp, e⟩ := lawBand_mem hv
      rw [← e]
      exact (row_good hw _).word p hp
    split
    · refine s_cons (s_ifO (t_noO (t_callO (e_so (n := n + 9) (d := .int (a - s)) p (Nat.zero_le _) rfl (a_consO (o_call (R.Ok.of (a_cons0 (e_v rfl) (a_cons0 (e_v rfl) (a_cons0 (e_v rfl) (a_cons0 (hband rfl rfl) a_nil0)))) (called_ok ?_))))))))
      show (callF T (n + 10) "seconds_in" [.dat w.toD, .dat (.int s), .dat (.int a), .dat (.str q.2.2)] S10).Ok _
      refine (seconds_ok (n := n + 3) pk ps pn hsi hw (.dat _) hs0 (by omega) (by omega) ha' hwq).mono ?_
      rintro t' S11 ⟨rfl, g11⟩
      rw [secs_same hw hv hc]
      refine (settle_dat_gr g11).mono ?_
      rintro t' S12 ⟨rfl, g12⟩
      refine R.Ok.of (a_cons0 (e_bin (e_v rfl) (e_v rfl) b_sub) a_nil0) ⟨rfl, _, rfl, ?_⟩
      rw [if_neg (by decide)]
      exact s_nil (nx (s_nil (nx (last S12 (g12.dr d10) (ge10.trans g12.ge)))))
    · exact s_nil (nx (last S10 d10 ge10))
end Ap
set_option Elab.async false
set_option linter.all false
set_option maxRecDepth 100000
set_option maxHeartbeats 1000000
namespace Ap
open PySem (Str)
variable {T : Tb} {S S1 S2 S3 : Store} {ρ : Env} {Γ : Ctx} {n : Nat} {n0 : Nat} {P : Fl → Store → Prop}
structure Mid (S : Store) (days : List Day) (keys : List Int) : Prop where
  dr : Dr S
  flt : Flt S
  len : S.length = 4
  at2 : S[2]? = some (.lst ((days.map dayD).map .dat))
  at3 : S[3]? = some (.dct (kd keys))
theorem Mid.sp {days : List Day} {keys : List Int} (h : Mid S days keys) (d : Dr S1) (s : Sp S S1) : Mid S1 days keys :=
  ⟨d, flt_sp h.flt d s, s.len.trans h.len, by rw [s.same 2 (by decide)]; exact h.at2, by rw [s.same 3 (by decide)]; exact h.at3⟩
theorem flt_set {i : Nat} {o : Obj} (h : Flt S) (ho : o.mx = 0) : Flt (S.set i o) := by
  unfold Flt closed at h ⊢
  rw [List.all_eq_true] at h ⊢
  intro x hx
  rcases List.mem_or_eq_of_mem_set hx with hx | rfl
  · exact h x hx
  · simp [ho]
theorem kd_mx : ∀ keys : List Int, mxP (kd keys) = 0
  | [] => rfl
  | a :: r => by
    show max 0 (mxP (kd r)) = 0
    rw [kd_mx r]; rfl
theorem dr_set {i : Nat} {o : Obj} (h : Dr S) (hi : 2 ≤ i) : Dr (S.set i o) := by
  obtain ⟨⟨row, r1, r2⟩, k, k1, k2⟩ := h
  exact ⟨⟨row, r1, by rw [List.getElem?_set_ne (by omega)]; exact r2⟩, k, k1, by rw [List.getElem?_set_ne (by omega)]; exact k2⟩
theorem Mid.put {days : List Day} {keys ks : List Int} (h : Mid S days keys) : Mid (S.set 3 (.dct (kd ks))) days ks :=
  ⟨dr_set h.dr (by decide), flt_set h.flt (kd_mx ks), by rw [List.length_set]; exact h.len, by rw [List.getElem?_set_ne (by decide)]; exact h.at2, by rw [List.getElem?_set_self (by rw [h.len]; decide)]⟩
theorem Mid.day {days ds : List Day} {keys : List Int} (h : Mid S days keys) : Mid (S.set 2 (.lst ((ds.map dayD).map .dat))) ds keys :=
  ⟨dr_set h.dr (by decide), flt_set h.flt (lst_mx _), by rw [List.length_set]; exact h.len, by rw [List.getElem?_set_self (by rw [h.len]; decide)], by rw [List.getElem?_set_ne (by decide)]; exact h.at3⟩
def lowDay : Day := [(0, "low")]
def oddDay (st : Int) : Day := if st = 0 then [(0, "high")] else [(0, "low"), (st, "high")]
theorem low_good : GoodDay lowDay := ⟨⟨_, _, rfl⟩, by decide, by intro p hp; simp [lowDay] at hp; subst hp; decide, by intro p hp; simp [lowDay] at hp; subst hp; decide +kernel, rfl⟩
theorem odd_good {st : Int} (h0 : 0 ≤ st) (h1 : st ≤ 86399) : GoodDay (oddDay st) := by
  unfold oddDay
  split
  · exact ⟨⟨_, _, rfl⟩, by decide, by intro p hp; simp at hp; subst hp; decide, by intro p hp; simp at hp; subst hp; decide +kernel, rfl⟩
  · rename_i h
    refine ⟨⟨_, _, rfl⟩, show 2 ≤ 8 by decide, ?_, ?_, ?_⟩
    · intro p hp
      simp only [List.mem_cons, List.not_mem_nil, or_false] at hp
      rcases hp with rfl | rfl
      · decide
      · exact ⟨h0, h1⟩
    · intro p hp
      simp only [List.mem_cons, List.not_mem_nil, or_false] at hp
      rcases hp with rfl | rfl
      · show wordOk "low" = true; decide +kernel
      · show wordOk "high" = true; decide +kernel
    · refine asc_of ?_
      simp only [List.map_cons, List.map_nil, List.pairwise_cons, List.mem_singleton, forall_eq, List.not_mem_nil, false_implies, implies_true, List.Pairwise.nil, and_true]
      omega
def p_law50 : Fn := ⟨1, 14,
    (.cons (.as 1 (.call "_law_numbers" (.cons (.v 0) .nil) .nil))
    (.cons (.as 2 (.lst (.cons (.c (.int 0)) .nil)))
    (.cons (.par 8 9 (.cons (.call "_law_pick" (.cons (.v 1) (.cons (.v 2) (.cons (.lst (.cons (.c (.int 0)) (.cons (.c (.int 1)) (.cons (.c (.int 40000)) (.cons (.c (.int 86399)) .nil))))) .nil))) .nil) (.cons (.call "_law_take" (.cons (.v 1) (.cons (.v 2) (.cons (.c (.int 7)) .nil))) .nil) .nil)))
    (.cons (.as 3 (.ife (.cmp .eq (.v 8) (.c (.int 0))) (.tup (.cons (.tup (.cons (.c (.int 0)) (.cons (.c (.str "high")) .nil))) .nil)) (.tup (.cons (.tup (.cons (.c (.int 0)) (.cons (.c (.str "low")) .nil))) (.cons (.tup (.cons (.v 8) (.cons (.c (.str "high")) .nil))) .nil)))))
    (.cons (.as 4 (.lc (.tup (.cons (.tup (.cons (.c (.int 0)) (.cons (.c (.str "low")) .nil))) .nil)) [10] (.nm 10) (.rg1 (.c (.int 8))) .nil))
    (.cons (.as 5 (.dct .nil))
    (.cons (.if_ (.cmp .eq (.call "_law_take" (.cons (.v 1) (.cons (.v 2) (.cons (.c (.int 4)) .nil))) .nil) (.c (.int 0)))
    (.cons (.ix (.v 4) (.c (.int 7)) (.v 3))
    (.cons (.for_ (.nm 10) (.rg1 (.call "_law_take" (.cons (.v 1) (.cons (.v 2) (.cons (.c (.int 3)) .nil))) .nil))
    (.cons (.ix (.v 5) (.call "_law_pick" (.cons (.v 1) (.cons (.v 2) (.cons (.lst (.cons (.c (.int 1000)) (.cons (.c (.int 999)) (.cons (.call "_law_wide" (.cons (.v 1) (.cons (.v 2) (.cons (.c (.int 1001)) .nil))) .nil) (.cons (.call "_law_take" (.cons (.v 1) (.cons (.v 2) (.cons (.c (.int 30)) .nil))) .nil) .nil))))) .nil))) .nil) (.c (.bl true)))
    .nil))
    .nil))
    (.cons (.ix (.v 4) (.v 9) (.v 3))
    (.cons (.for_ (.nm 10) (.rg1 (.call "_law_take" (.cons (.v 1) (.cons (.v 2) (.cons (.c (.int 21)) .nil))) .nil))
    (.cons (.if_ (.cmp .gt (.call "_law_take" (.cons (.v 1) (.cons (.v 2) (.cons (.c (.int 12)) .nil))) .nil) (.c (.int 0)))
    (.cons (.ix (.v 5) (.bin .add (.v 9) (.bin .mul (.c (.int 7)) (.v 10))) (.c (.bl true)))
    .nil)
    .nil)
    .nil))
    .nil)))
    (.cons (.as 6 (.tup (.cons (.bi .tuple (.cons (.v 4) .nil)) (.cons (.bi .tuple (.cons (.bi .sorted (.cons (.v 5) .nil)) .nil)) .nil))))
    (.cons (.for_ (.nm 7) (.rg1 (.c (.int 5)))
    k50body)
    (.cons (.ret (.c (.bl true)))
    .nil))))))))))⟩
structure Keys (keys : List Int) (i : Nat) : Prop where
  nd : keys.Nodup
  at_ : ∀ k ∈ keys, 0 ≤ k ∧ k ≤ 1000
  len : keys.length ≤ i
theorem Keys.add {keys : List Int} {i : Nat} (h : Keys keys i) {k : Int} (h0 : 0 ≤ k) (h1 : k ≤ 1000) : Keys (addK keys k) (i + 1) :=
  ⟨addK_nodup h.nd, fun x hx => by
    rcases addK_mem hx with hx | rfl
    · exact h.at_ x hx
    · exact ⟨h0, h1⟩, Nat.le_trans (addK_len keys k) (by have := h.len; omega)⟩
theorem Keys.up {keys : List Int} {i j : Nat} (h : Keys keys i) (hij : i ≤ j) : Keys keys j := ⟨h.nd, h.at_, Nat.le_trans h.len hij⟩
theorem good_week {days : List Day} {keys : List Int} (h8 : days.length = 8) (hd : ∀ d ∈ days, GoodDay d) (hk : Keys keys 20) : GoodWk ⟨days, sortI keys⟩ :=
  ⟨h8, hd, by show (sortI keys).length ≤ 20; rw [sortI_len]; exact hk.len, fun f hf => hk.at_ f (sortI_mem.mp hf), sortI_asc hk.nd⟩
theorem mo_some (x : Val) : mo (some x) = x.mx := rfl
theorem mo_none : mo none = 0 := rfl
theorem okR_nat {k : Int} (h0 : 0 ≤ k) (h1 : k ≤ 1000) : okR k = true := okR_small (by omega) (by omega)
theorem law50_ok (p : Pre T) (pw : PreW T) (ph : PreH T) (pp : PreP T) (pk : PreK T) (ps : PreS T) (pn : PreN T) (ha : HBa T) (hbd : HBd T) (hnc : HNc T) (hsi : HSi T) (pb : PreB T) (hlaw : T.fns.lookup ("law" : Str) = some p_law50) (ns : List Int) : (callF T (n + 11) "law" [.scr ns] []).Ok fun t _ => t = bD true := by
  obtain ⟨row, hr, e0⟩ := e_num (T := T) (n := n + 9) (ρ := start 14 [.scr ns]) p (ns := ns) rfl
  refine cal_ok hlaw rfl (s_cons (s_asO (by show 1 < 14; decide) (R.Ok.of e0 (nx ?_))))
  show (exs _ _ 0 [some (.scr ns), some (.ref 0), none, none, none, none, none, none, none, none, none, none, none, none] [.lst (li row)]).Ok _
  refine s_cons (s_asO (by show 2 < 14; decide) (R.Ok.of (e_lstD (ds := [.int 0]) (a_cons0 e_c a_nil0) (show 1 ≤ line by decide)) (nx ?_)))
  show (exs _ _ 0 [some (.scr ns), some (.ref 0), some (.ref 1), none, none, none, none, none, none, none, none, none, none, none] [.lst (li row), .lst [.dat (.int 0)]]).Ok _
  have d0 : Dr [.lst (li row), .lst [.dat (.int 0)]] := ⟨⟨row, hr, rfl⟩, 0, by decide, rfl⟩
  have f0 : Flt [.lst (li row), .lst [.dat (.int 0)]] := by
    refine flt_app (S := [.lst (li row)]) (flt_app (S := []) rfl ?_) rfl
    have := lst_mx (row.map D.int)
    rw [map_li] at this
    exact this
  refine s_cons (s_par2 (by show 8 < 14; decide) (by show 9 < 14; decide) (a_consO (e_pick (n := n + 7) p pp (fun d => ∃ k : Int, d = .int k ∧ 0 ≤ k ∧ k ≤ 86399) rfl rfl ?_ ?_)))
  · refine R.Ok.of (a_cons0 e_c (a_cons0 e_c (a_cons0 e_c (a_cons0 e_c a_nil0)))) ⟨[.int 0, .int 1, .int 40000, .int 86399], rfl, by simp, show 4 ≤ line by decide, ?_, d0, f0, Sp.refl⟩
    intro d hd
    simp only [List.mem_cons, List.not_mem_nil, or_false] at hd
    rcases hd with rfl | rfl | rfl | rfl <;> exact ⟨_, rfl, by decide, by decide⟩
  rintro _ S1 ⟨st, rfl, q0, q1⟩ d1 f1 s1
  refine a_consO (e_take (n := n + 8) p d1 rfl rfl e_c (by decide) fun o S2 o0 o1 d2 s2 => R.Ok.of a_nil0 ⟨.int st, .int o, rfl, nx ?_⟩)
  have f2 := flt_sp f1 d2 s2
  have l2 : S2.length = 2 := s2.len.trans s1.len
  obtain ⟨a, b, rfl⟩ : ∃ a b, S2 = [a, b] := by
    match S2, l2 with
    | [a, b], _ => exact ⟨a, b, rfl⟩
  show (exs _ _ 0 [some (.scr ns), some (.ref 0), some (.ref 1), none, none, none, none, none, some (.dat (.int st)), some (.dat (.int o)), none, none, none, none] [a, b]).Ok _
  have hlow : ∀ {ρ : Env} {S : Store}, ev (T.ctx (callF T (n + 10))) (.tup (.cons (.c (.int 0)) (.cons (.c (.str "low")) .nil))) ρ S = .ok (vD (.tup [.int 0, .str "low"])) S := e_tupD (ds := [.int 0, .str "low"]) (a_cons0 e_c (a_cons0 e_c a_nil0)) (show 2 ≤ line by decide)
  refine s_cons (s_asD (S1 := [a, b]) (d := .dat (dayD (oddDay st))) (e_ife (S1 := [a, b]) (t_cm (e_v rfl) e_c c_eq) (fun h => ?_) fun h => ?_) (by show 3 < 14; decide) (nx ?_))
  · have h := of_decide_eq_true h
    unfold oddDay
    rw [if_pos h]
    exact e_tupD (ds := [.tup [.int 0, .str "high"]]) (a_cons0 (e_tupD (ds := [.int 0, .str "high"]) (a_cons0 e_c (a_cons0 e_c a_nil0)) (show 2 ≤ line by decide)) a_nil0) (show 1 ≤ line by decide)
  · have h := of_decide_eq_false h
    unfold oddDay
    rw [if_neg h]
    exact e_tupD (ds := [.tup [.int 0, .str "low"], .tup [.int st, .str "high"]]) (a_cons0 hlow (a_cons0 (e_tupD (ds := [.int st, .str "high"]) (a_cons0 (e_v rfl) (a_cons0 e_c a_nil0)) (show 2 ≤ line by decide)) a_nil0)) (show 2 ≤ line by decide)
  show (exs _ _ 0 [some (.scr ns), some (.ref 0), some (.ref 1), some (.dat (dayD (oddDay st))), none, none, none, none, some (.dat (.int st)), some (.dat (.int o)), none, none, none, none] [a, b]).Ok _
  refine s_cons (s_asO (by show 4 < 14; decide) (R.Ok.of (e_lcP (src := ⟨upto 0 8, []⟩) (ys := (List.replicate 8 lowDay).map dayD) (i_r1 (n := 8) e_c (okR_nat (by decide) (by decide))) rfl (show 8 ≤ line by decide) rfl fun i x y hx hy => ?_) (nx ?_)))
  · refine ⟨_, rfl, ?_⟩
    rw [List.getElem?_map, List.getElem?_replicate] at hy
    split at hy
    · cases hy
      exact e_tupD (ds := [.tup [.int 0, .str "low"]]) (a_cons0 hlow a_nil0) (show 1 ≤ line by decide)
    · cases hy
  refine s_cons (s_asO (by show 5 < 14; decide) (R.Ok.of e_dct0 (nx ?_)))
  show (exs _ _ 0 [some (.scr ns), some (.ref 0), some (.ref 1), some (.dat (dayD (oddDay st))), some (.ref 2), some (.ref 3), none, none, some (.dat (.int st)), some (.dat (.int o)), none, none, none, none] [a, b, .lst (((List.replicate 8 lowDay).map dayD).map .dat), .dct []]).Ok _
  have m3 : Mid [a, b, .lst (((List.replicate 8 lowDay).map dayD).map .dat), .dct []] (List.replicate 8 lowDay) [] := by
    refine ⟨dr_ge d2 (Ge.app [_, _]) rfl, ?_, rfl, rfl, rfl⟩
    exact flt_app (S := [a, b, _]) (flt_app (S := [a, b]) f2 (lst_mx _)) rfl
  -- behind the if
  have rest : ∀ (S : Store) (days : List Day) (keys : List Int) (x10 : Option Val), Mid S days keys → days.length = 8 → (∀ d ∈ days, GoodDay d) → Keys keys 20 → mo x10 ≤ 4 →
      (exs (T.ctx (callF T (n + 10))) (.cons (.as 6 (.tup (.cons (.bi .tuple (.cons (.v 4) .nil)) (.cons (.bi .tuple (.cons (.bi .sorted (.cons (.v 5) .nil)) .nil)) .nil))))
    (.cons (.for_ (.nm 7) (.rg1 (.c (.int 5)))
    k50body)
    (.cons (.ret (.c (.bl true)))
    .nil))) 0 [some (.scr ns), some (.ref 0), some (.ref 1), some (.dat (dayD (oddDay st))), some (.ref 2), some (.ref 3), none, none, some (.dat (.int st)), some (.dat (.int o)), x10, none, none, none] S).Ok (fin fun t _ => t = bD true) := by
    intro S days keys x10 m h8 hd hk hx
    have hw := good_week h8 hd hk
    refine s_cons (s_asD (S1 := S) (d := .dat (Wk.toD ⟨days, sortI keys⟩)) (e_tupD (ds := [.tup (days.map dayD), .tup ((sortI keys).map .int)]) (a_cons0 (e_bi1 (e_v rfl) (l_tupR m.at2)) (a_cons0 (e_bi1 (e_bi1 (e_v rfl) (l_sortK m.at3 (by have := hk.len; omega))) ?_) a_nil0)) (show 2 ≤ line by decide)) (by show 6 < 14; decide) (nx ?_))
    · rw [← map_li]; exact l_tupL
    refine s_cons (s_for (i_r1 (n := 5) e_c (okR_nat (by decide) (by decide))) (fun i ρ S => At50 ns ⟨days, sortI keys⟩ o ρ S) ?_ ?_ ?_)
    · refine ⟨⟨_, _, _, _, _, _, _, rfl, ?_⟩, m.dr, m.flt, m.len⟩
      show mxE [some (.scr ns), some (.ref 0), some (.ref 1), some (.dat (dayD (oddDay st))), some (.ref 2), some (.ref 3), some (.dat _), none, some (.dat (.int st)), some (.dat (.int o)), x10, none, none, none] ≤ 4
      simp only [mxE_cons, mo_some, mo_none, Val.mx, mxE_nil]
      omega
    · rintro i x ρ S' hx ⟨⟨x3, x7, x8, x10, x11, x12, x13, rfl, hm⟩, d4, f4, l4⟩
      rw [upto_at] at hx
      split at hx
      · cases hx
        refine ⟨rfl, _, rfl, ?_⟩
        rw [m.len]
        refine (body_ok (n := n) (ns := ns) p pw ph pp pk ps pn ha hbd hnc hsi pb hw o0 o1 (x7 := some (.dat (.int (0 + i)))) ⟨_, rfl⟩ ⟨x3, x8, x10, x11, x12, x13, rfl, ?_⟩ d4 f4 l4).mono ?_
        · simp only [mxE_cons, mo_some, mo_none, Val.mx, mxE_nil] at hm ⊢
          omega
        · intro f S'' h
          cases f <;> first | exact h | exact h.elim
      · cases hx
    · rintro ρ S' _
      exact ⟨rfl, nx (s_cons (s_ret e_c rfl))⟩
  have hnew : ∀ j : Nat, ∀ d ∈ (List.replicate 8 lowDay).set j (oddDay st), GoodDay d := by
    intro j d hd
    rcases List.mem_or_eq_of_mem_set hd with h | rfl
    · rw [List.mem_replicate] at h
      rw [h.2]; exact low_good
    · exact odd_good q0 q1
  refine s_cons (s_ifO (o_cmp (e_take (n := n + 8) p m3.dr rfl rfl e_c (by decide) fun r S4 _ _ d4 s4 => R.Ok.of e_c ⟨_, c_eq, ?_⟩)))
  have m4 := m3.sp d4 s4
  split
  · refine s_cons (s_ixL (k := 7) (a := 2) (e_v rfl) (e_v rfl) e_c m4.at2 (by decide) (by simp) ?_)
    rw [← List.map_set, ← List.map_set]
    have m5 := m4.day (ds := (List.replicate 8 lowDay).set 7 (oddDay st))
    refine nx ?_
    obtain ⟨src, S5, e5, rr, r0, r1, d5, s5, rfl⟩ := (i_rgO (Γ := T.ctx (callF T (n + 10))) (ρ := [some (.scr ns), some (.ref 0), some (.ref 1), some (.dat (dayD (oddDay st))), some (.ref 2), some (.ref 3), none, none, some (.dat (.int st)), some (.dat (.int o)), none, none, none, none]) (Q := fun src S5 => ∃ rr : Int, 0 ≤ rr ∧ rr < 3 ∧ Dr S5 ∧ Sp _ S5 ∧ src = ⟨upto 0 rr.toNat, []⟩) (e_take (n := n + 8) (a := 1) (b := 2) p m5.dr rfl rfl e_c (by decide) fun rr S5 r0 r1 d5 s5 => ⟨_, rfl, okR_nat r0 (by omega), rr, r0, r1, d5, s5, rfl⟩)).eq
    have m6 := m5.sp d5 s5
    refine s_cons (s_for (P := flNext _ _) e5 (fun i ρ S => ∃ x10 keys, ρ = [some (.scr ns), some (.ref 0), some (.ref 1), some (.dat (dayD (oddDay st))), some (.ref 2), some (.ref 3), none, none, some (.dat (.int st)), some (.dat (.int o)), x10, none, none, none] ∧ mo x10 ≤ 4 ∧ Mid S ((List.replicate 8 lowDay).set 7 (oddDay st)) keys ∧ Keys keys i) ?_ ?_ ?_)
    · exact ⟨none, [], rfl, Nat.zero_le _, m6, ⟨List.nodup_nil, by simp, Nat.le_refl _⟩⟩
    · rintro i x ρ S' hx ⟨x10, keys, rfl, hx10, m, hk⟩
      rw [upto_at] at hx
      split at hx
      · cases hx
        refine ⟨rfl, _, rfl, s_cons (s_ixD (a := 3) (x := .bl true) e_c (e_v rfl) ?_)⟩
        refine e_pick (n := n + 7) p pp (fun d => ∃ k : Int, d = .int k ∧ 0 ≤ k ∧ k ≤ 1000) rfl rfl (a_consO (R.Ok.of e_c (a_consO (R.Ok.of e_c (a_consO ?_))))) ?_
        · refine e_wide (n := n + 7) p pw m.dr rfl rfl e_c (by decide) fun r3 S3 c0 c1 d3 s3 => a_consO (e_take (n := n + 8) p d3 rfl rfl e_c (by decide) fun r4 S4 e0 e1 d4 s4 => R.Ok.of a_nil0 ⟨[.int 1000, .int 999, .int r3, .int r4], rfl, by simp, show 4 ≤ line by decide, ?_, d4, flt_sp (flt_sp m.flt d3 s3) d4 s4, s3.trans s4⟩)
          intro d hd
          simp only [List.mem_cons, List.not_mem_nil, or_false] at hd
          rcases hd with rfl | rfl | rfl | rfl <;> exact ⟨_, rfl, by omega, by omega⟩
        · rintro _ S7 ⟨k, rfl, k0, k1⟩ d7 f7 s7
          have m7 := m.sp d7 s7
          have hkl := hk.len
          refine ⟨k, _, rfl, m7.at3, by rw [kd_len]; simp [line]; omega, nx (s_nil ?_)⟩
          rw [kd_put]
          exact ⟨_, _, rfl, Nat.zero_le _, m7.put, hk.add k0 k1⟩
      · cases hx
    · rintro ρ S' ⟨x10, keys, rfl, hx10, m, hk⟩
      rw [upto_ln] at hk
      exact ⟨rfl, nx (s_nil (nx (rest S' _ keys x10 m (by simp) (hnew 7) (hk.up (by omega)) hx10)))⟩
  · refine s_cons (s_ixL (k := o) (a := 2) (e_v rfl) (e_v rfl) (e_v rfl) m4.at2 o0 (by simp; omega) ?_)
    rw [← List.map_set, ← List.map_set]
    have m5 := m4.day (ds := (List.replicate 8 lowDay).set o.toNat (oddDay st))
    refine nx ?_
    obtain ⟨src, S5, e5, rr, r0, r1, d5, s5, rfl⟩ := (i_rgO (Γ := T.ctx (callF T (n + 10))) (ρ := [some (.scr ns), some (.ref 0), some (.ref 1), some (.dat (dayD (oddDay st))), some (.ref 2), some (.ref 3), none, none, some (.dat (.int st)), some (.dat (.int o)), none, none, none, none]) (Q := fun src S5 => ∃ rr : Int, 0 ≤ rr ∧ rr < 21 ∧ Dr S5 ∧ Sp _ S5 ∧ src = ⟨upto 0 rr.toNat, []⟩) (e_take (n := n + 8) (a := 1) (b := 2) p m5.dr rfl rfl e_c (by decide) fun rr S5 r0 r1 d5 s5 => ⟨_, rfl, okR_nat r0 (by omega), rr, r0, r1, d5, s5, rfl⟩)).eq
    have m6 := m5.sp d5 s5
    refine s_cons (s_for (P := flNext _ _) e5 (fun i ρ S => ∃ x10 keys, ρ = [some (.scr ns), some (.ref 0), some (.ref 1), some (.dat (dayD (oddDay st))), some (.ref 2), some (.ref 3), none, none, some (.dat (.int st)), some (.dat (.int o)), x10, none, none, none] ∧ mo x10 ≤ 4 ∧ Mid S ((List.replicate 8 lowDay).set o.toNat (oddDay st)) keys ∧ Keys keys i) ?_ ?_ ?_)
    · exact ⟨none, [], rfl, Nat.zero_le _, m6, ⟨List.nodup_nil, by simp, Nat.le_refl _⟩⟩
    · rintro i x ρ S' hx ⟨x10, keys, rfl, hx10, m, hk⟩
      rw [upto_at] at hx
      split at hx
      · rename_i hi
        cases hx
        refine ⟨rfl, _, rfl, s_cons (s_ifO (o_cmp (e_take (n := n + 8) p m.dr rfl rfl e_c (by decide) fun r S7 _ _ d7 s7 => R.Ok.of e_c ⟨_, c_gt, ?_⟩)))⟩
        have m7 := m.sp d7 s7
        have hkl := hk.len
        split
        · refine s_cons (s_ixD (a := 3) (x := .bl true) e_c (e_v rfl) (R.Ok.of (e_bin (e_v rfl) (e_bin e_c (e_v rfl) (b_mul (mul_l (by decide)))) b_add) ⟨_, _, rfl, m7.at3, by rw [kd_len]; simp [line]; omega, nx (s_nil (nx (s_nil ?_)))⟩))
          rw [kd_put]
          exact ⟨_, _, rfl, Nat.zero_le _, m7.put, hk.add (by omega) (by omega)⟩
        · exact s_nil (nx (s_nil ⟨_, _, rfl, Nat.zero_le _, m7, hk.up (by omega)⟩))
      · cases hx
    · rintro ρ S' ⟨x10, keys, rfl, hx10, m, hk⟩
      rw [upto_ln] at hk
      exact ⟨rfl, nx (s_nil (nx (rest S' _ keys x10 m (by simp) (hnew o.toNat) (hk.up (by omega)) hx10)))⟩
end Ap
set_option Elab.async false
set_option linter.all false
set_option maxRecDepth 100000
set_option maxHeartbeats 1000000
namespace Ap
open PySem (Str)
variable {T : Tb} {S S1 S2 S3 : Store} {ρ : Env} {Γ : Ctx} {n : Nat} {n0 : Nat} {P : Fl → Store → Prop}
/-! ### what the laws draw: seconds, days, weeks -/
def p_law_second_here : Fn := ⟨2, 3,
    (.cons (.as 2 (.call "_law_take" (.cons (.v 0) (.cons (.v 1) (.cons (.c (.int 6)) .nil))) .nil))
    (.cons (.if_ (.cmp .eq (.v 2) (.c (.int 0)))
    (.cons (.ret (.call "_law_wide" (.cons (.v 0) (.cons (.v 1) (.cons (.bin .add (.bin .pow (.c (.int 10)) (.c (.int 8))) (.c (.int 1))) .nil))) .nil))
    .nil)
    .nil)
    (.cons (.if_ (.cmp .eq (.v 2) (.c (.int 1)))
    (.cons (.ret (.call "_law_pick" (.cons (.v 0) (.cons (.v 1) (.cons (.lst (.cons (.c (.int 0)) (.cons (.c (.int 1)) (.cons (.c (.int 86399)) (.cons (.c (.int 86400)) (.cons (.bin .pow (.c (.int 10)) (.c (.int 8))) (.cons (.c (.int 28800)) (.cons (.c (.int 172800)) .nil)))))))) .nil))) .nil))
    .nil)
    .nil)
    (.cons (.ret (.bin .mul (.call "_law_take" (.cons (.v 0) (.cons (.v 1) (.cons (.c (.int 300)) .nil))) .nil) (.call "_law_pick" (.cons (.v 0) (.cons (.v 1) (.cons (.lst (.cons (.c (.int 1)) (.cons (.c (.int 1)) (.cons (.c (.int 60)) (.cons (.c (.int 600)) .nil))))) .nil))) .nil)))
    .nil))))⟩
def p_law_day : Fn := ⟨2, 5,
    (.cons (.as 2 (.dct (.cons (.c (.int 0)) (.c (.bl true)) .nil)))
    (.cons (.for_ (.nm 3) (.rg1 (.call "_law_take" (.cons (.v 0) (.cons (.v 1) (.cons (.c (.int 4)) .nil))) .nil))
    (.cons (.ix (.v 2) (.call "_law_pick" (.cons (.v 0) (.cons (.v 1) (.cons (.lst (.cons (.c (.int 1)) (.cons (.c (.int 100)) (.cons (.c (.int 28800)) (.cons (.c (.int 64800)) (.cons (.c (.int 86399)) (.cons (.call "_law_wide" (.cons (.v 0) (.cons (.v 1) (.cons (.c (.int 86400)) .nil))) .nil) .nil))))))) .nil))) .nil) (.c (.bl true)))
    .nil))
    (.cons (.ret (.bi .tuple (.cons (.lc (.tup (.cons (.v 4) (.cons (.call "_law_pick" (.cons (.v 0) (.cons (.v 1) (.cons (.lst (.cons (.c (.str "low")) (.cons (.c (.str "high")) (.cons (.c (.str "mid")) .nil)))) .nil))) .nil) .nil))) [4] (.nm 4) (.e (.bi .sorted (.cons (.v 2) .nil))) .nil) .nil)))
    .nil)))⟩
def p_law_week : Fn := ⟨2, 6,
    (.cons (.as 2 (.call "_law_day" (.cons (.v 0) (.cons (.v 1) .nil)) .nil))
    (.cons (.as 3 (.lc (.ife (.cmp .eq (.call "_law_take" (.cons (.v 0) (.cons (.v 1) (.cons (.c (.int 2)) .nil))) .nil) (.c (.int 0))) (.v 2) (.call "_law_day" (.cons (.v 0) (.cons (.v 1) .nil)) .nil)) [5] (.nm 5) (.rg1 (.c (.int 8))) .nil))
    (.cons (.as 4 (.dct .nil))
    (.cons (.for_ (.nm 5) (.rg1 (.call "_law_take" (.cons (.v 0) (.cons (.v 1) (.cons (.c (.int 4)) .nil))) .nil))
    (.cons (.ix (.v 4) (.call "_law_pick" (.cons (.v 0) (.cons (.v 1) (.cons (.lst (.cons (.c (.int 0)) (.cons (.c (.int 1)) (.cons (.c (.int 2)) (.cons (.c (.int 6)) (.cons (.c (.int 7)) (.cons (.c (.int 1000)) (.cons (.call "_law_take" (.cons (.v 0) (.cons (.v 1) (.cons (.c (.int 997)) .nil))) .nil) .nil)))))))) .nil))) .nil) (.c (.bl true)))
    .nil))
    (.cons (.ret (.tup (.cons (.bi .tuple (.cons (.v 3) .nil)) (.cons (.bi .tuple (.cons (.bi .sorted (.cons (.v 4) .nil)) .nil)) .nil))))
    .nil)))))⟩
structure PreY (T : Tb) : Prop where
  day : T.fns.lookup ("_law_day" : Str) = some p_law_day
  week : T.fns.lookup ("_law_week" : Str) = some p_law_week
structure PreSe (T : Tb) : Prop where
  here : T.fns.lookup ("_law_second_here" : Str) = some p_law_second_here
/-- the state behind draws: all but the spot stands -/
structure Bh (S S' : Store) : Prop where
  dr : Dr S'
  flt : Flt S'
  ge : Ge S S'
theorem Bh.refl (d : Dr S) (f : Flt S) : Bh S S := ⟨d, f, Ge.refl⟩
theorem Bh.sp (b : Bh S S1) (d : Dr S2) (f : Flt S2) (s : Sp S1 S2) : Bh S S2 := ⟨d, f, b.ge.trans s.ge⟩
theorem flt_take {m : Nat} (h : Flt S) : Flt (S.take m) := by
  unfold Flt closed at h ⊢
  rw [List.all_eq_true] at h ⊢
  exact fun o ho => h o (List.mem_of_mem_take ho)
theorem Bh.cut (d0 : Dr S) (b : Bh S S1) : Dr (S1.take S.length) ∧ Flt (S1.take S.length) ∧ Sp S (S1.take S.length) := by
  refine ⟨dr_take d0 b.ge b.dr, flt_take b.flt, ⟨by simp [b.ge.1], fun i hi => ?_⟩⟩
  by_cases h : i < S.length
  · rw [List.getElem?_take_of_lt h, List.getElem?_eq_getElem h]
    exact b.ge.2 i _ hi (List.getElem?_eq_getElem h)
  · rw [List.getElem?_eq_none (by simp; omega), List.getElem?_eq_none (by omega)]
/-- a call that draws and gives data -/
theorem e_rn {f : Str} {es : Es} {xs : List Val} {A : D → Prop} (d0 : Dr S) (ha : evs (T.ctx (callF T n)) es ρ S = .ok (xs.map .val) S) (hc : (callF T n f xs S).Ok fun t S' => ∃ d, A d ∧ t = vD d ∧ Bh S S') {Q : TV → Store → Prop}
    (h : ∀ d S', A d → Dr S' → Flt S' → Sp S S' → Q (vD d) S') : (ev (T.ctx (callF T n)) (.call f es .nil) ρ S).Ok Q := by
  refine e_call ha a_nil0 (called_ok ?_)
  rw [List.append_nil, proms_vals]
  refine hc.mono ?_
  rintro t S' ⟨d, hA, rfl, b⟩
  obtain ⟨q1, q2, q3⟩ := b.cut d0
  exact R.Ok.of (settle_flt b.flt) (h d _ hA q1 q2 q3)
theorem here_ok (p : Pre T) (pw : PreW T) (pp : PreP T) (q : PreSe T) (hd : Dr S) (hf : Flt S) : (callF T (n + 4) "_law_second_here" [.ref 0, .ref 1] S).Ok fun t S' => ∃ d, (∃ k : Int, d = .int k ∧ 0 ≤ k ∧ k ≤ 100000000) ∧ t = vD d ∧ Bh S S' := by
  refine cal_ok q.here rfl (s_cons (s_asO (by show 2 < 3; decide) (e_take (n := n + 1) p hd rfl rfl e_c (by decide) fun r S1 r0 r1 d1 s1 => nx ?_)))
  have f1 := flt_sp hf d1 s1
  have b1 : Bh S S1 := (Bh.refl hd hf).sp d1 f1 s1
  refine s_cons (s_if (t_cm (e_v rfl) e_c c_eq) (fun _ => ?_) fun _ => s_nil (nx ?_))
  · exact s_cons (s_retO (e_wide (n := n) p pw d1 rfl rfl (e_bin (e_bin e_c e_c (z := iD 100000000) rfl) e_c b_add) (by decide) fun k S2 k0 k1 d2 s2 => ⟨_, ⟨k, rfl, k0, by omega⟩, rfl, b1.sp d2 (flt_sp f1 d2 s2) s2⟩))
  · refine s_cons (s_if (t_cm (e_v rfl) e_c c_eq) (fun _ => ?_) fun _ => s_nil (nx ?_))
    · refine s_cons (s_retO (e_pick (n := n) p pp (fun d => ∃ k : Int, d = .int k ∧ 0 ≤ k ∧ k ≤ 100000000) rfl rfl ?_ ?_))
      · refine R.Ok.of (a_cons0 e_c (a_cons0 e_c (a_cons0 e_c (a_cons0 e_c (a_cons0 (e_bin e_c e_c (z := iD 100000000) rfl) (a_cons0 e_c (a_cons0 e_c a_nil0))))))) ⟨[.int 0, .int 1, .int 86399, .int 86400, .int 100000000, .int 28800, .int 172800], rfl, by simp, show 7 ≤ line by decide, ?_, d1, f1, Sp.refl⟩
        intro d hd
        simp only [List.mem_cons, List.not_mem_nil, or_false] at hd
        rcases hd with rfl | rfl | rfl | rfl | rfl | rfl | rfl <;> exact ⟨_, rfl, by decide, by decide⟩
      · rintro _ S2 ⟨k, rfl, k0, k1⟩ d2 f2 s2
        exact ⟨_, ⟨k, rfl, k0, k1⟩, rfl, b1.sp d2 f2 s2⟩
    · refine s_cons (s_retO (o_bin (e_take (n := n + 1) p d1 rfl rfl e_c (by decide) fun a S2 a0 a1 d2 s2 => ?_)))
      have f2 := flt_sp f1 d2 s2
      refine e_pick (n := n) p pp (fun d => ∃ k : Int, d = .int k ∧ 0 ≤ k ∧ k ≤ 600) rfl rfl ?_ ?_
      · refine R.Ok.of (a_cons0 e_c (a_cons0 e_c (a_cons0 e_c (a_cons0 e_c a_nil0)))) ⟨[.int 1, .int 1, .int 60, .int 600], rfl, by simp, show 4 ≤ line by decide, ?_, d2, f2, Sp.refl⟩
        intro d hd
        simp only [List.mem_cons, List.not_mem_nil, or_false] at hd
        rcases hd with rfl | rfl | rfl | rfl <;> exact ⟨_, rfl, by decide, by decide⟩
      · rintro _ S3 ⟨k, rfl, k0, k1⟩ d3 f3 s3
        have h1 : a * k ≤ 299 * 600 := Int.mul_le_mul (by omega) k1 k0 (by decide)
        exact ⟨_, b_mul (mul_l (by omega)), _, ⟨a * k, rfl, Int.mul_nonneg a0 k0, by omega⟩, rfl, (b1.sp d2 f2 s2).sp d3 f3 s3⟩
def Word3 (w : Str) : Prop := w = "low" ∨ w = "high" ∨ w = "mid"
theorem word3_ok {w : Str} (h : Word3 w) : wordOk w = true := by
  rcases h with rfl | rfl | rfl <;> decide +kernel
/-- a day that a law drew -/
structure DrawnDay (d : Day) : Prop where
  good : GoodDay d
  word : ∀ p ∈ d, Word3 p.2
structure KeyD (keys : List Int) (i : Nat) : Prop where
  nd : keys.Nodup
  at_ : ∀ k ∈ keys, 0 ≤ k ∧ k ≤ 86399
  len : keys.length ≤ i + 1
  zero : (0 : Int) ∈ keys
theorem KeyD.add {keys : List Int} {i : Nat} (h : KeyD keys i) {k : Int} (h0 : 0 ≤ k) (h1 : k ≤ 86399) : KeyD (addK keys k) (i + 1) :=
  ⟨addK_nodup h.nd, fun x hx => by
    rcases addK_mem hx with hx | rfl
    · exact h.at_ x hx
    · exact ⟨h0, h1⟩, Nat.le_trans (addK_len keys k) (by have := h.len; omega), by
    unfold addK
    split
    · exact h.zero
    · exact List.mem_append_left _ h.zero⟩
theorem asc_pair : ∀ {ns : List Int}, asc ns = true → ∀ (i j : Nat) (hij : i < j) (hj : j < ns.length), ns[i]'(by omega) < ns[j] := by
  intro ns h i j hij hj
  unfold asc at h
  rw [List.all_eq_true] at h
  have step : ∀ k, k + 1 < ns.length → ns.getD k 0 < ns.getD (k + 1) 0 := fun k hk => of_decide_eq_true (h k (by rw [List.mem_range]; omega))
  have go : ∀ m, i + 1 + m < ns.length → ns.getD i 0 < ns.getD (i + 1 + m) 0 := by
    intro m
    induction m with
    | zero => intro hm; exact step i hm
    | succ m ih =>
      intro hm
      exact Int.lt_trans (ih (by omega)) (step (i + 1 + m) (by omega))
  have := go (j - (i + 1)) (by omega)
  rw [show i + 1 + (j - (i + 1)) = j by omega] at this
  simpa [List.getD_eq_getElem?_getD, List.getElem?_eq_getElem hj, List.getElem?_eq_getElem (show i < ns.length by omega)] using this
theorem sort_head {keys : List Int} {i : Nat} (h : KeyD keys i) : ∃ r, sortI keys = 0 :: r := by
  have h0 : (0 : Int) ∈ sortI keys := sortI_mem.mpr h.zero
  cases hs : sortI keys with
  | nil => rw [hs] at h0; cases h0
  | cons a r =>
    have ha : a ∈ keys := sortI_mem.mp (by rw [hs]; simp)
    rw [hs] at h0
    rcases List.mem_cons.mp h0 with rfl | hr
    · exact ⟨r, rfl⟩
    · exfalso
      obtain ⟨j, hj⟩ := List.mem_iff_getElem.mp hr
      obtain ⟨hj1, hj2⟩ := hj
      have hasc : asc (a :: r) = true := by rw [← hs]; exact sortI_asc h.nd
      have := asc_pair hasc 0 (j + 1) (by omega) (by simp; omega)
      simp only [List.getElem_cons_zero, List.getElem_cons_succ, hj2] at this
      have := (h.at_ a ha).1
      omega
theorem bh_app {o : Obj} (d : Dr S) (f : Flt S) (ho : o.mx = 0) : Dr (S ++ [o]) ∧ Flt (S ++ [o]) :=
  ⟨dr_ge d (Ge.app _) (by have := dr_len d; rw [List.getElem?_append_left (by omega)]), flt_app f ho⟩
/-- a store with one more object that a loop changes -/
structure Wt (S : Store) (o : Obj) (S' : Store) : Prop where
  dr : Dr S'
  flt : Flt S'
  len : S'.length = S.length + 1
  at_ : S'[S.length]? = some o
  same : ∀ i, i < S.length → i ≠ 1 → S'[i]? = S[i]?
theorem Wt.bh {o : Obj} (w : Wt S o S1) : Bh S S1 := ⟨w.dr, w.flt, by rw [w.len]; omega, fun i u hi h => by
  have := (List.getElem?_eq_some_iff.mp h).1
  rw [w.same i this hi]; exact h⟩
theorem Wt.mk' {o : Obj} (d : Dr S) (f : Flt S) (ho : o.mx = 0) : Wt S o (S ++ [o]) :=
  ⟨(bh_app d f ho).1, (bh_app d f ho).2, by simp, by simp, fun i hi _ => List.getElem?_append_left hi⟩
theorem Wt.sp {o : Obj} (w : Wt S o S1) (l2 : 2 ≤ S.length) (d : Dr S2) (f : Flt S2) (s : Sp S1 S2) : Wt S o S2 :=
  ⟨d, f, by rw [s.len, w.len], by rw [s.same _ (by omega)]; exact w.at_, fun i hi h1 => by rw [s.same i h1]; exact w.same i hi h1⟩
theorem Wt.set {o u : Obj} (w : Wt S o S1) (l2 : 2 ≤ S.length) (hu : u.mx = 0) : Wt S u (S1.set S.length u) :=
  ⟨dr_set w.dr l2, flt_set w.flt hu, by rw [List.length_set]; exact w.len, by rw [List.getElem?_set_self (by rw [w.len]; omega)], fun i hi h1 => by
    rw [List.getElem?_set_ne (by omega)]; exact w.same i hi h1⟩
theorem law_day_ok (p : Pre T) (pw : PreW T) (pp : PreP T) (q : PreY T) (hd : Dr S) (hf : Flt S) : (callF T (n + 4) "_law_day" [.ref 0, .ref 1] S).Ok fun t S' => ∃ d, (∃ y, DrawnDay y ∧ d = dayD y) ∧ t = vD d ∧ Bh S S' := by
  have l2 := dr_len hd
  refine cal_ok q.day rfl (s_cons (s_asO (by show 2 < 5; decide) (R.Ok.of (a := .new (.dct (kd [0]))) (S := S) (by rw [ev, evPs, evPs]; unfold mDct mPair; rw [e_c, bind_ok, e_c]; rfl) (nx ?_))))
  show (exs _ _ _ [some (.ref 0), some (.ref 1), some (.ref S.length), none, none] (S ++ [.dct (kd [0])])).Ok _
  have w0 : Wt S (.dct (kd [0])) (S ++ [.dct (kd [0])]) := Wt.mk' hd hf (kd_mx _)
  obtain ⟨src, S5, e5, rr, r0, r1, d5, s5, rfl⟩ := (i_rgO (Γ := T.ctx (callF T (n + 3))) (ρ := [some (.ref 0), some (.ref 1), some (.ref S.length), none, none]) (Q := fun src S5 => ∃ rr : Int, 0 ≤ rr ∧ rr < 4 ∧ Dr S5 ∧ Sp _ S5 ∧ src = ⟨upto 0 rr.toNat, []⟩) (e_take (n := n + 1) (a := 0) (b := 1) p w0.dr rfl rfl e_c (by decide) fun rr S5 r0 r1 d5 s5 => ⟨_, rfl, okR_nat r0 (by omega), rr, r0, r1, d5, s5, rfl⟩)).eq
  have w5 := w0.sp l2 d5 (flt_sp w0.flt d5 s5) s5
  refine s_cons (s_for (P := flNext _ _) e5 (fun i ρ S' => ∃ x3 keys, ρ = [some (.ref 0), some (.ref 1), some (.ref S.length), x3, none] ∧ Wt S (.dct (kd keys)) S' ∧ KeyD keys i) ?_ ?_ ?_)
  · exact ⟨none, [0], rfl, w5, ⟨by simp, by simp, by simp, by simp⟩⟩
  · rintro i x ρ S' hx ⟨x3, keys, rfl, w, hk⟩
    rw [upto_at] at hx
    split at hx
    · cases hx
      refine ⟨rfl, _, rfl, s_cons (s_ixD (a := S.length) (x := .bl true) e_c (e_v rfl) ?_)⟩
      refine e_pick (n := n) p pp (fun d => ∃ k : Int, d = .int k ∧ 0 ≤ k ∧ k ≤ 86399) rfl rfl (a_consO (R.Ok.of e_c (a_consO (R.Ok.of e_c (a_consO (R.Ok.of e_c (a_consO (R.Ok.of e_c (a_consO (R.Ok.of e_c (a_consO ?_))))))))))) ?_
      · refine e_wide (n := n) p pw w.dr rfl rfl e_c (by decide) fun r3 S3 c0 c1 d3 s3 => R.Ok.of a_nil0 ⟨[.int 1, .int 100, .int 28800, .int 64800, .int 86399, .int r3], rfl, by simp, show 6 ≤ line by decide, ?_, d3, flt_sp w.flt d3 s3, s3⟩
        intro d hd
        simp only [List.mem_cons, List.not_mem_nil, or_false] at hd
        rcases hd with rfl | rfl | rfl | rfl | rfl | rfl <;> exact ⟨_, rfl, by omega, by omega⟩
      · rintro _ S7 ⟨k, rfl, k0, k1⟩ d7 f7 s7
        have w7 := w.sp l2 d7 f7 s7
        have hkl := hk.len
        have hi : i < 4 := by omega
        refine ⟨k, _, rfl, w7.at_, by rw [kd_len]; simp only [line]; omega, nx (s_nil ?_)⟩
        rw [kd_put]
        exact ⟨_, _, rfl, w7.set l2 (kd_mx _), hk.add k0 k1⟩
    · cases hx
  · rintro ρ S' ⟨x3, keys, rfl, w, hk⟩
    rw [upto_ln] at hk
    have hkl := hk.len
    have hlen : (sortI keys).length ≤ 8 := by rw [sortI_len]; omega
    refine ⟨rfl, nx (s_cons (s_retO (o_biS ?_)))⟩
    have hsrc : evI (T.ctx (callF T (n + 3))) (.e (.bi .sorted (.cons (.v 2) .nil))) [some (.ref 0), some (.ref 1), some (.ref S.length), x3, none] S' = .ok ⟨li (sortI keys), []⟩ S' :=
      i_of (e_bi1 (e_v rfl) (l_sortK w.at_ (by omega))) rfl
    refine e_lc hsrc (fun i done S'' => ∃ y : Day, done = (y.map pairD).map .dat ∧ y.map (·.1) = (sortI keys).take i ∧ (∀ p ∈ y, Word3 p.2) ∧ Wt S (.dct (kd keys)) S'') ⟨[], rfl, rfl, by simp, w⟩ ?_ ?_
    · rintro i x done S'' hx ⟨y, rfl, hy, hw, w2⟩
      have : ∃ z : Int, (sortI keys)[i]? = some z ∧ x = .dat (.int z) := by
        simp only [li, List.getElem?_map, Option.map_eq_some_iff] at hx
        obtain ⟨z, hz, rfl⟩ := hx
        exact ⟨z, hz, rfl⟩
      obtain ⟨z, hz, rfl⟩ := this
      refine ⟨rfl, _, rfl, o_tupD (a_consO (R.Ok.of (e_v rfl) (a_consO (e_pick (n := n) p pp (fun d => ∃ v : Str, d = .str v ∧ Word3 v) rfl rfl ?_ ?_))))⟩
      · refine R.Ok.of (a_cons0 e_c (a_cons0 e_c (a_cons0 e_c a_nil0))) ⟨[.str "low", .str "high", .str "mid"], rfl, by simp, show 3 ≤ line by decide, ?_, w2.dr, w2.flt, Sp.refl⟩
        intro d hd
        simp only [List.mem_cons, List.not_mem_nil, or_false] at hd
        rcases hd with rfl | rfl | rfl
        · exact ⟨_, rfl, .inl rfl⟩
        · exact ⟨_, rfl, .inr (.inl rfl)⟩
        · exact ⟨_, rfl, .inr (.inr rfl)⟩
      · rintro _ S3 ⟨v, rfl, hv⟩ d3 f3 s3
        refine R.Ok.of a_nil0 ⟨[.int z, .str v], rfl, show 2 ≤ line by decide, y ++ [(z, v)], by simp [prom, pairD], ?_, ?_, w2.sp l2 d3 f3 s3⟩
        · rw [take_snoc hz, List.map_append, hy]; rfl
        · intro p hp
          rcases List.mem_append.mp hp with hp | hp
          · exact hw p hp
          · rw [List.mem_singleton] at hp
            subst hp; exact hv
    · rintro done S'' ⟨y, rfl, hy, hw, w2⟩
      have e : (sortI keys).take (Src.xs ⟨li (sortI keys), []⟩).length = sortI keys := by simp [li]
      rw [e] at hy
      have hyl : y.length = (sortI keys).length := by rw [← hy, List.length_map]
      refine ⟨rfl, by simp only [List.length_map, line]; omega, _, l_tupL, _, ⟨y, ⟨⟨?_, by omega, ?_, fun p hp => word3_ok (hw p hp), by rw [hy]; exact sortI_asc hk.nd⟩, hw⟩, rfl⟩, rfl, w2.bh⟩
      · obtain ⟨r, hr⟩ := sort_head hk
        rw [hr] at hy
        cases y with
        | nil => simp at hy
        | cons a b =>
          simp only [List.map_cons, List.cons.injEq] at hy
          exact ⟨a.2, b, by rw [← hy.1]⟩
      · intro p hp
        have : p.1 ∈ sortI keys := by rw [← hy]; exact List.mem_map_of_mem hp
        exact hk.at_ _ (sortI_mem.mp this)
end Ap
set_option Elab.async false
set_option linter.all false
set_option maxRecDepth 100000
set_option maxHeartbeats 1000000
namespace Ap
open PySem (Str)
variable {T : Tb} {S S1 S2 S3 : Store} {ρ : Env} {Γ : Ctx} {n : Nat} {n0 : Nat} {P : Fl → Store → Prop}
/-- a week that a law drew -/
structure DrawnWk (w : Wk) : Prop where
  good : GoodWk w
  word : ∀ d ∈ w.days, ∀ p ∈ d, Word3 p.2
/-- a store with two more objects that a loop changes -/
structure Wt2 (S : Store) (o1 o2 : Obj) (S' : Store) : Prop where
  dr : Dr S'
  flt : Flt S'
  len : S'.length = S.length + 2
  at1 : S'[S.length]? = some o1
  at2 : S'[S.length + 1]? = some o2
  same : ∀ i, i < S.length → i ≠ 1 → S'[i]? = S[i]?
theorem Wt2.bh {o1 o2 : Obj} (w : Wt2 S o1 o2 S1) : Bh S S1 := ⟨w.dr, w.flt, by rw [w.len]; omega, fun i u hi h => by
  have := (List.getElem?_eq_some_iff.mp h).1
  rw [w.same i this hi]; exact h⟩
theorem Wt2.sp {o1 o2 : Obj} (w : Wt2 S o1 o2 S1) (l2 : 2 ≤ S.length) (d : Dr S2) (f : Flt S2) (s : Sp S1 S2) : Wt2 S o1 o2 S2 :=
  ⟨d, f, by rw [s.len, w.len], by rw [s.same _ (by omega)]; exact w.at1, by rw [s.same _ (by omega)]; exact w.at2, fun i hi h1 => by rw [s.same i h1]; exact w.same i hi h1⟩
theorem Wt2.set {o1 o2 u : Obj} (w : Wt2 S o1 o2 S1) (l2 : 2 ≤ S.length) (hu : u.mx = 0) : Wt2 S o1 u (S1.set (S.length + 1) u) :=
  ⟨dr_set w.dr (by omega), flt_set w.flt hu, by rw [List.length_set]; exact w.len, by rw [List.getElem?_set_ne (by omega)]; exact w.at1, by rw [List.getElem?_set_self (by rw [w.len]; omega)], fun i hi h1 => by
    rw [List.getElem?_set_ne (by omega)]; exact w.same i hi h1⟩
theorem Wt2.mk' {o1 o2 : Obj} (d : Dr S1) (f : Flt S1) (l : S1.length = S.length) (same : ∀ i, i < S.length → i ≠ 1 → S1[i]? = S[i]?) (h1 : o1.mx = 0) (h2 : o2.mx = 0) : Wt2 S o1 o2 (S1 ++ [o1] ++ [o2]) := by
  obtain ⟨d1, f1⟩ := bh_app d f h1
  obtain ⟨d2, f2⟩ := bh_app d1 f1 h2
  refine ⟨d2, f2, by simp [l], ?_, ?_, fun i hi h1 => ?_⟩
  · rw [List.append_assoc, ← l, List.getElem?_append_right (Nat.le_refl _)]; simp
  · rw [List.append_assoc, ← l, List.getElem?_append_right (by omega)]; simp
  · rw [List.append_assoc, List.getElem?_append_left (by omega)]; exact same i hi h1
theorem e_day (p : Pre T) (pw : PreW T) (pp : PreP T) (q : PreY T) {a b : Nat} (hd : Dr S) (hf : Flt S) (ha : ρ[a]? = some (some (.ref 0))) (hb : ρ[b]? = some (some (.ref 1))) {Q : TV → Store → Prop} (h : ∀ y S', DrawnDay y → Dr S' → Flt S' → Sp S S' → Q (vD (dayD y)) S') :
    (ev (T.ctx (callF T (n + 4))) (.call "_law_day" (.cons (.v a) (.cons (.v b) .nil)) .nil) ρ S).Ok Q :=
  e_rn (xs := [.ref 0, .ref 1]) hd (a_cons0 (e_v ha) (a_cons0 (e_v hb) a_nil0)) (law_day_ok p pw pp q hd hf) fun d S' ⟨y, hy, e⟩ d' f' s' => by subst e; exact h y S' hy d' f' s'
theorem good_wk {days : List Day} {keys : List Int} (h8 : days.length = 8) (hd : ∀ d ∈ days, DrawnDay d) (hk : Keys keys 20) : DrawnWk ⟨days, sortI keys⟩ :=
  ⟨good_week h8 (fun d h => (hd d h).good) hk, fun d h => (hd d h).word⟩
theorem law_week_ok (p : Pre T) (pw : PreW T) (pp : PreP T) (q : PreY T) (hd : Dr S) (hf : Flt S) : (callF T (n + 5) "_law_week" [.ref 0, .ref 1] S).Ok fun t S' => ∃ d, (∃ w, DrawnWk w ∧ d = Wk.toD w) ∧ t = vD d ∧ Bh S S' := by
  have l2 := dr_len hd
  refine cal_ok q.week rfl (s_cons (s_asO (by show 2 < 6; decide) (e_day p pw pp q hd hf rfl rfl fun y S1 hy d1 f1 s1 => nx ?_)))
  show (exs _ _ _ [some (.ref 0), some (.ref 1), some (.dat (dayD y)), none, none, none] S1).Ok _
  refine s_cons (s_asO (by show 3 < 6; decide) (e_lc (i_r1 (n := 8) e_c (okR_nat (by decide) (by decide))) (fun i done S' => ∃ days : List Day, done = (days.map dayD).map .dat ∧ days.length = i ∧ (∀ d ∈ days, DrawnDay d) ∧ Dr S' ∧ Flt S' ∧ Sp S1 S') ⟨[], rfl, rfl, by simp, d1, f1, Sp.refl⟩ ?_ ?_))
  · rintro i x done S' hx ⟨days, rfl, hl, hg, d2, f2, s2⟩
    refine ⟨rfl, [some (.ref 0), some (.ref 1), some (.dat (dayD y)), none, none, some x], rfl, ?_⟩
    · refine o_ife (o_cmp (e_take (n := n + 2) p d2 rfl rfl e_c (by decide) fun r S3 _ _ d3 s3 => R.Ok.of e_c ⟨_, c_eq, ?_⟩))
      have f3 := flt_sp f2 d3 s3
      split
      · exact R.Ok.of (e_v rfl) ⟨days ++ [y], by simp [prom], by simp [hl], fun d hd => by
          rcases List.mem_append.mp hd with h | h
          · exact hg d h
          · rw [List.mem_singleton] at h; subst h; exact hy, d3, f3, s2.trans s3⟩
      · refine e_day p pw pp q d3 f3 rfl rfl fun y2 S4 hy2 d4 f4 s4 => ?_
        exact ⟨days ++ [y2], by simp [prom], by simp [hl], fun d hd => by
          rcases List.mem_append.mp hd with h | h
          · exact hg d h
          · rw [List.mem_singleton] at h; subst h; exact hy2, d4, f4, (s2.trans s3).trans s4⟩
  · rintro done S2 ⟨days, rfl, hl, hg, d2, f2, s2⟩
    have h8 : days.length = 8 := by rw [hl]; exact upto_ln _ _
    refine ⟨rfl, by simp only [List.length_map, h8, line]; decide, nx ?_⟩
    have l1 : S2.length = S.length := (s1.trans s2).len
    have w0 : Wt2 S (.lst ((days.map dayD).map .dat)) (.dct []) (S2 ++ [.lst ((days.map dayD).map .dat)] ++ [.dct []]) :=
      Wt2.mk' d2 f2 l1 (fun i hi h1 => (s1.trans s2).same i h1) (lst_mx _) rfl
    refine s_cons (s_asO (by show 4 < 6; decide) (R.Ok.of e_dct0 (nx ?_)))
    show (exs _ _ _ [some (.ref 0), some (.ref 1), some (.dat (dayD y)), some (.ref S2.length), some (.ref (S2 ++ [Obj.lst ((days.map dayD).map .dat)]).length), none] (S2 ++ [.lst ((days.map dayD).map .dat)] ++ [.dct []])).Ok _
    rw [show (S2 ++ [Obj.lst ((days.map dayD).map .dat)]).length = S.length + 1 by simp [l1], l1]
    obtain ⟨src, S5, e5, rr, r0, r1, d5, s5, rfl⟩ := (i_rgO (Γ := T.ctx (callF T (n + 4))) (ρ := [some (.ref 0), some (.ref 1), some (.dat (dayD y)), some (.ref S.length), some (.ref (S.length + 1)), none]) (Q := fun src S5 => ∃ rr : Int, 0 ≤ rr ∧ rr < 4 ∧ Dr S5 ∧ Sp _ S5 ∧ src = ⟨upto 0 rr.toNat, []⟩) (e_take (n := n + 2) (a := 0) (b := 1) p w0.dr rfl rfl e_c (by decide) fun rr S5 r0 r1 d5 s5 => ⟨_, rfl, okR_nat r0 (by omega), rr, r0, r1, d5, s5, rfl⟩)).eq
    have w5 := w0.sp l2 d5 (flt_sp w0.flt d5 s5) s5
    refine s_cons (s_for (P := flNext _ _) e5 (fun i ρ S' => ∃ x5 keys, ρ = [some (.ref 0), some (.ref 1), some (.dat (dayD y)), some (.ref S.length), some (.ref (S.length + 1)), x5] ∧ Wt2 S (.lst ((days.map dayD).map .dat)) (.dct (kd keys)) S' ∧ Keys keys i) ?_ ?_ ?_)
    · exact ⟨none, [], rfl, w5, ⟨List.nodup_nil, by simp, Nat.le_refl _⟩⟩
    · rintro i x ρ S' hx ⟨x5, keys, rfl, w, hk⟩
      rw [upto_at] at hx
      split at hx
      · cases hx
        refine ⟨rfl, _, rfl, s_cons (s_ixD (a := S.length + 1) (x := .bl true) e_c (e_v rfl) ?_)⟩
        refine e_pick (n := n + 1) p pp (fun d => ∃ k : Int, d = .int k ∧ 0 ≤ k ∧ k ≤ 1000) rfl rfl (a_consO (R.Ok.of e_c (a_consO (R.Ok.of e_c (a_consO (R.Ok.of e_c (a_consO (R.Ok.of e_c (a_consO (R.Ok.of e_c (a_consO (R.Ok.of e_c (a_consO ?_))))))))))))) ?_
        · refine e_take (n := n + 2) p w.dr rfl rfl e_c (by decide) fun r3 S3 c0 c1 d3 s3 => R.Ok.of a_nil0 ⟨[.int 0, .int 1, .int 2, .int 6, .int 7, .int 1000, .int r3], rfl, by simp, show 7 ≤ line by decide, ?_, d3, flt_sp w.flt d3 s3, s3⟩
          intro d hd
          simp only [List.mem_cons, List.not_mem_nil, or_false] at hd
          rcases hd with rfl | rfl | rfl | rfl | rfl | rfl | rfl <;> exact ⟨_, rfl, by omega, by omega⟩
        · rintro _ S7 ⟨k, rfl, k0, k1⟩ d7 f7 s7
          have w7 := w.sp l2 d7 f7 s7
          have hkl := hk.len
          have hi : i < 4 := by omega
          refine ⟨k, _, rfl, w7.at2, by rw [kd_len]; simp only [line]; omega, nx (s_nil ?_)⟩
          rw [kd_put]
          exact ⟨_, _, rfl, w7.set l2 (kd_mx _), hk.add k0 k1⟩
      · cases hx
    · rintro ρ S' ⟨x5, keys, rfl, w, hk⟩
      rw [upto_ln] at hk
      have hkl := hk.len
      refine ⟨rfl, nx (s_cons (s_ret (e_tupD (ds := [.tup (days.map dayD), .tup ((sortI keys).map .int)]) (a_cons0 (e_bi1 (e_v rfl) (l_tupR w.at1)) (a_cons0 (e_bi1 (e_bi1 (e_v rfl) (l_sortK w.at2 (by omega))) ?_) a_nil0)) (show 2 ≤ line by decide)) ⟨_, ⟨⟨days, sortI keys⟩, good_wk h8 hg (hk.up (by omega)), rfl⟩, rfl, w.bh⟩))⟩
      rw [← map_li]; exact l_tupL
end Ap
set_option Elab.async false
set_option linter.all false
set_option maxRecDepth 100000
set_option maxHeartbeats 1000000
namespace Ap
open PySem (Str)
/-! ### plain: seconds of a word up to a second -/
def wsum (v : Str) (l : List Part) : Int := ((l.filter fun q => decide (q.2.2 = v)).map fun q => q.2.1 - q.1).sum
def gIn (x : Int) (q : Part) : Int := min x q.2.1 - min x q.1
def gsum (v : Str) (x : Int) (l : List Part) : Int := ((l.filter fun q => decide (q.2.2 = v)).map (gIn x)).sum
def dayIn (w : Wk) (v : Str) (x : Int) (k : Int) : Int := gsum v x (dayParts k (w.row k))
def up (w : Wk) (v : Str) (x : Int) : Nat → Int
  | 0 => 0
  | n + 1 => up w v x n + dayIn w v x n
def upIn (w : Wk) (v : Str) (x : Int) : Int := up w v x 1200
theorem wsum_nil (v : Str) : wsum v [] = 0 := rfl
theorem wsum_app (v : Str) (l m : List Part) : wsum v (l ++ m) = wsum v l + wsum v m := by simp [wsum]
theorem wsum_cons (v : Str) (q : Part) (l : List Part) : wsum v (q :: l) = (if q.2.2 = v then q.2.1 - q.1 else 0) + wsum v l := by
  unfold wsum
  by_cases h : q.2.2 = v
  · simp [List.filter_cons, h]
  · simp [List.filter_cons, h]
theorem gsum_cons (v : Str) (x : Int) (q : Part) (l : List Part) : gsum v x (q :: l) = (if q.2.2 = v then gIn x q else 0) + gsum v x l := by
  unfold gsum
  by_cases h : q.2.2 = v
  · simp [List.filter_cons, h]
  · simp [List.filter_cons, h]
theorem wsum_clip {b e : Int} (h : b ≤ e) (v : Str) (q : Part) (hq : q.1 ≤ q.2.1) : wsum v (clip b e q).toList = if q.2.2 = v then gIn e q - gIn b q else 0 := by
  unfold clip
  by_cases hc : later b q.1 < sooner e q.2.1
  · rw [if_pos hc]
    show wsum v [_] = _
    rw [wsum_cons, wsum_nil]
    dsimp only
    split
    · unfold gIn
      simp only [later_max, sooner_min] at hc ⊢
      omega
    · rfl
  · rw [if_neg hc]
    show wsum v [] = _
    rw [wsum_nil]
    split
    · unfold gIn
      simp only [later_max, sooner_min] at hc ⊢
      omega
    · rfl
theorem wsum_cut {b e : Int} (h : b ≤ e) (v : Str) : ∀ (l : List Part), (∀ q ∈ l, q.1 ≤ q.2.1) → wsum v (l.filterMap (clip b e)) = gsum v e l - gsum v b l
  | [], _ => rfl
  | q :: r, hq => by
    have ih := wsum_cut h v r fun x hx => hq x (List.mem_cons_of_mem _ hx)
    have e1 : (q :: r).filterMap (clip b e) = (clip b e q).toList ++ r.filterMap (clip b e) := by
      rw [List.filterMap_cons]
      cases clip b e q <;> rfl
    rw [e1, wsum_app, ih, wsum_clip h v q (hq q (by simp)), gsum_cons, gsum_cons]
    split <;> omega
theorem chain_in : ∀ {l : List Part} {a z : Int}, Chain a z l → a ≤ z ∧ ∀ q ∈ l, a ≤ q.1 ∧ q.1 ≤ q.2.1 ∧ q.2.1 ≤ z
  | [], a, z, h => ⟨by cases (show a = z from h); omega, by simp⟩
  | q :: r, a, z, ⟨h1, h2, h3⟩ => by
    obtain ⟨i1, i2⟩ := chain_in h3
    refine ⟨by omega, fun x hx => ?_⟩
    rcases List.mem_cons.mp hx with rfl | hx
    · exact ⟨by omega, by omega, i1⟩
    · have := i2 x hx
      exact ⟨by omega, this.2.1, this.2.2⟩
theorem day_in {w : Wk} (hw : GoodWk w) {k : Int} {q : Part} (h : q ∈ dayParts k (w.row k)) : k * 86400 ≤ q.1 ∧ q.1 ≤ q.2.1 ∧ q.2.1 ≤ k * 86400 + 86400 := (chain_in (day_chain (row_good hw k) k)).2 q h
theorem gsum_same {v : Str} {x y : Int} : ∀ (l : List Part), (∀ q ∈ l, gIn x q = gIn y q) → gsum v x l = gsum v y l
  | [], _ => rfl
  | q :: r, h => by
    rw [gsum_cons, gsum_cons, gsum_same r fun a ha => h a (List.mem_cons_of_mem _ ha), h q (by simp)]
theorem dayIn_lo {w : Wk} (hw : GoodWk w) {v : Str} {k x y : Int} (hx : k * 86400 + 86400 ≤ x) (hy : k * 86400 + 86400 ≤ y) : dayIn w v x k = dayIn w v y k := by
  refine gsum_same _ fun q hq => ?_
  have := day_in hw hq
  unfold gIn; omega
theorem dayIn_hi {w : Wk} (hw : GoodWk w) {v : Str} {k x y : Int} (hx : x ≤ k * 86400) (hy : y ≤ k * 86400) : dayIn w v x k = dayIn w v y k := by
  refine gsum_same _ fun q hq => ?_
  have := day_in hw hq
  unfold gIn; omega
theorem acc_wsum {w : Wk} (hw : GoodWk w) {b e : Int} (h : b ≤ e) (hb : 0 ≤ b) (v : Str) : ∀ i : Nat, wsum v (accOf w b e i) = (up w v e ((b / 86400).toNat + i) - up w v b ((b / 86400).toNat + i))
  | 0 => by
    have go : ∀ m : Nat, m ≤ (b / 86400).toNat → up w v e m = up w v b m := by
      intro m
      induction m with
      | zero => intro _; rfl
      | succ m ih =>
        intro hm
        simp only [up]
        rw [ih (by omega), dayIn_lo hw (x := e) (y := b) (by omega) (by omega)]
    rw [Nat.add_zero, go _ (Nat.le_refl _)]
    show wsum v [] = _
    rw [wsum_nil]; omega
  | i + 1 => by
    have ih := acc_wsum hw h hb v i
    rw [acc_succ, wsum_app, ih]
    unfold dayCut
    rw [wsum_cut h v _ fun q hq => (day_in hw hq).2.1]
    show _ = up w v e (((b / 86400).toNat + i) + 1) - up w v b (((b / 86400).toNat + i) + 1)
    simp only [up]
    have : (((b / 86400).toNat + i : Nat) : Int) = b / 86400 + (i : Int) := by omega
    rw [this]
    unfold dayIn
    omega
theorem secs_up {w : Wk} (hw : GoodWk w) {b e : Int} (hb : 0 ≤ b) (h : b ≤ e) (he : e ≤ 100000000) (v : Str) : secsOf w b e v = upIn w v e - upIn w v b := by
  show wsum v (partsOf w b e) = _
  unfold partsOf
  rw [acc_wsum hw h hb v]
  generalize hN : (b / 86400).toNat + ((e - 1) / 86400 + 1 - b / 86400).toNat = N
  have h1 : N ≤ 1200 := by omega
  have h2 : e ≤ N * 86400 := by omega
  have go : ∀ m : Nat, up w v e (N + m) - up w v b (N + m) = up w v e N - up w v b N := by
    intro m
    induction m with
    | zero => rfl
    | succ m ih =>
      show up w v e ((N + m) + 1) - up w v b ((N + m) + 1) = _
      simp only [up]
      rw [← ih, dayIn_hi hw (x := e) (y := b) (k := ((N + m : Nat) : Int)) (by omega) (by omega)]
      omega
  have := go (1200 - N)
  rw [show N + (1200 - N) = 1200 by omega] at this
  exact this.symm
theorem secs_add {w : Wk} (hw : GoodWk w) {b m e : Int} (hb : 0 ≤ b) (h1 : b ≤ m) (h2 : m ≤ e) (he : e ≤ 100000000) (v : Str) : secsOf w b m v + secsOf w m e v = secsOf w b e v := by
  rw [secs_up hw hb h1 (by omega), secs_up hw (by omega) h2 he, secs_up hw hb (by omega) he]; omega
theorem secs_none (w : Wk) {b e : Int} (h : e ≤ b) (v : Str) : secsOf w b e v = 0 := by
  have hc : ∀ q, clip b e q = none := fun q => by
    unfold clip
    refine if_neg ?_
    simp only [later_max, sooner_min]; omega
  have : ∀ i, accOf w b e i = [] := by
    intro i
    induction i with
    | zero => rfl
    | succ i ih =>
      rw [acc_succ, ih, List.nil_append]
      unfold dayCut
      exact List.filterMap_eq_nil_iff.mpr fun q _ => hc q
  show wsum v (partsOf w b e) = 0
  unfold partsOf
  rw [this]; rfl
/-- parts inside one part of a day -/
theorem part_word {w : Wk} (hw : GoodWk w) {s x : Int} {j : Nat} {p : Int × Str} {e : Int} (hp : (w.row (s / 86400))[j]? = some p) (he : (dayEnds (w.row (s / 86400)))[j]? = some e) (h1 : p.1 ≤ s - s / 86400 * 86400) (h2 : x ≤ s / 86400 * 86400 + e) {q : Part} (hq : q ∈ partsOf w s x) : q.2.2 = p.2 := by
  have hd := row_good hw (s / 86400)
  have hne : w.row (s / 86400) ≠ [] := by intro h; rw [h] at hp; simp at hp
  have hez : e ≤ 86400 := by
    rcases end_next he hne with ⟨p2, hp2, rfl⟩ | ⟨_, rfl⟩
    · have := hd.at_ p2 (List.mem_of_getElem? hp2)
      omega
    · omega
  unfold partsOf at hq
  obtain ⟨i0, hi0, q0, hq0, hc⟩ := acc_mem hq
  obtain ⟨j0, hj0⟩ := List.getElem?_of_mem hq0
  obtain ⟨p0, e0, g1, g2, rfl⟩ := parts_at hj0
  have gp0 := (row_good hw (s / 86400 + i0)).at_ p0 (List.mem_of_getElem? g1)
  unfold clip at hc
  split at hc
  · rename_i hlt
    simp only [later_max, sooner_min] at hlt
    have eq2 : q.2.2 = p0.2 := by cases hc; rfl
    rw [eq2]
    have i00 : i0 = 0 := by omega
    subst i00
    simp only [Int.natCast_zero, Int.add_zero] at g1 g2 hlt gp0
    have a1 : lawBand (w.row (s / 86400)) (max s (s / 86400 * 86400 + p0.1) - s / 86400 * 86400) = .str p0.2 := lawBand_row hd g1 g2 (by omega) (by omega)
    have a2 : lawBand (w.row (s / 86400)) (max s (s / 86400 * 86400 + p0.1) - s / 86400 * 86400) = .str p.2 := lawBand_row hd hp he (by omega) (by omega)
    rw [a1] at a2
    exact D.str.inj a2
  · cases hc
theorem wsum_all {v u : Str} : ∀ (l : List Part), (∀ q ∈ l, q.2.2 = u) → wsum v l = if u = v then lens l else 0
  | [], _ => by
    show 0 = if u = v then 0 else 0
    split <;> rfl
  | q :: r, h => by
    rw [wsum_cons, wsum_all r fun x hx => h x (List.mem_cons_of_mem _ hx), h q (by simp)]
    have : lens (q :: r) = q.2.1 - q.1 + lens r := by simp [lens]
    rw [this]
    split <;> omega
theorem secs_word {w : Wk} (hw : GoodWk w) {s x : Int} {j : Nat} {p : Int × Str} {e : Int} (hp : (w.row (s / 86400))[j]? = some p) (he : (dayEnds (w.row (s / 86400)))[j]? = some e) (h1 : p.1 ≤ s - s / 86400 * 86400) (hs : s < x) (h2 : x ≤ s / 86400 * 86400 + e) (v : Str) : secsOf w s x v = if p.2 = v then x - s else 0 := by
  show wsum v (partsOf w s x) = _
  rw [wsum_all _ fun q hq => part_word hw hp he h1 h2 hq, parts_lens hw hs]
/-! ### words -/
theorem row_word {w : Wk} (hw : DrawnWk w) {k : Int} {p : Int × Str} (h : p ∈ w.row k) : Word3 p.2 := hw.word _ (List.mem_of_getElem? (row_at hw.good k)) p h
theorem parts_word3 {w : Wk} (hw : DrawnWk w) {b e : Int} {q : Part} (hq : q ∈ partsOf w b e) : Word3 q.2.2 := by
  unfold partsOf at hq
  obtain ⟨i0, _, q0, hq0, hc⟩ := acc_mem hq
  obtain ⟨j0, hj0⟩ := List.getElem?_of_mem hq0
  obtain ⟨p0, e0, g1, _, rfl⟩ := parts_at hj0
  unfold clip at hc
  split at hc
  · have eq2 : q.2.2 = p0.2 := by cases hc; rfl
    rw [eq2]
    exact row_word hw (List.mem_of_getElem? g1)
  · cases hc
theorem wsum_three : ∀ (l : List Part), (∀ q ∈ l, Word3 q.2.2) → wsum "low" l + wsum "high" l + wsum "mid" l = lens l ∧ wsum "none" l = 0
  | [], _ => ⟨rfl, rfl⟩
  | q :: r, h => by
    obtain ⟨i1, i2⟩ := wsum_three r fun x hx => h x (List.mem_cons_of_mem _ hx)
    have : lens (q :: r) = q.2.1 - q.1 + lens r := by simp [lens]
    rw [wsum_cons, wsum_cons, wsum_cons, wsum_cons, this]
    have n1 : ("low" : Str) ≠ "high" := by decide +kernel
    have n2 : ("low" : Str) ≠ "mid" := by decide +kernel
    have n3 : ("high" : Str) ≠ "mid" := by decide +kernel
    have n4 : ("low" : Str) ≠ "none" := by decide +kernel
    have n5 : ("high" : Str) ≠ "none" := by decide +kernel
    have n6 : ("mid" : Str) ≠ "none" := by decide +kernel
    rcases h q (by simp) with e | e | e
    · rw [e, if_pos rfl, if_neg n1, if_neg n2, if_neg n4]; omega
    · rw [e, if_pos rfl, if_neg n1.symm, if_neg n3, if_neg n5]; omega
    · rw [e, if_pos rfl, if_neg n2.symm, if_neg n3.symm, if_neg n6]; omega
theorem secs_sum {w : Wk} (hw : DrawnWk w) {b e : Int} (h : b ≤ e) : secsOf w b e "low" + secsOf w b e "high" + secsOf w b e "mid" + secsOf w b e "none" = e - b := by
  by_cases hlt : b < e
  · obtain ⟨i1, i2⟩ := wsum_three (partsOf w b e) fun q hq => parts_word3 hw hq
    have := parts_lens hw.good hlt
    show wsum "low" _ + wsum "high" _ + wsum "mid" _ + wsum "none" _ = _
    omega
  · have : e ≤ b := by omega
    rw [secs_none w this, secs_none w this, secs_none w this, secs_none w this]; omega
end Ap
set_option Elab.async false
set_option linter.all false
set_option maxRecDepth 100000
set_option maxHeartbeats 1000000
namespace Ap
open PySem (Str)
/-! ### plain: where the next part begins -/
theorem minI_spec : ∀ {l : List Int} {z : Int}, minI l = some z → z ∈ l ∧ ∀ x ∈ l, z ≤ x
  | [], z, h => by cases h
  | a :: r, z, h => by
    have go : ∀ (r : List Int) (m : Int), (r.foldl (fun m x => if x < m then x else m) m ∈ m :: r) ∧ (∀ x ∈ m :: r, r.foldl (fun m x => if x < m then x else m) m ≤ x) := by
      intro r
      induction r with
      | nil => intro m; simp
      | cons b r ih =>
        intro m
        rw [List.foldl_cons]
        obtain ⟨h1, h2⟩ := ih (if b < m then b else m)
        constructor
        · rcases List.mem_cons.mp h1 with e | e
          · rw [e]; split <;> simp
          · exact List.mem_cons_of_mem _ (List.mem_cons_of_mem _ e)
        · intro x hx
          have hm := h2 (if b < m then b else m) (by simp)
          rcases List.mem_cons.mp hx with rfl | hx
          · refine Int.le_trans hm ?_
            split <;> omega
          · rcases List.mem_cons.mp hx with rfl | hx
            · refine Int.le_trans hm ?_
              split <;> omega
            · exact h2 x (List.mem_cons_of_mem _ hx)
    simp only [minI, Option.some.injEq] at h
    subst h
    exact go r a
theorem minI_some {l : List Int} (h : l ≠ []) : ∃ z, minI l = some z := by
  cases l with
  | nil => exact absurd rfl h
  | cons a r => exact ⟨_, rfl⟩
theorem filter_lt {α : Type} {p q : α → Bool} : ∀ {l : List α}, (∀ a ∈ l, p a = true → q a = true) → (∃ a ∈ l, q a = true ∧ p a = false) → (l.filter p).length < (l.filter q).length
  | [], _, h => by obtain ⟨a, h, _⟩ := h; cases h
  | b :: r, h, hx => by
    have le : ∀ r : List α, (∀ a ∈ r, p a = true → q a = true) → (r.filter p).length ≤ (r.filter q).length := by
      intro r
      induction r with
      | nil => intro _; exact Nat.le_refl _
      | cons c r ih =>
        intro h
        have := ih fun a ha => h a (List.mem_cons_of_mem _ ha)
        have hc := h c (by simp)
        rw [List.filter_cons, List.filter_cons]
        cases hp : p c <;> cases hq : q c <;> simp_all <;> omega
    obtain ⟨a, ha, h1, h2⟩ := hx
    rw [List.filter_cons, List.filter_cons]
    rcases List.mem_cons.mp ha with rfl | ha
    · rw [if_neg (by simp [h2]), if_pos h1]
      have := le r fun a ha => h a (List.mem_cons_of_mem _ ha)
      simp only [List.length_cons]; omega
    · have ih := filter_lt (l := r) (fun a ha => h a (List.mem_cons_of_mem _ ha)) ⟨a, ha, h1, h2⟩
      have hc := h b (by simp)
      cases hp : p b <;> cases hq : q b <;> simp_all <;> omega
def rk (w : Wk) (s : Int) : Nat := 9 * (s / 86400).toNat + ((w.row (s / 86400)).filter fun p => decide (p.1 ≤ s - s / 86400 * 86400)).length
theorem rk_lo {w : Wk} (hw : GoodWk w) (s : Int) : 9 * (s / 86400).toNat + 1 ≤ rk w s := by
  obtain ⟨x, r, hr⟩ := (row_good hw (s / 86400)).first
  have : 0 < ((w.row (s / 86400)).filter fun p => decide (p.1 ≤ s - s / 86400 * 86400)).length := by
    rw [List.length_pos_iff_exists_mem]
    refine ⟨(0, x), List.mem_filter.mpr ⟨by rw [hr]; simp, decide_eq_true (by show (0 : Int) ≤ _; omega)⟩⟩
  unfold rk; omega
theorem rk_hi {w : Wk} (hw : GoodWk w) (s : Int) : rk w s ≤ 9 * (s / 86400).toNat + 8 := by
  have h1 := (row_good hw (s / 86400)).most
  have h2 := List.length_filter_le (fun p : Int × Str => decide (p.1 ≤ s - s / 86400 * 86400)) (w.row (s / 86400))
  unfold rk; omega
/-- where the parts of the law may end -/
def endsL (w : Wk) (s : Int) : List Int := (w.row (s / 86400)).map (fun p => s / 86400 * 86400 + p.1) ++ [(s / 86400 + 1) * 86400]
theorem part_step {w : Wk} (hw : GoodWk w) {s last : Int} (h0 : 0 ≤ s) (h1 : s < last) : ∃ z v, minI ((endsL w s).filter (fun x => decide (s < x)) ++ [last]) = some z ∧ lawBand (w.row (s / 86400)) (s - s / 86400 * 86400) = .str v ∧ s < z ∧ z ≤ last ∧ (∀ u, secsOf w s z u = if v = u then z - s else 0) ∧ (z = last ∨ rk w s < rk w z) := by
  have hd := row_good hw (s / 86400)
  obtain ⟨j, p, e, hp, he, q1, q2⟩ := row_of hd (o := s - s / 86400 * 86400) (by omega) (by omega)
  have hne : w.row (s / 86400) ≠ [] := by intro h; rw [h] at hp; simp at hp
  obtain ⟨z, hz⟩ := minI_some (l := (endsL w s).filter (fun x => decide (s < x)) ++ [last]) (by simp)
  obtain ⟨hm, hle⟩ := minI_spec hz
  have hzl : z ≤ last := hle last (by simp)
  have hem : s / 86400 * 86400 + e ∈ endsL w s := by
    unfold endsL
    rcases end_next he hne with ⟨p', hp', rfl⟩ | ⟨_, rfl⟩
    · exact List.mem_append_left _ (List.mem_map.mpr ⟨p', List.mem_of_getElem? hp', rfl⟩)
    · refine List.mem_append_right _ ?_
      rw [List.mem_singleton]; omega
  have hze : z ≤ s / 86400 * 86400 + e := hle _ (List.mem_append_left _ (List.mem_filter.mpr ⟨hem, decide_eq_true (by omega)⟩))
  have hsz : s < z := by
    rcases List.mem_append.mp hm with h | h
    · exact of_decide_eq_true (List.mem_filter.mp h).2
    · rw [List.mem_singleton] at h; omega
  refine ⟨z, p.2, hz, lawBand_row hd hp he q1 q2, hsz, hzl, fun u => secs_word hw hp he q1 hsz hze u, ?_⟩
  rcases List.mem_append.mp hm with h | h
  · right
    have h := (List.mem_filter.mp h).1
    unfold endsL at h
    rcases List.mem_append.mp h with h | h
    · obtain ⟨p', hp', e1⟩ := List.mem_map.mp h
      have a1 := hd.at_ p' hp'
      have ek : z / 86400 = s / 86400 := by omega
      unfold rk
      rw [ek]
      have := filter_lt (l := w.row (s / 86400)) (p := fun p => decide (p.1 ≤ s - s / 86400 * 86400)) (q := fun p => decide (p.1 ≤ z - s / 86400 * 86400)) (fun a _ h => decide_eq_true (by have := of_decide_eq_true h; omega)) ⟨p', hp', decide_eq_true (by omega), decide_eq_false (by omega)⟩
      omega
    · rw [List.mem_singleton] at h
      have ek : z / 86400 = s / 86400 + 1 := by omega
      have := rk_lo hw z
      have := rk_hi hw s
      rw [ek] at *
      omega
  · left; rw [List.mem_singleton] at h; exact h
end Ap
set_option Elab.async false
set_option linter.all false
set_option maxRecDepth 100000
set_option maxHeartbeats 1000000
namespace Ap
open PySem (Str)
variable {T : Tb} {S S1 S2 S3 : Store} {ρ : Env} {Γ : Ctx} {n : Nat} {n0 : Nat} {P : Fl → Store → Prop}
/-! ### plain: bands at and ahead of a change -/
theorem end_gt {d : Day} (hd : GoodDay d) {j : Nat} {p : Int × Str} (hp : d[j]? = some p) : ∃ e, (dayEnds d)[j]? = some e ∧ p.1 < e := by
  have hj := (List.getElem?_eq_some_iff.mp hp).1
  have hl : (dayEnds d).length = d.length := by
    unfold dayEnds
    simp only [List.length_append, List.length_map, List.length_drop, List.length_singleton]
    omega
  have he : j < (dayEnds d).length := by omega
  refine ⟨(dayEnds d)[j], List.getElem?_eq_getElem he, ?_⟩
  have hne : d ≠ [] := by rintro rfl; simp at hp
  rcases end_next (List.getElem?_eq_getElem he) hne with ⟨p', hp', e1⟩ | ⟨hn, e1⟩
  · rw [e1]
    exact starts_lt hd hp hp' (by omega)
  · rw [e1]
    have := (hd.at_ p (List.mem_of_getElem? hp)).2
    omega
theorem band_new {w : Wk} (hw : GoodWk w) {s a : Int} {v : Str} {N : Nat} (h : LChange w s v N (.int a)) (hs : 0 ≤ s) : ∃ u, lawBand (w.row (a / 86400)) (a - a / 86400 * 86400) = .str u ∧ u ≠ v := by
  rcases h with ⟨i, j, p, hi, hp, hh, _, _, hat⟩ | ⟨_, hat⟩
  · have ea : a = (s / 86400 + i) * 86400 + p.1 := D.int.inj hat
    have hd := row_good hw (s / 86400 + i)
    have hr := hd.at_ p (List.mem_of_getElem? hp)
    have hk : a / 86400 = s / 86400 + i := by omega
    obtain ⟨e, he, hpe⟩ := end_gt hd hp
    rw [hk]
    refine ⟨p.2, lawBand_row hd hp he (by omega) (by omega), ?_⟩
    unfold hitL at hh
    simp only [Bool.and_eq_true, Bool.not_eq_true', decide_eq_false_iff_not] at hh
    exact hh.2
  · cases hat
theorem band_old {w : Wk} (hw : GoodWk w) {s a t : Int} {v : Str} {N : Nat} (hv : lawBand (w.row (s / 86400)) (s - s / 86400 * 86400) = .str v) (h : LChange w s v N (.int a)) (hs : 0 ≤ s) (h1 : s ≤ t) (h2 : t < a) (ha : a ≤ 100000000) : lawBand (w.row (t / 86400)) (t - t / 86400 * 86400) = .str v := by
  have hd := row_good hw (t / 86400)
  obtain ⟨j, p, e, hp, he, q1, q2⟩ := row_of hd (o := t - t / 86400 * 86400) (by omega) (by omega)
  have hb : ∀ o, p.1 ≤ o → o < e → lawBand (w.row (t / 86400)) o = .str p.2 := fun o => lawBand_row hd hp he
  rw [hb _ q1 q2]
  have hr := hd.at_ p (List.mem_of_getElem? hp)
  by_cases hc : t / 86400 * 86400 + p.1 ≤ s
  · have hk : s / 86400 = t / 86400 := by omega
    rw [hk, hb _ (by omega) (by omega)] at hv
    exact hv
  · have hne : p.2 = v := by
      rcases h with ⟨i, j', p', hi, hp', hh', hd', ht', hat⟩ | ⟨_, hat⟩
      · have ea : a = (s / 86400 + i) * 86400 + p'.1 := D.int.inj hat
        have hr' := (row_good hw (s / 86400 + i)).at_ p' (List.mem_of_getElem? hp')
        obtain ⟨m, hm⟩ : ∃ m : Nat, t / 86400 = s / 86400 + m := ⟨(t / 86400 - s / 86400).toNat, by omega⟩
        have hnot : hitL s (s / 86400 + m) v p = false := by
          by_cases hmi : m < i
          · refine hd' m hmi p ?_
            rw [← hm]
            exact List.mem_of_getElem? hp
          · have e : m = i := by omega
            subst e
            rw [hm] at hp
            refine ht' p ?_
            by_cases hjj : j < j'
            · exact mem_take_of hp hjj
            · exfalso
              rcases Nat.eq_or_lt_of_le (Nat.le_of_not_lt hjj) with q | q
              · subst q
                rw [hp'] at hp; cases hp; omega
              · have := starts_lt (row_good hw (s / 86400 + m)) hp' hp q
                omega
        unfold hitL at hnot
        rw [← hm, decide_eq_true (show s < t / 86400 * 86400 + p.1 by omega), decide_eq_true (show t / 86400 * 86400 + p.1 ≤ 100000000 by omega)] at hnot
        simpa using hnot
      · cases hat
    rw [hne]
theorem change_last {w : Wk} {v : Str} {N : Nat} {d : D} (h : Change w 100000000 v N d) : d = .non := by
  rcases h with ⟨_, _, q, _, _, hh, _, _, rfl⟩ | ⟨_, rfl⟩
  · unfold hit at hh
    simp only [Bool.and_eq_true, decide_eq_true_eq] at hh
    unfold changeD
    rw [if_neg (by omega)]
  · rfl
/-! ### spoilt weeks -/
theorem sms_of : ∀ {ds : List D}, (∀ d ∈ ds, d.sm = true) → D.sms ds = true
  | [], _ => rfl
  | d :: ds, h => by rw [D.sms, h d (by simp), sms_of fun e he => h e (by simp [he])]; rfl
theorem dayD_sm {d : Day} (h : GoodDay d) : (dayD d).sm = true := by
  rw [dayD_eq, D.sm]
  refine sms_of fun x hx => ?_
  obtain ⟨p, hp, rfl⟩ := List.mem_map.mp hx
  have := word_len (h.word p hp)
  show (true && (decide (p.2.length ≤ line) && true)) = true
  rw [decide_eq_true (show p.2.length ≤ line by unfold line; omega)]; rfl
theorem wk_sm {w : Wk} (h : GoodWk w) : w.toD.sm = true := by
  have h1 : D.sms (w.days.map dayD) = true := sms_of fun x hx => by
    obtain ⟨d, hd, rfl⟩ := List.mem_map.mp hx
    exact dayD_sm (h.day d hd)
  have h2 : D.sms (w.feasts.map .int) = true := sms_of fun x hx => by
    obtain ⟨i, _, rfl⟩ := List.mem_map.mp hx
    rfl
  simp only [Wk.toD, D.sm, D.sms, h1, h2, Bool.and_self]
def spoilt (w : Wk) : List D := [.non, .int 7, .tup [.tup (w.days.map dayD)], .tup [.tup ((w.days.take 7).map dayD), .tup (w.feasts.map .int)]]
theorem spoilt_ok {w : Wk} (h : GoodWk w) {d : D} (hd : d ∈ spoilt w) : Nice d 5 ∧ shapeB d = false := by
  have h8 := h.eight
  have h20 := h.few
  have e1 : ∀ {l : List Day}, (∀ d ∈ l, d ∈ w.days) → D.depths (l.map dayD) ≤ 2 := fun hl => depths_le fun x hx => by
    obtain ⟨p, _, rfl⟩ := List.mem_map.mp hx
    exact dayD_depth p
  have e2 : D.depths (w.feasts.map .int) = 0 := Nat.le_zero.mp (depths_le fun x hx => by
    obtain ⟨i, _, rfl⟩ := List.mem_map.mp hx
    exact Nat.le_refl _)
  have f1 : ∀ {l : List Day}, (∀ d ∈ l, d ∈ w.days) → D.fitss (l.map dayD) = true := fun hl => fitss_of fun x hx => by
    obtain ⟨p, hp, rfl⟩ := List.mem_map.mp hx
    have hg := h.day p (hl p hp)
    have := hg.most
    rw [dayD_eq]
    refine fits_tup (by simp only [List.length_map, line]; omega) fun y hy => ?_
    obtain ⟨q, _, rfl⟩ := List.mem_map.mp hy
    rfl
  have f2 : D.fitss (w.feasts.map .int) = true := fitss_of fun x hx => by
    obtain ⟨i, _, rfl⟩ := List.mem_map.mp hx
    rfl
  have s1 : ∀ {l : List Day}, (∀ d ∈ l, d ∈ w.days) → D.sms (l.map dayD) = true := fun hl => sms_of fun x hx => by
    obtain ⟨p, hp, rfl⟩ := List.mem_map.mp hx
    exact dayD_sm (h.day p (hl p hp))
  have s2 : D.sms (w.feasts.map .int) = true := sms_of fun x hx => by
    obtain ⟨i, _, rfl⟩ := List.mem_map.mp hx
    rfl
  have hall : ∀ d ∈ w.days, d ∈ w.days := fun _ h => h
  have htk : ∀ d ∈ w.days.take 7, d ∈ w.days := fun d h => List.mem_of_mem_take h
  simp only [spoilt, List.mem_cons, List.not_mem_nil, or_false] at hd
  rcases hd with rfl | rfl | rfl | rfl
  · exact ⟨⟨rfl, Nat.zero_le _, rfl⟩, rfl⟩
  · exact ⟨⟨rfl, Nat.zero_le _, rfl⟩, rfl⟩
  · refine ⟨⟨?_, ?_, ?_⟩, rfl⟩
    · refine fits_tup (by simp [line]) fun x hx => ?_
      rw [List.mem_singleton] at hx
      subst hx
      rw [D.fits, f1 hall, decide_eq_true (show (w.days.map dayD).length ≤ line by rw [List.length_map, h8]; decide)]; rfl
    · have := e1 hall
      simp only [D.depth, D.depths]; omega
    · simp only [D.sm, D.sms, s1 hall, Bool.and_self]
  · refine ⟨⟨?_, ?_, ?_⟩, ?_⟩
    · refine fits_tup (by simp [line]) fun x hx => ?_
      simp only [List.mem_cons, List.not_mem_nil, or_false] at hx
      rcases hx with rfl | rfl
      · rw [D.fits, f1 htk, decide_eq_true (show ((w.days.take 7).map dayD).length ≤ line by rw [List.length_map, List.length_take, h8]; decide)]; rfl
      · rw [D.fits, f2, decide_eq_true (show (w.feasts.map D.int).length ≤ line by rw [List.length_map]; unfold line; omega)]; rfl
    · have := e1 htk
      simp only [D.depth, D.depths, e2]; omega
    · simp only [D.sm, D.sms, s1 htk, s2, Bool.and_self]
    · rw [shapeB_eq]
      have : rowOk (.tup ((w.days.take 7).map dayD)) 8 8 = false := by
        simp only [rowOk, List.length_map, List.length_take, h8]
        decide
      rw [this]; rfl
end Ap
set_option Elab.async false
set_option linter.all false
set_option maxRecDepth 100000
set_option maxHeartbeats 1000000
namespace Ap
open PySem (Str)
variable {T : Tb} {S S1 S2 S3 : Store} {ρ : Env} {Γ : Ctx} {n : Nat} {n0 : Nat} {P : Fl → Store → Prop}
def k06body : Ss :=
    (.cons (.as 5 (.call "_law_pick" (.cons (.v 1) (.cons (.v 2) (.cons (.lst (.cons (.call "_law_second_here" (.cons (.v 1) (.cons (.v 2) .nil)) .nil) (.cons (.bin .sub (.bin .pow (.c (.int 10)) (.c (.int 8))) (.call "_law_take" (.cons (.v 1) (.cons (.v 2) (.cons (.c (.int 900)) .nil))) .nil)) (.cons (.bin .mul (.c (.int 86400)) (.call "_law_take" (.cons (.v 1) (.cons (.v 2) (.cons (.c (.int 997)) .nil))) .nil)) .nil)))) .nil))) .nil))
    (.cons (.as 6 (.call "_law_told" (.cons (.call "_law_handed" (.cons (.v 1) (.cons (.v 2) (.cons (.v 3) .nil))) .nil) (.cons (.v 5) .nil)) .nil))
    (.cons (.if_ (.no (.call "_law_so" (.cons (.v 6) (.cons (.call "_law_next_change" (.cons (.v 3) (.cons (.v 5) .nil)) .nil) .nil)) .nil))
    (.cons (.ret (.c (.bl false)))
    .nil)
    .nil)
    (.cons (.as 7 (.call "band" (.cons (.v 3) (.cons (.v 5) .nil)) .nil))
    (.cons (.if_ (.and (.cons (.cmp .isnot (.v 6) (.c .non)) (.cons (.or (.cons (.cmp .eq (.call "band" (.cons (.v 3) (.cons (.v 6) .nil)) .nil) (.v 7)) (.cons (.cmp .ne (.call "band" (.cons (.v 3) (.cons (.bin .sub (.v 6) (.c (.int 1))) .nil)) .nil) (.v 7)) .nil))) .nil)))
    (.cons (.ret (.c (.bl false)))
    .nil)
    .nil)
    (.cons (.fg [])
    .nil))))))
def k06end : Ss := (.cons (.if_ (.no (.call "_law_so" (.cons (.call "_law_told" (.cons (.call "_law_pick" (.cons (.v 1) (.cons (.v 2) (.cons (.lst (.cons (.c .non) (.cons (.c (.int 7)) (.cons (.sl (.v 3) .no (.so (.c (.int 1)))) (.cons (.tup (.cons (.sl (.ix (.v 3) (.c (.int 0))) .no (.so (.c (.int 7)))) (.cons (.ix (.v 3) (.c (.int 1))) .nil))) .nil))))) .nil))) .nil) (.cons (.neg (.c (.int 1))) .nil)) .nil) (.cons (.tup (.cons (.c (.str "bad")) (.cons (.c (.int 0)) .nil))) .nil)) .nil))
    (.cons (.ret (.c (.bl false)))
    .nil)
    .nil)
    (.cons (.fg [])
    (.cons (.ret (.and (.cons (.call "_law_so" (.cons (.call "_law_told" (.cons (.v 3) (.cons (.call "_law_pick" (.cons (.v 1) (.cons (.v 2) (.cons (.lst (.cons (.c .non) (.cons (.neg (.c (.int 1))) (.cons (.bin .add (.bin .pow (.c (.int 10)) (.c (.int 8))) (.c (.int 1))) (.cons (.c (.bl true)) .nil))))) .nil))) .nil) .nil)) .nil) (.cons (.tup (.cons (.c (.str "bad")) (.cons (.c (.int 1)) .nil))) .nil)) .nil) (.cons (.call "_law_so" (.cons (.call "_law_told" (.cons (.v 3) (.cons (.bin .pow (.c (.int 10)) (.c (.int 8))) .nil)) .nil) (.cons (.c .non) .nil)) .nil) .nil))))
    .nil)))
structure PreL (T : Tb) : Prop where
  row : T.fns.lookup ("_law_day_row" : Str) = some p_law_day_row
  band : T.fns.lookup ("_law_band" : Str) = some p_law_band
structure PreC (T : Tb) : Prop where
  change : T.fns.lookup ("_law_next_change" : Str) = some p_law_next_change
/-- garbage goes -/
theorem s_fgB {m : Nat} {ρ : Env} (hm : 2 ≤ m) (hmx : max n0 (mxE ρ) = m) (l : S.length = m) (f : Flt S) (d1 : Dr S1) (g : Ge S S1) (h : ∀ S', Dr S' → Flt S' → S'.length = m → P (.next ρ) S') : (ex Γ (.fg []) n0 ρ S1).Ok P := by
  have hlen : m ≤ S1.length := by have := g.1; omega
  have fl : Flt (S1.take m) := by
    unfold Flt closed
    rw [List.all_eq_true]
    intro o ho
    obtain ⟨i, hi⟩ := List.mem_iff_getElem?.mp ho
    have h4 : i < m := by
      have := (List.getElem?_eq_some_iff.mp hi).1
      simp at this; omega
    rw [List.getElem?_take_of_lt h4] at hi
    by_cases h1 : i = 1
    · subst h1
      obtain ⟨_, k, _, h2⟩ := d1
      rw [h2] at hi; cases hi; rfl
    · have h5 : i < S.length := by omega
      have e := g.2 i _ h1 (List.getElem?_eq_getElem h5)
      rw [e] at hi
      cases hi
      unfold Flt closed at f
      rw [List.all_eq_true] at f
      exact f _ (List.getElem_mem h5)
  have he : max n0 (mxE (wipe ρ [])) = m := hmx
  have hcl : closed m (S1.take m) = true := by
    have := flt_closed (n := m) fl
    rw [List.take_take] at this
    simpa using this
  refine s_fg fun S'' _ h2 => ?_
  rw [he] at h2
  have e2 := h2 hcl
  subst e2
  refine h _ ?_ fl (by simp; omega)
  obtain ⟨⟨row, r1, r2⟩, k, k1, k2⟩ := d1
  exact ⟨⟨row, r1, by rw [List.getElem?_take_of_lt (by omega)]; exact r2⟩, k, k1, by rw [List.getElem?_take_of_lt (by omega)]; exact k2⟩
theorem fg_end {m : Nat} {ρ : Env} (hm : 2 ≤ m) (hmx : mxE ρ ≤ m) (l : S.length = m) (f : Flt S) (d1 : Dr S1) (g : Ge S S1) (h : ∀ S', Dr S' → Flt S' → S'.length = m → P (.next ρ) S') : (exs Γ (.cons (.fg []) .nil) m ρ S1).Ok P :=
  s_cons (s_fgB hm (by omega) l f d1 g fun S' a b c => nx (s_nil (h S' a b c)))
def At06 (ns : List Int) (w : Wk) (ρ : Env) (S : Store) : Prop := (∃ x4 x5 x6 x7, ρ = [some (.scr ns), some (.ref 0), some (.ref 1), some (.dat w.toD), x4, x5, x6, x7] ∧ mxE ρ ≤ 2) ∧ Dr S ∧ Flt S ∧ S.length = 2
theorem c_eqD {x y : Str} : cmp .eq (vD (.str x)) (vD (.str y)) S = some (decide (x = y)) := rfl
theorem body06_ok (p : Pre T) (pw : PreW T) (ph : PreH T) (pp : PreP T) (pk : PreK T) (ps : PreS T) (pn : PreN T) (hba : HBa T) (hbd : HBd T) (hnc : HNc T) (px : PreX T) (pse : PreSe T) (pl : PreL T) (pc : PreC T) (ht : T.fns.lookup ("_law_told" : Str) = some (p_told "next_change"))
    {ns : List Int} {w : Wk} (hw : GoodWk w) {k4 : Int} {x5 x6 x7 : Option Val} (hm : mxE [some (.scr ns), some (.ref 0), some (.ref 1), some (.dat w.toD), some (.dat (.int k4)), x5, x6, x7] ≤ 2) (hd : Dr S) (hf : Flt S) (hl : S.length = 2) :
    (exs (T.ctx (callF T (n + 11))) k06body 2 [some (.scr ns), some (.ref 0), some (.ref 1), some (.dat w.toD), some (.dat (.int k4)), x5, x6, x7] S).Ok fun f S' => match f with
      | .next ρ' => At06 ns w ρ' S'
      | _ => False := by
  unfold k06body
  refine s_cons (s_asO (by show 5 < 8; decide) (e_pick (n := n + 8) p pp (fun d => ∃ k : Int, d = .int k ∧ 0 ≤ k ∧ k ≤ 100000000) rfl rfl (a_consO ?_) ?_))
  · refine e_rn (xs := [.ref 0, .ref 1]) hd (a_cons0 (e_v rfl) (a_cons0 (e_v rfl) a_nil0)) (here_ok (n := n + 7) p pw pp pse hd hf) ?_
    rintro _ S1 ⟨k1, rfl, a0, a1⟩ d1 f1 s1
    refine a_consO (o_bin (R.Ok.of (e_bin e_c e_c (z := iD 100000000) rfl) ?_))
    refine e_take (n := n + 9) p d1 rfl rfl e_c (by decide) fun r2 S2 b0 b1 d2 s2 => ⟨_, b_sub, a_consO (o_bin (R.Ok.of e_c ?_))⟩
    refine e_take (n := n + 9) p d2 rfl rfl e_c (by decide) fun r3 S3 c0 c1 d3 s3 => ⟨_, b_mul (mul_l (by decide)), R.Ok.of a_nil0 ⟨[.int k1, .int (100000000 - r2), .int (86400 * r3)], rfl, by simp, show 3 ≤ line by decide, ?_, d3, flt_sp (flt_sp f1 d2 s2) d3 s3, (s1.trans s2).trans s3⟩⟩
    intro d hd
    simp only [List.mem_cons, List.not_mem_nil, or_false] at hd
    rcases hd with rfl | rfl | rfl <;> exact ⟨_, rfl, by omega, by omega⟩
  rintro _ S4 ⟨s, rfl, hs0, hs1⟩ d4 f4 s4
  refine nx ?_
  show (exs _ _ 2 [some (.scr ns), some (.ref 0), some (.ref 1), some (.dat w.toD), some (.dat (.int k4)), some (.dat (.int s)), x6, x7] S4).Ok _
  have l4 : S4.length = 2 := s4.len.trans hl
  obtain ⟨q, hq, hv⟩ := band_same hw s
  refine s_cons (s_asO (by show 6 < 8; decide) (o_call (a_consO ?_)))
  refine e_handed (n := n + 7) (d := w.toD) p ph d4 (wk_fits hw) (Nat.le_trans (wk_depth w) (by omega)) rfl rfl rfl fun t S6 ht' d6 g6 => a_consO (R.Ok.of (e_v rfl) (R.Ok.of a_nil0 (called_ok ?_)))
  show (callF T (n + 11) "_law_told" [(prom t S6).1, .dat (.int s)] (prom t S6).2).Ok _
  obtain ⟨lk, gp⟩ := prom_lk (dr_len d6) ht'
  have dp : Dr (prom t S6).2 := by
    refine dr_ge d6 gp ?_
    have := dr_len d6
    cases t with
    | val x => rfl
    | new o => simp only [prom]; rw [List.getElem?_append_left (by omega)]
  refine (told_ok (n := n + 10) px ht (A := fun d => Change w s q.2.2 (1158 - s / 86400).toNat d) ((change_ok (n := n + 3) pk ps pn hba hnc hw lk hs0 hs1 hq).mono ?_)).mono ?_
  · rintro t' S7 ⟨d', rfl, hc', g7⟩
    exact ⟨d', hc', rfl, g7⟩
  rintro t' S7 ⟨d, hc, rfl, g7⟩
  refine settle_any.mono ?_
  rintro t' S8 ⟨rfl, h8⟩
  obtain ⟨d8, g8⟩ := after rfl d6 (gp.trans g7.ge) (g7.dr dp) h8
  refine nx ?_
  show (exs _ _ 2 [some (.scr ns), some (.ref 0), some (.ref 1), some (.dat w.toD), some (.dat (.int k4)), some (.dat (.int s)), some (.dat d), x7] S8).Ok _
  have hlc : (callF T (n + 11) "_law_next_change" [.dat w.toD, .dat (.int s)] S8).Ok fun t S' => t = vD d ∧ LChange w s q.2.2 (1158 - s / 86400).toNat d ∧ S' = S8 := by
    refine (law_change_ok (n := n + 8) pl.row pl.band pc.change hw hs0 hs1 hv).mono ?_
    rintro t S' ⟨d', rfl, hc', rfl⟩
    have : d = d' := change_same hw hc hc'
    subst this
    exact ⟨rfl, hc', rfl⟩
  obtain ⟨t9, S9, e9, rfl, hL, rfl⟩ := hlc.eq
  have hdd : d.depth ≤ n + 10 ∧ d.fits = true := by
    rcases change_int hL with rfl | ⟨a, rfl⟩ <;> exact ⟨Nat.zero_le _, rfl⟩
  refine s_cons (s_ifO (t_noO (t_callO (e_so (n := n + 10) p hdd.1 hdd.2 (R.Ok.of (a_cons0 (e_v rfl) (a_cons0 (e_fn (xs := [.dat w.toD, .dat (.int s)]) (a_cons0 (e_v rfl) (a_cons0 (e_v rfl) a_nil0)) e9) a_nil0)) ⟨rfl, _, rfl, ?_⟩)))))
  rw [if_neg (by decide)]
  refine s_nil (nx (s_cons (s_asO (by show 7 < 8; decide) (o_fnG (xs := [.dat w.toD, .dat (.int s)]) (a_cons0 (e_v rfl) (a_cons0 (e_v rfl) a_nil0)) (band_ok (n := n + 4) pk ps pn hba hbd hw (.dat _) hs0 hs1 hq) fun S10 g10 => nx ?_))))
  show (exs _ _ 2 [some (.scr ns), some (.ref 0), some (.ref 1), some (.dat w.toD), some (.dat (.int k4)), some (.dat (.int s)), some (.dat d), some (.dat (.str q.2.2))] S10).Ok _
  have d10 := g10.dr d8
  have ge10 : Ge S4 S10 := (g6.trans g8).trans g10.ge
  have last : ∀ S' : Store, Dr S' → Ge S4 S' → (exs (T.ctx (callF T (n + 11))) (.cons (.fg []) .nil) 2 [some (.scr ns), some (.ref 0), some (.ref 1), some (.dat w.toD), some (.dat (.int k4)), some (.dat (.int s)), some (.dat d), some (.dat (.str q.2.2))] S').Ok fun f S' => match f with
      | .next ρ' => At06 ns w ρ' S'
      | _ => False := by
    intro S' dS gS
    have hmx : mxE [some (.scr ns), some (.ref 0), some (.ref 1), some (.dat w.toD), some (.dat (.int k4)), some (.dat (.int s)), some (.dat d), some (.dat (.str q.2.2))] ≤ 2 := by
      simp only [mxE_cons, mo_some, mo_none, Val.mx, mxE_nil]
      decide
    exact fg_end (Nat.le_refl _) hmx l4 f4 dS gS fun S'' a b c => ⟨⟨_, _, _, _, rfl, hmx⟩, a, b, c⟩
  rcases change_int hL with rfl | ⟨a, rfl⟩
  · refine s_cons (s_ifO (t_and (R.Ok.of (t_cm (e_v rfl) e_c c_isnotN) ?_)))
    simp only [Bool.false_eq_true, if_false]
    exact s_nil (nx (last S10 d10 ge10))
  · obtain ⟨hsa, ha, _⟩ := all_word hw hv hL
    obtain ⟨u, hu, hne⟩ := band_new hw hL hs0
    have hold := band_old hw hv hL hs0 (t := a - 1) (by omega) (by omega) ha
    obtain ⟨qa, hqa, hva⟩ := band_same hw a
    obtain ⟨qb, hqb, hvb⟩ := band_same hw (a - 1)
    have eu : qa.2.2 = u := by rw [hu] at hva; exact (D.str.inj hva).symm
    have eb : qb.2.2 = q.2.2 := by rw [hold] at hvb; exact (D.str.inj hvb).symm
    refine s_cons (s_ifO (t_and (R.Ok.of (t_cm (e_v rfl) e_c c_isnotI) ?_)))
    rw [if_pos rfl]
    refine t_and1 (t_or (o_cmp (o_fnG (xs := [.dat w.toD, .dat (.int a)]) (a_cons0 (e_v rfl) (a_cons0 (e_v rfl) a_nil0)) (band_ok (n := n + 4) pk ps pn hba hbd hw (.dat _) (by omega) ha hqa) fun S11 g11 => R.Ok.of (e_v rfl) ⟨_, c_eqD, ?_⟩)))
    rw [if_neg (by simp [eu, hne])]
    refine t_or1 (o_cmp (o_fnG (xs := [.dat w.toD, .dat (.int (a - 1))]) (a_cons0 (e_v rfl) (a_cons0 (e_bin (e_v rfl) e_c b_sub) a_nil0)) (band_ok (n := n + 4) pk ps pn hba hbd hw (.dat _) (by omega) (by omega) hqb) fun S12 g12 => R.Ok.of (e_v rfl) ⟨_, c_neS, ?_⟩))
    rw [if_neg (by simp [eb])]
    exact s_nil (nx (last S12 (g12.dr (g11.dr d10)) (ge10.trans (g11.ge.trans g12.ge))))
end Ap
set_option Elab.async false
set_option linter.all false
set_option maxRecDepth 100000
set_option maxHeartbeats 1000000
namespace Ap
open PySem (Str)
variable {T : Tb} {S S1 S2 S3 : Store} {ρ : Env} {Γ : Ctx} {n : Nat} {n0 : Nat} {P : Fl → Store → Prop}
def partsLoop : Ss :=
    (.cons (.if_ (.cmp .ge (.v 4) (.v 2))
    (.cons .brk
    .nil)
    .nil)
    (.cons (.as 6 (.bin .fdiv (.v 4) (.c (.int 86400))))
    (.cons (.as 7 (.bin .add (.lc (.bin .add (.bin .mul (.v 6) (.c (.int 86400))) (.v 9)) [9, 10] (.tp (.cons (.nm 9) (.cons (.nm 10) .nil))) (.e (.call "_law_day_row" (.cons (.v 0) (.cons (.v 6) .nil)) .nil)) .nil) (.lst (.cons (.bin .mul (.bin .add (.v 6) (.c (.int 1))) (.c (.int 86400))) .nil))))
    (.cons (.as 8 (.bi .min2 (.cons (.bin .add (.lc (.v 11) [11] (.nm 11) (.e (.v 7)) (.cons (.cmp .gt (.v 11) (.v 4)) .nil)) (.lst (.cons (.v 2) .nil))) .nil)))
    (.cons (.app (.v 3) (.tup (.cons (.v 4) (.cons (.v 8) (.cons (.call "_law_band" (.cons (.v 0) (.cons (.v 4) .nil)) .nil) .nil)))))
    (.cons (.as 4 (.v 8))
    .nil))))))
def p_law_parts : Fn := ⟨3, 12,
    (.cons (.as 3 (.lst .nil))
    (.cons (.as 4 (.v 1))
    (.cons (.for_ (.nm 5) (.rg1 (.bin .pow (.c (.int 10)) (.c (.int 5)))) partsLoop)
    (.cons (.ret (.v 3))
    .nil))))⟩
theorem l_minL {zs : List Int} {z : Int} (h : minI zs = some z) : bi1 .min2 (.new (.lst ((zs.map D.int).map .dat))) S = some (iD z) := by
  show (some ((zs.map D.int).map Val.dat)).bind (fun xs => (intsOf xs).bind fun ns => (minI ns).map vI) = _
  rw [Option.bind_some, intsOf_map, Option.bind_some, h]; rfl
theorem b_pow105 : bin .pow (iD 10) (iD 5) S = some (iD 100000) := rfl
theorem law_parts_ok (pl : PreL T) (hp : T.fns.lookup ("_law_parts" : Str) = some p_law_parts) {w : Wk} (hw : GoodWk w) {b e : Int} (hb : 0 ≤ b) (hbe : b ≤ e) (he : e ≤ 100000000) : (callF T (n + 3) "_law_parts" [.dat w.toD, .dat (.int b), .dat (.int e)] S).Ok fun t S' => ∃ L : List Part, L.length ≤ 100000 ∧ (∀ v, wsum v L = upIn w v e - upIn w v b) ∧ Fresh S t S' (L.map partD) := by
  refine cal_ok hp rfl (s_cons (s_asO (show 3 < 12 by decide) (R.Ok.of (a := .new (.lst [])) (S := S) (by rw [ev]; unfold mLst; rw [a_nil0, bind_ok]; rfl) (nx ?_))))
  refine s_cons (s_asD (d := .dat (.int b)) (e_v rfl) (show 4 < 12 by decide) (nx ?_))
  refine s_cons (s_for (P := flNext _ _) (i_r1 (n := 100000) (e_bin e_c e_c b_pow105) (okR_small (by decide) (by decide)))
    (fun i ρ S' => ∃ (at_ : Int) (L : List Part) (g : Store) (x5 x6 x7 x8 x9 x10 x11 : Option Val), ρ = [some (.dat w.toD), some (.dat (.int b)), some (.dat (.int e)), some (.ref S.length), some (.dat (.int at_)), x5, x6, x7, x8, x9, x10, x11] ∧ S' = S ++ .lst ((L.map partD).map .dat) :: g ∧ L.length ≤ i ∧ i ≤ 100000 ∧ b ≤ at_ ∧ at_ ≤ e ∧ (at_ = e ∨ rk w b + i ≤ rk w at_) ∧ ∀ v, wsum v L = upIn w v at_ - upIn w v b) ?_ ?_ ?_)
  · exact ⟨b, [], [], _, _, _, _, _, _, _, rfl, rfl, Nat.le_refl _, by omega, by omega, hbe, .inr (Nat.le_refl _), fun v => by rw [wsum_nil]; omega⟩
  · rintro i x ρ S' hx ⟨at_, L, g, x5, x6, x7, x8, x9, x10, x11, rfl, rfl, hL, hi, h1, h2, h3, h4⟩
    have hi2 : i < 100000 := by
      have := (List.getElem?_eq_some_iff.mp hx).1
      rw [upto_ln] at this
      omega
    rw [upto_at, if_pos hi2] at hx
    cases hx
    refine ⟨rfl, _, rfl, ?_⟩
    unfold partsLoop
    refine s_cons (s_if (t_cm (e_v rfl) (e_v rfl) c_ge) (fun hc => ?_) fun hc => s_nil (nx ?_))
    · simp only [Bool.not_eq_true', decide_eq_false_iff_not] at hc
      have hat : at_ = e := by omega
      subst hat
      refine s_cons (s_brk ?_)
      simp only [flNext_brk]
      refine nx (s_cons (s_ret (e_v rfl) ⟨L, by omega, h4, ⟨_, rfl⟩, .inr ⟨S.length, Nat.le_refl _, rfl, ?_⟩⟩))
      rw [at_mid]
    · simp only [Bool.not_eq_false', decide_eq_true_eq] at hc
      obtain ⟨z, v, hz, hv, q1, q2, q3, q4⟩ := part_step hw (by omega) hc
      have h3' : rk w b + i ≤ rk w at_ := h3.resolve_left (by omega)
      refine s_cons (s_asD (d := .dat (.int (at_ / 86400))) (e_bin (e_v rfl) e_c (b_fdiv (by decide) (by decide))) (show 6 < 12 by decide) (nx ?_))
      show (exs _ _ _ [some (.dat w.toD), some (.dat (.int b)), some (.dat (.int e)), some (.ref S.length), some (.dat (.int at_)), some (.dat (.int (0 + i))), some (.dat (.int (at_ / 86400))), x7, x8, x9, x10, x11] _).Ok _
      have hd := (row_good hw (at_ / 86400)).most
      have hrow : ∀ {ρ : Env} {S : Store}, ρ[0]? = some (some (.dat w.toD)) → ρ[6]? = some (some (.dat (.int (at_ / 86400)))) → ev (T.ctx (callF T (n + 2))) (.call "_law_day_row" (.cons (.v 0) (.cons (.v 6) .nil)) .nil) ρ S = .ok (vD (dayD (w.row (at_ / 86400)))) S := fun a b =>
        e_fn (xs := [.dat w.toD, .dat (.int (at_ / 86400))]) (a_cons0 (e_v a) (a_cons0 (e_v b) a_nil0)) (law_row_eq (n := n + 1) pl.row hw _)
      have e7 : ev (T.ctx (callF T (n + 2))) (.bin .add (.lc (.bin .add (.bin .mul (.v 6) (.c (.int 86400))) (.v 9)) [9, 10] (.tp (.cons (.nm 9) (.cons (.nm 10) .nil))) (.e (.call "_law_day_row" (.cons (.v 0) (.cons (.v 6) .nil)) .nil)) .nil) (.lst (.cons (.bin .mul (.bin .add (.v 6) (.c (.int 1))) (.c (.int 86400))) .nil)))
          [some (.dat w.toD), some (.dat (.int b)), some (.dat (.int e)), some (.ref S.length), some (.dat (.int at_)), some (.dat (.int (0 + i))), some (.dat (.int (at_ / 86400))), x7, x8, x9, x10, x11] (S ++ .lst ((L.map partD).map .dat) :: g) = .ok (.new (.lst (((endsL w at_).map D.int).map .dat))) (S ++ .lst ((L.map partD).map .dat) :: g) := by
        have hE : ((endsL w at_).map D.int).map Val.dat = (((w.row (at_ / 86400)).map fun p => D.int (at_ / 86400 * 86400 + p.1)).map Val.dat) ++ [.dat (.int ((at_ / 86400 + 1) * 86400))] := by
          unfold endsL
          simp only [List.map_append, List.map_map, List.map_cons, List.map_nil]
          rfl
        rw [hE]
        refine e_bin (e_lcP (src := ⟨((w.row (at_ / 86400)).map pairD).map .dat, []⟩) (ys := (w.row (at_ / 86400)).map fun p => D.int (at_ / 86400 * 86400 + p.1)) (i_dat (hrow rfl rfl)) rfl (by simp [line]; omega) (by simp) fun i x y hx hy => ?_) (e_lst1 (e_bin (e_bin (e_v rfl) e_c b_add) e_c (b_mul (mul_r (by decide))))) (b_addL (by simp [line]; omega))
        obtain ⟨q, hq, rfl⟩ := day_i hx
        simp only [List.getElem?_map, hq, Option.map_some, Option.some.injEq] at hy
        subst hy
        exact ⟨_, rfl, e_bin (e_bin (e_v rfl) e_c (b_mul (mul_r (by decide)))) (e_v rfl) b_add⟩
      refine s_cons (s_asO (show 7 < 12 by decide) (R.Ok.of e7 (nx ?_)))
      show (exs _ _ _ [some (.dat w.toD), some (.dat (.int b)), some (.dat (.int e)), some (.ref S.length), some (.dat (.int at_)), some (.dat (.int (0 + i))), some (.dat (.int (at_ / 86400))), some (.ref (S ++ .lst ((L.map partD).map .dat) :: g).length), x8, x9, x10, x11] ((S ++ .lst ((L.map partD).map .dat) :: g) ++ [.lst (((endsL w at_).map D.int).map .dat)])).Ok _
      have hel : (endsL w at_).length ≤ 9 := by
        unfold endsL
        simp only [List.length_append, List.length_map, List.length_singleton]; omega
      have hi7 : ((S ++ .lst ((L.map partD).map .dat) :: g) ++ [.lst (((endsL w at_).map D.int).map .dat)])[(S ++ .lst ((L.map partD).map .dat) :: g).length]? = some (.lst (((endsL w at_).map D.int).map .dat)) := by simp
      have e8 : ev (T.ctx (callF T (n + 2))) (.bi .min2 (.cons (.bin .add (.lc (.v 11) [11] (.nm 11) (.e (.v 7)) (.cons (.cmp .gt (.v 11) (.v 4)) .nil)) (.lst (.cons (.v 2) .nil))) .nil))
          [some (.dat w.toD), some (.dat (.int b)), some (.dat (.int e)), some (.ref S.length), some (.dat (.int at_)), some (.dat (.int (0 + i))), some (.dat (.int (at_ / 86400))), some (.ref (S ++ .lst ((L.map partD).map .dat) :: g).length), x8, x9, x10, x11] ((S ++ .lst ((L.map partD).map .dat) :: g) ++ [.lst (((endsL w at_).map D.int).map .dat)]) = .ok (iD z) ((S ++ .lst ((L.map partD).map .dat) :: g) ++ [.lst (((endsL w at_).map D.int).map .dat)]) := by
        refine e_bi1 (x := .new (.lst ((((endsL w at_).filter (fun x => decide (at_ < x)) ++ [e]).map D.int).map .dat))) ?_ (l_minL hz)
        have hE : ((((endsL w at_).filter (fun x => decide (at_ < x)) ++ [e]).map D.int).map Val.dat) = ((((endsL w at_).filter (fun x => decide (at_ < x))).map D.int).map Val.dat) ++ [.dat (.int e)] := by simp
        rw [hE]
        refine e_bin (e_lcF (l := endsL w at_) (f := fun i => .dat (.int i)) (fun x => decide (at_ < x)) D.int (src := ⟨((endsL w at_).map D.int).map .dat, [((S ++ .lst ((L.map partD).map .dat) :: g).length, .lst (((endsL w at_).map D.int).map .dat))]⟩) (i_of (e_v rfl) (by simp only [srcOf, hi7])) ?_ (by rw [List.map_map]; rfl) (by unfold line; omega) fun a _ => ⟨_, rfl, t_cm (e_v rfl) (e_v rfl) c_gt, fun _ => e_v rfl⟩) (e_lst1 (e_v rfl)) (b_addL ?_)
        · unfold Src.still
          simp only [List.all_cons, List.all_nil, Bool.and_true, decide_eq_true_eq]
          exact hi7
        · have := List.length_filter_le (fun x => decide (at_ < x)) (endsL w at_)
          simp only [List.length_map, List.length_singleton, line]; omega
      refine s_cons (s_asD (d := .dat (.int z)) e8 (show 8 < 12 by decide) (nx ?_))
      show (exs _ _ _ [some (.dat w.toD), some (.dat (.int b)), some (.dat (.int e)), some (.ref S.length), some (.dat (.int at_)), some (.dat (.int (0 + i))), some (.dat (.int (at_ / 86400))), some (.ref (S ++ .lst ((L.map partD).map .dat) :: g).length), some (.dat (.int z)), x9, x10, x11] _).Ok _
      rw [List.append_assoc, List.cons_append]
      have hlb := law_band_eq (T := T) (n := n) (S := S ++ .lst ((L.map partD).map .dat) :: (g ++ [.lst (((endsL w at_).map D.int).map .dat)])) pl.row pl.band hw at_
      rw [hv] at hlb
      refine s_cons (s_app (e_v rfl) at_mid (e_tup3 (e_v rfl) (e_v rfl) (e_fn (xs := [.dat w.toD, .dat (.int at_)]) (a_cons0 (e_v rfl) (a_cons0 (e_v rfl) a_nil0)) hlb)) (by simp only [List.length_map, line]; omega) (nx ?_))
      rw [set_mid]
      refine s_cons (s_asD (d := .dat (.int z)) (e_v rfl) (show 4 < 12 by decide) (nx (s_nil ?_)))
      refine ⟨z, L ++ [(at_, z, v)], g ++ [.lst (((endsL w at_).map D.int).map .dat)], _, _, _, _, _, _, _, rfl, ?_, by simp; omega, by omega, by omega, q2, ?_, fun u => ?_⟩
      · simp only [List.map_append, List.map_cons, List.map_nil]; rfl
      · rcases q4 with q4 | q4
        · exact .inl q4
        · right; omega
      · rw [wsum_app, h4 u, wsum_cons, wsum_nil]
        have h5 := q3 u
        rw [secs_up hw (by omega) (by omega) (by omega)] at h5
        dsimp only
        omega
  · rintro ρ S' ⟨at_, L, g, x5, x6, x7, x8, x9, x10, x11, rfl, rfl, hL, hi, h1, h2, h3, h4⟩
    rw [upto_ln] at hL h3
    have hat : at_ = e := by
      refine h3.resolve_right fun h => ?_
      have := rk_hi hw at_
      omega
    subst hat
    refine ⟨rfl, nx (s_cons (s_ret (e_v rfl) ⟨L, hL, h4, ⟨_, rfl⟩, .inr ⟨S.length, Nat.le_refl _, rfl, ?_⟩⟩))⟩
    rw [at_mid]
end Ap
set_option Elab.async false
set_option linter.all false
set_option maxRecDepth 100000
set_option maxHeartbeats 1000000
namespace Ap
open PySem (Str)
variable {T : Tb} {S S1 S2 S3 : Store} {ρ : Env} {Γ : Ctx} {n : Nat} {n0 : Nat} {P : Fl → Store → Prop}
def p_law06 : Fn := ⟨1, 8,
    (.cons (.as 1 (.call "_law_numbers" (.cons (.v 0) .nil) .nil))
    (.cons (.as 2 (.lst (.cons (.c (.int 0)) .nil)))
    (.cons (.as 3 (.call "_law_week" (.cons (.v 1) (.cons (.v 2) .nil)) .nil))
    (.cons (.if_ (.cmp .eq (.call "_law_take" (.cons (.v 1) (.cons (.v 2) (.cons (.c (.int 3)) .nil))) .nil) (.c (.int 0)))
    (.cons (.as 3 (.tup (.cons (.bin .add (.bin .mul (.tup (.cons (.tup (.cons (.tup (.cons (.c (.int 0)) (.cons (.c (.str "low")) .nil))) .nil)) .nil)) (.c (.int 7))) (.tup (.cons (.call "_law_day" (.cons (.v 1) (.cons (.v 2) .nil)) .nil) .nil))) (.cons (.ix (.v 3) (.c (.int 1))) .nil))))
    .nil)
    .nil)
    (.cons (.for_ (.nm 4) (.rg1 (.c (.int 6)))
    k06body)
    k06end)))))⟩
theorem cut_pre {α : Type} (xs : List α) {k : Int} (h0 : 0 ≤ k) (h1 : k.toNat ≤ xs.length) : cut xs none (some k) = xs.take k.toNat := by
  show (xs.drop 0).take ((if k < 0 then (k + (xs.length : Int)).toNat else min k.toNat xs.length) - 0) = _
  rw [if_neg (by omega), List.drop_zero, Nat.sub_zero, Nat.min_eq_left h1]
theorem e_slP {a : E} {ds : List D} {k : Int} (h : ev Γ a ρ S = .ok (vD (.tup ds)) S) (h0 : 0 ≤ k) (h1 : k.toNat ≤ ds.length) : ev Γ (.sl a .no (.so (.c (.int k)))) ρ S = .ok (vD (.tup (ds.take k.toNat))) S := by
  rw [ev]; unfold mSl
  rw [h, bind_ok, evO, evO]; unfold mOSo mONo
  rw [bind_ok, e_c]
  show (orBad (slice (vD (.tup ds)) none (some k) S) fun z => R.ok z S) = _
  show R.ok (TV.val (.dat (.tup (cut ds none (some k))))) S = _
  rw [cut_pre ds h0 h1]
theorem e_neg1 {k : Int} : ev Γ (.neg (.c (.int k))) ρ S = .ok (iD (-k)) S := by
  rw [ev]; unfold mNeg; rw [e_c]; rfl
theorem badD_nice (k : Int) (m : Nat) : (badD k).depth ≤ m + 1 ∧ (badD k).fits = true := ⟨by simp [badD, D.depth, D.depths], by simp [badD, D.fits, D.fitss, line]⟩
theorem end06_ok (p : Pre T) (pp : PreP T) (pk : PreK T) (ps : PreS T) (pn : PreN T) (hba : HBa T) (hbd : HBd T) (hnc : HNc T) (px : PreX T) (ht : T.fns.lookup ("_law_told" : Str) = some (p_told "next_change"))
    {x0 : Option Val} {w : Wk} (hw : GoodWk w) {x4 x5 x6 x7 : Option Val} (hm : max n0 (mxE [x0, some (.ref 0), some (.ref 1), some (.dat w.toD), x4, x5, x6, x7]) = 2) (hd : Dr S) (hf : Flt S) (hl : S.length = 2) :
    (exs (T.ctx (callF T (n + 11))) k06end n0 [x0, some (.ref 0), some (.ref 1), some (.dat w.toD), x4, x5, x6, x7] S).Ok (fin fun t _ => t = bD true) := by
  unfold k06end
  have h8 := hw.eight
  refine s_cons (s_ifO (t_noO (t_callO (e_so (n := n + 10) (d := badD 0) p (badD_nice 0 _).1 (badD_nice 0 0).2 (a_consO (o_call (a_consO ?_)))))))
  refine e_pick (n := n + 8) p pp (fun d => Nice d 5 ∧ shapeB d = false) rfl rfl ?_ ?_
  · refine R.Ok.of (a_cons0 e_c (a_cons0 e_c (a_cons0 (e_slP (e_v rfl) (by decide) (by simp)) (a_cons0 (e_tupD (ds := [.tup ((w.days.take 7).map dayD), .tup (w.feasts.map .int)]) (a_cons0 ?_ (a_cons0 (e_ix (e_v rfl) e_c wk_ix1) a_nil0)) (show 2 ≤ line by decide)) a_nil0)))) ⟨spoilt w, rfl, by simp [spoilt], show 4 ≤ line by decide, fun d hd => spoilt_ok hw hd, hd, hf, Sp.refl⟩
    rw [List.map_take]
    exact e_slP (e_ix (e_v rfl) e_c wk_ix0) (by decide) (by rw [List.length_map, h8]; decide)
  rintro d S1 ⟨hn, hsh⟩ d1 f1 s1
  refine a_consO (R.Ok.of e_neg1 (R.Ok.of a_nil0 (called_ok ?_)))
  show (callF T (n + 11) "_law_told" [.dat d, .dat (.int (-1))] S1).Ok _
  refine (told_bad (n := n + 10) px ht (k := 0) (change_bad0 (n := n + 3) pk ps pn hnc px (.dat d) ⟨hn.fits, Nat.le_trans hn.deep (by omega), hn.sm⟩ hsh)).mono ?_
  rintro t S2 ⟨rfl, g2⟩
  refine (settle_dat_gr g2).mono ?_
  rintro t S3 ⟨rfl, g3⟩
  have d3 := g3.dr d1
  refine R.Ok.of (a_cons0 (e_tupD (ds := [.str "bad", .int 0]) (a_cons0 e_c (a_cons0 e_c a_nil0)) (show 2 ≤ line by decide)) a_nil0) ⟨rfl, _, rfl, ?_⟩
  rw [if_neg (by decide)]
  refine s_nil (nx (s_cons (s_fgB (Nat.le_refl 2) hm (s1.len.trans hl) f1 d3 g3.ge fun S4 d4 f4 l4 => nx (s_cons (s_retO (o_and ?_))))))
  refine e_so (n := n + 10) (d := badD 1) p (badD_nice 1 _).1 (badD_nice 1 0).2 (a_consO (o_call (a_consO (R.Ok.of (e_v rfl) (a_consO ?_)))))
  refine e_pick (n := n + 8) p pp (fun d => within d 0 100000000 = false) rfl rfl ?_ ?_
  · refine R.Ok.of (a_cons0 e_c (a_cons0 e_neg1 (a_cons0 (e_bin (e_bin e_c e_c (z := iD 100000000) rfl) e_c b_add) (a_cons0 e_c a_nil0)))) ⟨[.non, .int (-1), .int (100000000 + 1), .bl true], rfl, by simp, show 4 ≤ line by decide, ?_, d4, f4, Sp.refl⟩
    intro d hd
    simp only [List.mem_cons, List.not_mem_nil, or_false] at hd
    rcases hd with rfl | rfl | rfl | rfl <;> rfl
  intro d S5 hb d5 f5 s5
  refine R.Ok.of a_nil0 (called_ok ?_)
  show (callF T (n + 11) "_law_told" [.dat w.toD, .dat d] S5).Ok _
  refine (told_bad (n := n + 10) px ht (k := 1) (change_bad1 (n := n + 3) pk ps pn hnc px hw (.dat _) hb)).mono ?_
  rintro t S6 ⟨rfl, g6⟩
  refine (settle_dat_gr g6).mono ?_
  rintro t S7 ⟨rfl, g7⟩
  refine R.Ok.of (a_cons0 (e_tupD (ds := [.str "bad", .int 1]) (a_cons0 e_c (a_cons0 e_c a_nil0)) (show 2 ≤ line by decide)) a_nil0) ⟨rfl, true, rfl, ?_⟩
  rw [if_pos rfl]
  refine o_and1 (e_so (n := n + 10) (d := .non) p (Nat.zero_le _) rfl (a_consO (o_call (R.Ok.of (a_cons0 (e_v rfl) (a_cons0 (e_bin e_c e_c (z := iD 100000000) rfl) a_nil0)) (called_ok ?_)))))
  show (callF T (n + 11) "_law_told" [.dat w.toD, .dat (.int 100000000)] S7).Ok _
  obtain ⟨q, hq, _⟩ := band_same hw 100000000
  refine (told_ok (n := n + 10) px ht (A := fun d => d = .non) ((change_ok (n := n + 3) pk ps pn hba hnc hw (.dat _) (by decide) (by decide) hq).mono ?_)).mono ?_
  · rintro t' S' ⟨d', rfl, hc', g'⟩
    exact ⟨d', change_last hc', rfl, g'⟩
  rintro t S8 ⟨_, rfl, rfl, g8⟩
  refine (settle_dat_gr g8).mono ?_
  rintro t S9 ⟨rfl, g9⟩
  exact R.Ok.of (a_cons0 e_c a_nil0) ⟨rfl, rfl⟩
theorem low_drawn : DrawnDay lowDay := ⟨low_good, fun p hp => by simp [lowDay] at hp; subst hp; exact .inl rfl⟩
theorem law06_ok (p : Pre T) (pw : PreW T) (ph : PreH T) (pp : PreP T) (pk : PreK T) (ps : PreS T) (pn : PreN T) (hba : HBa T) (hbd : HBd T) (hnc : HNc T) (px : PreX T) (py : PreY T) (pse : PreSe T) (pl : PreL T) (pc : PreC T) (ht : T.fns.lookup ("_law_told" : Str) = some (p_told "next_change"))
    (hlaw : T.fns.lookup ("law" : Str) = some p_law06) (ns : List Int) : (callF T (n + 12) "law" [.scr ns] []).Ok fun t _ => t = bD true := by
  obtain ⟨row, hr, e0⟩ := e_num (T := T) (n := n + 10) (ρ := start 8 [.scr ns]) p (ns := ns) rfl
  refine cal_ok hlaw rfl (s_cons (s_asO (by show 1 < 8; decide) (R.Ok.of e0 (nx ?_))))
  show (exs _ _ 0 [some (.scr ns), some (.ref 0), none, none, none, none, none, none] [.lst (li row)]).Ok _
  refine s_cons (s_asO (by show 2 < 8; decide) (R.Ok.of (e_lstD (ds := [.int 0]) (a_cons0 e_c a_nil0) (show 1 ≤ line by decide)) (nx ?_)))
  show (exs _ _ 0 [some (.scr ns), some (.ref 0), some (.ref 1), none, none, none, none, none] [.lst (li row), .lst [.dat (.int 0)]]).Ok _
  have d0 : Dr [.lst (li row), .lst [.dat (.int 0)]] := ⟨⟨row, hr, rfl⟩, 0, by decide, rfl⟩
  have f0 : Flt [.lst (li row), .lst [.dat (.int 0)]] := by
    refine flt_app (S := [.lst (li row)]) (flt_app (S := []) rfl ?_) rfl
    have := lst_mx (row.map D.int)
    rw [map_li] at this
    exact this
  refine s_cons (s_asO (by show 3 < 8; decide) (e_rn (xs := [.ref 0, .ref 1]) d0 (a_cons0 (e_v rfl) (a_cons0 (e_v rfl) a_nil0)) (law_week_ok (n := n + 6) p pw pp py d0 f0) ?_))
  rintro _ S1 ⟨w, hw, rfl⟩ d1 f1 s1
  refine nx ?_
  have l1 : S1.length = 2 := s1.len
  -- behind the if
  have rest : ∀ (S : Store) (w : Wk), DrawnWk w → Dr S → Flt S → S.length = 2 → (exs (T.ctx (callF T (n + 11))) (.cons (.for_ (.nm 4) (.rg1 (.c (.int 6))) k06body) k06end) 0 [some (.scr ns), some (.ref 0), some (.ref 1), some (.dat w.toD), none, none, none, none] S).Ok (fin fun t _ => t = bD true) := by
    intro S w hw dS fS lS
    refine s_cons (s_for (i_r1 (n := 6) e_c (okR_nat (by decide) (by decide))) (fun i ρ S => At06 ns w ρ S) ?_ ?_ ?_)
    · refine ⟨⟨_, _, _, _, rfl, ?_⟩, dS, fS, lS⟩
      simp only [mxE_cons, mo_some, mo_none, Val.mx, mxE_nil]
      decide
    · rintro i x ρ S' hx ⟨⟨x4, x5, x6, x7, rfl, hm⟩, d4, f4, l4⟩
      rw [upto_at] at hx
      split at hx
      · cases hx
        refine ⟨rfl, _, rfl, ?_⟩
        rw [lS]
        refine (body06_ok (n := n) (ns := ns) p pw ph pp pk ps pn hba hbd hnc px pse pl pc ht hw.good (k4 := 0 + i) ?_ d4 f4 l4).mono ?_
        · simp only [mxE_cons, mo_some, mo_none, Val.mx, mxE_nil] at hm ⊢
          omega
        · intro f S'' h
          cases f <;> first | exact h | exact h.elim
      · cases hx
    · rintro ρ S' ⟨⟨x4, x5, x6, x7, rfl, hm⟩, d4, f4, l4⟩
      refine ⟨rfl, nx (end06_ok (n := n) p pp pk ps pn hba hbd hnc px ht hw.good ?_ d4 f4 l4)⟩
      simp only [mxE_cons, mo_some, mo_none, Val.mx, mxE_nil] at hm ⊢
      omega
  refine s_cons (s_ifO (o_cmp (e_take (n := n + 9) p d1 rfl rfl e_c (by decide) fun r S2 _ _ d2 s2 => R.Ok.of e_c ⟨_, c_eq, ?_⟩)))
  have f2 := flt_sp f1 d2 s2
  have l2 : S2.length = 2 := s2.len.trans l1
  split
  · refine s_cons (s_asO (by show 3 < 8; decide) (o_tupD (a_consO (o_bin (R.Ok.of (a := vD (.tup ((List.replicate 7 lowDay).map dayD))) (S := S2) ?_ (o_tupD (a_consO ?_)))))))
    · have hlow : ∀ {ρ : Env} {S : Store}, ev (T.ctx (callF T (n + 11))) (.tup (.cons (.c (.int 0)) (.cons (.c (.str "low")) .nil))) ρ S = .ok (vD (.tup [.int 0, .str "low"])) S := e_tupD (ds := [.int 0, .str "low"]) (a_cons0 e_c (a_cons0 e_c a_nil0)) (show 2 ≤ line by decide)
      exact e_bin (e_tupD (ds := [dayD lowDay]) (a_cons0 (e_tupD (ds := [.tup [.int 0, .str "low"]]) (a_cons0 hlow a_nil0) (show 1 ≤ line by decide)) a_nil0) (show 1 ≤ line by decide)) e_c rfl
    · refine e_day (n := n + 7) p pw pp py d2 f2 rfl rfl fun y S3 hy d3 f3 s3 => R.Ok.of a_nil0 ⟨[dayD y], rfl, show 1 ≤ line by decide, vD (.tup ((List.replicate 7 lowDay).map dayD ++ [dayD y])), rfl, ?_⟩
      have hgood : GoodWk ⟨List.replicate 7 lowDay ++ [y], w.feasts⟩ := ⟨by simp, fun d hd => by
        rcases List.mem_append.mp hd with h | h
        · rw [List.mem_replicate] at h; rw [h.2]; exact low_good
        · rw [List.mem_singleton] at h; subst h; exact hy.good, hw.good.few, hw.good.at_, hw.good.up⟩
      have hdr : DrawnWk ⟨List.replicate 7 lowDay ++ [y], w.feasts⟩ := ⟨hgood, fun d hd => by
        rcases List.mem_append.mp hd with h | h
        · rw [List.mem_replicate] at h; rw [h.2]; exact low_drawn.word
        · rw [List.mem_singleton] at h; subst h; exact hy.word⟩
      refine R.Ok.of (a_cons0 (e_ix (e_v rfl) e_c wk_ix1) a_nil0) ⟨[.tup ((List.replicate 7 lowDay ++ [y]).map dayD), .tup (w.feasts.map .int)], by simp, show 2 ≤ line by decide, nx (s_nil (nx ?_))⟩
      exact rest S3 ⟨List.replicate 7 lowDay ++ [y], w.feasts⟩ hdr d3 f3 (s3.len.trans l2)
  · exact s_nil (nx (rest S2 w hw d2 f2 l2))
end Ap
set_option Elab.async false
set_option linter.all false
set_option maxRecDepth 100000
set_option maxHeartbeats 1000000
namespace Ap
open PySem (Str)
def p_law_whole : Fn := ⟨1, 1,
    (.cons (.ret (.and (.cons (.isi (.v 0) [.int]) (.cons (.no (.isi (.v 0) [.bool])) .nil))))
    .nil)⟩
def p_law_between : Fn := ⟨3, 3,
    (.cons (.ret (.and (.cons (.call "_law_whole" (.cons (.v 0) .nil) .nil) (.cons (.cmp2 .le .le (.v 1) (.v 0) (.v 2)) .nil))))
    .nil)⟩
def p_law_is_word : Fn := ⟨1, 2,
    (.cons (.if_ (.or (.cons (.no (.isi (.v 0) [.str])) (.cons (.no (.cmp2 .le .le (.c (.int 1)) (.bi .len (.cons (.v 0) .nil)) (.c (.int 8)))) .nil)))
    (.cons (.ret (.c (.bl false)))
    .nil)
    .nil)
    (.cons (.ret (.cmp .eq (.bi .len (.cons (.lc (.v 1) [1] (.nm 1) (.e (.v 0)) (.cons (.cmp .notin (.v 1) (.c (.str "abcdefghijklmnopqrstuvwxyz"))) .nil)) .nil)) (.c (.int 0))))
    .nil))⟩
def p_law_is_day : Fn := ⟨1, 3,
    (.cons (.if_ (.or (.cons (.no (.isi (.v 0) [.tuple])) (.cons (.no (.cmp2 .le .le (.c (.int 1)) (.bi .len (.cons (.v 0) .nil)) (.c (.int 8)))) .nil)))
    (.cons (.ret (.c (.bl false)))
    .nil)
    .nil)
    (.cons (.for_ (.nm 1) (.rg1 (.bi .len (.cons (.v 0) .nil)))
    (.cons (.as 2 (.ix (.v 0) (.v 1)))
    (.cons (.if_ (.or (.cons (.no (.isi (.v 2) [.tuple])) (.cons (.cmp .ne (.bi .len (.cons (.v 2) .nil)) (.c (.int 2))) (.cons (.no (.call "_law_between" (.cons (.ix (.v 2) (.c (.int 0))) (.cons (.c (.int 0)) (.cons (.c (.int 86399)) .nil))) .nil)) (.cons (.no (.call "_law_is_word" (.cons (.ix (.v 2) (.c (.int 1))) .nil) .nil)) .nil)))))
    (.cons (.ret (.c (.bl false)))
    .nil)
    .nil)
    (.cons (.if_ (.or (.cons (.and (.cons (.cmp .eq (.v 1) (.c (.int 0))) (.cons (.cmp .ne (.ix (.v 2) (.c (.int 0))) (.c (.int 0))) .nil))) (.cons (.and (.cons (.cmp .gt (.v 1) (.c (.int 0))) (.cons (.cmp .ge (.ix (.ix (.v 0) (.bin .sub (.v 1) (.c (.int 1)))) (.c (.int 0))) (.ix (.v 2) (.c (.int 0)))) .nil))) .nil)))
    (.cons (.ret (.c (.bl false)))
    .nil)
    .nil)
    .nil))))
    (.cons (.ret (.c (.bl true)))
    .nil)))⟩
def p_law_is_week : Fn := ⟨1, 3,
    (.cons (.if_ (.or (.cons (.no (.isi (.v 0) [.tuple])) (.cons (.cmp .ne (.bi .len (.cons (.v 0) .nil)) (.c (.int 2))) (.cons (.no (.isi (.ix (.v 0) (.c (.int 0))) [.tuple])) (.cons (.cmp .ne (.bi .len (.cons (.ix (.v 0) (.c (.int 0))) .nil)) (.c (.int 8))) .nil)))))
    (.cons (.ret (.c (.bl false)))
    .nil)
    .nil)
    (.cons (.if_ (.or (.cons (.cmp .gt (.bi .len (.cons (.lc (.v 2) [2] (.nm 2) (.e (.ix (.v 0) (.c (.int 0)))) (.cons (.no (.call "_law_is_day" (.cons (.v 2) .nil) .nil)) .nil)) .nil)) (.c (.int 0))) (.cons (.no (.isi (.ix (.v 0) (.c (.int 1))) [.tuple])) (.cons (.cmp .gt (.bi .len (.cons (.ix (.v 0) (.c (.int 1))) .nil)) (.c (.int 20))) .nil))))
    (.cons (.ret (.c (.bl false)))
    .nil)
    .nil)
    (.cons (.for_ (.nm 1) (.rg1 (.bi .len (.cons (.ix (.v 0) (.c (.int 1))) .nil)))
    (.cons (.if_ (.or (.cons (.no (.call "_law_between" (.cons (.ix (.ix (.v 0) (.c (.int 1))) (.v 1)) (.cons (.c (.int 0)) (.cons (.c (.int 1000)) .nil))) .nil)) (.cons (.and (.cons (.cmp .gt (.v 1) (.c (.int 0))) (.cons (.cmp .ge (.ix (.ix (.v 0) (.c (.int 1))) (.bin .sub (.v 1) (.c (.int 1)))) (.ix (.ix (.v 0) (.c (.int 1))) (.v 1))) .nil))) .nil)))
    (.cons (.ret (.c (.bl false)))
    .nil)
    .nil)
    .nil))
    (.cons (.ret (.c (.bl true)))
    .nil))))⟩
def p_is_week : Fn := ⟨1, 1,
    (.cons (.ret (.call "is_shape" (.cons (.call "frozen" (.cons (.v 0) .nil) .nil) .nil) .nil))
    .nil)⟩
variable {T : Tb} {S S1 S2 S3 : Store} {ρ : Env} {Γ : Ctx} {n : Nat} {n0 : Nat} {P : Fl → Store → Prop}
structure PreLk (T : Tb) : Prop where
  whole : T.fns.lookup ("_law_whole" : Str) = some p_law_whole
  between : T.fns.lookup ("_law_between" : Str) = some p_law_between
structure PreLw (T : Tb) : Prop where
  word : T.fns.lookup ("_law_is_word" : Str) = some p_law_is_word
  day : T.fns.lookup ("_law_is_day" : Str) = some p_law_is_day
  week : T.fns.lookup ("_law_is_week" : Str) = some p_law_is_week
  isw : T.fns.lookup ("is_week" : Str) = some p_is_week
theorem whole_eq (p : PreLk T) (d : D) : callF T (n + 1) "_law_whole" [.dat d] S = .ok (bD (match d with | .int _ => true | _ => false)) S := by
  refine call_eq p.whole rfl (s_cons (s_ret (t := bD (match d with | .int _ => true | _ => false)) ?_ ⟨rfl, rfl⟩))
  cases d with
  | int i => exact e_and2' (x := true) (y := true) (e_isi (e_v rfl) (isi1 rfl)) fun _ => e_no (b := false) (e_isi (e_v rfl) (isi1 rfl))
  | bl i => exact e_and2' (x := true) (y := false) (e_isi (e_v rfl) (isi1 rfl)) fun _ => e_no (b := true) (e_isi (e_v rfl) (isi1 rfl))
  | non => exact e_and2' (x := false) (y := false) (e_isi (e_v rfl) (isi1 rfl)) fun h => nomatch h
  | str _ => exact e_and2' (x := false) (y := false) (e_isi (e_v rfl) (isi1 rfl)) fun h => nomatch h
  | tup _ => exact e_and2' (x := false) (y := false) (e_isi (e_v rfl) (isi1 rfl)) fun h => nomatch h
theorem between_eq (p : PreLk T) (d : D) (a b : Int) : callF T (n + 2) "_law_between" [.dat d, .dat (.int a), .dat (.int b)] S = .ok (bD (within d a b)) S := by
  refine call_eq p.between rfl (s_cons (s_ret (t := bD (within d a b)) ?_ ⟨rfl, rfl⟩))
  have h1 : ev (T.ctx (callF T (n + 1))) (.call "_law_whole" (.cons (.v 0) .nil) .nil) [some (.dat d), some (.dat (.int a)), some (.dat (.int b))] S = .ok (bD (match d with | .int _ => true | _ => false)) S :=
    e_fn (xs := [.dat d]) (a_cons0 (e_v rfl) a_nil0) (whole_eq p d)
  cases d with
  | int v =>
    have := e_and2' (x := true) (y := (!decide (v < a)) && (!decide (b < v))) h1 fun _ => e_c2 (a := .v 1) (b := .v 0) (c := .v 2) (e_v rfl) (e_v rfl) (fun _ => e_v rfl) c_le (fun _ => c_le)
    rw [not_lt_le, not_lt_le] at this
    exact this
  | non => exact e_and2' (x := false) (y := false) h1 fun h => nomatch h
  | bl _ => exact e_and2' (x := false) (y := false) h1 fun h => nomatch h
  | str _ => exact e_and2' (x := false) (y := false) h1 fun h => nomatch h
  | tup _ => exact e_and2' (x := false) (y := false) h1 fun h => nomatch h
/-- [one for one in data if test] whose elements are all looked at -/
theorem filter_zero {α : Type} (l : List α) (f : α → Bool) : decide (((l.filter fun a => !f a).length : Int) = 0) = l.all f := by
  induction l with
  | nil => rfl
  | cons a l ih =>
    cases h : f a with
    | true => simp only [List.filter_cons, h, Bool.not_true, Bool.false_eq_true, if_false, List.all_cons, Bool.true_and]; exact ih
    | false =>
      simp only [List.filter_cons, h, Bool.not_false, if_true, List.all_cons, Bool.false_and, List.length_cons]
      exact decide_eq_false (by omega)
theorem c_notinS {c : Nat} {x : Str} : cmp .notin (vD (.str ⟨#[c]⟩)) (vD (.str x)) S = some (!x.cps.toList.contains c) := by
  show (if (Str.mk #[c]).length = 1 then some (!inStr ⟨#[c]⟩ x) else none) = _
  rw [if_pos (show (Str.mk #[c]).length = 1 from rfl)]; rfl
theorem t_c2' {o1 o2 : Cop} {a b c : E} {x y z : TV} {k1 k2 : Bool} (ha : ev Γ a ρ S = .ok x S) (hb : ev Γ b ρ S = .ok y S) (hc : ev Γ c ρ S = .ok z S) (h1 : cmp o1 x y S = some k1) (h2 : cmp o2 y z S = some k2) : evT Γ (.cmp2 o1 o2 a b c) ρ S = .ok (k1 && k2) S := t_c2 ha hb hc h1 h2
theorem law_word_eq (p : PreLw T) {d : D} (h : d.sm = true) : callF T (n + 1) "_law_is_word" [.dat d] S = .ok (bD (wordD d)) S := by
  have no : (∀ s, d ≠ .str s) → callF T (n + 1) "_law_is_word" [.dat d] S = .ok (bD (wordD d)) S := fun hn => by
    have hi : isTys (vD d) S [.str] = some false := by
      cases d <;> first | rfl | exact absurd rfl (hn _)
    refine ok_eq (cal_ok p.word rfl (s_cons (s_ifO (t_or (t_noO (R.Ok.of (t_isi (e_v rfl) hi) ?_))))))
    simp only [Bool.not_false, if_true]
    refine s_cons (s_ret e_c ⟨?_, rfl⟩)
    cases d <;> first | rfl | exact absurd rfl (hn _)
  cases d with
  | str x =>
    have hx : x.length ≤ line := by simpa [D.sm] using h
    refine ok_eq (cal_ok p.word rfl (s_cons (s_ifO (t_or (t_noO (R.Ok.of (t_isi (b := true) (e_v rfl) (isi1 rfl)) ?_))))))
    simp only [Bool.not_true, Bool.false_eq_true, if_false]
    refine t_or1 (t_noO (R.Ok.of (t_c2 (e_c) (e_bi1 (e_v rfl) l_lenS) e_c c_le c_le) ?_))
    rw [not_lt_le, not_lt_le]
    cases hl : decide ((1 : Int) ≤ x.length) && decide ((x.length : Int) ≤ 8) with
    | false =>
      simp only [Bool.not_false, if_true]
      refine s_cons (s_ret e_c ⟨?_, rfl⟩)
      show bD false = bD (wordOk x)
      unfold wordOk
      rw [hl]; rfl
    | true =>
      simp only [Bool.not_true, Bool.false_eq_true, if_false]
      have hlc : ev (T.ctx (callF T n)) (.lc (.v 1) [1] (.nm 1) (.e (.v 0)) (.cons (.cmp .notin (.v 1) (.c (.str "abcdefghijklmnopqrstuvwxyz"))) .nil)) [some (.dat (.str x)), none] S = .ok (.new (.lst (((x.cps.toList.filter fun c => !letters.cps.toList.contains c).map fun c => D.str ⟨#[c]⟩).map .dat))) S := by
        refine e_lcF (α := Nat) (l := x.cps.toList) (f := fun c => .dat (.str ⟨#[c]⟩)) (fun c => !letters.cps.toList.contains c) (fun c => .str ⟨#[c]⟩) (src := ⟨(signs x).map .dat, []⟩) (S1 := S) (by rw [evI]; unfold mIt; rw [e_v rfl, bind_ok]; rfl) rfl (by simp [signs]) (by simpa [Str.length] using hx) fun c _ => ?_
        exact ⟨_, rfl, t_cm (e_v rfl) e_c c_notinS, fun _ => e_v rfl⟩
      refine s_nil (nx (s_cons (s_retO (o_cmpE (R.Ok.of (e_bi1 hlc (z := iD ((x.cps.toList.filter fun c => !letters.cps.toList.contains c).length)) (by simp [bi1, lenT, seqOf, lstOf, objOf, vI])) (R.Ok.of e_c ⟨_, c_eq, ?_, rfl⟩))))))
      rw [filter_zero]
      show _ = bD (wordOk x)
      unfold wordOk
      rw [hl, Bool.true_and]
  | non => exact no nofun
  | bl _ => exact no nofun
  | int _ => exact no nofun
  | tup _ => exact no nofun
end Ap
set_option Elab.async false
set_option linter.all false
set_option maxRecDepth 100000
set_option maxHeartbeats 1000000
namespace Ap
open PySem (Str)
variable {T : Tb} {S S1 S2 S3 : Store} {ρ : Env} {Γ : Ctx} {n : Nat} {n0 : Nat} {P : Fl → Store → Prop}
def okAt (f : D → Bool) (g : D → Int) (z : Bool) (ds : List D) (i : Nat) : Bool := f (ds.getD i .non) && (if i = 0 then !z || decide (g (ds.getD 0 .non) = 0) else decide (g (ds.getD (i - 1) .non) < g (ds.getD i .non)))
theorem getD_map {g : D → Int} {ds : List D} {i : Nat} (h : i < ds.length) : (ds.map g).getD i 0 = g (ds.getD i .non) := by
  rw [List.getD_eq_getElem?_getD, List.getD_eq_getElem?_getD, List.getElem?_map, List.getElem?_eq_getElem h]; rfl
theorem okAt_all {f : D → Bool} {g : D → Int} {z : Bool} {ds : List D} : (∀ i < ds.length, okAt f g z ds i = true) ↔ (ds.all f = true ∧ (ds = [] ∨ z = false ∨ g (ds.getD 0 .non) = 0) ∧ asc (ds.map g) = true) := by
  constructor
  · intro h
    refine ⟨?_, ?_, ?_⟩
    · rw [List.all_eq_true]
      intro d hd
      obtain ⟨i, hi⟩ := List.mem_iff_getElem?.mp hd
      have hl := (List.getElem?_eq_some_iff.mp hi).1
      have := h i hl
      unfold okAt at this
      simp only [Bool.and_eq_true] at this
      rw [List.getD_eq_getElem?_getD, hi] at this
      exact this.1
    · cases ds with
      | nil => exact .inl rfl
      | cons a r =>
        have := h 0 (by simp)
        unfold okAt at this
        rw [if_pos rfl] at this
        simp only [Bool.and_eq_true, Bool.or_eq_true, Bool.not_eq_true', decide_eq_true_eq] at this
        exact .inr this.2
    · unfold asc
      rw [List.all_eq_true]
      intro i hi
      rw [List.mem_range, List.length_map] at hi
      have := h (i + 1) (by omega)
      unfold okAt at this
      rw [if_neg (by omega)] at this
      simp only [Bool.and_eq_true, decide_eq_true_eq, Nat.add_sub_cancel] at this
      rw [getD_map (by omega), getD_map (by omega)]
      exact decide_eq_true this.2
  · rintro ⟨h1, h2, h3⟩ i hi
    have hf : f (ds.getD i .non) = true := by
      rw [List.getD_eq_getElem?_getD, List.getElem?_eq_getElem hi]
      exact List.all_eq_true.mp h1 _ (List.getElem_mem hi)
    unfold okAt
    rw [hf, Bool.true_and]
    split
    · rename_i h0
      rcases h2 with rfl | rfl | h2
      · simp at hi
      · rfl
      · rw [decide_eq_true h2, Bool.or_true]
    · unfold asc at h3
      rw [List.all_eq_true] at h3
      have := h3 (i - 1) (by rw [List.mem_range, List.length_map]; omega)
      rw [decide_eq_true_eq, getD_map (by omega), getD_map (by omega), show i - 1 + 1 = i by omega] at this
      exact decide_eq_true this
theorem dayB_at {ds : List D} (h : rowOk (.tup ds) 1 8 = true) : dayB (.tup ds) = true ↔ ∀ i < ds.length, okAt pairB startI true ds i = true := by
  have hl := rowOk_len h
  rw [okAt_all, dayB_eq, h]
  have hh : ds.headD .non = ds.getD 0 .non := by cases ds <;> rfl
  have hne : ds ≠ [] := by rintro rfl; simp at hl
  simp only [Bool.true_and, Bool.and_eq_true, decide_eq_true_eq, hh, hne, Bool.true_eq_false, false_or]
theorem feastsB_at {ds : List D} (h : rowOk (.tup ds) 0 20 = true) : feastsB (.tup ds) = true ↔ ∀ i < ds.length, okAt (fun e => within e 0 1000) intD false ds i = true := by
  rw [okAt_all, feastsB_eq, h]
  simp only [Bool.true_and, Bool.and_eq_true, true_or, or_true, true_and]
theorem bool_false {b : Bool} (h : ¬ b = true) : b = false := by cases b <;> simp_all
theorem law_day_eq (pk : PreLk T) (p : PreLw T) {d : D} (h : d.sm = true) : callF T (n + 3) "_law_is_day" [.dat d] S = .ok (bD (dayB d)) S := by
  have no : (∀ ds, d ≠ .tup ds) → callF T (n + 3) "_law_is_day" [.dat d] S = .ok (bD (dayB d)) S := fun hn => by
    have hi : isTys (vD d) S [.tuple] = some false := by
      cases d <;> first | rfl | exact absurd rfl (hn _)
    refine ok_eq (cal_ok p.day rfl (s_cons (s_ifO (t_or (t_noO (R.Ok.of (t_isi (e_v rfl) hi) ?_))))))
    simp only [Bool.not_false, if_true]
    refine s_cons (s_ret e_c ⟨?_, rfl⟩)
    cases d <;> first | rfl | exact absurd rfl (hn _)
  cases d with
  | tup ds =>
    have hsm : D.sms ds = true := by simpa [D.sm] using h
    refine ok_eq (cal_ok p.day rfl (s_cons (s_ifO (t_or (t_noO (R.Ok.of (t_isi (b := true) (e_v rfl) (isi1 rfl)) ?_))))))
    simp only [Bool.not_true, Bool.false_eq_true, if_false]
    refine t_or1 (t_noO (R.Ok.of (t_c2 (e_c) (e_bi1 (e_v rfl) l_lenT) e_c c_le c_le) ?_))
    rw [not_lt_le, not_lt_le]
    show (if (!rowOk (.tup ds) 1 8) = true then _ else _)
    cases hr : rowOk (.tup ds) 1 8 with
    | false =>
      simp only [Bool.not_false, if_true]
      refine s_cons (s_ret e_c ⟨?_, rfl⟩)
      rw [dayB_eq, hr]; rfl
    | true =>
      simp only [Bool.not_true, Bool.false_eq_true, if_false]
      have hl := rowOk_len hr
      have hfalse : ∀ i < ds.length, okAt pairB startI true ds i = false → bD false = bD (dayB (.tup ds)) := fun i hi hk => by
        have : dayB (.tup ds) = false := bool_false fun q => by
          have := (dayB_at hr).mp q i hi
          rw [hk] at this; cases this
        rw [this]
      refine s_nil (nx (s_cons (s_for (P := flNext _ _) (i_r1 (n := ds.length) (e_bi1 (e_v rfl) l_lenT) (okR_small (by omega) (by omega))) (fun i ρ S' => (∃ x1 x2, ρ = [some (.dat (.tup ds)), x1, x2]) ∧ S' = S ∧ ∀ m < i, okAt pairB startI true ds m = true) ⟨⟨_, _, rfl⟩, rfl, fun m hm => absurd hm (Nat.not_lt_zero _)⟩ ?_ ?_)))
      · rintro i x ρ S' hx ⟨⟨x1, x2, rfl⟩, rfl, hm⟩
        rw [upto_at] at hx
        split at hx
        case isFalse => cases hx
        rename_i hi
        cases hx
        have hlt : (0 + (i : Int)) < (ds.length : Int) := by omega
        have hit : ds[(0 + (i : Int)).toNat]? = some ds[i] := by rw [show (0 + (i : Int)).toNat = i by omega]; exact List.getElem?_eq_getElem hi
        have hge : ds.getD i .non = ds[i] := by rw [List.getD_eq_getElem?_getD, List.getElem?_eq_getElem hi]; rfl
        have hes := sms_mem hsm (List.getElem_mem hi)
        refine ⟨rfl, _, rfl, s_cons (s_asD (S1 := S') (d := .dat ds[i]) (e_ix (e_v rfl) (e_v rfl) (l_ixT (by omega) hlt hit)) (show 2 < 3 by decide) (nx ?_))⟩
        show (exs _ _ _ [some (.dat (.tup ds)), some (.dat (.int (0 + i))), some (.dat ds[i])] S').Ok _
        generalize he : ds[i] = e at hge hes
        -- the pair
        have bad : pairB e = false → okAt pairB startI true ds i = false := fun q => by
          unfold okAt
          rw [hge, q]; rfl
        have go : pairB e = true → (exs (T.ctx (callF T (n + 2))) (.cons (.if_ (.or (.cons (.and (.cons (.cmp .eq (.v 1) (.c (.int 0))) (.cons (.cmp .ne (.ix (.v 2) (.c (.int 0))) (.c (.int 0))) .nil))) (.cons (.and (.cons (.cmp .gt (.v 1) (.c (.int 0))) (.cons (.cmp .ge (.ix (.ix (.v 0) (.bin .sub (.v 1) (.c (.int 1)))) (.c (.int 0))) (.ix (.v 2) (.c (.int 0)))) .nil))) .nil)))
    (.cons (.ret (.c (.bl false)))
    .nil)
    .nil)
    .nil) S'.length [some (.dat (.tup ds)), some (.dat (.int (0 + i))), some (.dat e)] S').Ok fun f S'' => match f with
      | .next ρ' => (∃ x1 x2, ρ' = [some (.dat (.tup ds)), x1, x2]) ∧ S'' = S' ∧ ∀ m < i + 1, okAt pairB startI true ds m = true
      | .cnt ρ' => (∃ x1 x2, ρ' = [some (.dat (.tup ds)), x1, x2]) ∧ S'' = S' ∧ ∀ m < i + 1, okAt pairB startI true ds m = true
      | .brk ρ' => flNext (exs (T.ctx (callF T (n + 2))) (.cons (.ret (.c (.bl true))) .nil) S'.length) (fin fun t S'' => t = bD (dayB (.tup ds)) ∧ S'' = S') (.next ρ') S''
      | .ret t => flNext (exs (T.ctx (callF T (n + 2))) (.cons (.ret (.c (.bl true))) .nil) S'.length) (fin fun t S'' => t = bD (dayB (.tup ds)) ∧ S'' = S') (.ret t) S'' := by
          intro hp
          obtain ⟨a, w, rfl, _⟩ := pairB_ok hp
          have i0 : index (vD (.tup [.int a, .str w])) (iD 0) S' = some (iD a) := l_ixT (by decide) (by simp) rfl
          have fin1 : okAt pairB startI true ds i = true → ∀ m < i + 1, okAt pairB startI true ds m = true := fun hk m hmm => by
            rcases Nat.lt_succ_iff_lt_or_eq.mp hmm with q | rfl
            · exact hm m q
            · exact hk
          by_cases h0 : i = 0
          · subst h0
            refine s_cons (s_ifO (t_or (t_and (R.Ok.of (t_cm (z := true) (e_v rfl) e_c rfl) ?_))))
            simp only [if_true]
            refine t_and1 (R.Ok.of (t_cm (e_ix (e_v rfl) e_c i0) e_c c_ne) ?_)
            have hk : okAt pairB startI true ds 0 = decide (a = 0) := by
              unfold okAt
              rw [hge, hp, if_pos rfl]
              rfl
            by_cases ha : a = 0
            · rw [decide_eq_true ha]
              simp only [Bool.not_true, Bool.false_eq_true, if_false]
              refine t_or1 (t_and (R.Ok.of (t_cm (z := false) (e_v rfl) e_c rfl) ?_))
              simp only [Bool.false_eq_true, if_false]
              exact s_nil (nx (s_nil ⟨⟨_, _, rfl⟩, rfl, fin1 (by rw [hk, decide_eq_true ha])⟩))
            · rw [decide_eq_false ha]
              simp only [Bool.not_false, if_true]
              exact s_cons (s_ret e_c ⟨hfalse 0 hi (by rw [hk, decide_eq_false ha]), rfl⟩)
          · refine s_cons (s_ifO (t_or (t_and (R.Ok.of (t_cm (z := false) (e_v rfl) e_c (by show some (decide (0 + (i : Int) = 0)) = _; rw [decide_eq_false (by omega)])) ?_))))
            simp only [Bool.false_eq_true, if_false]
            refine t_or1 (t_and (R.Ok.of (t_cm (z := true) (e_v rfl) e_c (by show some (decide ((0 : Int) < 0 + (i : Int))) = _; rw [decide_eq_true (by omega)])) ?_))
            simp only [if_true]
            have hi1 : i - 1 < ds.length := by omega
            have hprev := hm (i - 1) (by omega)
            have hge1 : ds.getD (i - 1) .non = ds[i - 1] := by rw [List.getD_eq_getElem?_getD, List.getElem?_eq_getElem hi1]; rfl
            have hpp : pairB ds[i - 1] = true := by
              unfold okAt at hprev
              rw [hge1] at hprev
              simp only [Bool.and_eq_true] at hprev
              exact hprev.1
            obtain ⟨b, v, hb, _⟩ := pairB_ok hpp
            have ix1 : index (vD (.tup ds)) (iD (0 + (i : Int) - 1)) S' = some (vD ds[i - 1]) := l_ixT (by omega) (by omega) (by rw [show (0 + (i : Int) - 1).toNat = i - 1 by omega]; exact List.getElem?_eq_getElem hi1)
            have i1 : index (vD (.tup [.int b, .str v])) (iD 0) S' = some (iD b) := l_ixT (by decide) (by simp) rfl
            rw [hb] at ix1
            refine t_and1 (R.Ok.of (t_cm (e_ix (e_ix (e_v rfl) (e_bin (e_v rfl) e_c b_sub) ix1) e_c i1) (e_ix (e_v rfl) e_c i0) c_ge) ?_)
            have hk : okAt pairB startI true ds i = decide (b < a) := by
              unfold okAt
              rw [hge, hp, if_neg h0, hge1, hb]
              rfl
            by_cases hba : b < a
            · rw [decide_eq_true hba]
              simp only [Bool.not_true, Bool.false_eq_true, if_false]
              exact s_nil (nx (s_nil ⟨⟨_, _, rfl⟩, rfl, fin1 (by rw [hk, decide_eq_true hba])⟩))
            · rw [decide_eq_false hba]
              simp only [Bool.not_false, if_true]
              exact s_cons (s_ret e_c ⟨hfalse i hi (by rw [hk, decide_eq_false hba]), rfl⟩)
        have ret : pairB e = false → ∀ (r : Ss), (exs (T.ctx (callF T (n + 2))) (.cons (.ret (.c (.bl false))) r) S'.length [some (.dat (.tup ds)), some (.dat (.int (0 + i))), some (.dat e)] S').Ok (fin fun t S'' => t = bD (dayB (.tup ds)) ∧ S'' = S') := fun q r => s_cons (s_ret e_c ⟨hfalse i hi (bad q), rfl⟩)
        have notup : (∀ ts, e ≠ .tup ts) → pairB e = false := fun hn => by
          cases e <;> first | rfl | exact absurd rfl (hn _)
        by_cases ht : ∃ ts, e = .tup ts
        · obtain ⟨ts, rfl⟩ := ht
          refine s_cons (s_ifO (t_or (t_noO (R.Ok.of (t_isi (b := true) (e_v rfl) (isi1 rfl)) ?_))))
          simp only [Bool.not_true, Bool.false_eq_true, if_false]
          refine t_or (R.Ok.of (t_cm (e_bi1 (e_v rfl) l_lenT) e_c c_ne) ?_)
          by_cases h2 : (ts.length : Int) = 2
          · rw [decide_eq_true h2]
            simp only [Bool.not_true, Bool.false_eq_true, if_false]
            have h2' : ts.length = 2 := by omega
            obtain ⟨a, b, rfl⟩ : ∃ a b, ts = [a, b] := by
              match ts, h2' with
              | [a, b], _ => exact ⟨a, b, rfl⟩
            have j0 : index (vD (.tup [a, b])) (iD 0) S' = some (vD a) := l_ixT (by decide) (by simp) rfl
            have j1 : index (vD (.tup [a, b])) (iD 1) S' = some (vD b) := l_ixT (by decide) (by simp) rfl
            have hbs : b.sm = true := by
              simp only [D.sm, D.sms, Bool.and_eq_true, Bool.and_true] at hes
              exact hes.2
            refine t_or (t_noO (t_callO (R.Ok.of (e_fn (xs := [.dat a, .dat (.int 0), .dat (.int 86399)]) (a_cons0 (e_ix (e_v rfl) e_c j0) (a_cons0 e_c (a_cons0 e_c a_nil0))) (between_eq (n := n) pk a 0 86399)) ⟨_, rfl, ?_⟩)))
            cases hw : within a 0 86399 with
            | false =>
              simp only [Bool.not_false, if_true]
              exact s_cons (s_ret e_c ⟨hfalse i hi (bad (by simp [pairB, hw])), rfl⟩)
            | true =>
              simp only [Bool.not_true, Bool.false_eq_true, if_false]
              refine t_or1 (t_noO (t_callO (R.Ok.of (e_fn (xs := [.dat b]) (a_cons0 (e_ix (e_v rfl) e_c j1) a_nil0) (law_word_eq (n := n + 1) p hbs)) ⟨_, rfl, ?_⟩)))
              cases hwb : wordD b with
              | false =>
                simp only [Bool.not_false, if_true]
                exact s_cons (s_ret e_c ⟨hfalse i hi (bad (by simp [pairB, hwb])), rfl⟩)
              | true =>
                simp only [Bool.not_true, Bool.false_eq_true, if_false]
                exact s_nil (nx (go (by simp [pairB, hw, hwb])))
          · rw [decide_eq_false h2]
            simp only [Bool.not_false, if_true]
            refine s_cons (s_ret e_c ⟨hfalse i hi (bad ?_), rfl⟩)
            unfold pairB
            split
            · rename_i q; cases q; simp at h2
            · rfl
        · have hn : ∀ ts, e ≠ .tup ts := fun ts q => ht ⟨ts, q⟩
          have hi' : isTys (vD e) S' [.tuple] = some false := by
            cases e <;> first | rfl | exact absurd rfl (hn _)
          refine s_cons (s_ifO (t_or (t_noO (R.Ok.of (t_isi (e_v rfl) hi') ?_))))
          simp only [Bool.not_false, if_true]
          exact s_cons (s_ret e_c ⟨hfalse i hi (bad (notup hn)), rfl⟩)
      · rintro ρ S' ⟨⟨x1, x2, rfl⟩, rfl, hm⟩
        rw [upto_ln] at hm
        refine ⟨rfl, nx (s_cons (s_ret e_c ⟨?_, rfl⟩))⟩
        rw [(dayB_at hr).mpr hm]
  | non => exact no nofun
  | bl _ => exact no nofun
  | int _ => exact no nofun
  | str _ => exact no nofun
end Ap
set_option Elab.async false
set_option linter.all false
set_option maxRecDepth 100000
set_option maxHeartbeats 1000000
namespace Ap
open PySem (Str)
variable {T : Tb} {S S1 S2 S3 : Store} {ρ : Env} {Γ : Ctx} {n : Nat} {n0 : Nat} {P : Fl → Store → Prop}
theorem isi_tup {d : D} : isTys (vD d) S [.tuple] = some (match d with | .tup _ => true | _ => false) := isi_tup_dat
theorem gt_zero {α : Type} (l : List α) (f : α → Bool) : decide ((0 : Int) < ((l.filter fun a => !f a).length : Int)) = !l.all f := by
  rw [← filter_zero]
  by_cases h : ((l.filter fun a => !f a).length : Int) = 0
  · rw [decide_eq_true h, decide_eq_false (by omega)]; rfl
  · rw [decide_eq_false h, decide_eq_true (by omega)]; rfl
theorem law_week_eq (pk : PreLk T) (p : PreLw T) {d : D} (h : d.sm = true) : callF T (n + 4) "_law_is_week" [.dat d] S = .ok (bD (shapeB d)) S := by
  have ret0 : ∀ {x1 x2 : Option Val} {r : Ss} {S : Store}, shapeB d = false → (exs (T.ctx (callF T (n + 3))) (.cons (.ret (.c (.bl false))) r) S.length [some (.dat d), x1, x2] S).Ok (fin fun t S'' => t = bD (shapeB d) ∧ S'' = S) := fun q => s_cons (s_ret e_c ⟨by rw [q], rfl⟩)
  refine ok_eq (cal_ok p.week rfl ?_)
  by_cases ht : ∃ ts, d = .tup ts
  case neg =>
    have hi : isTys (vD d) S [.tuple] = some false := by
      rw [isi_tup]
      cases d <;> first | rfl | exact absurd ⟨_, rfl⟩ ht
    refine s_cons (s_ifO (t_or (t_noO (R.Ok.of (t_isi (e_v rfl) hi) ?_))))
    simp only [Bool.not_false, if_true]
    refine s_cons (s_ret e_c ⟨?_, rfl⟩)
    have : shapeB d = false := by
      cases d <;> first | rfl | exact absurd ⟨_, rfl⟩ ht
    rw [this]
  obtain ⟨ts, rfl⟩ := ht
  refine s_cons (s_ifO (t_or (t_noO (R.Ok.of (t_isi (b := true) (e_v rfl) (isi1 rfl)) ?_))))
  simp only [Bool.not_true, Bool.false_eq_true, if_false]
  refine t_or (R.Ok.of (t_cm (e_bi1 (e_v rfl) l_lenT) e_c c_ne) ?_)
  by_cases h2 : (ts.length : Int) = 2
  case neg =>
    rw [decide_eq_false h2]
    simp only [Bool.not_false, if_true]
    refine s_cons (s_ret e_c ⟨?_, rfl⟩)
    have : shapeB (.tup ts) = false := by
      unfold shapeB
      split
      · rename_i q; cases q; simp at h2
      · rfl
    rw [this]
  rw [decide_eq_true h2]
  simp only [Bool.not_true, Bool.false_eq_true, if_false]
  have h2' : ts.length = 2 := by omega
  obtain ⟨a, b, rfl⟩ : ∃ a b, ts = [a, b] := by
    match ts, h2' with
    | [a, b], _ => exact ⟨a, b, rfl⟩
  simp only [D.sm, D.sms, Bool.and_eq_true, Bool.and_true] at h
  have i0 : index (vD (.tup [a, b])) (iD 0) S = some (vD a) := l_ixT (by decide) (by simp) rfl
  have i1 : index (vD (.tup [a, b])) (iD 1) S = some (vD b) := l_ixT (by decide) (by simp) rfl
  by_cases hta : ∃ ds, a = .tup ds
  case neg =>
    have hi : isTys (vD a) S [.tuple] = some false := by
      rw [isi_tup]
      cases a <;> first | rfl | exact absurd ⟨_, rfl⟩ hta
    refine t_or (t_noO (R.Ok.of (t_isi (e_ix (e_v rfl) e_c i0) hi) ?_))
    simp only [Bool.not_false, if_true]
    refine s_cons (s_ret e_c ⟨?_, rfl⟩)
    have : shapeB (.tup [a, b]) = false := by
      cases a <;> first | rfl | exact absurd ⟨_, rfl⟩ hta
    rw [this]
  obtain ⟨ds, rfl⟩ := hta
  have hsm : D.sms ds = true := by simpa [D.sm] using h.1
  refine t_or (t_noO (R.Ok.of (t_isi (b := true) (e_ix (e_v rfl) e_c i0) (isi1 rfl)) ?_))
  simp only [Bool.not_true, Bool.false_eq_true, if_false]
  refine t_or1 (R.Ok.of (t_cm (e_bi1 (e_ix (e_v rfl) e_c i0) l_lenT) e_c c_ne) ?_)
  by_cases h8 : (ds.length : Int) = 8
  case neg =>
    rw [decide_eq_false h8]
    simp only [Bool.not_false, if_true]
    refine s_cons (s_ret e_c ⟨?_, rfl⟩)
    have : rowOk (.tup ds) 8 8 = false := bool_false fun q => h8 (by have := rowOk_len q; omega)
    rw [shapeB_eq, this]; rfl
  rw [decide_eq_true h8]
  simp only [Bool.not_true, Bool.false_eq_true, if_false]
  have hr8 : rowOk (.tup ds) 8 8 = true := rowOk_tup (by omega) (by omega)
  have hlc : ev (T.ctx (callF T (n + 3))) (.lc (.v 2) [2] (.nm 2) (.e (.ix (.v 0) (.c (.int 0)))) (.cons (.no (.call "_law_is_day" (.cons (.v 2) .nil) .nil)) .nil)) [some (.dat (.tup [.tup ds, b])), none, none] S = .ok (.new (.lst (((ds.filter fun e => !dayB e).map id).map .dat))) S := by
    refine e_lcF (l := ds) (f := fun e => .dat e) (fun e => !dayB e) id (src := ⟨ds.map .dat, []⟩) (i_dat (e_ix (e_v rfl) e_c i0)) rfl rfl (by unfold line; omega) fun e he => ⟨_, rfl, t_no (t_call (e_fn (xs := [.dat e]) (a_cons0 (e_v rfl) a_nil0) (law_day_eq pk p (sms_mem hsm he)))), fun _ => e_v rfl⟩
  refine s_nil (nx (s_cons (s_ifO (t_or (R.Ok.of (t_cm (e_bi1 hlc (z := iD ((ds.filter fun e => !dayB e).length)) (by simp [bi1, lenT, seqOf, lstOf, objOf, vI])) e_c c_gt) ?_)))))
  rw [gt_zero]
  cases hd : ds.all dayB with
  | false =>
    simp only [Bool.not_false, if_true]
    refine s_cons (s_ret e_c ⟨?_, rfl⟩)
    rw [shapeB_eq, hd]; simp
  | true =>
    simp only [Bool.not_true, Bool.false_eq_true, if_false]
    by_cases htb : ∃ fs, b = .tup fs
    case neg =>
      have hi : isTys (vD b) S [.tuple] = some false := by
        rw [isi_tup]
        cases b <;> first | rfl | exact absurd ⟨_, rfl⟩ htb
      refine t_or (t_noO (R.Ok.of (t_isi (e_ix (e_v rfl) e_c i1) hi) ?_))
      simp only [Bool.not_false, if_true]
      refine s_cons (s_ret e_c ⟨?_, rfl⟩)
      have : feastsB b = false := by
        cases b <;> first | rfl | exact absurd ⟨_, rfl⟩ htb
      rw [shapeB_eq, this]; simp
    obtain ⟨fs, rfl⟩ := htb
    refine t_or (t_noO (R.Ok.of (t_isi (b := true) (e_ix (e_v rfl) e_c i1) (isi1 rfl)) ?_))
    simp only [Bool.not_true, Bool.false_eq_true, if_false]
    refine t_or1 (R.Ok.of (t_cm (e_bi1 (e_ix (e_v rfl) e_c i1) l_lenT) e_c c_gt) ?_)
    by_cases h20 : (20 : Int) < fs.length
    · rw [decide_eq_true h20]
      simp only [if_true]
      refine s_cons (s_ret e_c ⟨?_, rfl⟩)
      have : rowOk (.tup fs) 0 20 = false := bool_false fun q => by have := rowOk_len q; omega
      rw [shapeB_eq, feastsB_eq, this]; simp
    rw [decide_eq_false h20]
    simp only [Bool.false_eq_true, if_false]
    have hr : rowOk (.tup fs) 0 20 = true := rowOk_tup (by omega) (by omega)
    have hsh : shapeB (.tup [.tup ds, .tup fs]) = feastsB (.tup fs) := by rw [shapeB_eq, hr8, hd]; rfl
    have hfalse : ∀ i < fs.length, okAt (fun e => within e 0 1000) intD false fs i = false → bD false = bD (shapeB (.tup [.tup ds, .tup fs])) := fun i hi hk => by
      have : feastsB (.tup fs) = false := bool_false fun q => by
        have := (feastsB_at hr).mp q i hi
        rw [hk] at this; cases this
      rw [hsh, this]
    refine s_nil (nx (s_cons (s_for (P := flNext _ _) (i_r1 (n := fs.length) (e_bi1 (e_ix (e_v rfl) e_c i1) l_lenT) (okR_small (by omega) (by omega))) (fun i ρ S' => (∃ x1, ρ = [some (.dat (.tup [.tup ds, .tup fs])), x1, none]) ∧ S' = S ∧ ∀ m < i, okAt (fun e => within e 0 1000) intD false fs m = true) ⟨⟨_, rfl⟩, rfl, fun m hm => absurd hm (Nat.not_lt_zero _)⟩ ?_ ?_)))
    · rintro i x ρ S' hx ⟨⟨x1, rfl⟩, rfl, hm⟩
      rw [upto_at] at hx
      split at hx
      case isFalse => cases hx
      rename_i hi
      cases hx
      have hit : fs[(0 + (i : Int)).toNat]? = some fs[i] := by rw [show (0 + (i : Int)).toNat = i by omega]; exact List.getElem?_eq_getElem hi
      have hge : fs.getD i .non = fs[i] := by rw [List.getD_eq_getElem?_getD, List.getElem?_eq_getElem hi]; rfl
      have ixi : index (vD (.tup fs)) (iD (0 + (i : Int))) S' = some (vD fs[i]) := l_ixT (by omega) (by omega) hit
      generalize he : fs[i] = e at hge ixi
      refine ⟨rfl, _, rfl, s_cons (s_ifO (t_or (t_noO (t_callO (R.Ok.of (e_fn (xs := [.dat e, .dat (.int 0), .dat (.int 1000)]) (a_cons0 (e_ix (e_ix (e_v rfl) e_c i1) (e_v rfl) ixi) (a_cons0 e_c (a_cons0 e_c a_nil0))) (between_eq (n := n + 1) pk e 0 1000)) ⟨_, rfl, ?_⟩)))))⟩
      cases hw : within e 0 1000 with
      | false =>
        simp only [Bool.not_false, if_true]
        refine s_cons (s_ret e_c ⟨hfalse i hi ?_, rfl⟩)
        unfold okAt
        rw [hge]; dsimp only; rw [hw]; rfl
      | true =>
        simp only [Bool.not_true, Bool.false_eq_true, if_false]
        obtain ⟨v, rfl, _⟩ := within_int hw
        by_cases h0 : i = 0
        · subst h0
          refine t_or1 (t_and (R.Ok.of (t_cm (z := false) (e_v rfl) e_c rfl) ?_))
          simp only [Bool.false_eq_true, if_false]
          refine s_nil (nx (s_nil ⟨⟨_, rfl⟩, rfl, fun m hmm => ?_⟩))
          have : m = 0 := by omega
          subst this
          unfold okAt
          rw [hge]; dsimp only; rw [hw, if_pos rfl]; rfl
        · refine t_or1 (t_and (R.Ok.of (t_cm (z := true) (e_v rfl) e_c (by show some (decide ((0 : Int) < 0 + (i : Int))) = _; rw [decide_eq_true (by omega)])) ?_))
          simp only [if_true]
          have hi1 : i - 1 < fs.length := by omega
          have hprev := hm (i - 1) (by omega)
          have hge1 : fs.getD (i - 1) .non = fs[i - 1] := by rw [List.getD_eq_getElem?_getD, List.getElem?_eq_getElem hi1]; rfl
          have hpp : within fs[i - 1] 0 1000 = true := by
            unfold okAt at hprev
            rw [hge1] at hprev
            simp only [Bool.and_eq_true] at hprev
            exact hprev.1
          obtain ⟨u, hu, _⟩ := within_int hpp
          have ix1 : index (vD (.tup fs)) (iD (0 + (i : Int) - 1)) S' = some (vD fs[i - 1]) := l_ixT (by omega) (by omega) (by rw [show (0 + (i : Int) - 1).toNat = i - 1 by omega]; exact List.getElem?_eq_getElem hi1)
          rw [hu] at ix1
          refine t_and1 (R.Ok.of (t_cm (e_ix (e_ix (e_v rfl) e_c i1) (e_bin (e_v rfl) e_c b_sub) ix1) (e_ix (e_ix (e_v rfl) e_c i1) (e_v rfl) ixi) c_ge) ?_)
          have hk : okAt (fun e => within e 0 1000) intD false fs i = decide (u < v) := by
            unfold okAt
            rw [hge]; dsimp only; rw [hw, if_neg h0, hge1, hu]
            rfl
          by_cases hba : u < v
          · rw [decide_eq_true hba]
            simp only [Bool.not_true, Bool.false_eq_true, if_false]
            refine s_nil (nx (s_nil ⟨⟨_, rfl⟩, rfl, fun m hmm => ?_⟩))
            rcases Nat.lt_succ_iff_lt_or_eq.mp hmm with q | rfl
            · exact hm m q
            · rw [hk, decide_eq_true hba]
          · rw [decide_eq_false hba]
            simp only [Bool.not_false, if_true]
            exact s_cons (s_ret e_c ⟨hfalse i hi (by rw [hk, decide_eq_false hba]), rfl⟩)
    · rintro ρ S' ⟨⟨x1, rfl⟩, rfl, hm⟩
      rw [upto_ln] at hm
      refine ⟨rfl, nx (s_cons (s_ret e_c ⟨?_, rfl⟩))⟩
      rw [hsh, (feastsB_at hr).mpr hm]
theorem is_week_ok (p : PreK T) (ps : PreS T) (pw : PreLw T) {d : D} {x : Val} (hx : Lk S x d) (hd : Nice d (n + 4)) : (callF T (n + 6) "is_week" [x] S).Ok fun t S' => t = bD (shapeB d) ∧ Gr S S' := by
  have hf : callF T (n + 5) "frozen" [x] S = .ok (vD d) S := ok_eq (frozen_ok p (n + 4) d x S hx hd.fits hd.deep)
  refine cal_ok pw.isw rfl (s_cons (s_retO (o_fnG (xs := [.dat d]) (a_cons0 (e_fn (xs := [x]) (a_cons0 (e_v rfl) a_nil0) hf) a_nil0) (shape_eq p ps hd.sm) fun S' g => ⟨rfl, g⟩)))
end Ap
set_option Elab.async false
set_option linter.all false
set_option maxRecDepth 100000
set_option maxHeartbeats 1000000
namespace Ap
open PySem (Str)
def p_pc_rest : Ss :=
    (.cons (.as 3 (.call "_law_take" (.cons (.v 0) (.cons (.v 1) (.cons (.c (.int 6)) .nil))) .nil))
    (.cons (.if_ (.and (.cons (.isi (.v 2) [.tuple]) (.cons (.cmp .eq (.v 3) (.c (.int 0))) (.cons (.cmp .gt (.bi .len (.cons (.v 2) .nil)) (.c (.int 0))) .nil))))
    (.cons (.ret (.bin .add (.v 2) (.sl (.v 2) .no (.so (.c (.int 1))))))
    .nil)
    .nil)
    (.cons (.if_ (.and (.cons (.isi (.v 2) [.tuple]) (.cons (.cmp .eq (.v 3) (.c (.int 1))) (.cons (.cmp .gt (.bi .len (.cons (.v 2) .nil)) (.c (.int 0))) .nil))))
    (.cons (.ret (.sl (.v 2) (.so (.c (.int 1))) .no))
    .nil)
    .nil)
    (.cons (.if_ (.and (.cons (.isi (.v 2) [.tuple]) (.cons (.cmp .eq (.v 3) (.c (.int 3))) (.cons (.cmp .gt (.bi .len (.cons (.v 2) .nil)) (.c (.int 0))) .nil))))
    (.cons (.as 4 (.call "_law_take" (.cons (.v 0) (.cons (.v 1) (.cons (.bi .len (.cons (.v 2) .nil)) .nil))) .nil))
    (.cons (.as 5 (.ix (.v 2) (.v 4)))
    (.cons (.if_ (.and (.cons (.isi (.v 5) [.tuple]) (.cons (.cmp .gt (.bi .len (.cons (.v 5) .nil)) (.c (.int 1))) (.cons (.isi (.ix (.v 5) (.bin .sub (.bi .len (.cons (.v 5) .nil)) (.c (.int 1)))) [.int]) .nil))))
    (.cons (.ret (.bin .add (.bin .add (.sl (.v 2) .no (.so (.bin .add (.v 4) (.c (.int 1))))) (.tup (.cons (.bin .add (.sl (.v 5) .no (.so (.bin .sub (.bi .len (.cons (.v 5) .nil)) (.c (.int 1))))) (.tup (.cons (.bin .add (.ix (.v 5) (.bin .sub (.bi .len (.cons (.v 5) .nil)) (.c (.int 1)))) (.c (.int 1))) .nil))) .nil))) (.sl (.v 2) (.so (.bin .add (.v 4) (.c (.int 1)))) .no)))
    .nil)
    .nil)
    .nil)))
    .nil)
    (.cons (.if_ (.and (.cons (.isi (.v 2) [.tuple]) (.cons (.cmp .eq (.v 3) (.c (.int 2))) (.cons (.cmp .gt (.bi .len (.cons (.v 2) .nil)) (.c (.int 1))) .nil))))
    (.cons (.ret (.bin .add (.sl (.v 2) (.so (.c (.int 1))) .no) (.sl (.v 2) .no (.so (.c (.int 1))))))
    .nil)
    .nil)
    (.cons (.if_ (.and (.cons (.isi (.v 2) [.int]) (.cons (.cmp .lt (.v 3) (.c (.int 4))) .nil)))
    (.cons (.ret (.call "_law_pick" (.cons (.v 0) (.cons (.v 1) (.cons (.lst (.cons (.bin .add (.v 2) (.c (.int 1))) (.cons (.bin .sub (.v 2) (.c (.int 1))) (.cons (.c (.int 0)) (.cons (.c (.int 1)) (.cons (.c (.int 8)) (.cons (.c (.int 86400)) (.cons (.c (.int 1000)) (.cons (.c (.int 1001)) (.cons (.bin .add (.bin .pow (.c (.int 10)) (.c (.int 6))) (.c (.int 1))) (.cons (.bin .add (.bin .pow (.c (.int 10)) (.c (.int 8))) (.c (.int 1))) (.cons (.c .non) (.cons (.c (.bl true)) .nil))))))))))))) .nil))) .nil))
    .nil)
    .nil)
    (.cons (.if_ (.and (.cons (.isi (.v 2) [.str]) (.cons (.cmp .lt (.v 3) (.c (.int 4))) .nil)))
    (.cons (.ret (.call "_law_pick" (.cons (.v 0) (.cons (.v 1) (.cons (.lst (.cons (.c (.str "")) (.cons (.c (.str "a")) (.cons (.c (.str "A")) (.cons (.c (.str "toolongword")) (.cons (.c (.str "1")) (.cons (.c (.str "12")) (.cons (.c (.str "123")) (.cons (.c (.str "12345678")) (.cons (.c (.str "123456789")) (.cons (.c (.str "40")) (.cons (.c (.str "void")) (.cons (.bin .add (.v 2) (.c (.str "1"))) (.cons (.bin .add (.v 2) (.c (.str "\n"))) (.cons (.v 2) .nil))))))))))))))) .nil))) .nil))
    .nil)
    .nil)
    (.cons (.ret (.call "_law_pick" (.cons (.v 0) (.cons (.v 1) (.cons (.lst (.cons (.c .non) (.cons (.c (.int 7)) (.cons (.c (.bl true)) (.cons (.c (.str "")) (.cons (.tup .nil) (.cons (.tup (.cons (.c (.int 0)) .nil)) (.cons (.c (.str "a")) (.cons (.tup (.cons (.c (.str "a")) .nil)) (.cons (.tup (.cons (.c (.int 0)) (.cons (.c (.str "a")) .nil))) (.cons (.c (.str "40123")) .nil))))))))))) .nil))) .nil))
    .nil))))))))
def p_law_part_changed : Fn := ⟨3, 6,
    (.cons (.if_ (.and (.cons (.isi (.v 2) [.tuple]) (.cons (.cmp .gt (.bi .len (.cons (.v 2) .nil)) (.c (.int 0))) (.cons (.cmp .gt (.call "_law_take" (.cons (.v 0) (.cons (.v 1) (.cons (.c (.int 6)) .nil))) .nil) (.c (.int 0))) .nil))))
    (.cons (.as 4 (.call "_law_take" (.cons (.v 0) (.cons (.v 1) (.cons (.bi .len (.cons (.v 2) .nil)) .nil))) .nil))
    (.cons (.ret (.bin .add (.bin .add (.sl (.v 2) .no (.so (.v 4))) (.tup (.cons (.call "_law_part_changed" (.cons (.v 0) (.cons (.v 1) (.cons (.ix (.v 2) (.v 4)) .nil))) .nil) .nil))) (.sl (.v 2) (.so (.bin .add (.v 4) (.c (.int 1)))) .no)))
    .nil))
    .nil) p_pc_rest)⟩
variable {T : Tb} {S S1 S2 S3 : Store} {ρ : Env} {Γ : Ctx} {n : Nat} {n0 : Nat} {P : Fl → Store → Prop}
mutual
/-- ints, texts, tuples of these -/
def D.core : D → Bool
  | .int _ => true
  | .str _ => true
  | .tup ds => D.cores ds
  | _ => false
def D.cores : List D → Bool
  | [] => true
  | d :: ds => d.core && D.cores ds
end
mutual
/-- nothing of it is longer than k -/
def D.mild (k : Nat) : D → Bool
  | .str s => decide (s.length ≤ k)
  | .tup ds => decide (ds.length ≤ k) && D.milds k ds
  | _ => true
def D.milds (k : Nat) : List D → Bool
  | [] => true
  | d :: ds => d.mild k && D.milds k ds
end
theorem cores_iff : ∀ {ds : List D}, D.cores ds = true ↔ ∀ d ∈ ds, d.core = true
  | [] => by simp [D.cores]
  | a :: r => by simp [D.cores, cores_iff (ds := r)]
theorem milds_iff {k : Nat} : ∀ {ds : List D}, D.milds k ds = true ↔ ∀ d ∈ ds, d.mild k = true
  | [] => by simp [D.milds]
  | a :: r => by simp [D.milds, milds_iff (ds := r)]
theorem depth_mem : ∀ {ds : List D} {d : D}, d ∈ ds → d.depth ≤ D.depths ds
  | a :: r, d, h => by
    simp only [D.depths]
    rcases List.mem_cons.mp h with rfl | h
    · omega
    · have := depth_mem h; omega
mutual
theorem mild_up {k l : Nat} (h : k ≤ l) : ∀ (d : D), d.mild k = true → d.mild l = true
  | .str s, q => by simp only [D.mild, decide_eq_true_eq] at q ⊢; omega
  | .tup ds, q => by
    simp only [D.mild, Bool.and_eq_true, decide_eq_true_eq] at q ⊢
    exact ⟨by omega, milds_up h ds q.2⟩
  | .non, _ => rfl
  | .bl _, _ => rfl
  | .int _, _ => rfl
theorem milds_up {k l : Nat} (h : k ≤ l) : ∀ (ds : List D), D.milds k ds = true → D.milds l ds = true
  | [], _ => rfl
  | d :: ds, q => by
    simp only [D.milds, Bool.and_eq_true] at q ⊢
    exact ⟨mild_up h d q.1, milds_up h ds q.2⟩
end
mutual
theorem mild_fits {k : Nat} (hk : k ≤ line) : ∀ (d : D), d.mild k = true → d.fits = true ∧ d.sm = true
  | .str s, q => by
    simp only [D.mild, decide_eq_true_eq] at q
    exact ⟨rfl, by simp only [D.sm, decide_eq_true_eq]; omega⟩
  | .tup ds, q => by
    simp only [D.mild, Bool.and_eq_true, decide_eq_true_eq] at q
    obtain ⟨a, b⟩ := milds_fits hk ds q.2
    exact ⟨by simp only [D.fits, a, Bool.and_true, decide_eq_true_eq]; omega, by simpa only [D.sm] using b⟩
  | .non, _ => ⟨rfl, rfl⟩
  | .bl _, _ => ⟨rfl, rfl⟩
  | .int _, _ => ⟨rfl, rfl⟩
theorem milds_fits {k : Nat} (hk : k ≤ line) : ∀ (ds : List D), D.milds k ds = true → D.fitss ds = true ∧ D.sms ds = true
  | [], _ => ⟨rfl, rfl⟩
  | d :: ds, q => by
    simp only [D.milds, Bool.and_eq_true] at q
    obtain ⟨a1, a2⟩ := mild_fits hk d q.1
    obtain ⟨b1, b2⟩ := milds_fits hk ds q.2
    exact ⟨by simp only [D.fitss, a1, b1, Bool.and_self], by simp only [D.sms, a2, b2, Bool.and_self]⟩
end
theorem cut_suf {α : Type} (xs : List α) {k : Int} (h0 : 0 ≤ k) (h1 : k.toNat ≤ xs.length) : cut xs (some k) none = xs.drop k.toNat := by
  show (xs.drop (if k < 0 then (k + (xs.length : Int)).toNat else min k.toNat xs.length)).take (xs.length - (if k < 0 then (k + (xs.length : Int)).toNat else min k.toNat xs.length)) = _
  rw [if_neg (by omega), Nat.min_eq_left h1, List.take_of_length_le (by simp)]
theorem e_slT {a b : E} {ds : List D} {k : Int} (h : ev Γ a ρ S = .ok (vD (.tup ds)) S) (hb : ev Γ b ρ S = .ok (iD k) S) (h0 : 0 ≤ k) (h1 : k.toNat ≤ ds.length) : ev Γ (.sl a .no (.so b)) ρ S = .ok (vD (.tup (ds.take k.toNat))) S := by
  rw [ev]; unfold mSl
  rw [h, bind_ok, evO, evO]; unfold mOSo mONo
  rw [bind_ok, hb]
  show (R.ok (TV.val (.dat (.tup (cut ds none (some k))))) S) = _
  rw [cut_pre ds h0 h1]
theorem e_slD {a b : E} {ds : List D} {k : Int} (h : ev Γ a ρ S = .ok (vD (.tup ds)) S) (hb : ev Γ b ρ S = .ok (iD k) S) (h0 : 0 ≤ k) (h1 : k.toNat ≤ ds.length) : ev Γ (.sl a (.so b) .no) ρ S = .ok (vD (.tup (ds.drop k.toNat))) S := by
  rw [ev]; unfold mSl
  rw [h, bind_ok, evO, evO]; unfold mOSo mONo
  rw [hb]
  show (R.ok (TV.val (.dat (.tup (cut ds (some k) none)))) S) = _
  rw [cut_suf ds h0 h1]
theorem b_addT {a b : List D} (h : a.length + b.length ≤ line) : bin .add (vD (.tup a)) (vD (.tup b)) S = some (vD (.tup (a ++ b))) := by
  simp only [bin, binD, if_pos h, Option.map_some]
theorem b_addS {a b : Str} (h : a.length + b.length ≤ line) : bin .add (vD (.str a)) (vD (.str b)) S = some (vD (.str (a ++ b))) := by
  simp only [bin, binD, if_pos h, Option.map_some]
theorem t_and3P {a b c : E} {x y z : Bool} (ha : evT Γ a ρ S = .ok x S) (hb : evT Γ b ρ S = .ok y S) (hc : evT Γ c ρ S = .ok z S) : evT Γ (.and (.cons a (.cons b (.cons c .nil)))) ρ S = .ok (x && (y && z)) S := by
  rw [evT, evTAnd, evTAnd, evTAnd]; unfold mTAnd
  rw [ha, bind_ok]
  cases x with
  | true =>
    rw [if_pos rfl, hb, bind_ok]
    cases y with
    | true => rw [if_pos rfl, hc]; rfl
    | false => rfl
  | false => rfl
theorem t_and2P {a b : E} {x y : Bool} (ha : evT Γ a ρ S = .ok x S) (hb : evT Γ b ρ S = .ok y S) : evT Γ (.and (.cons a (.cons b .nil))) ρ S = .ok (x && y) S := t_and2 ha hb
/-- an if whose test is an and that begins falsely -/
theorem s_ifF {a b : E} {r : Es} {p : Ss} (ha : evT Γ a ρ S = .ok false S) (h : P (.next ρ) S) : (ex Γ (.if_ (.and (.cons a (.cons b r))) p .nil) n0 ρ S).Ok P := by
  refine s_ifO (t_and (R.Ok.of ha ?_))
  simp only [Bool.false_eq_true, if_false]
  exact s_nil h
structure PrePc (T : Tb) : Prop where
  part : T.fns.lookup ("_law_part_changed" : Str) = some p_law_part_changed
/-- what a change of one part may give -/
structure Chg (d e : D) : Prop where
  mild : e.mild 40 = true
  deep : e.depth ≤ d.depth + 1
theorem deps_le {k : Nat} : ∀ {es : List D}, (∀ e ∈ es, e.depth ≤ k) → D.depths es ≤ k
  | [], _ => Nat.zero_le _
  | a :: r, h => by
    simp only [D.depths]
    have := h a (List.mem_cons_self ..)
    have := deps_le fun e he => h e (List.mem_cons_of_mem a he)
    omega
theorem chg_tup {ds es : List D} (hl : es.length ≤ 40) (h : ∀ e ∈ es, e.mild 40 = true ∧ e.depth ≤ D.depths ds + 1) : Chg (.tup ds) (.tup es) := by
  refine ⟨?_, ?_⟩
  · simp only [D.mild, Bool.and_eq_true, decide_eq_true_eq]
    exact ⟨hl, milds_iff.mpr fun e he => (h e he).1⟩
  · simp only [D.depth]
    have := deps_le (k := D.depths ds + 1) fun e he => (h e he).2
    omega
theorem chg_self {d : D} (h : d.mild 30 = true) : Chg d d := ⟨mild_up (by decide) d h, by omega⟩
theorem chg_low {d e : D} (h : e.mild 40 = true) (hd : e.depth ≤ 1) : Chg d e := ⟨h, by omega⟩
end Ap
set_option Elab.async false
set_option linter.all false
set_option maxRecDepth 100000
set_option maxHeartbeats 1000000
namespace Ap
open PySem (Str)
variable {T : Tb} {S S1 S2 S3 : Store} {ρ : Env} {Γ : Ctx} {n : Nat} {n0 : Nat} {P : Fl → Store → Prop}
theorem isi_f {d : D} {ty : Ty} {b : Bool} {a : E} (ha : ev Γ a ρ S = .ok (vD d) S) (h : isTy (vD d) S ty = some b) : evT Γ (.isi a [ty]) ρ S = .ok b S := t_isi ha (isi1 h)
theorem s_len (a b : Str) : (a ++ b).length = a.length + b.length := by
  show (a.cps ++ b.cps).size = a.cps.size + b.cps.size
  exact Array.size_append
/-- the last pick -/
theorem pc_last (p : Pre T) (pp : PreP T) {d : D} {x2 x3 x4 x5 : Option Val} {m0 : Nat} (hd : Dr S) (hf : Flt S) : (exs (T.ctx (callF T (n + 3))) (.cons (.ret (.call "_law_pick" (.cons (.v 0) (.cons (.v 1) (.cons (.lst (.cons (.c .non) (.cons (.c (.int 7)) (.cons (.c (.bl true)) (.cons (.c (.str "")) (.cons (.tup .nil) (.cons (.tup (.cons (.c (.int 0)) .nil)) (.cons (.c (.str "a")) (.cons (.tup (.cons (.c (.str "a")) .nil)) (.cons (.tup (.cons (.c (.int 0)) (.cons (.c (.str "a")) .nil))) (.cons (.c (.str "40123")) .nil))))))))))) .nil))) .nil))
    .nil) m0 [some (.ref 0), some (.ref 1), x2, x3, x4, x5] S).Ok (fin fun t S' => ∃ e, Chg d e ∧ t = vD e ∧ Bh S S') := by
  refine s_cons (s_retO (e_pick (n := n) p pp (Chg d) rfl rfl ?_ ?_))
  · refine R.Ok.of (a_cons0 e_c (a_cons0 e_c (a_cons0 e_c (a_cons0 e_c (a_cons0 (e_tupD (ds := []) a_nil0 (by decide)) (a_cons0 (e_tupD (ds := [.int 0]) (a_cons0 e_c a_nil0) (by decide)) (a_cons0 e_c (a_cons0 (e_tupD (ds := [.str "a"]) (a_cons0 e_c a_nil0) (by decide)) (a_cons0 (e_tupD (ds := [.int 0, .str "a"]) (a_cons0 e_c (a_cons0 e_c a_nil0)) (by decide)) (a_cons0 e_c a_nil0)))))))))) ⟨[.non, .int 7, .bl true, .str "", .tup [], .tup [.int 0], .str "a", .tup [.str "a"], .tup [.int 0, .str "a"], .str "40123"], rfl, by simp, show 10 ≤ line by decide, ?_, hd, hf, Sp.refl⟩
    intro e he
    simp only [List.mem_cons, List.not_mem_nil, or_false] at he
    rcases he with rfl | rfl | rfl | rfl | rfl | rfl | rfl | rfl | rfl | rfl <;> exact chg_low (by decide +kernel) (by decide +kernel)
  · intro e S2 c d2 f2 s2
    exact ⟨e, c, rfl, (Bh.refl hd hf).sp d2 f2 s2⟩
theorem pc_int (p : Pre T) (pp : PreP T) {k : Int} {x4 x5 : Option Val} {m0 : Nat} (hd : Dr S) (hf : Flt S) : (exs (T.ctx (callF T (n + 3))) p_pc_rest m0 [some (.ref 0), some (.ref 1), some (.dat (.int k)), none, x4, x5] S).Ok (fin fun t S' => ∃ e, Chg (.int k) e ∧ t = vD e ∧ Bh S S') := by
  unfold p_pc_rest
  refine s_cons (s_asO (by show 3 < 6; decide) (e_take (n := n + 1) p hd rfl rfl e_c (by decide) fun r S1 r0 r1 d1 s1 => nx ?_))
  have f1 := flt_sp hf d1 s1
  have b1 : Bh S S1 := (Bh.refl hd hf).sp d1 f1 s1
  refine s_cons (s_ifF (isi_f (e_v rfl) rfl) (nx ?_))
  refine s_cons (s_ifF (isi_f (e_v rfl) rfl) (nx ?_))
  refine s_cons (s_ifF (isi_f (e_v rfl) rfl) (nx ?_))
  refine s_cons (s_ifF (isi_f (e_v rfl) rfl) (nx ?_))
  refine s_cons (s_if (t_and2P (isi_f (b := true) (e_v rfl) rfl) (t_cm (e_v rfl) e_c c_lt)) (fun _ => ?_) fun _ => s_nil (nx ?_))
  · refine s_cons (s_retO (e_pick (n := n) p pp (Chg (.int k)) rfl rfl ?_ ?_))
    · refine R.Ok.of (a_cons0 (e_bin (e_v rfl) e_c b_add) (a_cons0 (e_bin (e_v rfl) e_c b_sub) (a_cons0 e_c (a_cons0 e_c (a_cons0 e_c (a_cons0 e_c (a_cons0 e_c (a_cons0 e_c (a_cons0 (e_bin (e_bin e_c e_c (z := iD 1000000) rfl) e_c b_add) (a_cons0 (e_bin (e_bin e_c e_c (z := iD 100000000) rfl) e_c b_add) (a_cons0 e_c (a_cons0 e_c a_nil0)))))))))))) ⟨[.int (k + 1), .int (k - 1), .int 0, .int 1, .int 8, .int 86400, .int 1000, .int 1001, .int (1000000 + 1), .int (100000000 + 1), .non, .bl true], rfl, by simp, show 12 ≤ line by decide, ?_, d1, f1, Sp.refl⟩
      intro e he
      simp only [List.mem_cons, List.not_mem_nil, or_false] at he
      rcases he with rfl | rfl | rfl | rfl | rfl | rfl | rfl | rfl | rfl | rfl | rfl | rfl <;> exact chg_low rfl (Nat.zero_le _)
    · intro e S2 c d2 f2 s2
      exact ⟨e, c, rfl, b1.sp d2 f2 s2⟩
  · refine (pc_last (n := n) (d := .int k) p pp d1 f1).mono fun f S' q => ?_
    cases f with
    | ret t => obtain ⟨e, c, rfl, b⟩ := q; exact ⟨e, c, rfl, ⟨b.dr, b.flt, b1.ge.trans b.ge⟩⟩
    | next _ => obtain ⟨e, c, q, b⟩ := q; exact ⟨e, c, q, ⟨b.dr, b.flt, b1.ge.trans b.ge⟩⟩
    | brk _ => exact q
    | cnt _ => exact q
theorem pc_str (p : Pre T) (pp : PreP T) {w : Str} {x4 x5 : Option Val} {m0 : Nat} (hw : w.length ≤ 30) (hd : Dr S) (hf : Flt S) : (exs (T.ctx (callF T (n + 3))) p_pc_rest m0 [some (.ref 0), some (.ref 1), some (.dat (.str w)), none, x4, x5] S).Ok (fin fun t S' => ∃ e, Chg (.str w) e ∧ t = vD e ∧ Bh S S') := by
  unfold p_pc_rest
  refine s_cons (s_asO (by show 3 < 6; decide) (e_take (n := n + 1) p hd rfl rfl e_c (by decide) fun r S1 r0 r1 d1 s1 => nx ?_))
  have f1 := flt_sp hf d1 s1
  have b1 : Bh S S1 := (Bh.refl hd hf).sp d1 f1 s1
  refine s_cons (s_ifF (isi_f (e_v rfl) rfl) (nx ?_))
  refine s_cons (s_ifF (isi_f (e_v rfl) rfl) (nx ?_))
  refine s_cons (s_ifF (isi_f (e_v rfl) rfl) (nx ?_))
  refine s_cons (s_ifF (isi_f (e_v rfl) rfl) (nx ?_))
  refine s_cons (s_ifF (isi_f (e_v rfl) rfl) (nx ?_))
  have hl : (40 : Nat) ≤ line := by decide
  refine s_cons (s_if (t_and2P (isi_f (b := true) (e_v rfl) rfl) (t_cm (e_v rfl) e_c c_lt)) (fun _ => ?_) fun _ => s_nil (nx ?_))
  · refine s_cons (s_retO (e_pick (n := n) p pp (Chg (.str w)) rfl rfl ?_ ?_))
    · have h1 : w.length + ("1" : Str).length ≤ line := by show w.length + 1 ≤ line; omega
      have h2 : w.length + ("\n" : Str).length ≤ line := by show w.length + 1 ≤ line; omega
      refine R.Ok.of (a_cons0 e_c (a_cons0 e_c (a_cons0 e_c (a_cons0 e_c (a_cons0 e_c (a_cons0 e_c (a_cons0 e_c (a_cons0 e_c (a_cons0 e_c (a_cons0 e_c (a_cons0 e_c (a_cons0 (e_bin (e_v rfl) e_c (b_addS h1)) (a_cons0 (e_bin (e_v rfl) e_c (b_addS h2)) (a_cons0 (e_v rfl) a_nil0)))))))))))))) ⟨[.str "", .str "a", .str "A", .str "toolongword", .str "1", .str "12", .str "123", .str "12345678", .str "123456789", .str "40", .str "void", .str (w ++ ("1" : Str)), .str (w ++ ("\n" : Str)), .str w], rfl, by simp, show 14 ≤ line by decide, ?_, d1, f1, Sp.refl⟩
      intro e he
      simp only [List.mem_cons, List.not_mem_nil, or_false] at he
      have m1 : (D.str (w ++ ("1" : Str))).mild 40 = true := by
        simp only [D.mild, decide_eq_true_eq]
        have : (w ++ ("1" : Str)).length = w.length + 1 := s_len w _
        omega
      have m2 : (D.str (w ++ ("\n" : Str))).mild 40 = true := by
        simp only [D.mild, decide_eq_true_eq]
        have : (w ++ ("\n" : Str)).length = w.length + 1 := s_len w _
        omega
      have m3 : (D.str w).mild 40 = true := by simp only [D.mild, decide_eq_true_eq]; omega
      rcases he with rfl | rfl | rfl | rfl | rfl | rfl | rfl | rfl | rfl | rfl | rfl | rfl | rfl | rfl
      · exact chg_low (by decide +kernel) (Nat.zero_le _)
      · exact chg_low (by decide +kernel) (Nat.zero_le _)
      · exact chg_low (by decide +kernel) (Nat.zero_le _)
      · exact chg_low (by decide +kernel) (Nat.zero_le _)
      · exact chg_low (by decide +kernel) (Nat.zero_le _)
      · exact chg_low (by decide +kernel) (Nat.zero_le _)
      · exact chg_low (by decide +kernel) (Nat.zero_le _)
      · exact chg_low (by decide +kernel) (Nat.zero_le _)
      · exact chg_low (by decide +kernel) (Nat.zero_le _)
      · exact chg_low (by decide +kernel) (Nat.zero_le _)
      · exact chg_low (by decide +kernel) (Nat.zero_le _)
      · exact chg_low m1 (Nat.zero_le _)
      · exact chg_low m2 (Nat.zero_le _)
      · exact chg_low m3 (Nat.zero_le _)
    · intro e S2 c d2 f2 s2
      exact ⟨e, c, rfl, b1.sp d2 f2 s2⟩
  · refine (pc_last (n := n) (d := .str w) p pp d1 f1).mono fun f S' q => ?_
    cases f with
    | ret t => obtain ⟨e, c, rfl, b⟩ := q; exact ⟨e, c, rfl, ⟨b.dr, b.flt, b1.ge.trans b.ge⟩⟩
    | next _ => obtain ⟨e, c, q, b⟩ := q; exact ⟨e, c, q, ⟨b.dr, b.flt, b1.ge.trans b.ge⟩⟩
    | brk _ => exact q
    | cnt _ => exact q
end Ap
set_option Elab.async false
set_option linter.all false
set_option maxRecDepth 100000
set_option maxHeartbeats 1000000
namespace Ap
open PySem (Str)
variable {T : Tb} {S S1 S2 S3 : Store} {ρ : Env} {Γ : Ctx} {n : Nat} {n0 : Nat} {P : Fl → Store → Prop}
theorem fin_bh {S S1 : Store} {d : D} {f : Fl} {S' : Store} (b1 : Bh S S1) (q : fin (fun t S' => ∃ e, Chg d e ∧ t = vD e ∧ Bh S1 S') f S') : fin (fun t S' => ∃ e, Chg d e ∧ t = vD e ∧ Bh S S') f S' := by
  cases f with
  | ret t => obtain ⟨e, c, rfl, b⟩ := q; exact ⟨e, c, rfl, ⟨b.dr, b.flt, b1.ge.trans b.ge⟩⟩
  | next _ => obtain ⟨e, c, q, b⟩ := q; exact ⟨e, c, q, ⟨b.dr, b.flt, b1.ge.trans b.ge⟩⟩
  | brk _ => exact q
  | cnt _ => exact q
theorem pc_tup (p : Pre T) (pp : PreP T) {ds : List D} {m0 : Nat} (hc : D.cores ds = true) (hm : (D.tup ds).mild 30 = true) (hd : Dr S) (hf : Flt S) : (exs (T.ctx (callF T (n + 3))) p_pc_rest m0 [some (.ref 0), some (.ref 1), some (.dat (.tup ds)), none, none, none] S).Ok (fin fun t S' => ∃ e, Chg (.tup ds) e ∧ t = vD e ∧ Bh S S') := by
  unfold p_pc_rest
  simp only [D.mild, Bool.and_eq_true, decide_eq_true_eq] at hm
  obtain ⟨hlen, hms⟩ := hm
  have hline : (100 : Nat) ≤ line := by decide
  have hme : ∀ e ∈ ds, e.mild 40 = true ∧ e.depth ≤ D.depths ds + 1 := fun e he => ⟨mild_up (by decide) e (milds_iff.mp hms e he), by have := depth_mem he; omega⟩
  have sub : ∀ {es : List D}, es.length ≤ 40 → (∀ e ∈ es, e ∈ ds) → Chg (.tup ds) (.tup es) := fun hl h => chg_tup hl fun e he => hme e (h e he)
  refine s_cons (s_asO (by show 3 < 6; decide) (e_take (n := n + 1) p hd rfl rfl e_c (by decide) fun r S1 r0 r1 d1 s1 => nx ?_))
  have f1 := flt_sp hf d1 s1
  have b1 : Bh S S1 := (Bh.refl hd hf).sp d1 f1 s1
  have it : ∀ {x3 x4 x5 : Option Val} {S : Store}, evT (T.ctx (callF T (n + 3))) (.isi (.v 2) [.tuple]) [some (.ref 0), some (.ref 1), some (.dat (.tup ds)), x3, x4, x5] S = .ok true S := isi_f (e_v rfl) rfl
  -- turn 0
  refine s_cons (s_if (t_and3P it (t_cm (e_v rfl) e_c c_eq) (t_cm (e_bi1 (e_v rfl) l_lenT) e_c c_gt)) (fun h => ?_) fun _ => s_nil (nx ?_))
  · simp only [Bool.and_eq_true, decide_eq_true_eq, Bool.true_and] at h
    have hl1 : (1 : Int).toNat ≤ ds.length := by show 1 ≤ ds.length; omega
    refine s_cons (s_ret (e_bin (e_v rfl) (e_slT (e_v rfl) e_c (by decide) hl1) (b_addT (by simp only [List.length_take]; omega))) ⟨_, sub ?_ ?_, rfl, b1⟩)
    · simp only [List.length_append, List.length_take]; omega
    · intro e he
      rcases List.mem_append.mp he with he | he
      · exact he
      · exact List.mem_of_mem_take he
  -- turn 1
  refine s_cons (s_if (t_and3P it (t_cm (e_v rfl) e_c c_eq) (t_cm (e_bi1 (e_v rfl) l_lenT) e_c c_gt)) (fun h => ?_) fun _ => s_nil (nx ?_))
  · simp only [Bool.and_eq_true, decide_eq_true_eq, Bool.true_and] at h
    have hl1 : (1 : Int).toNat ≤ ds.length := by show 1 ≤ ds.length; omega
    refine s_cons (s_ret (e_slD (e_v rfl) e_c (by decide) hl1) ⟨_, sub ?_ ?_, rfl, b1⟩)
    · simp only [List.length_drop]; omega
    · exact fun e he => List.mem_of_mem_drop he
  -- behind turn 3
  have tail : ∀ {S2 : Store} {x4 x5 : Option Val}, Bh S S2 → (exs (T.ctx (callF T (n + 3))) (.cons (.if_ (.and (.cons (.isi (.v 2) [.tuple]) (.cons (.cmp .eq (.v 3) (.c (.int 2))) (.cons (.cmp .gt (.bi .len (.cons (.v 2) .nil)) (.c (.int 1))) .nil))))
    (.cons (.ret (.bin .add (.sl (.v 2) (.so (.c (.int 1))) .no) (.sl (.v 2) .no (.so (.c (.int 1))))))
    .nil)
    .nil)
    (.cons (.if_ (.and (.cons (.isi (.v 2) [.int]) (.cons (.cmp .lt (.v 3) (.c (.int 4))) .nil)))
    (.cons (.ret (.call "_law_pick" (.cons (.v 0) (.cons (.v 1) (.cons (.lst (.cons (.bin .add (.v 2) (.c (.int 1))) (.cons (.bin .sub (.v 2) (.c (.int 1))) (.cons (.c (.int 0)) (.cons (.c (.int 1)) (.cons (.c (.int 8)) (.cons (.c (.int 86400)) (.cons (.c (.int 1000)) (.cons (.c (.int 1001)) (.cons (.bin .add (.bin .pow (.c (.int 10)) (.c (.int 6))) (.c (.int 1))) (.cons (.bin .add (.bin .pow (.c (.int 10)) (.c (.int 8))) (.c (.int 1))) (.cons (.c .non) (.cons (.c (.bl true)) .nil))))))))))))) .nil))) .nil))
    .nil)
    .nil)
    (.cons (.if_ (.and (.cons (.isi (.v 2) [.str]) (.cons (.cmp .lt (.v 3) (.c (.int 4))) .nil)))
    (.cons (.ret (.call "_law_pick" (.cons (.v 0) (.cons (.v 1) (.cons (.lst (.cons (.c (.str "")) (.cons (.c (.str "a")) (.cons (.c (.str "A")) (.cons (.c (.str "toolongword")) (.cons (.c (.str "1")) (.cons (.c (.str "12")) (.cons (.c (.str "123")) (.cons (.c (.str "12345678")) (.cons (.c (.str "123456789")) (.cons (.c (.str "40")) (.cons (.c (.str "void")) (.cons (.bin .add (.v 2) (.c (.str "1"))) (.cons (.bin .add (.v 2) (.c (.str "\n"))) (.cons (.v 2) .nil))))))))))))))) .nil))) .nil))
    .nil)
    .nil)
    (.cons (.ret (.call "_law_pick" (.cons (.v 0) (.cons (.v 1) (.cons (.lst (.cons (.c .non) (.cons (.c (.int 7)) (.cons (.c (.bl true)) (.cons (.c (.str "")) (.cons (.tup .nil) (.cons (.tup (.cons (.c (.int 0)) .nil)) (.cons (.c (.str "a")) (.cons (.tup (.cons (.c (.str "a")) .nil)) (.cons (.tup (.cons (.c (.int 0)) (.cons (.c (.str "a")) .nil))) (.cons (.c (.str "40123")) .nil))))))))))) .nil))) .nil))
    .nil)))) m0 [some (.ref 0), some (.ref 1), some (.dat (.tup ds)), some (.dat (.int r)), x4, x5] S2).Ok (fin fun t S' => ∃ e, Chg (.tup ds) e ∧ t = vD e ∧ Bh S S') := by
    intro S2 x4 x5 b2
    refine s_cons (s_if (t_and3P (isi_f (e_v rfl) rfl) (t_cm (e_v rfl) e_c c_eq) (t_cm (e_bi1 (e_v rfl) l_lenT) e_c c_gt)) (fun h => ?_) fun _ => s_nil (nx ?_))
    · simp only [Bool.and_eq_true, decide_eq_true_eq, Bool.true_and] at h
      have hl1 : (1 : Int).toNat ≤ ds.length := by show 1 ≤ ds.length; omega
      refine s_cons (s_ret (e_bin (e_slD (e_v rfl) e_c (by decide) hl1) (e_slT (e_v rfl) e_c (by decide) hl1) (b_addT (by simp only [List.length_take, List.length_drop]; omega))) ⟨_, sub ?_ ?_, rfl, b2⟩)
      · simp only [List.length_append, List.length_take, List.length_drop]; omega
      · intro e he
        rcases List.mem_append.mp he with he | he
        · exact List.mem_of_mem_drop he
        · exact List.mem_of_mem_take he
    refine s_cons (s_ifF (isi_f (e_v rfl) rfl) (nx ?_))
    refine s_cons (s_ifF (isi_f (e_v rfl) rfl) (nx ?_))
    exact (pc_last (n := n) (d := .tup ds) p pp b2.dr b2.flt).mono fun f S' q => fin_bh b2 q
  -- turn 3
  refine s_cons (s_if (t_and3P it (t_cm (e_v rfl) e_c c_eq) (t_cm (e_bi1 (e_v rfl) l_lenT) e_c c_gt)) (fun h => ?_) fun _ => s_nil (nx (tail b1)))
  simp only [Bool.and_eq_true, decide_eq_true_eq, Bool.true_and] at h
  refine s_cons (s_asO (by show 4 < 6; decide) (e_take (n := n + 1) p d1 rfl rfl (e_bi1 (e_v rfl) l_lenT) h.2 fun a S2 a0 a1 d2 s2 => nx ?_))
  have f2 := flt_sp f1 d2 s2
  have b2 : Bh S S2 := b1.sp d2 f2 s2
  have ha : a.toNat < ds.length := by omega
  refine s_cons (s_asD (e_ix (e_v rfl) (e_v rfl) (l_ixT a0 (by omega) (List.getElem?_eq_getElem ha))) (by show 5 < 6; decide) (nx ?_))
  have hmem : ds[a.toNat] ∈ ds := List.getElem_mem ha
  generalize hone : ds[a.toNat] = one at hmem
  by_cases ht : ∃ os, one = .tup os
  case neg =>
    have hi : isTy (vD one) S2 .tuple = some false := by
      cases one <;> first | rfl | exact absurd ⟨_, rfl⟩ ht
    exact s_cons (s_ifF (isi_f (e_v rfl) hi) (nx (s_nil (nx (tail b2)))))
  obtain ⟨os, rfl⟩ := ht
  have hco := cores_iff.mp hc _ hmem
  have hmo := milds_iff.mp hms _ hmem
  simp only [D.core] at hco
  simp only [D.mild, Bool.and_eq_true, decide_eq_true_eq] at hmo
  refine s_cons (s_ifO (t_and (R.Ok.of (isi_f (b := true) (e_v rfl) rfl) ?_)))
  simp only [if_true]
  refine t_and (R.Ok.of (t_cm (e_bi1 (e_v rfl) l_lenT) e_c c_gt) ?_)
  by_cases h1 : (1 : Int) < os.length
  case neg =>
    rw [decide_eq_false h1]
    simp only [Bool.false_eq_true, if_false]
    exact s_nil (nx (s_nil (nx (tail b2))))
  rw [decide_eq_true h1]
  simp only [if_true]
  have hlast : ((os.length : Int) - 1).toNat < os.length := by omega
  have ixl : index (vD (.tup os)) (iD ((os.length : Int) - 1)) S2 = some (vD os[((os.length : Int) - 1).toNat]) := l_ixT (by omega) (by omega) (List.getElem?_eq_getElem hlast)
  have hmemo : os[((os.length : Int) - 1).toNat] ∈ os := List.getElem_mem hlast
  generalize hlo : os[((os.length : Int) - 1).toNat] = lo at ixl hmemo
  have hcl := cores_iff.mp hco _ hmemo
  by_cases hti : ∃ k, lo = .int k
  case neg =>
    have hi : isTy (vD lo) S2 .int = some false := by
      cases lo with
      | int k => exact absurd ⟨k, rfl⟩ hti
      | bl b => cases hcl
      | non => rfl
      | str s => rfl
      | tup ts => rfl
    refine t_and1 (R.Ok.of (isi_f (e_ix (e_v rfl) (e_bin (e_bi1 (e_v rfl) l_lenT) e_c b_sub) ixl) hi) ?_)
    simp only [Bool.false_eq_true, if_false]
    exact s_nil (nx (s_nil (nx (tail b2))))
  obtain ⟨k, rfl⟩ := hti
  refine t_and1 (R.Ok.of (isi_f (b := true) (e_ix (e_v rfl) (e_bin (e_bi1 (e_v rfl) l_lenT) e_c b_sub) ixl) rfl) ?_)
  simp only [if_true]
  have e1 := e_slT (Γ := T.ctx (callF T (n + 3))) (ρ := [some (.ref 0), some (.ref 1), some (.dat (.tup ds)), some (.dat (.int r)), some (.dat (.int a)), some (.dat (.tup os))]) (S := S2) (a := .v 2) (e_v rfl) (e_bin (a := .v 4) (e_v rfl) (e_c (d := .int 1)) b_add) (by omega) (show (a + 1).toNat ≤ ds.length by omega)
  have e2 := e_slT (Γ := T.ctx (callF T (n + 3))) (ρ := [some (.ref 0), some (.ref 1), some (.dat (.tup ds)), some (.dat (.int r)), some (.dat (.int a)), some (.dat (.tup os))]) (S := S2) (a := .v 5) (e_v rfl) (e_bin (e_bi1 (a := .v 5) (e_v rfl) l_lenT) (e_c (d := .int 1)) b_sub) (by omega) (show ((os.length : Int) - 1).toNat ≤ os.length by omega)
  have e3 := e_slD (Γ := T.ctx (callF T (n + 3))) (ρ := [some (.ref 0), some (.ref 1), some (.dat (.tup ds)), some (.dat (.int r)), some (.dat (.int a)), some (.dat (.tup os))]) (S := S2) (a := .v 2) (e_v rfl) (e_bin (a := .v 4) (e_v rfl) (e_c (d := .int 1)) b_add) (by omega) (show (a + 1).toNat ≤ ds.length by omega)
  have h1l : (1 : Nat) ≤ line := by decide
  have e4 := e_bin e2 (e_tupD (ds := [.int (k + 1)]) (a_cons0 (e_bin (e_ix (a := .v 5) (e_v rfl) (e_bin (e_bi1 (a := .v 5) (e_v rfl) l_lenT) (e_c (d := .int 1)) b_sub) ixl) (e_c (d := .int 1)) b_add) a_nil0) h1l) (b_addT (by simp only [List.length_take, List.length_singleton]; omega))
  have e5 := e_tupD (ds := [D.tup (os.take ((os.length : Int) - 1).toNat ++ [D.int (k + 1)])]) (a_cons0 e4 a_nil0) h1l
  have e6 := e_bin (e_bin e1 e5 (b_addT (by simp only [List.length_take, List.length_singleton]; omega))) e3 (b_addT (by simp only [List.length_append, List.length_take, List.length_drop, List.length_singleton]; omega))
  refine s_cons (s_ret e6 ⟨_, chg_tup ?_ ?_, rfl, b2⟩)
  · simp only [List.length_append, List.length_take, List.length_drop, List.length_singleton]; omega
  · intro e he
    have hos : Chg (.tup os) (.tup (os.take ((os.length : Int) - 1).toNat ++ [.int (k + 1)])) := by
      refine chg_tup (by simp only [List.length_append, List.length_take, List.length_singleton]; omega) fun x hx => ?_
      rcases List.mem_append.mp hx with hx | hx
      · have hx := List.mem_of_mem_take hx
        exact ⟨mild_up (by decide) x (milds_iff.mp hmo.2 x hx), by have := depth_mem hx; omega⟩
      · simp only [List.mem_singleton] at hx
        subst hx
        exact ⟨rfl, Nat.zero_le _⟩
    rcases List.mem_append.mp he with he | he
    · rcases List.mem_append.mp he with he | he
      · exact hme e (List.mem_of_mem_take he)
      · simp only [List.mem_singleton] at he
        subst he
        exact ⟨hos.mild, by have := hos.deep; have := depth_mem hmem; omega⟩
    · exact hme e (List.mem_of_mem_drop he)
theorem part_ok (p : Pre T) (pp : PreP T) (q : PrePc T) : ∀ (m : Nat) (d : D) (S : Store), d.depth ≤ m → d.core = true → d.mild 30 = true → Dr S → Flt S → (callF T (n + m + 4) "_law_part_changed" [.ref 0, .ref 1, .dat d] S).Ok fun t S' => ∃ e, Chg d e ∧ t = vD e ∧ Bh S S' := by
  have nontup : ∀ (m : Nat) (d : D) (S : Store), isTy (vD d) S .tuple = some false → (∀ S, Dr S → Flt S → (exs (T.ctx (callF T (n + m + 3))) p_pc_rest S.length [some (.ref 0), some (.ref 1), some (.dat d), none, none, none] S).Ok (fin fun t S' => ∃ e, Chg d e ∧ t = vD e ∧ Bh S S')) → Dr S → Flt S → (callF T (n + m + 4) "_law_part_changed" [.ref 0, .ref 1, .dat d] S).Ok fun t S' => ∃ e, Chg d e ∧ t = vD e ∧ Bh S S' := by
    intro m d S hi h hd hf
    exact cal_ok q.part rfl (s_cons (s_ifF (isi_f (e_v rfl) hi) (nx (h S hd hf))))
  intro m
  induction m with
  | zero =>
    intro d S hde hc hm hd hf
    cases d with
    | int k => exact nontup 0 _ S rfl (fun S hd hf => pc_int p pp hd hf) hd hf
    | str w => exact nontup 0 _ S rfl (fun S hd hf => pc_str p pp (by simpa [D.mild] using hm) hd hf) hd hf
    | tup ds => simp only [D.depth] at hde; omega
    | non => cases hc
    | bl _ => cases hc
  | succ m ih =>
    intro d S hde hc hm hd hf
    cases d with
    | int k => exact nontup (m + 1) _ S rfl (fun S hd hf => pc_int p pp hd hf) hd hf
    | str w => exact nontup (m + 1) _ S rfl (fun S hd hf => pc_str p pp (by simpa [D.mild] using hm) hd hf) hd hf
    | tup ds =>
      have hcs : D.cores ds = true := hc
      have hm' := hm
      simp only [D.mild, Bool.and_eq_true, decide_eq_true_eq] at hm'
      simp only [D.depth] at hde
      refine cal_ok q.part rfl (s_cons (s_ifO (t_and (R.Ok.of (isi_f (b := true) (e_v rfl) rfl) ?_))))
      simp only [if_true]
      refine t_and (R.Ok.of (t_cm (e_bi1 (e_v rfl) l_lenT) e_c c_gt) ?_)
      by_cases h0 : (0 : Int) < ds.length
      case neg =>
        rw [decide_eq_false h0]
        simp only [Bool.false_eq_true, if_false]
        exact s_nil (nx (pc_tup (n := n + (m + 1)) p pp hcs hm hd hf))
      rw [decide_eq_true h0]
      simp only [if_true]
      refine t_and1 (o_cmp (e_take (n := n + (m + 2)) p hd rfl rfl e_c (by decide) fun r S1 r0 r1 d1 s1 => ?_))
      have f1 := flt_sp hf d1 s1
      have b1 : Bh S S1 := (Bh.refl hd hf).sp d1 f1 s1
      refine R.Ok.of e_c ⟨_, c_gt, ?_⟩
      by_cases hr : (0 : Int) < r
      case neg =>
        rw [decide_eq_false hr]
        simp only [Bool.false_eq_true, if_false]
        exact s_nil (nx ((pc_tup (n := n + (m + 1)) p pp hcs hm d1 f1).mono fun f S' q => fin_bh b1 q))
      rw [decide_eq_true hr]
      simp only [if_true]
      refine s_cons (s_asO (by show 4 < 6; decide) (e_take (n := n + (m + 2)) p d1 rfl rfl (e_bi1 (e_v rfl) l_lenT) h0 fun a S2 a0 a1 d2 s2 => nx ?_))
      have f2 := flt_sp f1 d2 s2
      have b2 : Bh S S2 := b1.sp d2 f2 s2
      have ha : a.toNat < ds.length := by omega
      have hline : (100 : Nat) ≤ line := by decide
      have hmem : ds[a.toNat] ∈ ds := List.getElem_mem ha
      have hcall := ih ds[a.toNat] S2 (by have := depth_mem hmem; omega) (cores_iff.mp hcs _ hmem) (milds_iff.mp hm'.2 _ hmem) d2 f2
      have ixa : index (vD (.tup ds)) (iD a) S2 = some (vD ds[a.toNat]) := l_ixT a0 (by omega) (List.getElem?_eq_getElem ha)
      refine s_cons (s_retO (o_bin (o_bin ?_)))
      refine R.Ok.of (e_slT (e_v rfl) (e_v rfl) a0 (show a.toNat ≤ ds.length by omega)) ?_
      refine o_tupD (a_consO (e_rn (xs := [.ref 0, .ref 1, .dat ds[a.toNat]]) d2 (a_cons0 (e_v rfl) (a_cons0 (e_v rfl) (a_cons0 (e_ix (e_v rfl) (e_v rfl) ixa) a_nil0))) hcall ?_))
      intro e S3 hch d3 f3 s3
      have h1l : (1 : Nat) ≤ line := by decide
      refine R.Ok.of a_nil0 ⟨[e], rfl, h1l, ⟨_, b_addT (by simp only [List.length_take, List.length_singleton]; omega), ?_⟩⟩
      refine R.Ok.of (e_slD (e_v rfl) (e_bin (e_v rfl) e_c b_add) (by omega) (show (a + 1).toNat ≤ ds.length by omega)) ⟨_, b_addT (by simp only [List.length_append, List.length_take, List.length_drop, List.length_singleton]; omega), _, chg_tup ?_ ?_, rfl, b2.sp d3 f3 s3⟩
      · simp only [List.length_append, List.length_take, List.length_drop, List.length_singleton]; omega
      · have hme : ∀ e ∈ ds, e.mild 40 = true ∧ e.depth ≤ D.depths ds + 1 := fun e he => ⟨mild_up (by decide) e (milds_iff.mp hm'.2 e he), by have := depth_mem he; omega⟩
        intro x hx
        rcases List.mem_append.mp hx with hx | hx
        · rcases List.mem_append.mp hx with hx | hx
          · exact hme x (List.mem_of_mem_take hx)
          · simp only [List.mem_singleton] at hx
            subst hx
            exact ⟨hch.mild, by have := hch.deep; have := depth_mem hmem; omega⟩
        · exact hme x (List.mem_of_mem_drop hx)
    | non => cases hc
    | bl _ => cases hc
end Ap
set_option Elab.async false
set_option linter.all false
set_option maxRecDepth 100000
set_option maxHeartbeats 1000000
namespace Ap
open PySem (Str)
variable {T : Tb} {S S1 S2 S3 : Store} {ρ : Env} {Γ : Ctx} {n : Nat} {n0 : Nat} {P : Fl → Store → Prop}
def secsLoop : Ss :=
    (.cons (.if_ (.cmp .ge (.v 5) (.v 2))
    (.cons .brk
    .nil)
    .nil)
    (.cons (.as 7 (.bin .fdiv (.v 5) (.c (.int 86400))))
    (.cons (.as 8 (.lc (.v 10) [10] (.nm 10) (.e (.ix (.v 0) (.c (.int 1)))) (.cons (.cmp2 .le .lt (.v 7) (.v 10) (.bin .add (.v 7) (.c (.int 7)))) .nil)))
    (.cons (.if_ (.and (.cons (.cmp .eq (.v 5) (.bin .mul (.v 7) (.c (.int 86400)))) (.cons (.cmp .gt (.bin .sub (.v 2) (.v 5)) (.bin .mul (.c (.int 14)) (.c (.int 86400)))) (.cons (.cmp .eq (.bi .len (.cons (.v 8) .nil)) (.c (.int 0))) .nil))))
    (.cons (.as 4 (.bin .add (.v 4) (.bi .sum (.cons (.lc (.bin .sub (.v 12) (.v 11)) [11, 12, 13] (.tp (.cons (.nm 11) (.cons (.nm 12) (.cons (.nm 13) .nil)))) (.e (.call "_law_parts" (.cons (.v 0) (.cons (.v 5) (.cons (.bin .add (.v 5) (.bin .mul (.c (.int 7)) (.c (.int 86400)))) .nil))) .nil)) (.cons (.cmp .eq (.v 13) (.v 3)) .nil)) .nil))))
    (.cons (.as 5 (.bin .add (.v 5) (.bin .mul (.c (.int 7)) (.c (.int 86400)))))
    .nil))
    (.cons (.as 9 (.bi .min2 (.cons (.v 2) (.cons (.bin .mul (.bin .add (.bin .fdiv (.v 5) (.c (.int 86400))) (.c (.int 1))) (.c (.int 86400))) .nil))))
    (.cons (.as 4 (.bin .add (.v 4) (.bi .sum (.cons (.lc (.bin .sub (.v 12) (.v 11)) [11, 12, 13] (.tp (.cons (.nm 11) (.cons (.nm 12) (.cons (.nm 13) .nil)))) (.e (.call "_law_parts" (.cons (.v 0) (.cons (.v 5) (.cons (.v 9) .nil))) .nil)) (.cons (.cmp .eq (.v 13) (.v 3)) .nil)) .nil))))
    (.cons (.as 5 (.v 9))
    .nil))))
    .nil))))
def p_law_seconds_in : Fn := ⟨4, 14,
    (.cons (.as 4 (.c (.int 0)))
    (.cons (.as 5 (.v 1))
    (.cons (.for_ (.nm 6) (.rg1 (.c (.int 3000))) secsLoop)
    (.cons (.ret (.v 4))
    .nil))))⟩
theorem l_sumW {v : Str} {L : List Part} : bi1 .sum (.new (.lst (((L.filter fun q => decide (q.2.2 = v)).map fun q => D.int (q.2.1 - q.1)).map .dat))) S = some (iD (wsum v L)) := by
  show (some ((((L.filter fun q => decide (q.2.2 = v)).map fun q => D.int (q.2.1 - q.1)).map Val.dat))).bind (fun xs => (intsOf xs).map fun ns => vI ns.sum) = _
  rw [Option.bind_some]
  have : ((((L.filter fun q => decide (q.2.2 = v)).map fun q => D.int (q.2.1 - q.1)).map Val.dat)) = (((((L.filter fun q => decide (q.2.2 = v)).map fun q => q.2.1 - q.1)).map D.int).map Val.dat) := by
    rw [List.map_map (f := fun q : Part => q.2.1 - q.1)]; rfl
  rw [this, intsOf_map]; rfl
/-- the sum over the parts of the law that have the word -/
theorem e_wsum (pl : PreL T) (hp : T.fns.lookup ("_law_parts" : Str) = some p_law_parts) {w : Wk} (hw : GoodWk w) {b e : Int} {v : Str} (hb : 0 ≤ b) (hbe : b ≤ e) (he : e ≤ 100000000) {x1 x2 x4 x6 x7 x8 x9 x10 x11 x12 x13 : Option Val} {a : E}
    (ha : ev (T.ctx (callF T (n + 3))) a [some (.dat w.toD), x1, x2, some (.dat (.str v)), x4, some (.dat (.int b)), x6, x7, x8, x9, x10, x11, x12, x13] S = .ok (iD e) S) {Q : TV → Store → Prop} (h : ∀ S', Gr S S' → Q (iD (upIn w v e - upIn w v b)) S') :
    (ev (T.ctx (callF T (n + 3))) (.bi .sum (.cons (.lc (.bin .sub (.v 12) (.v 11)) [11, 12, 13] (.tp (.cons (.nm 11) (.cons (.nm 12) (.cons (.nm 13) .nil)))) (.e (.call "_law_parts" (.cons (.v 0) (.cons (.v 5) (.cons a .nil))) .nil)) (.cons (.cmp .eq (.v 13) (.v 3)) .nil)) .nil)) [some (.dat w.toD), x1, x2, some (.dat (.str v)), x4, some (.dat (.int b)), x6, x7, x8, x9, x10, x11, x12, x13] S).Ok Q := by
  have hf : (ev (T.ctx (callF T (n + 3))) (.call "_law_parts" (.cons (.v 0) (.cons (.v 5) (.cons a .nil))) .nil) [some (.dat w.toD), x1, x2, some (.dat (.str v)), x4, some (.dat (.int b)), x6, x7, x8, x9, x10, x11, x12, x13] S).Ok fun t S' => ∃ L : List Part, (L.length ≤ 100000 ∧ (∀ v, wsum v L = upIn w v e - upIn w v b)) ∧ Fresh S t S' (L.map partD) := by
    obtain ⟨t, S1, e1, L, hL, hs, hF⟩ := (law_parts_ok (n := n) (S := S) pl hp hw hb hbe he).eq
    refine (e_fnF (xs := [.dat w.toD, .dat (.int b), .dat (.int e)]) (a_cons0 (e_v rfl) (a_cons0 (e_v rfl) (a_cons0 ha a_nil0))) (R.Ok.of e1 hF)).mono fun t S' h => ⟨L, ⟨hL, hs⟩, h⟩
  obtain ⟨t, S2, e2, L, ⟨hL, hs⟩, hF⟩ := hf.eq
  obtain ⟨lv, k1, k2⟩ := fresh_src hF
  have hq := h S2 hF.1
  rw [← hs v] at hq
  refine R.Ok.of (e_bi1 (e_lcF (l := L) (f := fun q => .dat (partD q)) (fun q => decide (q.2.2 = v)) (fun q => .int (q.2.1 - q.1)) (i_of e2 k1) (k2 _ fun _ _ => rfl) (by rw [List.map_map]; rfl) (Nat.le_trans hL (by decide)) fun q _ => ⟨_, rfl, t_cm (e_v rfl) (e_v rfl) c_eqS, fun _ => e_bin (e_v rfl) (e_v rfl) b_sub⟩) l_sumW) hq
theorem law_seconds_ok (pl : PreL T) (hp : T.fns.lookup ("_law_parts" : Str) = some p_law_parts) (hl : T.fns.lookup ("_law_seconds_in" : Str) = some p_law_seconds_in) {w : Wk} (hw : GoodWk w) {b e : Int} {v : Str} (hb : 0 ≤ b) (hbe : b ≤ e) (he : e ≤ 100000000) : (callF T (n + 4) "_law_seconds_in" [.dat w.toD, .dat (.int b), .dat (.int e), .dat (.str v)] S).Ok fun t S' => t = iD (secsOf w b e v) ∧ Gr S S' := by
  refine cal_ok hl rfl (s_cons (s_asD (d := .dat (.int 0)) e_c (show 4 < 14 by decide) (nx ?_)))
  refine s_cons (s_asD (d := .dat (.int b)) (e_v rfl) (show 5 < 14 by decide) (nx ?_))
  have h20 := hw.few
  refine s_cons (s_for (P := flNext _ _) (i_r1 (n := 3000) e_c (okR_small (by decide) (by decide)))
    (fun i ρ S' => ∃ (at_ tot : Int) (x6 x7 x8 x9 x10 x11 x12 x13 : Option Val), ρ = [some (.dat w.toD), some (.dat (.int b)), some (.dat (.int e)), some (.dat (.str v)), some (.dat (.int tot)), some (.dat (.int at_)), x6, x7, x8, x9, x10, x11, x12, x13] ∧ tot = upIn w v at_ - upIn w v b ∧ Gr S S' ∧ b ≤ at_ ∧ at_ ≤ e ∧ (at_ = e ∨ b / 86400 + i ≤ at_ / 86400)) ?_ ?_ ?_)
  · exact ⟨b, 0, _, _, _, _, _, _, _, _, rfl, by omega, Gr.refl, by omega, hbe, .inr (by omega)⟩
  · rintro i x ρ S' hx ⟨at_, tot, x6, x7, x8, x9, x10, x11, x12, x13, rfl, ht, g, h1, h2, h3⟩
    rw [upto_at] at hx
    split at hx
    case isFalse => cases hx
    cases hx
    refine ⟨rfl, _, rfl, ?_⟩
    unfold secsLoop
    refine s_cons (s_if (t_cm (e_v rfl) (e_v rfl) c_ge) (fun hc => ?_) fun hc => s_nil (nx ?_))
    · simp only [Bool.not_eq_true', decide_eq_false_iff_not] at hc
      have hat : at_ = e := by omega
      subst hat
      refine s_cons (s_brk ?_)
      simp only [flNext_brk]
      refine nx (s_cons (s_ret (e_v rfl) ⟨?_, g⟩))
      rw [secs_up hw hb hbe he, ht]
    · simp only [Bool.not_eq_false', decide_eq_true_eq] at hc
      have h3' := h3.resolve_left (by omega)
      refine s_cons (s_asD (d := .dat (.int (at_ / 86400))) (e_bin (e_v rfl) e_c (b_fdiv (by decide) (by decide))) (show 7 < 14 by decide) (nx ?_))
      have hlc : ev (T.ctx (callF T (n + 3))) (.lc (.v 10) [10] (.nm 10) (.e (.ix (.v 0) (.c (.int 1)))) (.cons (.cmp2 .le .lt (.v 7) (.v 10) (.bin .add (.v 7) (.c (.int 7)))) .nil)) [some (.dat w.toD), some (.dat (.int b)), some (.dat (.int e)), some (.dat (.str v)), some (.dat (.int tot)), some (.dat (.int at_)), some (.dat (.int (0 + i))), some (.dat (.int (at_ / 86400))), x8, x9, x10, x11, x12, x13] S' = .ok (.new (.lst (((w.feasts.filter fun f => !decide (f < at_ / 86400) && decide (f < at_ / 86400 + 7)).map D.int).map .dat))) S' :=
        e_lcF (l := w.feasts) (f := fun f => .dat (.int f)) (fun f => !decide (f < at_ / 86400) && decide (f < at_ / 86400 + 7)) D.int (src := ⟨(w.feasts.map D.int).map .dat, []⟩) (i_dat (e_ix (e_v rfl) e_c wk_ix1)) rfl (by rw [List.map_map]; rfl) (by unfold line; omega) fun f _ => ⟨_, rfl, t_c2 (e_v rfl) (e_v rfl) (e_bin (e_v rfl) e_c b_add) c_le c_lt, fun _ => e_v rfl⟩
      refine s_cons (s_asO (show 8 < 14 by decide) (R.Ok.of hlc (nx ?_)))
      generalize hfe : (((w.feasts.filter fun f => !decide (f < at_ / 86400) && decide (f < at_ / 86400 + 7)).map D.int).map Val.dat) = fl
      show (exs _ _ _ [some (.dat w.toD), some (.dat (.int b)), some (.dat (.int e)), some (.dat (.str v)), some (.dat (.int tot)), some (.dat (.int at_)), some (.dat (.int (0 + i))), some (.dat (.int (at_ / 86400))), some (.ref S'.length), x9, x10, x11, x12, x13] (S' ++ [.lst fl])).Ok _
      have g1 : Gr S (S' ++ [.lst fl]) := g.trans (Gr.app _)
      have hi8 : (S' ++ [.lst fl])[S'.length]? = some (.lst fl) := by simp
      refine s_cons (s_if (t_and3P (t_cm (e_v rfl) (e_bin (e_v rfl) e_c (b_mul (mul_r (by decide)))) c_eq) (t_cm (e_bin (e_v rfl) (e_v rfl) b_sub) (e_bin e_c e_c (b_mul (mul_r (by decide)))) c_gt) (t_cm (e_bi1 (e_v rfl) (l_len hi8)) e_c c_eq)) (fun hh => ?_) fun hh => ?_)
      · simp only [Bool.and_eq_true, decide_eq_true_eq] at hh
        refine s_cons (s_asO (show 4 < 14 by decide) (o_bin (R.Ok.of (e_v rfl) (e_wsum (n := n) (e := at_ + 7 * 86400) pl hp hw (by omega) (by omega) (by omega) (e_bin (e_v rfl) (e_bin e_c e_c (b_mul (mul_r (by decide)))) b_add) fun S2 g2 => ⟨_, b_add, nx ?_⟩))))
        refine s_cons (s_asD (d := .dat (.int (at_ + 7 * 86400))) (e_bin (e_v rfl) (e_bin e_c e_c (b_mul (mul_r (by decide)))) b_add) (show 5 < 14 by decide) (nx (s_nil (nx (s_nil ?_)))))
        exact ⟨at_ + 7 * 86400, _, _, _, _, _, _, _, _, _, rfl, by omega, g1.trans g2, by omega, by omega, .inr (by omega)⟩
      · refine s_cons (s_asD (d := .dat (.int (if (at_ / 86400 + 1) * 86400 < e then (at_ / 86400 + 1) * 86400 else e))) (e_bi2 (e_v rfl) (e_bin (e_bin (e_bin (e_v rfl) e_c (b_fdiv (by decide) (by decide))) e_c b_add) e_c (b_mul (mul_r (by decide)))) rfl) (show 9 < 14 by decide) (nx ?_))
        generalize hz : (if (at_ / 86400 + 1) * 86400 < e then (at_ / 86400 + 1) * 86400 else e) = z
        have hz1 : at_ < z := by rw [← hz]; split <;> omega
        have hz2 : z ≤ e := by rw [← hz]; split <;> omega
        have hz3 : z = e ∨ at_ / 86400 + 1 ≤ z / 86400 := by
          rw [← hz]; split
          · right; omega
          · left; rfl
        show (exs _ _ _ [some (.dat w.toD), some (.dat (.int b)), some (.dat (.int e)), some (.dat (.str v)), some (.dat (.int tot)), some (.dat (.int at_)), some (.dat (.int (0 + i))), some (.dat (.int (at_ / 86400))), some (.ref S'.length), some (.dat (.int z)), x10, x11, x12, x13] (S' ++ [.lst fl])).Ok _
        refine s_cons (s_asO (show 4 < 14 by decide) (o_bin (R.Ok.of (e_v rfl) (e_wsum (n := n) (e := z) pl hp hw (by omega) (by omega) (by omega) (e_v rfl) fun S2 g2 => ⟨_, b_add, nx ?_⟩))))
        refine s_cons (s_asD (d := .dat (.int z)) (e_v rfl) (show 5 < 14 by decide) (nx (s_nil (nx (s_nil ?_)))))
        exact ⟨z, _, _, _, _, _, _, _, _, _, rfl, by omega, g1.trans g2, by omega, by omega, by omega⟩
  · rintro ρ S' ⟨at_, tot, x6, x7, x8, x9, x10, x11, x12, x13, rfl, ht, g, h1, h2, h3⟩
    rw [upto_ln] at h3
    have hat : at_ = e := h3.resolve_right fun h => by omega
    subst hat
    refine ⟨rfl, nx (s_cons (s_ret (e_v rfl) ⟨?_, g⟩))⟩
    rw [secs_up hw hb hbe he, ht]
end Ap
set_option Elab.async false
set_option linter.all false
set_option maxRecDepth 100000
set_option maxHeartbeats 1000000
namespace Ap
open PySem (Str)
variable {T : Tb} {S S1 S2 S3 : Store} {ρ : Env} {Γ : Ctx} {n : Nat} {n0 : Nat} {P : Fl → Store → Prop}
/-- a pick out of a tuple -/
theorem pickT_ok (p : Pre T) (pp : PreP T) (hd : Dr S) {ds : List D} (hne : ds ≠ []) : (callF T (n + 3) "_law_pick" [.ref 0, .ref 1, .dat (.tup ds)] S).Ok fun t S' => ∃ d, d ∈ ds ∧ t = vD d ∧ Dr S' ∧ Sp S S' := by
  refine cal_ok pp.pick rfl (s_cons (s_retO (o_ix (R.Ok.of (e_v rfl) ?_))))
  have hpos : (0 : Int) < ds.length := by
    cases ds with
    | nil => exact (hne rfl).elim
    | cons _ _ => simp
  refine e_take (n := n) p hd rfl rfl (e_bi1 (e_v rfl) l_lenT) hpos fun r S1 r0 r1 d1 s1 => ?_
  have hlt : r.toNat < ds.length := by omega
  exact ⟨_, l_ixT r0 r1 (List.getElem?_eq_getElem hlt), _, List.getElem_mem hlt, rfl, d1, s1⟩
theorem e_pickT (p : Pre T) (pp : PreP T) {es : Es} {ds : List D} (hd : Dr S) (hne : ds ≠ []) (ha : evs (T.ctx (callF T (n + 3))) es ρ S = .ok [.val (.ref 0), .val (.ref 1), vD (.tup ds)] S) {Q : TV → Store → Prop} (h : ∀ d S', d ∈ ds → Dr S' → Sp S S' → Q (vD d) S') :
    (ev (T.ctx (callF T (n + 3))) (.call "_law_pick" es .nil) ρ S).Ok Q := by
  refine e_call ha a_nil0 (called_ok ?_)
  show (callF T (n + 3) "_law_pick" [.ref 0, .ref 1, .dat (.tup ds)] S).Ok _
  refine (pickT_ok p pp hd hne).mono ?_
  rintro t S' ⟨d, hm, rfl, d', s'⟩
  rw [← s'.len]
  exact R.Ok.of settle_dat (h d S' hm d' s')
theorem o_bi2 {f : Bi} {a b : E} {Q : TV → Store → Prop} (h : (ev Γ a ρ S).Ok fun x S1 => (ev Γ b ρ S1).Ok fun y S2 => ∃ z, bi2 f x y = some z ∧ Q z S2) : (ev Γ (.bi f (.cons a (.cons b .nil))) ρ S).Ok Q := by
  obtain ⟨x, S1, e1, h1⟩ := h.eq
  obtain ⟨y, S2, e2, z, hz, q⟩ := h1.eq
  exact R.Ok.of (e_bi2 e1 e2 hz) q
/-! ### weeks are mild -/
theorem dayD_mild {d : Day} (h : GoodDay d) : (dayD d).mild 30 = true ∧ (dayD d).core = true := by
  have hm := h.most
  rw [dayD_eq]
  constructor
  · simp only [D.mild, Bool.and_eq_true, decide_eq_true_eq, List.length_map]
    refine ⟨by omega, milds_iff.mpr fun x hx => ?_⟩
    obtain ⟨p, hp, rfl⟩ := List.mem_map.mp hx
    have := word_len (h.word p hp)
    simp only [pairD, D.mild, D.milds, Bool.and_true, Bool.true_and, Bool.and_eq_true, decide_eq_true_eq]
    exact ⟨show 2 ≤ 30 by decide, by omega⟩
  · simp only [D.core]
    refine cores_iff.mpr fun x hx => ?_
    obtain ⟨p, hp, rfl⟩ := List.mem_map.mp hx
    rfl
theorem wk_mild {w : Wk} (h : GoodWk w) : w.toD.mild 30 = true ∧ w.toD.core = true := by
  have h8 := h.eight
  have h20 := h.few
  constructor
  · simp only [Wk.toD, D.mild, D.milds, Bool.and_eq_true, decide_eq_true_eq, Bool.and_true, List.length_map]
    refine ⟨show 2 ≤ 30 by decide, ⟨by omega, milds_iff.mpr fun x hx => ?_⟩, by omega, milds_iff.mpr fun x hx => ?_⟩
    · obtain ⟨d, hd, rfl⟩ := List.mem_map.mp hx
      exact (dayD_mild (h.day d hd)).1
    · obtain ⟨d, hd, rfl⟩ := List.mem_map.mp hx
      rfl
  · simp only [Wk.toD, D.core, D.cores, Bool.and_eq_true, Bool.and_true]
    refine ⟨cores_iff.mpr fun x hx => ?_, cores_iff.mpr fun x hx => ?_⟩
    · obtain ⟨d, hd, rfl⟩ := List.mem_map.mp hx
      exact (dayD_mild (h.day d hd)).2
    · obtain ⟨d, hd, rfl⟩ := List.mem_map.mp hx
      rfl
theorem chg_nice {d e : D} {m : Nat} (h : Chg d e) (hd : d.depth + 1 ≤ m) : Nice e m :=
  have q := mild_fits (k := 40) (by decide) e h.mild
  ⟨q.1, by have := h.deep; omega, q.2⟩
theorem wk_nice {w : Wk} (h : GoodWk w) {m : Nat} (hm : 5 ≤ m) : Nice w.toD m :=
  ⟨wk_fits h, by have := wk_depth w; omega, wk_sm h⟩
theorem wk_shape (p : PreK T) (ps : PreS T) {w : Wk} (hw : GoodWk w) : shapeB w.toD = true := by
  obtain ⟨t, S', e, rfl, _⟩ := (shape_ok (n := 0) (S := []) p ps hw).eq
  obtain ⟨t, S'', e2, h2, _⟩ := (shape_eq (n := 0) (S := []) p ps (wk_sm hw)).eq
  rw [e] at e2
  injection e2 with q1 q2
  rw [h2] at q1
  injection q1 with q1
  injection q1 with q1
  injection q1 with q1
  exact q1.symm
end Ap
set_option Elab.async false
set_option linter.all false
set_option maxRecDepth 100000
set_option maxHeartbeats 1000000
namespace Ap
open PySem (Str)
variable {T : Tb} {S S1 S2 S3 : Store} {ρ : Env} {Γ : Ctx} {n : Nat} {n0 : Nat} {P : Fl → Store → Prop}
/-! ### what an environment names -/
theorem mxE_ge : ∀ {ρ : Env} {i : Nat} {x : Val}, ρ[i]? = some (some x) → x.mx ≤ mxE ρ
  | [], i, x, h => by simp at h
  | a :: r, 0, x, h => by
    simp at h; subst h
    rw [mxE_cons, mo_some]; exact Nat.le_max_left _ _
  | a :: r, i + 1, x, h => by
    rw [mxE_cons]; exact Nat.le_trans (mxE_ge (by simpa using h)) (Nat.le_max_right _ _)
theorem mx2 {ρ : Env} (h0 : n0 ≤ 2) (h : mxE ρ ≤ 2) (h2 : ρ[2]? = some (some (.ref 1))) : max n0 (mxE ρ) = 2 := by
  have := mxE_ge h2
  have e : (Val.ref 1).mx = 2 := rfl
  rw [e] at this
  have h3 : mxE ρ = 2 := Nat.le_antisymm h this
  rw [h3]; exact Nat.max_eq_right h0
/-! ### seconds_in refuses -/
theorem seconds_bad0 (p : PreK T) (ps : PreS T) (pn : PreN T) (hsi : HSi T) (px : PreX T) {d : D} {x y z u : Val} (hx : Lk S x d) (hd : Nice d (n + 4)) (hs : shapeB d = false) : (callF T (n + 7) "seconds_in" [x, y, z, u] S).Exn (badX (.int 0)) (Gr S) :=
  call_ex hsi rfl (x_head (xx_as (x_fn (xs := [x, .dat (.int 0)]) (a_cons0 (e_v rfl) (a_cons0 e_c a_nil0)) (taken_bad p ps pn px hx hd hs))))
theorem seconds_bad1 (p : PreK T) (ps : PreS T) (pn : PreN T) (hsi : HSi T) (px : PreX T) {w : Wk} (hw : GoodWk w) {x z u : Val} {d : D} (hx : Lk S x w.toD) (hd : within d 0 100000000 = false) : (callF T (n + 7) "seconds_in" [x, .dat d, z, u] S).Exn (badX (.int 1)) (Gr S) := by
  refine call_ex hsi rfl (x_next (s_asO (by show 4 < 8; decide) (o_fnG (xs := [x, .dat (.int 0)]) (a_cons0 (e_v rfl) (a_cons0 e_c a_nil0)) (taken_ok p ps pn hw hx) fun S' g => ?_)))
  exact x_head (xx_ex ((x_fn (xs := [.dat d, .dat (.int 1)]) (a_cons0 (e_v rfl) (a_cons0 e_c a_nil0)) (need_bad (n := n + 2) p ps pn px hd)).up g))
theorem seconds_bad2 (p : PreK T) (ps : PreS T) (pn : PreN T) (hsi : HSi T) (px : PreX T) {w : Wk} (hw : GoodWk w) {x u : Val} {b : Int} {d : D} (hb : 0 ≤ b) (hb2 : b ≤ 100000000) (hx : Lk S x w.toD) (hd : within d 0 100000000 = false) : (callF T (n + 7) "seconds_in" [x, .dat (.int b), .dat d, u] S).Exn (badX (.int 2)) (Gr S) := by
  refine call_ex hsi rfl (x_next (s_asO (by show 4 < 8; decide) (o_fnG (xs := [x, .dat (.int 0)]) (a_cons0 (e_v rfl) (a_cons0 e_c a_nil0)) (taken_ok p ps pn hw hx) fun S' g => ?_)))
  refine x_next (s_exO (R.Ok.of (a := vD .non) (S := S') (e_fn (xs := [.dat (.int b), .dat (.int 1)]) (a_cons0 (e_v rfl) (a_cons0 e_c a_nil0)) (need_ok (n := n + 2) p ps pn hb hb2)) ?_))
  exact x_head (xx_ex ((x_fn (xs := [.dat d, .dat (.int 2)]) (a_cons0 (e_v rfl) (a_cons0 e_c a_nil0)) (need_bad (n := n + 2) p ps pn px hd)).up g))
theorem seconds_bad3 (p : PreK T) (ps : PreS T) (pn : PreN T) (hsi : HSi T) (px : PreX T) {w : Wk} (hw : GoodWk w) {x : Val} {b e : Int} {d : D} (hb : 0 ≤ b) (hb2 : b ≤ 100000000) (he : 0 ≤ e) (he2 : e ≤ 100000000) (hx : Lk S x w.toD) (hs : d.sm = true) (hd : wordD d = false) : (callF T (n + 7) "seconds_in" [x, .dat (.int b), .dat (.int e), .dat d] S).Exn (badX (.int 3)) (Gr S) := by
  refine call_ex hsi rfl (x_next (s_asO (by show 4 < 8; decide) (o_fnG (xs := [x, .dat (.int 0)]) (a_cons0 (e_v rfl) (a_cons0 e_c a_nil0)) (taken_ok p ps pn hw hx) fun S' g => ?_)))
  refine x_next (s_exO (R.Ok.of (a := vD .non) (S := S') (e_fn (xs := [.dat (.int b), .dat (.int 1)]) (a_cons0 (e_v rfl) (a_cons0 e_c a_nil0)) (need_ok (n := n + 2) p ps pn hb hb2)) ?_))
  refine x_next (s_exO (R.Ok.of (a := vD .non) (S := S') (e_fn (xs := [.dat (.int e), .dat (.int 2)]) (a_cons0 (e_v rfl) (a_cons0 e_c a_nil0)) (need_ok (n := n + 2) p ps pn he he2)) ?_))
  refine x_head (xx_if (t_noO (t_callO (R.Ok.of (e_fn (xs := [.dat d]) (a_cons0 (e_v rfl) a_nil0) (wordD_eq (n := n + 5) ps hs)) ⟨_, rfl, ?_⟩))))
  rw [hd]
  simp only [Bool.not_false, if_true]
  exact x_head (xx_rais px.bad e_c g)
/-! ### _law_told of four -/
def p_told4 : Fn := ⟨4, 5,
    (.cons (.tr (.call "seconds_in" .nil (.cons (.v 0) (.cons (.v 1) (.cons (.v 2) (.cons (.v 3) .nil))))) "BadValue" 4 "bad" "at")
    .nil)⟩
theorem told4_bad (px : PreX T) (ht : T.fns.lookup ("_law_told" : Str) = some p_told4) {x y z u : Val} {k : Int} (h : (callF T n "seconds_in" [x, y, z, u] S).Exn (badX (.int k)) (Gr S)) : (callF T (n + 1) "_law_told" [x, y, z, u] S).Ok fun t S' => t = vD (badD k) ∧ Gr S S' := by
  refine cal_ok ht rfl (s_cons (s_tryX (d := .int k) px.bad (show 4 < 5 by decide) ?_))
  obtain ⟨S', e, g⟩ := x_fnK (ρ := [some x, some y, some z, some u, none]) (es := .cons (.v 0) (.cons (.v 1) (.cons (.v 2) (.cons (.v 3) .nil)))) (xs := [x, y, z, u]) (a_cons0 (e_v rfl) (a_cons0 (e_v rfl) (a_cons0 (e_v rfl) (a_cons0 (e_v rfl) a_nil0)))) h
  exact ⟨S', e, rfl, g⟩
theorem told4_ok (px : PreX T) (ht : T.fns.lookup ("_law_told" : Str) = some p_told4) {x y z u : Val} {d : D} (h : (callF T n "seconds_in" [x, y, z, u] S).Ok fun t S' => t = vD d ∧ Gr S S') : (callF T (n + 1) "_law_told" [x, y, z, u] S).Ok fun t S' => t = vD d ∧ Gr S S' := by
  refine cal_ok ht rfl (s_cons (s_try px.bad (show 4 < 5 by decide) (o_callK (R.Ok.of (a_cons0 (e_v rfl) (a_cons0 (e_v rfl) (a_cons0 (e_v rfl) (a_cons0 (e_v rfl) a_nil0)))) (called_ok ?_)))))
  show (callF T n "seconds_in" [x, y, z, u] S).Ok _
  refine h.mono ?_
  rintro t S' ⟨rfl, g⟩
  refine (settle_dat_gr g).mono ?_
  rintro t S'' ⟨rfl, g'⟩
  exact ⟨rfl, g'⟩
/-- told is ('bad', k) -/
theorem so_bad4 (p : Pre T) (px : PreX T) (ht : T.fns.lookup ("_law_told" : Str) = some p_told4) {es : Es} {x y z u : Val} {k : Int} (ha : evs (T.ctx (callF T (n + 11))) es ρ S = .ok [.val x, .val y, .val z, .val u] S) (hb : (callF T (n + 10) "seconds_in" [x, y, z, u] S).Exn (badX (.int k)) (Gr S)) {Q : TV → Store → Prop} (h : ∀ S', Gr S S' → Q (bD true) S') :
    (ev (T.ctx (callF T (n + 11))) (.call "_law_so" (.cons (.call "_law_told" es .nil) (.cons (.tup (.cons (.c (.str "bad")) (.cons (.c (.int k)) .nil))) .nil)) .nil) ρ S).Ok Q := by
  refine e_so (n := n + 10) (d := badD k) p (badD_nice k _).1 (badD_nice k 0).2 (a_consO (o_call (R.Ok.of ha (called_ok ?_))))
  show (callF T (n + 11) "_law_told" [x, y, z, u] S).Ok _
  refine (told4_bad (n := n + 10) px ht hb).mono ?_
  rintro t S2 ⟨rfl, g2⟩
  refine (settle_dat_gr g2).mono ?_
  rintro t S3 ⟨rfl, g3⟩
  exact R.Ok.of (a_cons0 (e_tupD (ds := [.str "bad", .int k]) (a_cons0 e_c (a_cons0 e_c a_nil0)) (show 2 ≤ line by decide)) a_nil0) ⟨rfl, h S3 g3⟩
/-- seconds told of the week itself -/
theorem o_told4 (pk : PreK T) (ps : PreS T) (pn : PreN T) (hsi : HSi T) (px : PreX T) (ht : T.fns.lookup ("_law_told" : Str) = some p_told4) {w : Wk} (hw : GoodWk w) {es : Es} {b e : Int} {v : Str} (hb : 0 ≤ b) (hb2 : b ≤ 100000000) (he : 0 ≤ e) (he2 : e ≤ 100000000) (hv : wordOk v = true)
    (ha : evs (T.ctx (callF T (n + 11))) es ρ S = .ok [vD w.toD, iD b, iD e, vD (.str v)] S) {Q : TV → Store → Prop} (h : ∀ S', Gr S S' → Q (iD (secsOf w b e v)) S') : (ev (T.ctx (callF T (n + 11))) (.call "_law_told" es .nil) ρ S).Ok Q := by
  refine o_call (R.Ok.of ha (called_ok ?_))
  show (callF T (n + 11) "_law_told" [.dat w.toD, .dat (.int b), .dat (.int e), .dat (.str v)] S).Ok _
  refine (told4_ok (n := n + 10) px ht (seconds_ok (n := n + 3) pk ps pn hsi hw (.dat _) hb he hb2 he2 hv)).mono ?_
  rintro t S2 ⟨rfl, g2⟩
  refine (settle_dat_gr g2).mono ?_
  rintro t S3 ⟨rfl, g3⟩
  exact h S3 g3
end Ap
set_option Elab.async false
set_option linter.all false
set_option maxRecDepth 100000
set_option maxHeartbeats 1000000
namespace Ap
open PySem (Str)
variable {T : Tb} {S S1 S2 S3 : Store} {ρ : Env} {Γ : Ctx} {n : Nat} {n0 : Nat} {P : Fl → Store → Prop}
def k07in : Ss :=
    (.cons (.as 13 (.call "_law_told" (.cons (.call "_law_handed" (.cons (.v 1) (.cons (.v 2) (.cons (.v 3) .nil))) .nil) (.cons (.v 7) (.cons (.v 9) (.cons (.v 11) .nil)))) .nil))
    (.cons (.if_ (.no (.call "_law_so" (.cons (.v 13) (.cons (.call "_law_seconds_in" (.cons (.v 3) (.cons (.v 7) (.cons (.v 9) (.cons (.v 11) .nil)))) .nil) .nil)) .nil))
    (.cons (.ret (.c (.bl false)))
    .nil)
    .nil)
    (.cons (.as 10 (.bin .add (.v 10) (.v 13)))
    .nil)))
def k07body : Ss :=
    (.cons (.as 7 (.call "_law_second_here" (.cons (.v 1) (.cons (.v 2) .nil)) .nil))
    (.cons (.as 8 (.call "_law_pick" (.cons (.v 1) (.cons (.v 2) (.cons (.lst (.cons (.c (.int 0)) (.cons (.call "_law_take" (.cons (.v 1) (.cons (.v 2) (.cons (.c (.int 900)) .nil))) .nil) (.cons (.call "_law_wide" (.cons (.v 1) (.cons (.v 2) (.cons (.bin .pow (.c (.int 10)) (.c (.int 6))) .nil))) .nil) (.cons (.call "_law_wide" (.cons (.v 1) (.cons (.v 2) (.cons (.bin .pow (.c (.int 10)) (.c (.int 8))) .nil))) .nil) .nil))))) .nil))) .nil))
    (.cons (.as 9 (.bi .min2 (.cons (.bin .pow (.c (.int 10)) (.c (.int 8))) (.cons (.bin .add (.v 7) (.v 8)) .nil))))
    (.cons (.as 10 (.c (.int 0)))
    (.cons (.for_ (.nm 11) (.e (.tup (.cons (.c (.str "low")) (.cons (.c (.str "high")) (.cons (.c (.str "mid")) (.cons (.c (.str "none")) .nil))))))
 k07in)
    (.cons (.if_ (.cmp .ne (.v 10) (.bin .sub (.v 9) (.v 7)))
    (.cons (.ret (.c (.bl false)))
    .nil)
    .nil)
    (.cons (.as 12 (.bin .add (.v 7) (.call "_law_wide" (.cons (.v 1) (.cons (.v 2) (.cons (.bin .add (.bin .sub (.v 9) (.v 7)) (.c (.int 1))) .nil))) .nil)))
    (.cons (.if_ (.no (.call "_law_so" (.cons (.bin .add (.call "_law_told" (.cons (.v 3) (.cons (.v 7) (.cons (.v 12) (.cons (.c (.str "low")) .nil)))) .nil) (.call "_law_told" (.cons (.v 3) (.cons (.v 12) (.cons (.v 9) (.cons (.c (.str "low")) .nil)))) .nil)) (.cons (.call "_law_told" (.cons (.v 3) (.cons (.v 7) (.cons (.v 9) (.cons (.c (.str "low")) .nil)))) .nil) .nil)) .nil))
    (.cons (.ret (.c (.bl false)))
    .nil)
    .nil)
    (.cons (.if_ (.no (.call "_law_so" (.cons (.call "_law_told" (.cons (.v 3) (.cons (.v 9) (.cons (.v 7) (.cons (.c (.str "low")) .nil)))) .nil) (.cons (.c (.int 0)) .nil)) .nil))
    (.cons (.ret (.c (.bl false)))
    .nil)
    .nil)
    (.cons (.fg [])
    .nil))))))))))
def k07end : Ss :=
    (.cons (.as 5 (.call "_law_pick" (.cons (.v 1) (.cons (.v 2) (.cons (.lst (.cons (.c .non) (.cons (.neg (.c (.int 1))) (.cons (.bin .add (.bin .pow (.c (.int 10)) (.c (.int 8))) (.c (.int 1))) (.cons (.c (.str "0")) (.cons (.c (.bl true)) .nil)))))) .nil))) .nil))
    (.cons (.fg [])
    (.cons (.as 6 (.call "_law_pick" (.cons (.v 1) (.cons (.v 2) (.cons (.lst (.cons (.c .non) (.cons (.c (.int 7)) (.cons (.c (.str "")) (.cons (.c (.str "A")) (.cons (.c (.str "abcdefghi")) .nil)))))) .nil))) .nil))
    (.cons (.fg [])
    (.cons (.if_ (.or (.cons (.no (.call "_law_so" (.cons (.call "_law_told" (.cons (.v 3) (.cons (.v 5) (.cons (.v 5) (.cons (.v 6) .nil)))) .nil) (.cons (.tup (.cons (.c (.str "bad")) (.cons (.c (.int 1)) .nil))) .nil)) .nil)) (.cons (.no (.call "_law_so" (.cons (.call "_law_told" (.cons (.v 3) (.cons (.c (.int 0)) (.cons (.v 5) (.cons (.v 6) .nil)))) .nil) (.cons (.tup (.cons (.c (.str "bad")) (.cons (.c (.int 2)) .nil))) .nil)) .nil)) .nil)))
    (.cons (.ret (.c (.bl false)))
    .nil)
    .nil)
    (.cons (.fg [])
    (.cons (.ret (.and (.cons (.call "_law_so" (.cons (.call "_law_told" (.cons (.v 3) (.cons (.c (.int 0)) (.cons (.c (.int 0)) (.cons (.v 6) .nil)))) .nil) (.cons (.tup (.cons (.c (.str "bad")) (.cons (.c (.int 3)) .nil))) .nil)) .nil) (.cons (.call "_law_so" (.cons (.call "_law_told" (.cons (.c .non) (.cons (.v 5) (.cons (.v 5) (.cons (.v 6) .nil)))) .nil) (.cons (.tup (.cons (.c (.str "bad")) (.cons (.c (.int 0)) .nil))) .nil)) .nil) .nil))))
    .nil)))))))
def p_law07 : Fn := ⟨1, 14,
    (.cons (.as 1 (.call "_law_numbers" (.cons (.v 0) .nil) .nil))
    (.cons (.as 2 (.lst (.cons (.c (.int 0)) .nil)))
    (.cons (.as 3 (.call "_law_week" (.cons (.v 1) (.cons (.v 2) .nil)) .nil))
    (.cons (.for_ (.nm 4) (.rg1 (.c (.int 4))) k07body) k07end))))⟩

def At07 (ns : List Int) (w : Wk) (ρ : Env) (S : Store) : Prop := (∃ x4 x5 x6 x7 x8 x9 x10 x11 x12 x13, ρ = [some (.scr ns), some (.ref 0), some (.ref 1), some (.dat w.toD), x4, x5, x6, x7, x8, x9, x10, x11, x12, x13] ∧ mxE ρ ≤ 2) ∧ Dr S ∧ Flt S ∧ S.length = 2
def words4 : List Str := ["low", "high", "mid", "none"]
theorem words4_ok {v : Str} (h : v ∈ words4) : wordOk v = true := by
  simp only [words4, List.mem_cons, List.not_mem_nil, or_false] at h
  rcases h with rfl | rfl | rfl | rfl <;> decide +kernel
theorem body07_ok (p : Pre T) (pw : PreW T) (ph : PreH T) (pp : PreP T) (pk : PreK T) (ps : PreS T) (pn : PreN T) (hsi : HSi T) (px : PreX T) (pse : PreSe T) (pl : PreL T) (hpa : T.fns.lookup ("_law_parts" : Str) = some p_law_parts) (hsl : T.fns.lookup ("_law_seconds_in" : Str) = some p_law_seconds_in) (ht : T.fns.lookup ("_law_told" : Str) = some p_told4)
    {ns : List Int} {w : Wk} (hw : DrawnWk w) {k4 : Int} {x5 x6 x7 x8 x9 x10 x11 x12 x13 : Option Val} (hm : mxE [some (.scr ns), some (.ref 0), some (.ref 1), some (.dat w.toD), some (.dat (.int k4)), x5, x6, x7, x8, x9, x10, x11, x12, x13] ≤ 2) (hd : Dr S) (hf : Flt S) (hl : S.length = 2) :
    (exs (T.ctx (callF T (n + 11))) k07body 2 [some (.scr ns), some (.ref 0), some (.ref 1), some (.dat w.toD), some (.dat (.int k4)), x5, x6, x7, x8, x9, x10, x11, x12, x13] S).Ok fun f S' => match f with
      | .next ρ' => At07 ns w ρ' S'
      | _ => False := by
  unfold k07body
  refine s_cons (s_asO (by show 7 < 14; decide) (e_rn (xs := [.ref 0, .ref 1]) hd (a_cons0 (e_v rfl) (a_cons0 (e_v rfl) a_nil0)) (here_ok (n := n + 7) p pw pp pse hd hf) ?_))
  rintro _ S1 ⟨b, rfl, b0, b1⟩ d1 f1 s1
  refine nx ?_
  show (exs _ _ 2 [some (.scr ns), some (.ref 0), some (.ref 1), some (.dat w.toD), some (.dat (.int k4)), x5, x6, some (.dat (.int b)), x8, x9, x10, x11, x12, x13] S1).Ok _
  refine s_cons (s_asO (by show 8 < 14; decide) (e_pick (n := n + 8) p pp (fun d => ∃ k : Int, d = .int k ∧ 0 ≤ k) rfl rfl (a_consO (R.Ok.of e_c (a_consO ?_))) ?_))
  · refine e_take (n := n + 9) p d1 rfl rfl e_c (by decide) fun r2 S2 c0 c1 d2 s2 => a_consO ?_
    refine e_wide (n := n + 8) p pw d2 rfl rfl (e_bin e_c e_c (z := iD 1000000) rfl) (by decide) fun r3 S3 c2 c3 d3 s3 => a_consO ?_
    refine e_wide (n := n + 8) p pw d3 rfl rfl (e_bin e_c e_c (z := iD 100000000) rfl) (by decide) fun r4 S4 c4 c5 d4 s4 => R.Ok.of a_nil0 ⟨[.int 0, .int r2, .int r3, .int r4], rfl, by simp, show 4 ≤ line by decide, ?_, d4, flt_sp (flt_sp (flt_sp f1 d2 s2) d3 s3) d4 s4, (s2.trans s3).trans s4⟩
    intro d hd
    simp only [List.mem_cons, List.not_mem_nil, or_false] at hd
    rcases hd with rfl | rfl | rfl | rfl
    · exact ⟨_, rfl, by omega⟩
    · exact ⟨_, rfl, c0⟩
    · exact ⟨_, rfl, c2⟩
    · exact ⟨_, rfl, c4⟩
  rintro _ S5 ⟨far, rfl, f0⟩ d5 f5 s5
  refine nx ?_
  refine s_cons (s_asD (d := .dat (.int (if b + far < 100000000 then b + far else 100000000))) (e_bi2 (e_bin e_c e_c (z := iD 100000000) rfl) (e_bin (e_v rfl) (e_v rfl) b_add) rfl) (show 9 < 14 by decide) (nx ?_))
  generalize hz : (if b + far < 100000000 then b + far else 100000000) = e
  have he1 : b ≤ e := by rw [← hz]; split <;> omega
  have he2 : e ≤ 100000000 := by rw [← hz]; split <;> omega
  refine s_cons (s_asD (d := .dat (.int 0)) e_c (show 10 < 14 by decide) (nx ?_))
  show (exs _ _ 2 [some (.scr ns), some (.ref 0), some (.ref 1), some (.dat w.toD), some (.dat (.int k4)), x5, x6, some (.dat (.int b)), some (.dat (.int far)), some (.dat (.int e)), some (.dat (.int 0)), x11, x12, x13] S5).Ok _
  have l5 : S5.length = 2 := by rw [s5.len, s1.len]; exact hl
  refine s_cons (s_for (P := flNext _ _) (i_dat (e_tupD (ds := words4.map D.str) (a_cons0 e_c (a_cons0 e_c (a_cons0 e_c (a_cons0 e_c a_nil0)))) (show 4 ≤ line by decide)))
    (fun i ρ S' => ∃ (tot : Int) (y11 y13 : Option Val), ρ = [some (.scr ns), some (.ref 0), some (.ref 1), some (.dat w.toD), some (.dat (.int k4)), x5, x6, some (.dat (.int b)), some (.dat (.int far)), some (.dat (.int e)), some (.dat (.int tot)), y11, x12, y13] ∧ mxE ρ ≤ 2 ∧ tot = ((words4.take i).map fun v => secsOf w b e v).sum ∧ Dr S' ∧ Ge S5 S') ?_ ?_ ?_)
  · refine ⟨0, _, _, rfl, ?_, rfl, d5, Ge.refl⟩
    simp only [mxE_cons, mo_some, mo_none, Val.mx, mxE_nil, Nat.max_le] at hm ⊢
    omega
  · rintro i x ρ S' hx ⟨tot, y11, y13, rfl, hm', htot, d6, g6⟩
    simp only [List.map_map, List.getElem?_map, Option.map_eq_some_iff, Function.comp] at hx
    obtain ⟨v, hv, rfl⟩ := hx
    have hvo := words4_ok (List.mem_of_getElem? hv)
    refine ⟨rfl, _, rfl, ?_⟩
    unfold k07in
    refine s_cons (s_asO (by show 13 < 14; decide) (o_call (a_consO ?_)))
    refine e_handed (n := n + 7) (d := w.toD) p ph d6 (wk_fits hw.good) (Nat.le_trans (wk_depth w) (by omega)) rfl rfl rfl fun t S7 ht' d7 g7 => R.Ok.of (a_cons0 (e_v rfl) (a_cons0 (e_v rfl) (a_cons0 (e_v rfl) a_nil0))) (called_ok ?_)
    show (callF T (n + 11) "_law_told" [(prom t S7).1, .dat (.int b), .dat (.int e), .dat (.str v)] (prom t S7).2).Ok _
    obtain ⟨lk, gp⟩ := prom_lk (dr_len d7) ht'
    have dp : Dr (prom t S7).2 := by
      refine dr_ge d7 gp ?_
      have := dr_len d7
      cases t with
      | val x => rfl
      | new o => simp only [prom]; rw [List.getElem?_append_left (by omega)]
    refine (told4_ok (n := n + 10) px ht (seconds_ok (n := n + 3) pk ps pn hsi hw.good lk b0 (by omega) (by omega) he2 hvo)).mono ?_
    rintro t' S8 ⟨rfl, g8⟩
    refine settle_any.mono ?_
    rintro t' S9 ⟨rfl, h9⟩
    obtain ⟨d9, g9⟩ := after rfl d7 (gp.trans g8.ge) (g8.dr dp) h9
    refine nx ?_
    refine s_cons (s_ifO (t_noO (t_callO (e_so (n := n + 10) (d := .int (secsOf w b e v)) p (Nat.zero_le _) rfl (a_consO (R.Ok.of (e_v rfl) (a_consO (o_fnG (xs := [.dat w.toD, .dat (.int b), .dat (.int e), .dat (.str v)]) (a_cons0 (e_v rfl) (a_cons0 (e_v rfl) (a_cons0 (e_v rfl) (a_cons0 (e_v rfl) a_nil0)))) (law_seconds_ok (n := n + 7) pl hpa hsl hw.good b0 he1 he2) fun S10 g10 => R.Ok.of a_nil0 ⟨rfl, _, rfl, ?_⟩))))))))
    simp only [Bool.not_true, Bool.false_eq_true, if_false]
    refine s_nil (nx (s_cons (s_asD (e_bin (e_v rfl) (e_v rfl) b_add) (show 10 < 14 by decide) (nx (s_nil ?_)))))
    refine ⟨tot + secsOf w b e v, _, _, rfl, ?_, ?_, g10.dr d9, (g6.trans (g7.trans g9)).trans g10.ge⟩
    · show mxE [some (.scr ns), some (.ref 0), some (.ref 1), some (.dat w.toD), some (.dat (.int k4)), x5, x6, some (.dat (.int b)), some (.dat (.int far)), some (.dat (.int e)), some (.dat (.int (tot + secsOf w b e v))), some (.dat (.str v)), x12, some (.dat (.int (secsOf w b e v)))] ≤ 2
      simp only [mxE_cons, mo_some, mo_none, Val.mx, mxE_nil, Nat.max_le] at hm' ⊢
      omega
    · rw [take_snoc hv, List.map_append, List.sum_append, htot]
      simp
  · rintro ρ S6 ⟨tot, y11, y13, rfl, hm', htot, d6, g6⟩
    have htot' : tot = e - b := by
      rw [htot, ← secs_sum hw he1]
      show (([("low" : Str), "high", "mid", "none"].map fun v => secsOf w b e v)).sum = _
      simp only [List.map_cons, List.map_nil, List.sum_cons, List.sum_nil]
      omega
    subst htot'
    refine ⟨rfl, nx ?_⟩
    refine s_cons (s_if (t_cm (e_v rfl) (e_bin (e_v rfl) (e_v rfl) b_sub) c_ne) (fun h => ?_) fun _ => s_nil (nx ?_))
    · simp at h
    refine s_cons (s_asO (by show 12 < 14; decide) (o_bin (R.Ok.of (e_v rfl) (e_wide (n := n + 8) p pw d6 rfl rfl (e_bin (e_bin (e_v rfl) (e_v rfl) b_sub) e_c b_add) (by omega) fun r S7 r0 r1 d7 s7 => ⟨_, b_add, nx ?_⟩))))
    show (exs _ _ 2 [some (.scr ns), some (.ref 0), some (.ref 1), some (.dat w.toD), some (.dat (.int k4)), x5, x6, some (.dat (.int b)), some (.dat (.int far)), some (.dat (.int e)), some (.dat (.int (e - b))), y11, some (.dat (.int (b + r))), y13] S7).Ok _
    have hlow : wordOk ("low" : Str) = true := by decide +kernel
    refine s_cons (s_ifO (t_noO (t_callO (e_so (n := n + 10) (d := .int (secsOf w b e "low")) p (Nat.zero_le _) rfl (a_consO (o_bin (o_told4 (n := n) pk ps pn hsi px ht hw.good (v := "low") b0 (by omega) (by omega) (by omega) hlow (a_cons0 (e_v rfl) (a_cons0 (e_v rfl) (a_cons0 (e_v rfl) (a_cons0 e_c a_nil0)))) fun S8 g8 => ?_)))))))
    refine o_told4 (n := n) pk ps pn hsi px ht hw.good (v := "low") (by omega) (by omega) (by omega) he2 hlow (a_cons0 (e_v rfl) (a_cons0 (e_v rfl) (a_cons0 (e_v rfl) (a_cons0 e_c a_nil0)))) fun S9 g9 => ⟨_, b_add, a_consO ?_⟩
    refine o_told4 (n := n) pk ps pn hsi px ht hw.good (v := "low") b0 (by omega) (by omega) he2 hlow (a_cons0 (e_v rfl) (a_cons0 (e_v rfl) (a_cons0 (e_v rfl) (a_cons0 e_c a_nil0)))) fun S10 g10 => R.Ok.of a_nil0 ⟨?_, _, rfl, ?_⟩
    · rw [secs_add hw.good b0 (by omega) (by omega) he2]
    simp only [Bool.not_true, Bool.false_eq_true, if_false]
    refine s_nil (nx ?_)
    refine s_cons (s_ifO (t_noO (t_callO (e_so (n := n + 10) (d := .int 0) p (Nat.zero_le _) rfl (a_consO (o_told4 (n := n) pk ps pn hsi px ht hw.good (v := "low") (by omega) he2 b0 (by omega) hlow (a_cons0 (e_v rfl) (a_cons0 (e_v rfl) (a_cons0 (e_v rfl) (a_cons0 e_c a_nil0)))) fun S11 g11 => R.Ok.of (a_cons0 e_c a_nil0) ⟨?_, _, rfl, ?_⟩))))))
    · rw [secs_none w he1]
    simp only [Bool.not_true, Bool.false_eq_true, if_false]
    have gg : Gr S7 S11 := ((g8.trans g9).trans g10).trans g11
    have hmx : mxE [some (.scr ns), some (.ref 0), some (.ref 1), some (.dat w.toD), some (.dat (.int k4)), x5, x6, some (.dat (.int b)), some (.dat (.int far)), some (.dat (.int e)), some (.dat (.int (e - b))), y11, some (.dat (.int (b + r))), y13] ≤ 2 := by
      simp only [mxE_cons, mo_some, mo_none, Val.mx, mxE_nil, Nat.max_le] at hm' ⊢
      omega
    exact s_nil (nx (fg_end (Nat.le_refl _) hmx l5 f5 (gg.dr d7) ((g6.trans s7.ge).trans gg.ge) fun S'' a b c => ⟨⟨_, _, _, _, _, _, _, _, _, _, rfl, hmx⟩, a, b, c⟩))
end Ap
set_option Elab.async false
set_option linter.all false
set_option maxRecDepth 100000
set_option maxHeartbeats 1000000
namespace Ap
open PySem (Str)
variable {T : Tb} {S S1 S2 S3 : Store} {ρ : Env} {Γ : Ctx} {n : Nat} {n0 : Nat} {P : Fl → Store → Prop}
theorem end07_ok (p : Pre T) (pp : PreP T) (pk : PreK T) (ps : PreS T) (pn : PreN T) (hsi : HSi T) (px : PreX T) (ht : T.fns.lookup ("_law_told" : Str) = some p_told4)
    {x0 : Option Val} {w : Wk} (hw : GoodWk w) {x4 x5 x6 x7 x8 x9 x10 x11 x12 x13 : Option Val} (h02 : n0 ≤ 2) (hm : mxE [x0, some (.ref 0), some (.ref 1), some (.dat w.toD), x4, x5, x6, x7, x8, x9, x10, x11, x12, x13] ≤ 2) (hd : Dr S) (hf : Flt S) (hl : S.length = 2) :
    (exs (T.ctx (callF T (n + 11))) k07end n0 [x0, some (.ref 0), some (.ref 1), some (.dat w.toD), x4, x5, x6, x7, x8, x9, x10, x11, x12, x13] S).Ok (fin fun t _ => t = bD true) := by
  unfold k07end
  refine s_cons (s_asO (by show 5 < 14; decide) (e_pick (n := n + 8) p pp (fun d => within d 0 100000000 = false) rfl rfl ?_ ?_))
  · refine R.Ok.of (a_cons0 e_c (a_cons0 e_neg1 (a_cons0 (e_bin (e_bin e_c e_c (z := iD 100000000) rfl) e_c b_add) (a_cons0 e_c (a_cons0 e_c a_nil0))))) ⟨[.non, .int (-1), .int (100000000 + 1), .str "0", .bl true], rfl, by simp, show 5 ≤ line by decide, ?_, hd, hf, Sp.refl⟩
    intro d hd
    simp only [List.mem_cons, List.not_mem_nil, or_false] at hd
    rcases hd with rfl | rfl | rfl | rfl | rfl <;> rfl
  intro d S1 hb d1 f1 s1
  refine nx ?_
  show (exs _ _ _ [x0, some (.ref 0), some (.ref 1), some (.dat w.toD), x4, some (.dat d), x6, x7, x8, x9, x10, x11, x12, x13] S1).Ok _
  have hm10 : mxE [x0, some (.ref 0), some (.ref 1), some (.dat w.toD), x4, some (.dat d), x6, x7, x8, x9, x10, x11, x12, x13] ≤ 2 := by
    simp only [mxE_cons, mo_some, mo_none, Val.mx, mxE_nil, Nat.max_le] at hm ⊢
    omega
  have hm1 := mx2 h02 hm10 rfl
  refine s_cons (s_fgB (Nat.le_refl 2) hm1 (s1.len.trans hl) f1 d1 Ge.refl fun S2 d2 f2 l2 => nx ?_)
  refine s_cons (s_asO (by show 6 < 14; decide) (e_pick (n := n + 8) p pp (fun d => d.sm = true ∧ wordD d = false) rfl rfl ?_ ?_))
  · refine R.Ok.of (a_cons0 e_c (a_cons0 e_c (a_cons0 e_c (a_cons0 e_c (a_cons0 e_c a_nil0))))) ⟨[.non, .int 7, .str "", .str "A", .str "abcdefghi"], rfl, by simp, show 5 ≤ line by decide, ?_, d2, f2, Sp.refl⟩
    intro d hd
    simp only [List.mem_cons, List.not_mem_nil, or_false] at hd
    rcases hd with rfl | rfl | rfl | rfl | rfl <;> exact ⟨by decide +kernel, by decide +kernel⟩
  rintro u S3 ⟨hus, hu⟩ d3 f3 s3
  refine nx ?_
  show (exs _ _ _ [x0, some (.ref 0), some (.ref 1), some (.dat w.toD), x4, some (.dat d), some (.dat u), x7, x8, x9, x10, x11, x12, x13] S3).Ok _
  have hm30 : mxE [x0, some (.ref 0), some (.ref 1), some (.dat w.toD), x4, some (.dat d), some (.dat u), x7, x8, x9, x10, x11, x12, x13] ≤ 2 := by
    simp only [mxE_cons, mo_some, mo_none, Val.mx, mxE_nil, Nat.max_le] at hm ⊢
    omega
  have hm3 := mx2 h02 hm30 rfl
  refine s_cons (s_fgB (Nat.le_refl 2) hm3 (s3.len.trans l2) f3 d3 Ge.refl fun S4 d4 f4 l4 => nx ?_)
  refine s_cons (s_ifO (t_or2O (t_noO (t_callO (so_bad4 (n := n) p px ht (x := .dat w.toD) (y := .dat d) (z := .dat d) (u := .dat u) (a_cons0 (e_v rfl) (a_cons0 (e_v rfl) (a_cons0 (e_v rfl) (a_cons0 (e_v rfl) a_nil0)))) (seconds_bad1 (n := n + 3) pk ps pn hsi px hw (.dat _) hb) fun S5 g5 => ⟨_, rfl, ?_⟩)))))
  simp only [Bool.not_true, Bool.false_eq_true, if_false]
  refine t_noO (t_callO (so_bad4 (n := n) p px ht (x := .dat w.toD) (y := .dat (.int 0)) (z := .dat d) (u := .dat u) (a_cons0 (e_v rfl) (a_cons0 e_c (a_cons0 (e_v rfl) (a_cons0 (e_v rfl) a_nil0)))) (seconds_bad2 (n := n + 3) pk ps pn hsi px hw (by decide) (by decide) (.dat _) hb) fun S6 g6 => ⟨_, rfl, ?_⟩))
  simp only [Bool.not_true, Bool.false_eq_true, if_false]
  have g : Gr S4 S6 := g5.trans g6
  refine s_nil (nx (s_cons (s_fgB (Nat.le_refl 2) hm3 l4 f4 (g.dr d4) g.ge fun S7 d7 f7 l7 => nx (s_cons (s_retO (o_and ?_))))))
  refine so_bad4 (n := n) p px ht (x := .dat w.toD) (y := .dat (.int 0)) (z := .dat (.int 0)) (u := .dat u) (a_cons0 (e_v rfl) (a_cons0 e_c (a_cons0 e_c (a_cons0 (e_v rfl) a_nil0)))) (seconds_bad3 (n := n + 3) pk ps pn hsi px hw (by decide) (by decide) (by decide) (by decide) (.dat _) hus hu) fun S8 g8 => ⟨_, rfl, ?_⟩
  simp only [if_true]
  exact o_and1 (so_bad4 (n := n) p px ht (x := .dat .non) (y := .dat d) (z := .dat d) (u := .dat u) (a_cons0 e_c (a_cons0 (e_v rfl) (a_cons0 (e_v rfl) (a_cons0 (e_v rfl) a_nil0)))) (seconds_bad0 (n := n + 3) pk ps pn hsi px (.dat _) ⟨rfl, Nat.zero_le _, rfl⟩ rfl) fun S9 g9 => rfl)
end Ap
set_option Elab.async false
set_option linter.all false
set_option maxRecDepth 100000
set_option maxHeartbeats 1000000
namespace Ap
open PySem (Str)
variable {T : Tb} {S S1 S2 S3 : Store} {ρ : Env} {Γ : Ctx} {n : Nat} {n0 : Nat} {P : Fl → Store → Prop}
theorem law07_ok (p : Pre T) (pw : PreW T) (ph : PreH T) (pp : PreP T) (pk : PreK T) (ps : PreS T) (pn : PreN T) (hsi : HSi T) (px : PreX T) (py : PreY T) (pse : PreSe T) (pl : PreL T) (hpa : T.fns.lookup ("_law_parts" : Str) = some p_law_parts) (hsl : T.fns.lookup ("_law_seconds_in" : Str) = some p_law_seconds_in) (ht : T.fns.lookup ("_law_told" : Str) = some p_told4)
    (hlaw : T.fns.lookup ("law" : Str) = some p_law07) (ns : List Int) : (callF T (n + 12) "law" [.scr ns] []).Ok fun t _ => t = bD true := by
  obtain ⟨row, hr, e0⟩ := e_num (T := T) (n := n + 10) (ρ := start 14 [.scr ns]) p (ns := ns) rfl
  refine cal_ok hlaw rfl (s_cons (s_asO (by show 1 < 14; decide) (R.Ok.of e0 (nx ?_))))
  show (exs _ _ 0 [some (.scr ns), some (.ref 0), none, none, none, none, none, none, none, none, none, none, none, none] [.lst (li row)]).Ok _
  refine s_cons (s_asO (by show 2 < 14; decide) (R.Ok.of (e_lstD (ds := [.int 0]) (a_cons0 e_c a_nil0) (show 1 ≤ line by decide)) (nx ?_)))
  show (exs _ _ 0 [some (.scr ns), some (.ref 0), some (.ref 1), none, none, none, none, none, none, none, none, none, none, none] [.lst (li row), .lst [.dat (.int 0)]]).Ok _
  have d0 : Dr [.lst (li row), .lst [.dat (.int 0)]] := ⟨⟨row, hr, rfl⟩, 0, by decide, rfl⟩
  have f0 : Flt [.lst (li row), .lst [.dat (.int 0)]] := by
    refine flt_app (S := [.lst (li row)]) (flt_app (S := []) rfl ?_) rfl
    have := lst_mx (row.map D.int)
    rw [map_li] at this
    exact this
  refine s_cons (s_asO (by show 3 < 14; decide) (e_rn (xs := [.ref 0, .ref 1]) d0 (a_cons0 (e_v rfl) (a_cons0 (e_v rfl) a_nil0)) (law_week_ok (n := n + 6) p pw pp py d0 f0) ?_))
  rintro _ S1 ⟨w, hw, rfl⟩ d1 f1 s1
  refine nx ?_
  have l1 : S1.length = 2 := s1.len
  show (exs _ _ 0 [some (.scr ns), some (.ref 0), some (.ref 1), some (.dat w.toD), none, none, none, none, none, none, none, none, none, none] S1).Ok _
  refine s_cons (s_for (i_r1 (n := 4) e_c (okR_nat (by decide) (by decide))) (fun i ρ S => At07 ns w ρ S) ?_ ?_ ?_)
  · refine ⟨⟨_, _, _, _, _, _, _, _, _, _, rfl, ?_⟩, d1, f1, l1⟩
    simp only [mxE_cons, mo_some, mo_none, Val.mx, mxE_nil]
    decide
  · rintro i x ρ S' hx ⟨⟨x4, x5, x6, x7, x8, x9, x10, x11, x12, x13, rfl, hm⟩, d4, f4, l4⟩
    rw [upto_at] at hx
    split at hx
    · cases hx
      refine ⟨rfl, _, rfl, ?_⟩
      rw [l1]
      refine (body07_ok (n := n) (ns := ns) p pw ph pp pk ps pn hsi px pse pl hpa hsl ht hw (k4 := 0 + i) ?_ d4 f4 l4).mono ?_
      · simp only [mxE_cons, mo_some, mo_none, Val.mx, mxE_nil, Nat.max_le] at hm ⊢
        omega
      · intro f S'' h
        cases f <;> first | exact h | exact h.elim
    · cases hx
  · rintro ρ S' ⟨⟨x4, x5, x6, x7, x8, x9, x10, x11, x12, x13, rfl, hm⟩, d4, f4, l4⟩
    refine ⟨rfl, nx (end07_ok (n := n) p pp pk ps pn hsi px ht hw.good (Nat.zero_le _) ?_ d4 f4 l4)⟩
    simp only [mxE_cons, mo_some, mo_none, Val.mx, mxE_nil, Nat.max_le] at hm ⊢
    omega
end Ap
set_option Elab.async false
set_option linter.all false
set_option maxRecDepth 100000
set_option maxHeartbeats 1000000
namespace Lw
open PySem Ap
def level : Nat := 12
theorem mirror : ∀ ns : List Int, ns.length ≤ 63 → ∃ S', callF tx.tb level "law" [.scr ns] [] = .ok (vB true) S' := by
  intro ns _
  have h := law07_ok (T := tx.tb) (n := 0) ⟨rfl, rfl, rfl, rfl⟩ ⟨rfl⟩ ⟨rfl, rfl, rfl⟩ ⟨rfl⟩ ⟨rfl, rfl, rfl, rfl⟩ ⟨rfl, rfl, rfl, rfl, rfl, rfl, rfl, rfl, rfl, rfl, rfl, rfl, rfl, rfl, rfl, rfl⟩ ⟨rfl, rfl, rfl, rfl, rfl⟩ rfl ⟨rfl⟩ ⟨rfl, rfl⟩ ⟨rfl⟩ ⟨rfl, rfl⟩ rfl rfl rfl rfl ns
  obtain ⟨t, S', e, rfl⟩ := h.eq
  exact ⟨S', e⟩
end Lw
set_option Elab.async false
set_option linter.all false
set_option maxRecDepth 100000
set_option maxHeartbeats 0
namespace Lw
open PySem L2 Ap
theorem tx_ok : tx.ok = true := by decide +kernel
def loose0 : List Str := ["__name__", "LETTERS", "MOST_LETTERS", "MOST_SECOND", "is_integer", "is_within", "is_second", "is_row", "is_word", "ascending", "frozen", "DAY", "DAYS", "WEEK", "MOST_PAIRS", "MOST_FEASTS", "MOST_FEAST", "is_pair", "is_day", "are_feasts", "is_shape", "day_of", "day_parts", "parts_of", "SecondError", "BadValue", "taken_week", "need_second", "seconds_in", "_law_so"]
def loose1 : List Str := ["_law_numbers", "_law_draw", "_law_take", "_law_wide", "_law_listed", "_law_either", "_law_handed", "_law_pick", "_law_day_row", "_law_band", "_law_parts", "_law_seconds_in", "_law_second_here", "_law_day", "_law_week", "_law_told"]
def loose : List Str := loose0 ++ loose1
abbrev R : PySem.W.OpenRow := PySem.W.OpenLaw.row PySem.Challenge.rw_eachsecond_k07_whole_seconds_in_bands
abbrev hk : PySem.W.Hook := Ap.hookX 4 tx.fa tx.fn tx.file tx.exs
def ob (s : PySem.W.SharedT) : He.AlD := Ap.obsXG 4 tx.fa tx.fn tx.file tx.exs (HandSHeadRun.getT s)
theorem ob_eq (s : PySem.W.SharedT) : ob s = hk.obs s.abs := Ap.obsXG_eq (HandSHeadRun.getT_eq s)
theorem run (w : World) : HandSHeadRun.RunEq R (PySem.W.view R.prog [50]) hk ob 3000 loose w := by
  intro os
  kernel_rfl
theorem sees : tx.sg.fns.lookup ("law" : PySem.Str) = some [("script" : PySem.Str)] := by decide +kernel
end Lw
open PySem PySem.W PySem.Calls PyProof.Rows
theorem PySem.Challenge.cw_eachsecond_k07_whole_seconds_in_bands_holds : PySem.Challenge.rw_eachsecond_k07_whole_seconds_in_bands.Holds := by
  w_on; o_law
  refine HandSHeadRun.head_any (r := OpenLaw.row PySem.Challenge.rw_eachsecond_k07_whole_seconds_in_bands) (q := view (OpenLaw.row PySem.Challenge.rw_eachsecond_k07_whole_seconds_in_bands).prog [50]) (H := Lw.hk) (ob := Lw.ob) (M := 3000) (loose := Lw.loose)
    (d := HandSHeadRun.topDef (OpenLaw.row PySem.Challenge.rw_eachsecond_k07_whole_seconds_in_bands).prog 50) (kwd := []) Lw.ob_eq (by kernel_rfl) (fun s => by kernel_rfl) Lw.run (by kernel_rfl) (by kernel_rfl) (by kernel_rfl) (by rfl)
    (by first | assumption | decide +kernel) (by decide +kernel) ⟨rfl, rfl, rfl, rfl, rfl, by decide +kernel⟩ ?hw ?hc
  case hw => w_witness2
  case hc =>
    refine L2.walk_ofE (l := PySem.Challenge.rw_eachsecond_k07_whole_seconds_in_bands) (n := 63) (k := Lw.level + 1) (x := "script") (CX := fun _ _ _ _ _ _ => False) rfl (by decide) (by kernel_rfl) ⟨rfl, by decide, by decide⟩ ?F (fun _ _ _ _ z => z)
    intro w mg fa h Y G hmg0
    obtain ⟨K, KX, c⟩ := Y
    have hmg : mg ("law" : PySem.Str) = some (.ref fa) := by
      have e : (HandSHeadRun.topDef (OpenLaw.row PySem.Challenge.rw_eachsecond_k07_whole_seconds_in_bands).prog 50).name = ("law" : PySem.Str) := by kernel_rfl
      rw [← e]
      exact hmg0
    obtain ⟨fd, sp, q1, q2, q3⟩ := Ap.law_facts (P := PySem.Challenge.pw_eachsecond_k07_whole_seconds_in_bands) Lw.tx_ok Lw.sees KX G c hmg (by rfl) (by decide +kernel) Lw.mirror
    exact ⟨K, fd, sp, KX, q1, q2, fun base _ _ => q3 w base⟩
