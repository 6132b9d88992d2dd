import PyProof.Rows.All
import Wide.All
import OpenK.AllK
import Wide.FinOn
import HandS.ForMost
import HandS.Wide
import HandS.TupAny
import HandS.TupLe
import HandS.Deep
import HandS.Gcd
import HandS.DictComp
import HandS.SetKeys
import HandS.TryOnly
import HandS.More
import HandS.Conv
import HandS.RaiseMore
import PyProof.Rows.SortShellAny
import HandS.WordsDict
import HandS.TupLen
import HandS.ForDict
import HandS.Small
import HandS.Head2
import HandS.Defaults
import HandS.Head0
import HandS.Head1
import HandS.HeadEnd
import HandS.HeadHook1
import HandS.HeadHook2
import KE.KStateDown
import Lean
import HandS.Head3
import PySem.Challenge.RW_parcener_k05_levels_of_advances
set_option Elab.async false
set_option linter.all false
section
set_option maxRecDepth 100000
set_option autoImplicit false
/-! PdA: a small deterministic interpreter over structural data: values, cells, terms. -/
namespace PyD
open PySem L2

/-! ### values -/
/-- a value: plain data, or the number of a cell -/
inductive D where
  | non | bl (b : Bool) | int (i : Int) | str (s : Str) | tup (xs : List D) | lst (xs : List D) | ref (n : Nat)
  deriving Inhabited

mutual
def D.same : D → D → Bool
  | .non, .non => true
  | .bl a, .bl b => decide (a = b)
  | .int i, .int j => decide (i = j)
  | .str x, .str y => decide (x = y)
  | .tup xs, .tup ys => D.sameL xs ys
  | .lst xs, .lst ys => D.sameL xs ys
  | .ref m, .ref n => decide (m = n)
  | _, _ => false
def D.sameL : List D → List D → Bool
  | [], [] => true
  | x :: xs, y :: ys => D.same x y && D.sameL xs ys
  | _, _ => false
end
mutual
theorem D.same_refl : ∀ x : D, D.same x x = true
  | .non => rfl
  | .bl _ => by simp [D.same]
  | .int _ => by simp [D.same]
  | .str _ => by simp [D.same]
  | .tup xs => by simp only [D.same]; exact D.sameL_refl xs
  | .lst xs => by simp only [D.same]; exact D.sameL_refl xs
  | .ref _ => by simp [D.same]
theorem D.sameL_refl : ∀ xs : List D, D.sameL xs xs = true
  | [] => rfl
  | x :: xs => by simp only [D.sameL, D.same_refl x, D.sameL_refl xs, Bool.and_self]
end
mutual
theorem D.same_eq : ∀ {x y : D}, D.same x y = true → x = y
  | .non, y, h => by cases y <;> simp_all [D.same]
  | .bl _, y, h => by cases y <;> simp_all [D.same]
  | .int _, y, h => by cases y <;> simp_all [D.same]
  | .str _, y, h => by cases y <;> simp_all [D.same]
  | .tup xs, y, h => by
    cases y with
    | tup ys => exact congrArg D.tup (D.sameL_eq (by simpa [D.same] using h))
    | _ => simp [D.same] at h
  | .lst xs, y, h => by
    cases y with
    | lst ys => exact congrArg D.lst (D.sameL_eq (by simpa [D.same] using h))
    | _ => simp [D.same] at h
  | .ref _, y, h => by cases y <;> simp_all [D.same]
theorem D.sameL_eq : ∀ {xs ys : List D}, D.sameL xs ys = true → xs = ys
  | [], ys, h => by cases ys <;> simp_all [D.sameL]
  | x :: xs, ys, h => by
    cases ys with
    | nil => simp [D.sameL] at h
    | cons y ys =>
      simp only [D.sameL, Bool.and_eq_true] at h
      rw [D.same_eq h.1, D.sameL_eq h.2]
end
instance : DecidableEq D := fun x y => if h : D.same x y = true then .isTrue (D.same_eq h) else .isFalse fun e => h (e ▸ D.same_refl x)

mutual
/-- all cells that are named lie below n -/
def D.bd (n : Nat) : D → Bool
  | .tup xs => D.bdL n xs
  | .lst xs => D.bdL n xs
  | .ref m => decide (m < n)
  | _ => true
def D.bdL (n : Nat) : List D → Bool
  | [] => true
  | x :: xs => D.bd n x && D.bdL n xs
end
theorem D.bdL_all {n : Nat} : ∀ {xs : List D}, D.bdL n xs = true ↔ ∀ x ∈ xs, D.bd n x = true
  | [] => by simp [D.bdL]
  | x :: xs => by simp [D.bdL, D.bdL_all (xs := xs)]

/-! ### cells -/
inductive Cell where
  /-- a list that may grow -/
  | lst (xs : List D)
  /-- a list that stays -/
  | fz (xs : List D)
  /-- a list under a walk -/
  | lkl (xs : List D)
  /-- a dict (its keys are tuples: tk) -/
  | dct (tk : Bool) (kvs : List (D × D))
  /-- a dict under a walk -/
  | lkd (tk : Bool) (kvs : List (D × D))
  /-- the script -/
  | scr (ns : List Int)
  /-- an instance of the class with that number -/
  | ins (C : Nat) (fs : List (Str × D))
  deriving DecidableEq, Inhabited
def Cell.bd (n : Nat) : Cell → Bool
  | .lst xs | .fz xs | .lkl xs => xs.all fun x => x.bd n
  | .dct _ kvs | .lkd _ kvs => kvs.all fun p => p.1.bd n && p.2.bd n
  | .ins _ fs => fs.all fun p => p.2.bd n
  | .scr _ => true
def Cell.isScr : Cell → Bool
  | .scr _ => true
  | _ => false
abbrev Store := List Cell
abbrev Tau := List (Option D)

/-! ### results -/
inductive R (α : Type) where
  | ok (a : α) | exc (c : Nat) (fs : List (Str × D)) (M : Store) | stuck
def R.bind {α β : Type} : R α → (α → R β) → R β
  | .ok a, f => f a
  | .exc c fs M, _ => .exc c fs M
  | .stuck, _ => .stuck
@[simp] theorem R.bind_ok {α β : Type} (a : α) (f : α → R β) : (R.ok a).bind f = f a := rfl
@[simp] theorem R.bind_exc {α β : Type} (c fs M) (f : α → R β) : (R.exc c fs M).bind f = R.exc c fs M := rfl
@[simp] theorem R.bind_stuck {α β : Type} (f : α → R β) : (R.stuck : R α).bind f = R.stuck := rfl
inductive Out where
  | nx (t : Tau) (M : Store) | rt (d : D) (M : Store) | bk (t : Tau) (M : Store) | ct (t : Tau) (M : Store)
  | exc (c : Nat) (fs : List (Str × D)) (t : Tau) (M : Store) | stuck
/-- go on with a result, or leave by its exception -/
def R.out {α : Type} (r : R α) (t : Tau) (f : α → Out) : Out := match r with
  | .ok a => f a
  | .exc c fs M => .exc c fs t M
  | .stuck => .stuck
@[simp] theorem R.out_ok {α : Type} (a : α) (t) (f : α → Out) : (R.ok a).out t f = f a := rfl
@[simp] theorem R.out_exc {α : Type} (c fs M t) (f : α → Out) : (R.exc c fs M : R α).out t f = .exc c fs t M := rfl
@[simp] theorem R.out_stuck {α : Type} (t) (f : α → Out) : (R.stuck : R α).out t f = .stuck := rfl
def R.ofO {α : Type} : Option α → R α
  | some a => .ok a
  | none => .stuck
@[simp] theorem R.ofO_some {α : Type} (a : α) : R.ofO (some a) = .ok a := rfl
@[simp] theorem R.ofO_none {α : Type} : (R.ofO none : R α) = .stuck := rfl

/-! ### operators -/
inductive BOp where | add | sub | mul | fdiv | mod | pow | shl
  deriving DecidableEq
inductive COp where | eq | ne | lt | le | gt | ge | isIn | notIn | is_ | isNot
  deriving DecidableEq

/-- the line of sizes -/
abbrev big : Nat := 16777216
/-- a list, wherever it lies -/
def seqL (M : Store) : D → Option (List D)
  | .lst xs => some xs
  | .ref n => match M[n]? with
    | some (.lst xs) => some xs
    | some (.fz xs) => some xs
    | some (.lkl xs) => some xs
    | some (.scr ns) => some (ns.map D.int)
    | _ => none
  | _ => none
/-- .. of the program's own -/
def seqT (M : Store) : D → Option (List D)
  | .lst xs => some xs
  | .ref n => match M[n]? with
    | some (.lst xs) => some xs
    | some (.fz xs) => some xs
    | _ => none
  | _ => none
/-- a new list: plain, or a cell -/
def newL (cell : Bool) (xs : List D) (M : Store) : D × Store := if cell = true then (.ref M.length, M ++ [.lst xs]) else (.lst xs, M)
theorem hideX (f : Int → Bool) : ∃ g : Int → Bool, ∀ i, g i = f i := ⟨f, fun _ => rfl⟩
/-- a check that is not to be computed -/
noncomputable def hide (f : Int → Bool) : Int → Bool := Classical.choose (hideX f)
theorem hide_eq (f : Int → Bool) (i : Int) : hide f i = f i := Classical.choose_spec (hideX f) i
/-- may these be multiplied -/
noncomputable def mulOk (i j : Int) : Bool := hide (fun i => (decide (-(2 ^ 64) < i) && decide (i < 2 ^ 64)) || (decide (-(2 ^ 64) < j) && decide (j < 2 ^ 64)) || (decide (i.natAbs < 2 ^ 30000) && decide (j.natAbs < 2 ^ 30000))) i
theorem mulOk_eq (i j : Int) : mulOk i j = ((decide (-(2 ^ 64) < i) && decide (i < 2 ^ 64)) || (decide (-(2 ^ 64) < j) && decide (j < 2 ^ 64)) || (decide (i.natAbs < 2 ^ 30000) && decide (j.natAbs < 2 ^ 30000))) := hide_eq _ i
noncomputable def divOk (j : Int) : Bool := hide (fun j => (decide (j ≠ 0) && decide (j.natAbs < 1073741824)) || (decide (0 < j) && decide (j.natAbs < 2 ^ 8000))) j
theorem divOk_eq (j : Int) : divOk j = ((decide (j ≠ 0) && decide (j.natAbs < 1073741824)) || (decide (0 < j) && decide (j.natAbs < 2 ^ 8000))) := hide_eq _ j
noncomputable def strOkI (i : Int) : Bool := hide (fun i => decide (i.natAbs < 2 ^ 1900)) i
theorem strOkI_eq (i : Int) : strOkI i = decide (i.natAbs < 2 ^ 1900) := hide_eq _ i
noncomputable def binI (op : BOp) (i j : Int) : Option Int := match op with
  | .add => some (i + j)
  | .sub => some (i - j)
  | .mul => if mulOk i j = true then some (i * j) else none
  | .fdiv => if divOk j = true then some (i.fdiv j) else none
  | .mod => if j ≠ 0 then some (i.fmod j) else none
  | .pow => if 0 ≤ j ∧ j ≤ 1000000 ∧ i.natAbs < 2 ^ 64 then some (i ^ j.toNat) else none
  | .shl => if 0 ≤ j ∧ j ≤ 1000000 ∧ i.natAbs < 2 ^ 64 then some (i * 2 ^ j.toNat) else none
def repL {α : Type} (xs : List α) (n : Nat) : List α := (List.replicate n xs).flatten
noncomputable def binD (op : BOp) (cell : Bool) (x y : D) (M : Store) : R (D × Store) := match op, x, y with
  | op, .int i, .int j => (R.ofO (binI op i j)).bind fun k => .ok (.int k, M)
  | .add, .str a, .str b => if a.length + b.length ≤ big then .ok (.str (a ++ b), M) else .stuck
  | .add, .tup xs, .tup ys => if xs.length + ys.length ≤ big then .ok (.tup (xs ++ ys), M) else .stuck
  | .add, x, y => match seqT M x, seqT M y with
    | some xs, some ys => if xs.length + ys.length ≤ big then .ok (newL cell (xs ++ ys) M) else .stuck
    | _, _ => .stuck
  | .mul, x, .int k => match seqT M x with
    | some xs => if -(2 ^ 63) ≤ k ∧ k < 2 ^ 63 ∧ xs.length * k.toNat ≤ big then .ok (newL cell (repL xs k.toNat) M) else .stuck
    | none => .stuck
  | _, _, _ => .stuck

mutual
/-- Python's == of plain data -/
def eqv : D → D → Bool
  | .non, .non => true
  | .bl a, .bl b => decide (a = b)
  | .bl a, .int j => decide ((if a = true then 1 else 0) = j)
  | .int i, .bl b => decide (i = (if b = true then 1 else 0))
  | .int i, .int j => decide (i = j)
  | .str x, .str y => decide (x = y)
  | .tup xs, .tup ys => eqvL xs ys
  | .lst xs, .lst ys => eqvL xs ys
  | _, _ => false
def eqvL : List D → List D → Bool
  | [], [] => true
  | x :: xs, y :: ys => eqv x y && eqvL xs ys
  | _, _ => false
end
mutual
/-- no cell within -/
def D.pl : D → Bool
  | .tup xs => D.plL xs
  | .lst xs => D.plL xs
  | .ref _ => false
  | _ => true
def D.plL : List D → Bool
  | [] => true
  | x :: xs => D.pl x && D.plL xs
end
mutual
/-- how deep the data lie -/
def D.dep : D → Nat
  | .tup xs => D.depL xs + 1
  | .lst xs => D.depL xs + 1
  | _ => 0
def D.depL : List D → Nat
  | [] => 0
  | x :: xs => max (D.dep x) (D.depL xs)
end
/-- a list's cell is opened -/
def open1 (M : Store) (x : D) : D := match x with
  | .ref n => match seqL M (.ref n) with
    | some xs => .lst xs
    | none => .ref n
  | x => x
def strLt (a b : Str) : Bool := decide (a.cps.toList < b.cps.toList)
def strLe (a b : Str) : Bool := !strLt b a
def flat : D → Bool
  | .tup _ | .lst _ | .ref _ => false
  | _ => true

/-! ### dicts -/
def lookD (kvs : List (D × D)) (k : D) : Option D := (kvs.find? fun p => decide (p.1 = k)).map (·.2)
def putD (kvs : List (D × D)) (k v : D) : List (D × D) :=
  if (kvs.any fun p => decide (p.1 = k)) = true then kvs.map (fun p => if p.1 = k then (p.1, v) else p) else kvs ++ [(k, v)]
/-- a key of a dict (of that kind) -/
def isKey (tk : Bool) : D → Bool
  | .int _ => !tk
  | .str _ => !tk
  | .tup (.str _ :: r) => tk && r.all fun x => match x with
    | .int _ | .str _ => true
    | _ => false
  | _ => false
def dictOf (M : Store) : D → Option (Bool × List (D × D))
  | .ref n => match M[n]? with
    | some (.dct tk kvs) => some (tk, kvs)
    | some (.lkd tk kvs) => some (tk, kvs)
    | _ => none
  | _ => none
/-- two dicts, by their keys -/
def eqDct (ks ls : List (D × D)) : Bool := ks.length == ls.length && ks.all fun p => match lookD ls p.1 with
  | some u => eqv p.2 u
  | none => false
def plOk (x : D) : Bool := x.pl && decide (x.dep ≤ 30)
def isInD (M : Store) (x y : D) : Option Bool := match dictOf M y with
  | some (tk, kvs) => if isKey tk x = true then some (lookD kvs x).isSome else none
  | none => match y with
    | .tup ys => if (flat x && ys.all flat) = true then some (ys.any fun z => eqv z x) else none
    | y => match seqL M y with
      | some ys => if (plOk x && plOk (.tup ys)) = true then some (ys.any fun z => eqv z x) else none
      | none => none
def eqD (M : Store) (x y : D) : Option Bool := match dictOf M x, dictOf M y with
  | some (tk, ks), some (tk', ls) => if (!tk && !tk' && ks.all (fun p => plOk p.2) && ls.all (fun p => plOk p.2)) = true then some (eqDct ks ls) else none
  | none, none => if (plOk (open1 M x) && plOk (open1 M y)) = true then some (eqv (open1 M x) (open1 M y)) else none
  | _, _ => none
def cmpD (op : COp) (M : Store) (x y : D) : Option Bool := match op, x, y with
  | .lt, .int i, .int j => some (decide (i < j))
  | .le, .int i, .int j => some (decide (i ≤ j))
  | .gt, .int i, .int j => some (decide (j < i))
  | .ge, .int i, .int j => some (decide (j ≤ i))
  | .lt, .str a, .str b => some (strLt a b)
  | .le, .str a, .str b => some (strLe a b)
  | .gt, .str a, .str b => some (strLt b a)
  | .ge, .str a, .str b => some (strLe b a)
  | .is_, x, .non => some (decide (x = .non))
  | .isNot, x, .non => some (!decide (x = .non))
  | .is_, .bl a, .bl b => some (decide (a = b))
  | .isNot, .bl a, .bl b => some (!decide (a = b))
  | .isIn, x, y => isInD M x y
  | .notIn, x, y => (isInD M x y).map (!·)
  | .eq, x, y => eqD M x y
  | .ne, x, y => (eqD M x y).map (!·)
  | _, _, _ => none
/-- truth -/
def truD (M : Store) (x : D) : Option Bool := match x with
  | .non => some false
  | .bl b => some b
  | .int i => some (i != 0)
  | .str s => if s.length ≤ big then some ((s.length : Int) != 0) else none
  | .tup xs => some (!xs.isEmpty)
  | .lst xs => some (!xs.isEmpty)
  | .ref n => match M[n]? with
    | some (.dct false kvs) => some (!kvs.isEmpty)
    | some (.lst xs) => some (!xs.isEmpty)
    | some (.lkl xs) => some (!xs.isEmpty)
    | some (.fz xs) => some (!xs.isEmpty)
    | some (.scr ns) => some (!ns.isEmpty)
    | _ => none
def ixD (M : Store) (x y : D) : Option D := match dictOf M x with
  | some (tk, kvs) => if isKey tk y = true then lookD kvs y else none
  | none => match x, y with
    | .tup xs, .int i => atI xs i
    | .str s, .int i => if s.length ≤ big then (atI s.cps.toList i).map fun c => .str ⟨#[c]⟩ else none
    | x, .int i => match seqL M x with
      | some xs => atI xs i
      | none => none
    | _, _ => none

/-! ### built-in functions of one argument -/
inductive B1 where | len | abs | int | str | sorted | sum | min | max | list | tuple | dict | all | any | bool
  deriving DecidableEq
def allI : List D → Option (List Int)
  | [] => some []
  | .int i :: r => (allI r).map (i :: ·)
  | _ :: _ => none
def allS : List D → Option (List Str)
  | [] => some []
  | .str s :: r => (allS r).map (s :: ·)
  | _ :: _ => none
def allB : List D → Option (List Bool)
  | [] => some []
  | .bl b :: r => (allB r).map (b :: ·)
  | _ :: _ => none
def sortI (xs : List Int) : List Int := xs.mergeSort fun a b => decide (a ≤ b)
def sortS (xs : List Str) : List Str := xs.mergeSort strLe
def sortD (xs : List D) : Option (List D) := match allS xs with
  | some ss => some ((sortS ss).map D.str)
  | none => match allI xs with
    | some is => some ((sortI is).map D.int)
    | none => none
/-- what is walked: a list, a tuple, a dict's keys -/
def walkD (M : Store) (x : D) : Option (List D) := match dictOf M x with
  | some (_, kvs) => some (kvs.map (·.1))
  | none => match x with
    | .tup xs => some xs
    | x => seqL M x
/-- .. by sorted -/
def sortW (M : Store) (x : D) : Option (List D) := match dictOf M x with
  | some (true, _) => none
  | some (false, kvs) => match allS (kvs.map (·.1)) with
    | some ss => some ((sortS ss).map D.str)
    | none => none
  | none => (seqL M x).bind sortD
/-- .. by list -/
def listW (M : Store) (x : D) : Option (List D) := match dictOf M x with
  | some (true, _) => none
  | some (false, kvs) => some (kvs.map (·.1))
  | none => match x with
    | .tup xs => some xs
    | x => seqL M x
def minI : List Int → Option Int
  | [] => none
  | i :: r => some (r.foldl (fun a b => if b < a then b else a) i)
def maxI : List Int → Option Int
  | [] => none
  | i :: r => some (r.foldl (fun a b => if b > a then b else a) i)
noncomputable def b1D (f : B1) (cell : Bool) (x : D) (M : Store) : R (D × Store) := match f with
  | .len => match x with
    | .str s => if s.length ≤ big then .ok (.int s.length, M) else .stuck
    | x => match walkD M x with
      | some xs => .ok (.int xs.length, M)
      | none => .stuck
  | .abs => match x with
    | .int i => .ok (.int (if i < 0 then -i else i), M)
    | _ => .stuck
  | .int => match x with
    | .int i => .ok (.int i, M)
    | .bl b => .ok (.int (if b = true then 1 else 0), M)
    | _ => .stuck
  | .str => match x with
    | .int i => if strOkI i = true then .ok (.str (toString i), M) else .stuck
    | .str s => .ok (.str s, M)
    | _ => .stuck
  | .bool => match x with
    | .int i => .ok (.bl (i != 0), M)
    | .bl b => .ok (.bl b, M)
    | _ => .stuck
  | .sorted => match sortW M x with
    | some xs => .ok (newL cell xs M)
    | none => .stuck
  | .sum => match (seqL M x).bind allI with
    | some is => .ok (.int is.sum, M)
    | none => .stuck
  | .min => match ((seqL M x).bind allI).bind minI with
    | some i => .ok (.int i, M)
    | none => .stuck
  | .max => match ((seqL M x).bind allI).bind maxI with
    | some i => .ok (.int i, M)
    | none => .stuck
  | .list => match listW M x with
    | some xs => .ok (newL cell xs M)
    | none => .stuck
  | .tuple => match x with
    | .tup xs => .ok (.tup xs, M)
    | x => match seqL M x with
      | some xs => .ok (.tup xs, M)
      | none => .stuck
  | .dict => match dictOf M x with
    | some (false, kvs) => .ok (.ref M.length, M ++ [.dct false kvs])
    | _ => .stuck
  | .all => match (seqL M x).bind allB with
    | some bs => .ok (.bl (bs.all id), M)
    | none => .stuck
  | .any => match (seqL M x).bind allB with
    | some bs => .ok (.bl (bs.any id), M)
    | none => .stuck
inductive B2 where | min | max | gcd
  deriving DecidableEq
def b2D (f : B2) (x y : D) : Option D := match f, x, y with
  | .min, .int i, .int j => some (.int (if j < i then j else i))
  | .max, .int i, .int j => some (.int (if j > i then j else i))
  | .gcd, .int i, .int j => some (.int (Nat.gcd i.natAbs j.natAbs : Nat))
  | _, _, _ => none

/-! ### terms -/
inductive T where
  -- expressions
  | v (i : Nat) | c (d : D) | g (i : Nat)
  | bin (op : BOp) (cell : Bool) (a b : T) | neg (a : T)
  | cmp (op : COp) (a b : T) | chain (o1 o2 : COp) (a b c : T)
  | not_ (a : T) | last (a : T) | and_ (a b : T) | or_ (a b : T) | tst (a : T)
  | ix (a b : T) | tup (a : T) | lst (cell : Bool) (a : T) | frz (a : T)
  | dnew (tk : Bool) | ddisp (a b : T)
  | call (f : Nat) (a : T) | b1 (f : B1) (cell : Bool) (a : T) | b2 (f : B2) (a b : T)
  | append (o a : T) | get1 (o a : T) | get2 (o a b : T) | pop (o : T) | setdef (o a b : T)
  | fld (C : Nat) (o : T) (f : Str) | meth (f : Nat) (C : Nat) (o a : T) | make (f : Nat) (C : Nat) (a : T)
  | comp (cell : Bool) (own : List Nat) (tg it tt e : T) | dcomp (own : List Nat) (tg it tt k e : T)
  -- arguments
  | anil | acons (a b : T)
  -- targets
  | tgs (a : T)
  -- what is walked
  | rng1 (a : T) | rng2 (a b : T) | rev (a : T) | wd (a : T)
  -- statements
  | expr (a : T) | asg (tg a : T) | par (i j : Nat) (a b : T) | put (o k a : T) | sfld (C : Nat) (o : T) (f : Str) (a : T)
  | ret (a : T) | retN | iff (t a b : T) | for_ (tg it b : T) | whil (fuel : Nat) (t b : T)
  | pass | brk | cnt | raise_ (f : Nat) (C : Nat) (a : T) | wall
  | snil | scons (a b : T)
  deriving Inhabited

/-- what the functions of the text do -/
abbrev Mir := List D → Store → R (D × Store)
structure Gam where
  fn : List Mir
  con : List D

def wipeT (t : Tau) : List Nat → Tau
  | [] => t
  | v :: vs => (wipeT t vs).set v none
/-- names are given values -/
def asgT : T → D → Tau → Store → Option Tau
  | .v i, d, t, _ => if i < t.length then some (t.set i (some d)) else none
  | .tgs ts, d, t, M => match d with
    | .tup ds => asgTs ts ds t M
    | d => (seqL M d).bind fun ds => asgTs ts ds t M
  | _, _, _, _ => none
where asgTs : T → List D → Tau → Store → Option Tau
  | .anil, [], t, _ => some t
  | .acons (.v i) r, d :: ds, t, M => if i < t.length then asgTs r ds (t.set i (some d)) M else none
  | _, _, _, _ => none
/-- lock, unlock -/
def lockN : Option Nat → Store → Store
  | none, M => M
  | some n, M => match M[n]? with
    | some (.lst xs) => M.set n (.lkl xs)
    | some (.dct tk kvs) => M.set n (.lkd tk kvs)
    | _ => M
def unlockN : Option Nat → Store → Option Store
  | none, M => some M
  | some n, M => match M[n]? with
    | some (.lkl xs) => some (M.set n (.lst xs))
    | some (.lkd tk kvs) => some (M.set n (.dct tk kvs))
    | _ => none
/-- no exception may leave -/
def R.calm {α : Type} : R α → R α
  | .ok a => .ok a
  | _ => .stuck
@[simp] theorem R.calm_ok {α : Type} (a : α) : (R.ok a).calm = .ok a := rfl
@[simp] theorem R.calm_exc {α : Type} (c fs M) : (R.exc c fs M : R α).calm = .stuck := rfl
@[simp] theorem R.calm_stuck {α : Type} : (R.stuck : R α).calm = .stuck := rfl
/-- the turns of a comprehension: the list grows in the cell n -/
def compL (n : Nat) (step : D → Store → R (Option D × Store)) : List D → Store → R Store
  | [], M => .ok M
  | d :: ds, M => (step d M).bind fun r => match r.1 with
    | some y => (match r.2[n]? with
      | some (.lst acc) => if acc.length < big then compL n step ds (r.2.set n (.lst (acc ++ [y]))) else .stuck
      | _ => .stuck)
    | none => compL n step ds r.2
def compD (n : Nat) (step : D → Store → R (Option (D × D) × Store)) : List D → Store → R Store
  | [], M => .ok M
  | d :: ds, M => (step d M).bind fun r => match r.1 with
    | some y => (match r.2[n]? with
      | some (.dct false kvs) => if isKey false y.1 = true ∧ kvs.length < big then compD n step ds (r.2.set n (.dct false (putD kvs y.1 y.2))) else .stuck
      | _ => .stuck)
    | none => compD n step ds r.2
/-- cells that are the same, or name nothing at n1 or behind -/
def okC (n1 : Nat) : Store → Store → Bool
  | _, [] => true
  | [], c' :: L => c'.bd n1 && okC n1 [] L
  | c :: M, c' :: L => (decide (c' = c) || c'.bd n1) && okC n1 M L
/-- the list of a comprehension is done: it stays -/
def endL (cell : Bool) (M1 M : Store) : R (D × Store) := if cell = true then .ok (.ref M1.length, M) else match M[M1.length]? with
  | some (.lst xs) => if (decide (M.length = M1.length + 1) && D.bdL M1.length xs && okC M1.length M1 (M.take M1.length)) = true then .ok (.lst xs, M.take M1.length) else .ok (.lst xs, M.set M1.length (.fz xs))
  | _ => .stuck
def rngL (lo hi : Int) : List D := (List.range (hi - lo).toNat).map fun i => .int (lo + (i : Nat))
noncomputable def rngOk (i : Int) : Bool := hide (fun i => decide (-(2 ^ 62) ≤ i) && decide (i < 2 ^ 62)) i
theorem rngOk_eq (i : Int) : rngOk i = (decide (-(2 ^ 62) ≤ i) && decide (i < 2 ^ 62)) := hide_eq _ i
def runFor (step : D → Tau → Store → Out) : List D → Tau → Store → Out
  | [], t, M => .nx t M
  | d :: ds, t, M => match step d t M with
    | .nx t' M' => runFor step ds t' M'
    | .ct t' M' => runFor step ds t' M'
    | .bk t' M' => .nx t' M'
    | o => o
def runWhile (test : Tau → Store → R (Bool × Store)) (step : Tau → Store → Out) : Nat → Tau → Store → Out
  | 0, _, _ => .stuck
  | n + 1, t, M => (test t M).out t fun r => if r.1 = true then (match step t r.2 with
    | .nx t' M' => runWhile test step n t' M'
    | .ct t' M' => runWhile test step n t' M'
    | .bk t' M' => .nx t' M'
    | o => o) else .nx t r.2

mutual
noncomputable def evE (G : Gam) : T → Tau → Store → R (D × Store)
  | .v i, t, M => match t[i]? with
    | some (some d) => .ok (d, M)
    | _ => .stuck
  | .c d, _, M => .ok (d, M)
  | .g i, _, M => (R.ofO (G.con[i]?)).bind fun d => .ok (d, M)
  | .bin op cell a b, t, M => (evE G a t M).bind fun x => (evE G b t x.2).bind fun y => binD op cell x.1 y.1 y.2
  | .neg a, t, M => (evE G a t M).bind fun x => match x.1 with
    | .int i => .ok (.int (-i), x.2)
    | _ => .stuck
  | .cmp op a b, t, M => (evE G a t M).bind fun x => (evE G b t x.2).bind fun y => (R.ofO (cmpD op y.2 x.1 y.1)).bind fun k => .ok (.bl k, y.2)
  | .chain o1 o2 a b c, t, M => (evE G a t M).bind fun x => (evE G b t x.2).bind fun y => (R.ofO (cmpD o1 y.2 x.1 y.1)).bind fun k =>
      if k = true then (evE G c t y.2).bind fun z => (R.ofO (cmpD o2 z.2 y.1 z.1)).bind fun l => .ok (.bl l, z.2) else .ok (.bl false, y.2)
  | .not_ a, t, M => (evE G a t M).bind fun x => match x.1 with
    | .bl b => .ok (.bl (!b), x.2)
    | _ => .stuck
  | .last a, t, M => evE G a t M
  | .and_ a b, t, M => (evE G a t M).bind fun x => match x.1 with
    | .bl true => evE G b t x.2
    | .bl false => .ok (.bl false, x.2)
    | _ => .stuck
  | .or_ a b, t, M => (evE G a t M).bind fun x => match x.1 with
    | .bl true => .ok (.bl true, x.2)
    | .bl false => evE G b t x.2
    | _ => .stuck
  | .ix a b, t, M => (evE G a t M).bind fun x => (evE G b t x.2).bind fun y => (R.ofO (ixD y.2 x.1 y.1)).bind fun d => .ok (d, y.2)
  | .tup a, t, M => (evA G a t M).bind fun xs => if xs.1.length ≤ big then .ok (.tup xs.1, xs.2) else .stuck
  | .lst cell a, t, M => (evA G a t M).bind fun xs => if xs.1.length ≤ big then .ok (newL cell xs.1 xs.2) else .stuck
  | .frz a, t, M => (evE G a t M).bind fun x => match x.1 with
    | .ref n => (match x.2[n]? with
      | some (.lst xs) => .ok (.lst xs, x.2.set n (.fz xs))
      | some (.fz xs) => .ok (.lst xs, x.2)
      | _ => .stuck)
    | .lst xs => .ok (.lst xs, x.2)
    | _ => .stuck
  | .dnew tk, _, M => .ok (.ref M.length, M ++ [.dct tk []])
  | .call f a, t, M => (evA G a t M).bind fun xs => match G.fn[f]? with
    | some m => m xs.1 xs.2
    | none => .stuck
  | .b1 f cell a, t, M => (evE G a t M).bind fun x => b1D f cell x.1 x.2
  | .b2 f a b, t, M => (evE G a t M).bind fun x => (evE G b t x.2).bind fun y => (R.ofO (b2D f x.1 y.1)).bind fun d => .ok (d, y.2)
  | .append o a, t, M => (evE G o t M).bind fun x => match x.1 with
    | .ref n => (match x.2[n]? with
      | some (.lst _) => (evE G a t x.2).bind fun y => (match y.2[n]? with
        | some (.lst xs) => if xs.length < big then .ok (.non, y.2.set n (.lst (xs ++ [y.1]))) else .stuck
        | _ => .stuck)
      | _ => .stuck)
    | _ => .stuck
  | .pop o, t, M => (evE G o t M).bind fun x => match x.1 with
    | .ref n => (match x.2[n]? with
      | some (.lst xs) => (match xs[xs.length - 1]? with
        | some y => .ok (y, x.2.set n (.lst xs.dropLast))
        | none => .stuck)
      | _ => .stuck)
    | _ => .stuck
  | .get1 o a, t, M => (evE G o t M).bind fun x => if (dictOf x.2 x.1).isSome = true then (evE G a t x.2).bind fun y => match dictOf y.2 x.1 with
    | some (tk, kvs) => if isKey tk y.1 = true then .ok ((lookD kvs y.1).getD .non, y.2) else .stuck
    | none => .stuck else .stuck
  | .get2 o a b, t, M => (evE G o t M).bind fun x => if (dictOf x.2 x.1).isSome = true then (evE G a t x.2).bind fun y => (evE G b t y.2).bind fun z => match dictOf z.2 x.1 with
    | some (tk, kvs) => if isKey tk y.1 = true then .ok ((lookD kvs y.1).getD z.1, z.2) else .stuck
    | none => .stuck else .stuck
  | .fld C o f, t, M => (evE G o t M).bind fun x => match x.1 with
    | .ref n => (match x.2[n]? with
      | some (.ins C' fs) => if C' = C then (R.ofO (fs.lookup f)).bind fun d => .ok (d, x.2) else .stuck
      | _ => .stuck)
    | _ => .stuck
  | .meth f C o a, t, M => (evE G o t M).bind fun x => match x.1 with
    | .ref n => (match x.2[n]? with
      | some (.ins C' _) => if C' = C then (evA G a t x.2).bind fun xs => (match G.fn[f]? with
          | some m => m (.ref n :: xs.1) xs.2
          | none => .stuck) else .stuck
      | _ => .stuck)
    | _ => .stuck
  | .make f C a, t, M => (evA G a t M).bind fun xs => match G.fn[f]? with
    | some m => (m (.ref xs.2.length :: xs.1) (xs.2 ++ [.ins C []])).bind fun r => if r.1 = .non then .ok (.ref xs.2.length, r.2) else .stuck
    | none => .stuck
  | .comp cell own tg it tt e, t, M => (evI G it t M).bind fun w => (((compL (lockN w.1.2 w.2).length (fun d M => (R.ofO (asgT tg d (wipeT t own) M)).bind fun t' =>
        (evT G tt t' M).bind fun b => if b.1 = true then (evE G e t' b.2).bind fun y => .ok (some y.1, y.2) else .ok (none, b.2)) w.1.1 (lockN w.1.2 w.2 ++ [.lst []])).calm.bind fun M2 => endL cell (lockN w.1.2 w.2) M2).bind fun r =>
      (R.ofO (unlockN w.1.2 r.2)).bind fun M' => .ok (r.1, M'))
  | .dcomp own tg it tt k e, t, M => (evI G it t M).bind fun w => ((compD (lockN w.1.2 w.2).length (fun d M => (R.ofO (asgT tg d (wipeT t own) M)).bind fun t' =>
        (evT G tt t' M).bind fun b => if b.1 = true then (evE G k t' b.2).bind fun y => (evE G e t' y.2).bind fun z => .ok (some (y.1, z.1), z.2) else .ok (none, b.2)) w.1.1 (lockN w.1.2 w.2 ++ [.dct false []])).calm.bind fun M2 =>
      (R.ofO (unlockN w.1.2 M2)).bind fun M' => .ok (.ref (lockN w.1.2 w.2).length, M'))
  | _, _, _ => .stuck
/-- arguments -/
noncomputable def evA (G : Gam) : T → Tau → Store → R (List D × Store)
  | .anil, _, M => .ok ([], M)
  | .acons a b, t, M => (evE G a t M).bind fun x => (evA G b t x.2).bind fun xs => .ok (x.1 :: xs.1, xs.2)
  | _, _, _ => .stuck
/-- what is walked: the items, and what is locked meanwhile -/
noncomputable def evI (G : Gam) : T → Tau → Store → R ((List D × Option Nat) × Store)
  | .rng1 a, t, M => (evE G a t M).bind fun x => match x.1 with
    | .int j => if rngOk j = true then .ok ((rngL 0 j, none), x.2) else .stuck
    | _ => .stuck
  | .rng2 a b, t, M => (evE G a t M).bind fun x => (evE G b t x.2).bind fun y => match x.1, y.1 with
    | .int i, .int j => if rngOk i = true ∧ rngOk j = true then .ok ((rngL i j, none), y.2) else .stuck
    | _, _ => .stuck
  | .rev a, t, M => (evE G a t M).bind fun x => match x.1 with
    | .tup xs => .ok ((xs.reverse, none), x.2)
    | _ => .stuck
  | .wd a, t, M => (evE G a t M).bind fun x => match x.1 with
    | .str s => .ok ((s.cps.toList.map fun c => .str ⟨#[c]⟩, none), x.2)
    | .tup xs => .ok ((xs, none), x.2)
    | .lst xs => .ok ((xs, none), x.2)
    | .ref n => (match x.2[n]? with
      | some (.fz xs) => .ok ((xs, none), x.2)
      | some (.lkl xs) => .ok ((xs, none), x.2)
      | some (.scr ns) => .ok ((ns.map D.int, none), x.2)
      | some (.lkd false kvs) => .ok ((kvs.map (·.1), none), x.2)
      | some (.lst xs) => (evE G a t (M.set n (.lkl xs))).calm.bind fun y => if y.1 = .ref n ∧ x.2 = M ∧ y.2 = M.set n (.lkl xs) then .ok ((xs, some n), M) else .stuck
      | some (.dct false kvs) => (evE G a t (M.set n (.lkd false kvs))).calm.bind fun y => if y.1 = .ref n ∧ x.2 = M ∧ y.2 = M.set n (.lkd false kvs) then .ok ((kvs.map (·.1), some n), M) else .stuck
      | _ => .stuck)
    | _ => .stuck
  | _, _, _ => .stuck
/-- a test -/
noncomputable def evT (G : Gam) : T → Tau → Store → R (Bool × Store)
  | .and_ a b, t, M => (evT G a t M).bind fun x => if x.1 = true then evT G b t x.2 else .ok (false, x.2)
  | .or_ a b, t, M => (evT G a t M).bind fun x => if x.1 = true then .ok (true, x.2) else evT G b t x.2
  | .last a, t, M => evT G a t M
  | .not_ a, t, M => (evT G a t M).bind fun x => .ok (!x.1, x.2)
  | .pass, _, M => .ok (true, M)
  | .tst a, t, M => (evE G a t M).bind fun x => (R.ofO (truD x.2 x.1)).bind fun b => .ok (b, x.2)
  | _, _, _ => .stuck
end

/-- an attribute stored -/
def putFD (f : Str) (v : D) : List (Str × D) → List (Str × D)
  | [] => [(f, v)]
  | (g, w) :: r => if g = f then (g, v) :: r else (g, w) :: putFD f v r
/-- o[k] = a -/
def putIx (M : Store) (x k d : D) : Option Store := match x with
  | .ref n => match M[n]? with
    | some (.lst xs) => (match k with
      | .int i => (ixN xs.length i).map fun j => M.set n (.lst (xs.set j d))
      | _ => none)
    | some (.dct tk kvs) => if isKey tk k = true ∧ kvs.length < big then some (M.set n (.dct tk (putD kvs k d))) else none
    | _ => none
  | _ => none
def Out.unlock (lk : Option Nat) : Out → Out
  | .nx t M => match unlockN lk M with
    | some M' => .nx t M'
    | none => .stuck
  | .rt d M => match unlockN lk M with
    | some M' => .rt d M'
    | none => .stuck
  | .exc c fs t M => if lk = none then .exc c fs t M else .stuck
  | _ => .stuck
def ofO {α : Type} (o : Option α) (f : α → Out) : Out := match o with
  | some a => f a
  | none => .stuck
@[simp] theorem ofO_some {α : Type} (a : α) (f : α → Out) : ofO (some a) f = f a := rfl
@[simp] theorem ofO_none {α : Type} (f : α → Out) : ofO none f = .stuck := rfl
noncomputable def evS (G : Gam) : T → Tau → Store → Out
  | .snil, t, M => .nx t M
  | .scons a b, t, M => match evS G a t M with
    | .nx t' M' => evS G b t' M'
    | o => o
  | .expr a, t, M => (evE G a t M).out t fun x => .nx t x.2
  | .asg tg a, t, M => (evE G a t M).out t fun x => ofO (asgT tg x.1 t x.2) fun t' => .nx t' x.2
  | .par i j a b, t, M => (evE G a t M).out t fun x => (evE G b t x.2).out t fun y => if i < t.length ∧ j < t.length then .nx ((t.set i (some x.1)).set j (some y.1)) y.2 else .stuck
  | .put o k a, t, M => (evE G a t M).out t fun x => (evE G o t x.2).out t fun y => (evE G k t y.2).out t fun z => ofO (putIx z.2 y.1 z.1 x.1) fun M' => .nx t M'
  | .sfld C o f a, t, M => (evE G a t M).out t fun x => (evE G o t x.2).out t fun y => match y.1 with
    | .ref n => (match y.2[n]? with
      | some (.ins C' fs) => if C' = C ∧ fs.length < 900 then .nx t (y.2.set n (.ins C (putFD f x.1 fs))) else .stuck
      | _ => .stuck)
    | _ => .stuck
  | .ret a, t, M => (evE G a t M).out t fun x => .rt x.1 x.2
  | .retN, _, M => .rt .non M
  | .iff c a b, t, M => (evT G c t M).out t fun x => if x.1 = true then evS G a t x.2 else evS G b t x.2
  | .for_ tg it b, t, M => (evI G it t M).out t fun w => (runFor (fun d t M => ofO (asgT tg d t M) fun t' => evS G b t' M) w.1.1 t (lockN w.1.2 w.2)).unlock w.1.2
  | .whil fuel c b, t, M => runWhile (fun t M => evT G c t M) (fun t M => evS G b t M) fuel t M
  | .pass, t, M => .nx t M
  | .brk, t, M => .bk t M
  | .cnt, t, M => .ct t M
  | _, _, _ => .stuck

/-! ### what a def does -/
/-- the cells that nobody names any more are dropped -/
def trim (keep : Nat) (M : Store) (d : D) (M' : Store) : R (D × Store) :=
  if (d.bd (M.length + keep) && okC (M.length + keep) M (M'.take (M.length + keep))) = true then .ok (d, M'.take (M.length + keep)) else .ok (d, M')
noncomputable def mkM (n p keep : Nat) (b : T) (G : Gam) : Mir := fun ds M =>
  if ds.length = p then (match evS G b (ds.map some ++ List.replicate (n - p) none) M with
    | .nx _ M' => trim keep M .non M'
    | .rt d M' => trim keep M d M'
    | .exc c fs _ M' => .exc c fs M'
    | _ => .stuck) else .stuck
end PyD
end
section
set_option maxRecDepth 100000
set_option autoImplicit false
/-! PdB: how values and cells lie in the abstract heap. -/
namespace PyD
open PySem PySem.Spec L2

/-- a tuple of the written part -/
def KTup (K : PySem.W.Frag) (a : Addr) (xs : List V) : Prop :=
  ∃ (o : Obj) (its : Array Value) (n : Nat), K.lookup a = some o ∧ o.cls = .type "tuple" ∧ o.data = .seq its n ∧ its.size ≤ sizeLine ∧ Vals xs its.toList
mutual
inductive Den (K : PySem.W.Frag) (F : Hp) (r : List Addr) : D → V → Prop
  | non : Den K F r .non .non
  | bl (b : Bool) : Den K F r (.bl b) (.bl b)
  | int (i : Int) : Den K F r (.int i) (.int i)
  | str (s : Str) : PyData.strOk s = true → Den K F r (.str s) (.str s)
  | tup {ds : List D} {a : Addr} {xs : List V} : F a = some (.tup xs) → Dens K F r ds xs → Den K F r (.tup ds) (.ref a)
  | tupK {ds : List D} {a : Addr} {xs : List V} : KTup K a xs → (∀ s l, ds ≠ .str s :: l) → Dens K F r ds xs → Den K F r (.tup ds) (.ref a)
  | lst {ds : List D} {a : Addr} {xs : List V} : F a = some (.lst xs) → Dens K F r ds xs → Den K F r (.lst ds) (.ref a)
  | ref {n : Nat} {a : Addr} : r[n]? = some a → Den K F r (.ref n) (.ref a)
inductive Dens (K : PySem.W.Frag) (F : Hp) (r : List Addr) : List D → List V → Prop
  | nil : Dens K F r [] []
  | cons {d : D} {v : V} {ds : List D} {vs : List V} : Den K F r d v → Dens K F r ds vs → Dens K F r (d :: ds) (v :: vs)
end

/-- more has been laid -/
structure Ext (F : Hp) (r : List Addr) (F' : Hp) (r' : List Addr) : Prop where
  fr : ∀ a o, F a = some o → F' a = some o
  pre : ∀ (n : Nat) (a : Addr), r[n]? = some a → r'[n]? = some a
theorem Ext.refl {F : Hp} {r : List Addr} : Ext F r F r := ⟨fun _ _ h => h, fun _ _ h => h⟩
theorem Ext.trans {F F1 F2 : Hp} {r r1 r2 : List Addr} (a : Ext F r F1 r1) (b : Ext F1 r1 F2 r2) : Ext F r F2 r2 := ⟨fun x o h => b.fr x o (a.fr x o h), fun n x h => b.pre n x (a.pre n x h)⟩
theorem Rd.ext {F F' : Hp} (h : ∀ a o, F a = some o → F' a = some o) {a : Addr} {u : HO} (x : Rd F a u) : Rd F' a u := by
  rcases x with x | ⟨o, x⟩
  · exact .inl (h _ _ x)
  · exact .inr ⟨o, h _ _ x⟩
theorem SqL.ext {K : PySem.W.Frag} {F F' : Hp} (h : ∀ a o, F a = some o → F' a = some o) {a : Addr} {xs : List V} (x : SqL K F a xs) : SqL K F' a xs := by
  rcases x with x | x
  · exact .inl (Rd.ext h x)
  · exact .inr x
section
variable {K : PySem.W.Frag} {F F' : Hp} {r r' : List Addr}
mutual
theorem Den.mono (e : Ext F r F' r') : ∀ {d : D} {v : V}, Den K F r d v → Den K F' r' d v
  | _, _, .non => .non
  | _, _, .bl b => .bl b
  | _, _, .int i => .int i
  | _, _, .str s h => .str s h
  | _, _, .tup h hs => .tup (e.fr _ _ h) (Dens.mono e hs)
  | _, _, .tupK h n hs => .tupK h n (Dens.mono e hs)
  | _, _, .lst h hs => .lst (e.fr _ _ h) (Dens.mono e hs)
  | _, _, .ref h => .ref (e.pre _ _ h)
theorem Dens.mono (e : Ext F r F' r') : ∀ {ds : List D} {vs : List V}, Dens K F r ds vs → Dens K F' r' ds vs
  | _, _, .nil => .nil
  | _, _, .cons h hs => .cons (Den.mono e h) (Dens.mono e hs)
end
theorem Dens.length : ∀ {ds : List D} {vs : List V}, Dens K F r ds vs → ds.length = vs.length
  | _, _, .nil => rfl
  | _, _, .cons _ hs => by simp [Dens.length hs]
theorem Dens.get : ∀ {ds : List D} {vs : List V} {i : Nat} {d : D}, Dens K F r ds vs → ds[i]? = some d → ∃ v, vs[i]? = some v ∧ Den K F r d v
  | _, _, _, _, .nil, h => by simp at h
  | _, _, 0, _, .cons h _, e => by simp at e; subst e; exact ⟨_, rfl, h⟩
  | _, _, i + 1, d, .cons _ hs, e => by
    obtain ⟨v, h1, h2⟩ := Dens.get (i := i) (d := d) hs (by simpa using e)
    exact ⟨v, by simpa using h1, h2⟩
theorem Dens.getV : ∀ {ds : List D} {vs : List V} {i : Nat} {v : V}, Dens K F r ds vs → vs[i]? = some v → ∃ d, ds[i]? = some d ∧ Den K F r d v
  | _, _, _, _, .nil, h => by simp at h
  | _, _, 0, _, .cons h _, e => by simp at e; subst e; exact ⟨_, rfl, h⟩
  | _, _, i + 1, v, .cons _ hs, e => by
    obtain ⟨d, h1, h2⟩ := Dens.getV (i := i) (v := v) hs (by simpa using e)
    exact ⟨d, by simpa using h1, h2⟩
theorem Dens.append : ∀ {ds es : List D} {vs ws : List V}, Dens K F r ds vs → Dens K F r es ws → Dens K F r (ds ++ es) (vs ++ ws)
  | _, _, _, _, .nil, h => h
  | _, _, _, _, .cons h hs, h' => .cons h (Dens.append hs h')
theorem Dens.set {d : D} {v : V} (h : Den K F r d v) : ∀ {ds : List D} {vs : List V} (i : Nat), Dens K F r ds vs → Dens K F r (ds.set i d) (vs.set i v)
  | _, _, _, .nil => .nil
  | _, _, 0, .cons _ hs => .cons h hs
  | _, _, i + 1, .cons q hs => .cons q (Dens.set h i hs)
theorem Dens.dropLast : ∀ {ds : List D} {vs : List V}, Dens K F r ds vs → Dens K F r ds.dropLast vs.dropLast
  | _, _, .nil => .nil
  | _, _, .cons _ .nil => .nil
  | _, _, .cons h (.cons h' hs) => .cons h (Dens.dropLast (.cons h' hs))
theorem Dens.drop : ∀ {ds : List D} {vs : List V} (n : Nat), Dens K F r ds vs → Dens K F r (ds.drop n) (vs.drop n)
  | _, _, 0, h => h
  | _, _, _ + 1, .nil => .nil
  | _, _, n + 1, .cons _ hs => Dens.drop n hs
theorem Dens.take : ∀ {ds : List D} {vs : List V} (n : Nat), Dens K F r ds vs → Dens K F r (ds.take n) (vs.take n)
  | _, _, 0, _ => .nil
  | _, _, _ + 1, .nil => .nil
  | _, _, n + 1, .cons h hs => .cons h (Dens.take n hs)
theorem Dens.reverse : ∀ {ds : List D} {vs : List V}, Dens K F r ds vs → Dens K F r ds.reverse vs.reverse
  | _, _, .nil => .nil
  | _, _, .cons h hs => by
    rw [List.reverse_cons, List.reverse_cons]
    exact (Dens.reverse hs).append (.cons h .nil)
theorem Dens.flat : ∀ (n : Nat) {ds : List D} {vs : List V}, Dens K F r ds vs → Dens K F r (repL ds n) (List.replicate n vs).flatten
  | 0, _, _, _ => .nil
  | n + 1, _, _, h => by
    unfold repL
    rw [List.replicate_succ, List.replicate_succ, List.flatten_cons, List.flatten_cons]
    exact h.append (Dens.flat n h)
theorem Dens.ints : ∀ {is : List Int} {vs : List V}, Dens K F r (is.map D.int) vs → vs = is.map V.int
  | [], _, h => by cases h; rfl
  | i :: is, _, h => by
    cases h with
    | cons h1 h2 => cases h1; rw [Dens.ints h2]; rfl
theorem Dens.strs : ∀ {is : List Str} {vs : List V}, Dens K F r (is.map D.str) vs → vs = is.map V.str
  | [], _, h => by cases h; rfl
  | i :: is, _, h => by
    cases h with
    | cons h1 h2 => cases h1; rw [Dens.strs h2]; rfl
theorem Dens.bls : ∀ {is : List Bool} {vs : List V}, Dens K F r (is.map D.bl) vs → vs = is.map V.bl
  | [], _, h => by cases h; rfl
  | i :: is, _, h => by
    cases h with
    | cons h1 h2 => cases h1; rw [Dens.bls h2]; rfl
theorem Dens.ofInts : ∀ (is : List Int), Dens K F r (is.map D.int) (is.map V.int)
  | [] => .nil
  | i :: is => .cons (.int i) (Dens.ofInts is)
theorem Dens.ofStrs : ∀ (is : List Str), (∀ s ∈ is, PyData.strOk s = true) → Dens K F r (is.map D.str) (is.map V.str)
  | [], _ => .nil
  | i :: is, h => .cons (.str i (h i List.mem_cons_self)) (Dens.ofStrs is fun s hs => h s (List.mem_cons_of_mem _ hs))
theorem Dens.okStrs : ∀ {is : List Str} {vs : List V}, Dens K F r (is.map D.str) vs → ∀ s ∈ is, PyData.strOk s = true
  | [], _, _, s, hs => by cases hs
  | i :: is, _, h, s, hs => by
    cases h with
    | cons h1 h2 =>
      rcases List.mem_cons.mp hs with rfl | hs
      · cases h1; assumption
      · exact Dens.okStrs h2 s hs
end
theorem allI_eq : ∀ {ds : List D} {is : List Int}, allI ds = some is → ds = is.map D.int
  | [], is, h => by simp [allI] at h; subst h; rfl
  | .int i :: ds, is, h => by
    simp only [allI, Option.map_eq_some_iff] at h
    obtain ⟨js, h1, rfl⟩ := h
    rw [allI_eq h1]; rfl
  | .non :: _, _, h | .bl _ :: _, _, h | .str _ :: _, _, h | .tup _ :: _, _, h | .lst _ :: _, _, h | .ref _ :: _, _, h => by simp [allI] at h
theorem allS_eq : ∀ {ds : List D} {is : List Str}, allS ds = some is → ds = is.map D.str
  | [], is, h => by simp [allS] at h; subst h; rfl
  | .str i :: ds, is, h => by
    simp only [allS, Option.map_eq_some_iff] at h
    obtain ⟨js, h1, rfl⟩ := h
    rw [allS_eq h1]; rfl
  | .non :: _, _, h | .bl _ :: _, _, h | .int _ :: _, _, h | .tup _ :: _, _, h | .lst _ :: _, _, h | .ref _ :: _, _, h => by simp [allS] at h
theorem allB_eq : ∀ {ds : List D} {is : List Bool}, allB ds = some is → ds = is.map D.bl
  | [], is, h => by simp [allB] at h; subst h; rfl
  | .bl i :: ds, is, h => by
    simp only [allB, Option.map_eq_some_iff] at h
    obtain ⟨js, h1, rfl⟩ := h
    rw [allB_eq h1]; rfl
  | .non :: _, _, h | .str _ :: _, _, h | .int _ :: _, _, h | .tup _ :: _, _, h | .lst _ :: _, _, h | .ref _ :: _, _, h => by simp [allB] at h

/-! ### cells -/
/-- a key of a dict -/
def kD : Key → D
  | .inl i => .int i
  | .inr s => .str s
def kDT (k : List Key) : D := .tup (k.map kD)
/-- such keys are kept -/
def strHd (k : List Key) : Prop := ∃ s l, k = Sum.inr s :: l
def FsD (K : PySem.W.Frag) (F : Hp) (r : List Addr) : List (Str × D) → List (Str × V) → Prop := Paired fun p q => p.1 = q.1 ∧ Den K F r p.2 q.2
def kOk : Key → Bool
  | .inl _ => true
  | .inr s => PyData.strOk s
def KsD (K : PySem.W.Frag) (F : Hp) (r : List Addr) : List (D × D) → List (Key × V) → Prop := Paired fun p q => p.1 = kD q.1 ∧ kOk q.1 = true ∧ Den K F r p.2 q.2
def TsD (K : PySem.W.Frag) (F : Hp) (r : List Addr) : List (D × D) → List (List Key × V) → Prop := Paired fun p q => p.1 = kDT q.1 ∧ (strHd q.1 ∧ q.1.all kOk = true) ∧ Den K F r p.2 q.2
/-- a dict's content -/
inductive DctO (K : PySem.W.Frag) (F : Hp) (r : List Addr) : Bool → List (D × D) → HO → Prop
  | k {kvs : List (D × D)} {ks : List (Key × V)} : KsD K F r kvs ks → DctO K F r false kvs (.dK ks)
  | t {kvs : List (D × D)} {ks : List (List Key × V)} : TsD K F r kvs ks → DctO K F r true kvs (.dT ks)
/-- a list that stays -/
def SqF (K : PySem.W.Frag) (F : Hp) (a : Addr) (xs : List V) : Prop := F a = some (.lst xs) ∨ ∃ (o : Obj) (its : Array Value) (n : Nat), K.lookup a = some o ∧ o.cls = .type "list" ∧ o.dict = none ∧ o.data = .seq its n ∧ its.size ≤ sizeLine ∧ Vals xs its.toList
theorem SqF.ext {K : PySem.W.Frag} {F F' : Hp} (h : ∀ a o, F a = some o → F' a = some o) {a : Addr} {xs : List V} (x : SqF K F a xs) : SqF K F' a xs := x.elim (fun x => .inl (h _ _ x)) .inr
theorem SqF.sq {K : PySem.W.Frag} {F H : Hp} (h : ∀ a o, F a = some o → H a = some o) {a : Addr} {xs : List V} (x : SqF K F a xs) : SqL K H a xs := x.elim (fun x => .inl (.inl (h _ _ x))) .inr
/-- a cell lies at a -/
inductive CellAt (K : PySem.W.Frag) (cl : Nat → Addr) (F : Hp) (r : List Addr) (H : Hp) (a : Addr) : Cell → Prop
  | lst {ds : List D} {xs : List V} : F a = none → H a = some (.lst xs) → Dens K F r ds xs → CellAt K cl F r H a (.lst ds)
  | lkl {ds : List D} {xs : List V} {od : Obj} : F a = some (.frz od (.lst xs)) → Dens K F r ds xs → CellAt K cl F r H a (.lkl ds)
  | fz {ds : List D} {xs : List V} : F a = some (.lst xs) → Dens K F r ds xs → CellAt K cl F r H a (.fz ds)
  | dct {tk : Bool} {kvs : List (D × D)} {o : HO} : F a = none → H a = some o → DctO K F r tk kvs o → CellAt K cl F r H a (.dct tk kvs)
  | lkd {tk : Bool} {kvs : List (D × D)} {o : HO} {od : Obj} : F a = some (.frz od o) → DctO K F r tk kvs o → CellAt K cl F r H a (.lkd tk kvs)
  | scr {ns : List Int} : SqF K F a (ns.map V.int) → CellAt K cl F r H a (.scr ns)
  | ins {C : Nat} {fs : List (Str × D)} {dx : Addr} {fv : List (Str × V)} : F a = none → H a = some (.ins (cl C) dx fv) → FsD K F r fs fv → CellAt K cl F r H a (.ins C fs)
structure Rep (K : PySem.W.Frag) (cl : Nat → Addr) (F : Hp) (r : List Addr) (M : Store) (H : Hp) : Prop where
  fr : ∀ a o, F a = some o → H a = some o
  len : r.length = M.length
  nd : ∀ (m n : Nat) (a : Addr) (c c' : Cell), r[m]? = some a → r[n]? = some a → M[m]? = some c → M[n]? = some c' → c.isScr = false → c'.isScr = false → m = n
  at_ : ∀ (n : Nat) (c : Cell), M[n]? = some c → ∃ a, r[n]? = some a ∧ CellAt K cl F r H a c
section
variable {K : PySem.W.Frag} {cl : Nat → Addr} {F F' : Hp} {r r' : List Addr} {M : Store} {H H' : Hp} {a : Addr} {c : Cell}
theorem FsD.mono (e : Ext F r F' r') {fs : List (Str × D)} {fv : List (Str × V)} (h : FsD K F r fs fv) : FsD K F' r' fs fv := Paired.mapP h fun _ _ q => ⟨q.1, q.2.mono e⟩
theorem KsD.mono (e : Ext F r F' r') {fs : List (D × D)} {fv : List (Key × V)} (h : KsD K F r fs fv) : KsD K F' r' fs fv := Paired.mapP h fun _ _ q => ⟨q.1, q.2.1, q.2.2.mono e⟩
theorem TsD.mono (e : Ext F r F' r') {fs : List (D × D)} {fv : List (List Key × V)} (h : TsD K F r fs fv) : TsD K F' r' fs fv := Paired.mapP h fun _ _ q => ⟨q.1, q.2.1, q.2.2.mono e⟩
theorem DctO.mono (e : Ext F r F' r') {tk : Bool} {kvs : List (D × D)} {o : HO} (h : DctO K F r tk kvs o) : DctO K F' r' tk kvs o := by
  cases h with
  | k h => exact .k (KsD.mono e h)
  | t h => exact .t (TsD.mono e h)
/-- a cell that is not touched -/
theorem CellAt.mono (e : Ext F r F' r') (hF : c.isScr = false → F a = none → F' a = none) (hH : c.isScr = false → ∀ o, H a = some o → H' a = some o) (h : CellAt K cl F r H a c) : CellAt K cl F' r' H' a c := by
  cases h with
  | lst f h d => exact .lst (hF rfl f) (hH rfl _ h) (d.mono e)
  | lkl f d => exact .lkl (e.fr _ _ f) (d.mono e)
  | fz f d => exact .fz (e.fr _ _ f) (d.mono e)
  | dct f h d => exact .dct (hF rfl f) (hH rfl _ h) (d.mono e)
  | lkd f d => exact .lkd (e.fr _ _ f) (d.mono e)
  | ins f h d => exact .ins (hF rfl f) (hH rfl _ h) (FsD.mono e d)
  | scr h => exact .scr (SqF.ext e.fr h)
theorem Rep.get (R : Rep K cl F r M H) {n : Nat} {c : Cell} (h : M[n]? = some c) : ∃ a, r[n]? = some a ∧ CellAt K cl F r H a c := R.at_ n c h
theorem CellAt.there (R : Rep K cl F r M H) (h : CellAt K cl F r H a c) (hs : c.isScr = false) : ∃ o, H a = some o := by
  cases h with
  | lst _ h _ => exact ⟨_, h⟩
  | lkl f _ => exact ⟨_, R.fr _ _ f⟩
  | fz f _ => exact ⟨_, R.fr _ _ f⟩
  | dct _ h _ => exact ⟨_, h⟩
  | lkd f _ => exact ⟨_, R.fr _ _ f⟩
  | ins _ h _ => exact ⟨_, h⟩
  | scr h => cases hs
theorem Rep.free (R : Rep K cl F r M H) (h : H a = none) : F a = none := by
  cases e : F a with
  | none => rfl
  | some o => rw [R.fr _ _ e] at h; cases h
theorem Rep.ne (R : Rep K cl F r M H) (h : H a = none) {b : Addr} {c : Cell} (hc : CellAt K cl F r H b c) (hs : c.isScr = false) : b ≠ a := by
  intro e
  subst e
  obtain ⟨o, ho⟩ := hc.there R hs
  rw [h] at ho
  cases ho
/-- F grows at an address that no cell has -/
theorem ext_F {o : HO} (h : F a = none) : Ext F r (upd F a o) r := ⟨fun b u e => by rw [upd_ne (ne_of_none e h)]; exact e, fun _ _ e => e⟩
theorem ext_r : Ext F r F (r ++ [a]) := ⟨fun _ _ e => e, fun n b e => by rw [List.getElem?_append_left (List.getElem?_eq_some_iff.mp e).1]; exact e⟩
/-- a new thing that stays -/
theorem Rep.newF (R : Rep K cl F r M H) (h : H a = none) (o : HO) : Rep K cl (upd F a o) r M (upd H a o) := by
  refine ⟨fun b u e => ?_, R.len, R.nd, fun n c e => ?_⟩
  · by_cases hb : b = a
    · subst hb; rw [upd_same] at e ⊢; exact e
    · rw [upd_ne hb] at e ⊢; exact R.fr _ _ e
  · obtain ⟨b, hb, cb⟩ := R.at_ n c e
    exact ⟨b, hb, cb.mono (ext_F (R.free h)) (fun hs q => by rw [upd_ne (R.ne h cb hs)]; exact q) fun hs u q => by rw [upd_ne (R.ne h cb hs)]; exact q⟩
/-- a new cell -/
theorem Rep.newC (R : Rep K cl F r M H) (h : H a = none) {o : HO} (hc : CellAt K cl F (r ++ [a]) (upd H a o) a c) : Rep K cl F (r ++ [a]) (M ++ [c]) (upd H a o) := by
  have at_old : ∀ (n : Nat) (c' : Cell), M[n]? = some c' → ∃ b, (r ++ [a])[n]? = some b ∧ CellAt K cl F (r ++ [a]) (upd H a o) b c' ∧ (c'.isScr = false → b ≠ a) := fun n c' e => by
    obtain ⟨b, hb, cb⟩ := R.at_ n c' e
    exact ⟨b, (ext_r (F := F)).pre _ _ hb, cb.mono (F := F) (H := H) ext_r (fun _ q => q) (fun hs u q => by rw [upd_ne (R.ne h cb hs)]; exact q), R.ne h cb⟩
  have split : ∀ (n : Nat) (c' : Cell), (M ++ [c])[n]? = some c' → M[n]? = some c' ∨ (n = M.length ∧ c' = c) := fun n c' e => by
    by_cases hn : n < M.length
    · rw [List.getElem?_append_left hn] at e
      exact .inl e
    · have hn' : n = M.length := by
        have := (List.getElem?_eq_some_iff.mp e).1
        simp at this
        omega
      subst hn'
      rw [List.getElem?_append_right (Nat.le_refl _)] at e
      simp at e
      exact .inr ⟨rfl, e.symm⟩
  have last : (r ++ [a])[M.length]? = some a := by rw [← R.len, List.getElem?_append_right (Nat.le_refl _)]; simp
  refine ⟨fun b u e => by rw [upd_ne (ne_of_none (R.fr _ _ e) h)]; exact R.fr _ _ e, by simp [R.len], fun m n b c1 c2 h1 h2 e1 e2 s1 s2 => ?_, fun n c' e => ?_⟩
  · rcases split _ _ e1 with f1 | ⟨rfl, y1⟩ <;> rcases split _ _ e2 with f2 | ⟨rfl, y2⟩
    · obtain ⟨b1, q1, _, _⟩ := at_old _ _ f1
      obtain ⟨b2, q2, _, _⟩ := at_old _ _ f2
      obtain ⟨b1', z1, _⟩ := R.at_ _ _ f1
      obtain ⟨b2', z2, _⟩ := R.at_ _ _ f2
      have w1 := (ext_r (F := F) (a := a)).pre _ _ z1
      have w2 := (ext_r (F := F) (a := a)).pre _ _ z2
      rw [h1] at w1; cases w1
      rw [h2] at w2; cases w2
      exact R.nd m n _ _ _ z1 z2 f1 f2 s1 s2
    · obtain ⟨b1, q1, _, n1⟩ := at_old _ _ f1
      rw [h1] at q1; cases q1
      rw [last] at h2; cases h2
      exact absurd rfl (n1 s1)
    · obtain ⟨b1, q1, _, n1⟩ := at_old _ _ f2
      rw [h2] at q1; cases q1
      rw [last] at h1; cases h1
      exact absurd rfl (n1 s2)
    · rfl
  · rcases split _ _ e with e | ⟨rfl, rfl⟩
    · obtain ⟨b, q, cb, _⟩ := at_old _ _ e
      exact ⟨b, q, cb⟩
    · exact ⟨a, last, hc⟩
theorem Rep.nd_set (R : Rep K cl F r M H) {n : Nat} {c c0 : Cell} (h0 : M[n]? = some c0) (hs : c0.isScr = false) :
    ∀ (m k : Nat) (a : Addr) (c1 c2 : Cell), r[m]? = some a → r[k]? = some a → (M.set n c)[m]? = some c1 → (M.set n c)[k]? = some c2 → c1.isScr = false → c2.isScr = false → m = k := by
  have old : ∀ (m : Nat) (c1 : Cell), (M.set n c)[m]? = some c1 → c1.isScr = false → ∃ c', M[m]? = some c' ∧ c'.isScr = false := fun m c1 e s => by
    by_cases hm : m = n
    · subst hm; exact ⟨c0, h0, hs⟩
    · rw [List.getElem?_set_ne (Ne.symm hm)] at e; exact ⟨c1, e, s⟩
  intro m k a c1 c2 h1 h2 e1 e2 s1 s2
  obtain ⟨d1, z1, t1⟩ := old _ _ e1 s1
  obtain ⟨d2, z2, t2⟩ := old _ _ e2 s2
  exact R.nd m k a d1 d2 h1 h2 z1 z2 t1 t2
theorem Rep.other (R : Rep K cl F r M H) {n m : Nat} {c0 c' : Cell} (h0 : M[n]? = some c0) (hs : c0.isScr = false) (ha : r[n]? = some a) (hm : m ≠ n) {b : Addr} (e : M[m]? = some c') (hb : r[m]? = some b) (hs' : c'.isScr = false) : b ≠ a := fun z => by
  subst z
  exact hm (R.nd m n _ _ _ hb ha e h0 hs' hs)
/-- a cell is written -/
theorem Rep.setC (R : Rep K cl F r M H) {n : Nat} {c : Cell} {o : HO} {c0 : Cell} (h0 : M[n]? = some c0) (hs : c0.isScr = false) (ha : r[n]? = some a) (hF : F a = none) (hc : CellAt K cl F r (upd H a o) a c) : Rep K cl F r (M.set n c) (upd H a o) := by
  refine ⟨fun b u e => by rw [upd_ne (ne_of_none e hF)]; exact R.fr _ _ e, by simp [R.len], R.nd_set h0 hs, fun m c' e => ?_⟩
  by_cases hm : m = n
  · subst hm
    rw [List.getElem?_set_self (List.getElem?_eq_some_iff.mp h0).1] at e
    cases e
    exact ⟨a, ha, hc⟩
  · rw [List.getElem?_set_ne (Ne.symm hm)] at e
    obtain ⟨b, hb, cb⟩ := R.at_ m c' e
    exact ⟨b, hb, cb.mono Ext.refl (fun _ q => q) fun hs' u q => by rw [upd_ne (R.other h0 hs ha hm e hb hs')]; exact q⟩
/-- a cell's mark is changed, the heap is not -/
theorem Rep.mark (R : Rep K cl F r M H) {n : Nat} {c c0 : Cell} (h0 : M[n]? = some c0) (hs : c0.isScr = false) (ha : r[n]? = some a) (hc : CellAt K cl F r H a c) : Rep K cl F r (M.set n c) H := by
  refine ⟨R.fr, by simp [R.len], R.nd_set h0 hs, fun m c' e => ?_⟩
  by_cases hm : m = n
  · subst hm
    rw [List.getElem?_set_self (List.getElem?_eq_some_iff.mp h0).1] at e
    cases e
    exact ⟨a, ha, hc⟩
  · rw [List.getElem?_set_ne (Ne.symm hm)] at e
    exact R.at_ m c' e
/-- a list's cell is a list that stays from now on -/
theorem Rep.freeze (R : Rep K cl F r M H) {n : Nat} {ds : List D} {xs : List V} (h0 : M[n]? = some (.lst ds)) (ha : r[n]? = some a) (hF : F a = none) (hH : H a = some (.lst xs)) (hd : Dens K F r ds xs) :
    Rep K cl (upd F a (.lst xs)) r (M.set n (.fz ds)) H := by
  have ex : Ext F r (upd F a (.lst xs)) r := ext_F hF
  refine ⟨fun b u e => ?_, by simp [R.len], R.nd_set h0 rfl, fun m c' e => ?_⟩
  · by_cases hb : b = a
    · subst hb; rw [upd_same] at e; cases e; exact hH
    · rw [upd_ne hb] at e; exact R.fr _ _ e
  · by_cases hm : m = n
    · subst hm
      rw [List.getElem?_set_self (List.getElem?_eq_some_iff.mp h0).1] at e
      cases e
      exact ⟨a, ha, .fz upd_same (hd.mono ex)⟩
    · rw [List.getElem?_set_ne (Ne.symm hm)] at e
      obtain ⟨b, hb, cb⟩ := R.at_ m c' e
      exact ⟨b, hb, cb.mono ex (fun hs' q => by rw [upd_ne (R.other h0 rfl ha hm e hb hs')]; exact q) fun _ u q => q⟩
/-- a tuple of the heap may be counted in -/
theorem Rep.growT (R : Rep K cl F r M H) {xs : List V} (hH : H a = some (.tup xs)) : Rep K cl (upd F a (.tup xs)) r M H ∧ Ext F r (upd F a (.tup xs)) r := by
  have hn : ∀ (c : Cell) (b : Addr), CellAt K cl F r H b c → c.isScr = false → b ≠ a := fun c b cb hs z => by
    subst z
    cases cb with
    | lst _ h _ => rw [hH] at h; cases h
    | lkl f _ => rw [R.fr _ _ f] at hH; cases hH
    | fz f _ => rw [R.fr _ _ f] at hH; cases hH
    | dct _ h d => rw [hH] at h; cases h; cases d
    | lkd f _ => rw [R.fr _ _ f] at hH; cases hH
    | ins _ h _ => rw [hH] at h; cases h
    | scr h => cases hs
  have ex : Ext F r (upd F a (.tup xs)) r := by
    refine ⟨fun b u e => ?_, fun _ _ e => e⟩
    by_cases hb : b = a
    · subst hb
      have q := R.fr _ _ e
      rw [hH] at q
      rw [upd_same]; exact q
    · rw [upd_ne hb]; exact e
  refine ⟨⟨fun b u e => ?_, R.len, R.nd, fun n c e => ?_⟩, ex⟩
  · by_cases hb : b = a
    · subst hb; rw [upd_same] at e; cases e; exact hH
    · rw [upd_ne hb] at e; exact R.fr _ _ e
  · obtain ⟨b, hb, cb⟩ := R.at_ n c e
    exact ⟨b, hb, cb.mono ex (fun hs q => by rw [upd_ne (hn c b cb hs)]; exact q) fun _ u q => q⟩
/-- a list that is read, wherever it lies -/
theorem SqL.up (R : Rep K cl F r M H) {xs : List V} (h : SqL K F a xs) : SqL K H a xs := SqL.ext R.fr h
theorem seqL_den (R : Rep K cl F r M H) {d : D} {v : V} {ds : List D} (h : Den K F r d v) (e : seqL M d = some ds) : ∃ a xs, v = .ref a ∧ SqL K H a xs ∧ Dens K F r ds xs := by
  cases h with
  | lst h hs => simp [seqL] at e; subst e; exact ⟨_, _, rfl, SqL.of (R.fr _ _ h), hs⟩
  | @ref n a hn =>
    cases hm : M[n]? with
    | none => simp [seqL, hm] at e
    | some c =>
      obtain ⟨b, hb, cb⟩ := R.at_ _ _ hm
      rw [hn] at hb
      cases hb
      cases cb with
      | lst _ h d => simp [seqL, hm] at e; subst e; exact ⟨_, _, rfl, SqL.of h, d⟩
      | lkl f d => simp [seqL, hm] at e; subst e; exact ⟨_, _, rfl, .inl (.inr ⟨_, R.fr _ _ f⟩), d⟩
      | fz f d => simp [seqL, hm] at e; subst e; exact ⟨_, _, rfl, SqL.of (R.fr _ _ f), d⟩
      | scr h => simp [seqL, hm] at e; subst e; exact ⟨_, _, rfl, h.sq R.fr, Dens.ofInts _⟩
      | _ => simp [seqL, hm] at e
  | _ => simp [seqL] at e
theorem seqT_den (R : Rep K cl F r M H) {d : D} {v : V} {ds : List D} (h : Den K F r d v) (e : seqT M d = some ds) : ∃ a xs, v = .ref a ∧ H a = some (.lst xs) ∧ Dens K F r ds xs := by
  cases h with
  | lst h hs => simp [seqT] at e; subst e; exact ⟨_, _, rfl, R.fr _ _ h, hs⟩
  | @ref n a hn =>
    cases hm : M[n]? with
    | none => simp [seqT, hm] at e
    | some c =>
      obtain ⟨b, hb, cb⟩ := R.at_ _ _ hm
      rw [hn] at hb
      cases hb
      cases cb with
      | lst _ h d => simp [seqT, hm] at e; subst e; exact ⟨_, _, rfl, h, d⟩
      | fz f d => simp [seqT, hm] at e; subst e; exact ⟨_, _, rfl, R.fr _ _ f, d⟩
      | _ => simp [seqT, hm] at e
  | _ => simp [seqT] at e
theorem tup_den (R : Rep K cl F r M H) {v : V} {ds : List D} (h : Den K F r (.tup ds) v) : ∃ a xs, v = .ref a ∧ SqT K H a xs ∧ Dens K F r ds xs := by
  cases h with
  | tup h hs => exact ⟨_, _, rfl, SqT.of (R.fr _ _ h), hs⟩
  | tupK h _ hs => exact ⟨_, _, rfl, .inr h, hs⟩
/-- a dict that is read -/
theorem dict_den (R : Rep K cl F r M H) {d : D} {v : V} {tk : Bool} {kvs : List (D × D)} (h : Den K F r d v) (e : dictOf M d = some (tk, kvs)) :
    ∃ a o, v = .ref a ∧ Rd H a o ∧ DctO K F r tk kvs o := by
  cases h with
  | @ref n a hn =>
    cases hm : M[n]? with
    | none => simp [dictOf, hm] at e
    | some c =>
      obtain ⟨b, hb, cb⟩ := R.at_ _ _ hm
      rw [hn] at hb
      cases hb
      cases cb with
      | dct _ h d => simp [dictOf, hm] at e; obtain ⟨rfl, rfl⟩ := e; exact ⟨_, _, rfl, .inl h, d⟩
      | lkd f d => simp [dictOf, hm] at e; obtain ⟨rfl, rfl⟩ := e; exact ⟨_, _, rfl, .inr ⟨_, R.fr _ _ f⟩, d⟩
      | _ => simp [dictOf, hm] at e
  | _ => simp [dictOf] at e
end

/-! ### slots -/
def Slots (K : PySem.W.Frag) (F : Hp) (r : List Addr) : Tau → St → Prop := Paired fun o w => ∀ d, o = some d → ∃ v, w = some v ∧ Den K F r d v
section
variable {K : PySem.W.Frag} {F F' : Hp} {r r' : List Addr}
theorem Slots.mono (e : Ext F r F' r') {t : Tau} {s : St} (h : Slots K F r t s) : Slots K F' r' t s := Paired.mapP h fun _ _ q d z => let ⟨v, h1, h2⟩ := q d z; ⟨v, h1, h2.mono e⟩
theorem Paired.getP {α β : Type} {P : α → β → Prop} : ∀ {xs : List α} {ys : List β} {i : Nat} {x : α}, Paired P xs ys → xs[i]? = some x → ∃ y, ys[i]? = some y ∧ P x y
  | _, _, _, _, .nil, h => by simp at h
  | _, _, 0, _, .cons h _, e => by simp at e; subst e; exact ⟨_, rfl, h⟩
  | _, _, i + 1, x, .cons _ hs, e => by
    obtain ⟨v, h1, h2⟩ := Paired.getP (i := i) (x := x) hs (by simpa using e)
    exact ⟨v, by simpa using h1, h2⟩
theorem Paired.setP {α β : Type} {P : α → β → Prop} {x : α} {y : β} (q : P x y) : ∀ {xs : List α} {ys : List β} (i : Nat), Paired P xs ys → Paired P (xs.set i x) (ys.set i y)
  | _, _, _, .nil => .nil
  | _, _, 0, .cons _ t => .cons q t
  | _, _, i + 1, .cons p t => .cons p (Paired.setP q i t)
theorem Slots.get {t : Tau} {s : St} (h : Slots K F r t s) {i : Nat} {d : D} (e : t[i]? = some (some d)) : ∃ v, s[i]? = some (some v) ∧ Den K F r d v := by
  obtain ⟨w, h1, h2⟩ := Paired.getP h e
  obtain ⟨v, rfl, h3⟩ := h2 d rfl
  exact ⟨v, h1, h3⟩
theorem Slots.set {t : Tau} {s : St} (h : Slots K F r t s) (i : Nat) {d : D} {v : V} (q : Den K F r d v) : Slots K F r (t.set i (some d)) (s.set i (some v)) :=
  Paired.setP (fun d' e => by cases e; exact ⟨v, rfl, q⟩) i h
theorem Slots.wipe {t : Tau} {s : St} (h : Slots K F r t s) : ∀ vs : List Nat, Slots K F r (wipeT t vs) (wipe s vs)
  | [] => h
  | v :: vs => Paired.setP (fun d e => by cases e) v (Slots.wipe h vs)
theorem Slots.length {t : Tau} {s : St} (h : Slots K F r t s) : t.length = s.length := Paired.length h
end
end PyD
end
section
set_option maxRecDepth 100000
set_option autoImplicit false
/-! PdC: the operators, by values. -/
namespace PyD
open PySem PySem.Spec L2

theorem big_line : (big : Nat) = sizeLine := by rw [sizeLine_eq]
/-- the error's own dict -/
def XAt (K : PySem.W.Frag) (F : Hp) (r : List Addr) (fs : List (Str × D)) (dd : Addr) (H : Hp) : Prop := ∃ fv, H dd = some (.xd fv) ∧ FsD K F r fs fv
/-- what is wanted behind a result -/
def Post (K : PySem.W.Frag) (cl : Nat → Addr) (F : Hp) (r : List Addr) (Q : VK) (W : XK) : R (D × Store) → Prop
  | .ok x => ∀ F' r' v H', Ext F r F' r' → Den K F' r' x.1 v → Rep K cl F' r' x.2 H' → Q v H'
  | .exc c fs M' => ∀ F' r' dd H', Ext F r F' r' → Rep K cl F' r' M' H' → XAt K F' r' fs dd H' → W (.ref (cl c)) (some dd) H'
  | .stuck => False
section
variable {K : PySem.W.Frag} {cl : Nat → Addr} {F F' : Hp} {r r' : List Addr} {M : Store} {H H' : Hp} {Q : VK} {W : XK} {p a : Addr}
theorem Post.weak (e : Ext F r F' r') {x : R (D × Store)} (h : Post K cl F r Q W x) : Post K cl F' r' Q W x := by
  cases x with
  | ok x => exact fun F2 r2 v H2 e2 => h F2 r2 v H2 (e.trans e2)
  | exc c fs M' => exact fun F2 r2 dd H2 e2 => h F2 r2 dd H2 (e.trans e2)
  | stuck => exact h
/-- a value, nothing new -/
theorem Post.now {d : D} {v : V} (h : Post K cl F r Q W (.ok (d, M))) (R : Rep K cl F r M H) (q : Den K F r d v) : Q v H := h F r v H Ext.refl q R
/-- a new list -/
theorem Post.newL {cell : Bool} {ds : List D} {xs : List V} (h : Post K cl F r Q W (.ok (newL cell ds M))) (R : Rep K cl F r M H) (hp : H p = none) (q : Dens K F r ds xs) : Q (.ref p) (upd H p (.lst xs)) := by
  cases cell with
  | true => exact h F (r ++ [p]) _ _ ext_r (.ref (by show (r ++ [p])[M.length]? = some p; rw [← R.len, List.getElem?_append_right (Nat.le_refl _)]; simp)) (R.newC hp (.lst (R.free hp) upd_same (q.mono ext_r)))
  | false => exact h (upd F p (.lst xs)) r _ _ (ext_F (R.free hp)) (.lst upd_same (q.mono (ext_F (R.free hp)))) (R.newF hp _)
theorem Post.newT {ds : List D} {xs : List V} (h : Post K cl F r Q W (.ok (.tup ds, M))) (R : Rep K cl F r M H) (hp : H p = none) (q : Dens K F r ds xs) : Q (.ref p) (upd H p (.tup xs)) :=
  h (upd F p (.tup xs)) r _ _ (ext_F (R.free hp)) (.tup upd_same (q.mono (ext_F (R.free hp)))) (R.newF hp _)
theorem Post.newD {tk : Bool} {kvs : List (D × D)} {o : HO} (h : Post K cl F r Q W (.ok (.ref M.length, M ++ [.dct tk kvs]))) (R : Rep K cl F r M H) (hp : H p = none) (q : DctO K F r tk kvs o) : Q (.ref p) (upd H p o) :=
  h F (r ++ [p]) _ _ ext_r (.ref (by show (r ++ [p])[M.length]? = some p; rw [← R.len, List.getElem?_append_right (Nat.le_refl _)]; simp)) (R.newC hp (.dct (R.free hp) upd_same (q.mono ext_r)))
end

/-! ### binary operators -/
def bopE : BOp → Operator
  | .add => .Add | .sub => .Sub | .mul => .Mult | .fdiv => .FloorDiv | .mod => .Mod | .pow => .Pow | .shl => .LShift
theorem strOk_append {a b : Str} (ha : PyData.strOk a = true) (hb : PyData.strOk b = true) : PyData.strOk (a ++ b) = true := by
  unfold PyData.strOk at *
  rw [show (a ++ b).cps = a.cps ++ b.cps from rfl, Array.all_append, ha, hb]
  rfl
section
variable {X : Cx}
abbrev rOr (r r' : R2) : R2 := fun x y H Q => r x y H Q ∨ r' x y H Q
/-- what a rule of two values must do -/
def BinOk (X : Cx) (cl : Nat → Addr) (f : Value → Value → Sem Value) (g : Bool → D → D → Store → R (D × Store)) : Prop :=
  ∃ q : R2, OpR X f q ∧ ∀ (F : Hp) (r : List Addr) (M : Store) (H : Hp) (cell : Bool) (x y : D) (v u : V) (Q : VK) (W : XK), Rep X.K cl F r M H → Den X.K F r x v → Den X.K F r y u → Post X.K cl F r Q W (g cell x y M) → q v u H Q
theorem ints_only {cl : Nat → Addr} {op : BOp} {f : Value → Value → Sem Value} {q : R2} (h : OpR X f q) (hq : ∀ (i j k : Int) (H : Hp) (Q : VK), binI op i j = some k → Q (.int k) H → q (.int i) (.int j) H Q)
    (hn : ∀ (cell : Bool) (x y : D) (M : Store), (∀ i j, ¬ (x = .int i ∧ y = .int j)) → binD op cell x y M = .stuck) : BinOk X cl f (binD op) := by
  refine ⟨q, h, fun F r M H cell x y v u Q W rp hx hy h => ?_⟩
  by_cases c : ∃ i j, x = .int i ∧ y = .int j
  · obtain ⟨i, j, rfl, rfl⟩ := c
    cases hx
    cases hy
    have e : binD op cell (.int i) (.int j) M = (R.ofO (binI op i j)).bind fun k => .ok (.int k, M) := by cases op <;> rfl
    rw [e] at h
    cases hb : binI op i j with
    | none => rw [hb] at h; exact h.elim
    | some k => rw [hb] at h; exact hq i j k H Q hb (h.now rp (.int k))
  · rw [hn cell x y M fun i j z => c ⟨i, j, z⟩] at h
    exact h.elim
theorem bin_sub {cl : Nat → Addr} : BinOk X cl (binaryOp .Sub) (binD .sub) := ints_only op_sub (fun i j k H Q e q => ⟨i, j, rfl, rfl, by cases e; exact q⟩) fun cell x y M hn => by
  cases x <;> cases y <;> first | rfl | exact absurd ⟨rfl, rfl⟩ (hn _ _)
theorem bin_mod {cl : Nat → Addr} : BinOk X cl (binaryOp .Mod) (binD .mod) := ints_only op_modN (fun i j k H Q e q => by
    simp only [binI] at e
    split at e
    · rename_i hj; cases e; exact ⟨i, j, rfl, rfl, hj, q⟩
    · cases e) fun cell x y M hn => by
  cases x <;> cases y <;> first | rfl | exact absurd ⟨rfl, rfl⟩ (hn _ _)
theorem bin_pow {cl : Nat → Addr} : BinOk X cl (binaryOp .Pow) (binD .pow) := ints_only op_pow (fun i j k H Q e q => by
    simp only [binI] at e
    split at e
    · rename_i hj; cases e; exact ⟨i, j, rfl, rfl, hj, q⟩
    · cases e) fun cell x y M hn => by
  cases x <;> cases y <;> first | rfl | exact absurd ⟨rfl, rfl⟩ (hn _ _)
theorem bin_shl {cl : Nat → Addr} : BinOk X cl (binaryOp .LShift) (binD .shl) := ints_only op_shl (fun i j k H Q e q => by
    simp only [binI] at e
    split at e
    · rename_i hj; cases e; exact ⟨i, j, rfl, rfl, hj, q⟩
    · cases e) fun cell x y M hn => by
  cases x <;> cases y <;> first | rfl | exact absurd ⟨rfl, rfl⟩ (hn _ _)
theorem bin_fdiv {cl : Nat → Addr} : BinOk X cl (binaryOp .FloorDiv) (binD .fdiv) := ints_only (OpR.or op_fdivN op_fdivW) (fun i j k H Q e q => by
    simp only [binI] at e
    split at e
    · rename_i hj
      cases e
      rw [divOk_eq] at hj
      rw [Bool.or_eq_true] at hj
      rcases hj with hj | hj
      · simp only [Bool.and_eq_true, decide_eq_true_eq] at hj
        exact .inl ⟨i, j, rfl, rfl, hj, q⟩
      · simp only [Bool.and_eq_true, decide_eq_true_eq] at hj
        refine .inr ⟨i, j, rfl, rfl, wide_div hj.1 hj.2 (by decide) (by decide), ?_⟩
        show Q (.int (i / j)) H
        rw [← Int.fdiv_eq_ediv_of_nonneg i (Int.le_of_lt hj.1)]
        exact q
    · cases e) fun cell x y M hn => by
  cases x <;> cases y <;> first | rfl | exact absurd ⟨rfl, rfl⟩ (hn _ _)
theorem bin_add {cl : Nat → Addr} : BinOk X cl (binaryOp .Add) (binD .add) := by
  refine ⟨_, OpR.or op_add (OpR.or op_add_str (OpR.or op_catA op_cat)), fun F r M H cell x y v u Q W rp hx hy h => ?_⟩
  have lists : ∀ xs ys, seqT M x = some xs → seqT M y = some ys → (if xs.length + ys.length ≤ big then (.ok (newL cell (xs ++ ys) M) : R (D × Store)) else .stuck) = binD .add cell x y M → rCat v u H Q := fun xs ys e1 e2 e => by
    rw [← e] at h
    split at h
    · rename_i hz
      obtain ⟨a, vs, rfl, ha, da⟩ := seqT_den rp hx e1
      obtain ⟨b, us, rfl, hb, db⟩ := seqT_den rp hy e2
      refine ⟨a, b, vs, us, rfl, rfl, ha, hb, by rw [← da.length, ← db.length, ← big_line]; exact hz, fun p hp => h.newL rp hp (da.append db)⟩
    · exact h.elim
  have no : binD .add cell x y M = .stuck → False := fun e => by rw [e] at h; exact h
  have go : (∀ i j, ¬ (x = .int i ∧ y = .int j)) → (∀ i j, ¬ (x = .str i ∧ y = .str j)) → (∀ i j, ¬ (x = .tup i ∧ y = .tup j)) → rCat v u H Q := fun n1 n2 n3 => by
    have e : binD .add cell x y M = match seqT M x, seqT M y with
      | some xs, some ys => if xs.length + ys.length ≤ big then .ok (newL cell (xs ++ ys) M) else .stuck
      | _, _ => .stuck := by
      cases x <;> cases y <;> first | rfl | exact absurd ⟨rfl, rfl⟩ (n1 _ _) | exact absurd ⟨rfl, rfl⟩ (n2 _ _) | exact absurd ⟨rfl, rfl⟩ (n3 _ _)
    cases e1 : seqT M x with
    | none => rw [e1] at e; exact (no e).elim
    | some xs =>
      cases e2 : seqT M y with
      | none => rw [e1, e2] at e; exact (no e).elim
      | some ys => rw [e1, e2] at e; exact lists xs ys e1 e2 e.symm
  by_cases c1 : ∃ i j, x = .int i ∧ y = .int j
  · obtain ⟨i, j, rfl, rfl⟩ := c1
    cases hx; cases hy
    exact .inl ⟨i, j, rfl, rfl, h.now rp (.int _)⟩
  by_cases c2 : ∃ i j, x = .str i ∧ y = .str j
  · obtain ⟨i, j, rfl, rfl⟩ := c2
    cases hx with
    | str _ hi =>
      cases hy with
      | str _ hj =>
        have h : Post X.K cl F r Q W (if i.length + j.length ≤ big then .ok (.str (i ++ j), M) else .stuck) := h
        split at h
        · rename_i hz
          exact .inr (.inl ⟨i, j, rfl, rfl, by rw [← big_line]; exact hz, h.now rp (.str _ (strOk_append hi hj))⟩)
        · exact h.elim
  by_cases c3 : ∃ i j, x = .tup i ∧ y = .tup j
  · obtain ⟨ds, es, rfl, rfl⟩ := c3
    obtain ⟨a, vs, rfl, ha, da⟩ := tup_den rp hx
    obtain ⟨b, us, rfl, hb, db⟩ := tup_den rp hy
    have h : Post X.K cl F r Q W (if ds.length + es.length ≤ big then .ok (.tup (ds ++ es), M) else .stuck) := h
    split at h
    · rename_i hz
      refine .inr (.inr (.inl ⟨a, b, vs, us, rfl, rfl, ha, hb, by rw [← da.length, ← db.length, ← big_line]; exact hz, fun e => ?_, fun e1 e => ?_, fun e1 e2 p hp => h.newT rp hp (da.append db)⟩))
      · subst e
        cases da
        exact h.now rp (by simpa using hy)
      · subst e
        cases db
        rw [List.append_nil] at h
        exact h.now rp hx
    · exact h.elim
  · exact .inr (.inr (.inr (go (fun i j z => c1 ⟨i, j, z⟩) (fun i j z => c2 ⟨i, j, z⟩) (fun i j z => c3 ⟨i, j, z⟩))))
theorem bin_mul {cl : Nat → Addr} : BinOk X cl (binaryOp .Mult) (binD .mul) := by
  refine ⟨_, OpR.or op_mul (OpR.or op_mulW op_rep), fun F r M H cell x y v u Q W rp hx hy h => ?_⟩
  have no : binD .mul cell x y M = .stuck → False := fun e => by rw [e] at h; exact h
  by_cases c1 : ∃ i j, x = .int i ∧ y = .int j
  · obtain ⟨i, j, rfl, rfl⟩ := c1
    cases hx; cases hy
    have h : Post X.K cl F r Q W ((R.ofO (if mulOk i j = true then some (i * j) else none)).bind fun k => .ok (.int k, M)) := h
    split at h
    · rename_i hm
      have q : Q (.int (i * j)) H := h.now rp (.int _)
      rw [mulOk_eq] at hm
      simp only [Bool.or_eq_true, Bool.and_eq_true, decide_eq_true_eq] at hm
      rcases hm with (hm | hm) | hm
      · exact .inl ⟨i, j, rfl, rfl, .inl hm, q⟩
      · exact .inl ⟨i, j, rfl, rfl, .inr hm, q⟩
      · exact .inr (.inl ⟨i, j, rfl, rfl, wide_mul hm.1 hm.2 (by decide) (by decide) (by decide), q⟩)
    · exact h.elim
  by_cases c2 : ∃ k, y = .int k
  · obtain ⟨k, rfl⟩ := c2
    cases hy
    have e : binD .mul cell x (.int k) M = match seqT M x with
      | some xs => if -(2 ^ 63) ≤ k ∧ k < 2 ^ 63 ∧ xs.length * k.toNat ≤ big then .ok (newL cell (repL xs k.toNat) M) else .stuck
      | none => .stuck := by cases x <;> first | rfl | exact absurd ⟨_, _, rfl, rfl⟩ c1
    cases e1 : seqT M x with
    | none => rw [e1] at e; exact (no e).elim
    | some xs =>
      rw [e1] at e
      rw [e] at h
      dsimp only at h
      split at h
      · rename_i hz
        obtain ⟨a, vs, rfl, ha, da⟩ := seqT_den rp hx e1
        exact .inr (.inr ⟨a, k, vs, rfl, rfl, ha, hz.1, hz.2.1, by rw [← da.length, ← big_line]; exact hz.2.2, fun p hp => h.newL rp hp (da.flat _)⟩)
      · exact h.elim
  · refine (no ?_).elim
    cases x <;> cases y <;> first | rfl | exact absurd ⟨_, rfl⟩ c2
theorem bin_ok {cl : Nat → Addr} : ∀ op : BOp, BinOk X cl (binaryOp (bopE op)) (binD op)
  | .add => bin_add
  | .sub => bin_sub
  | .mul => bin_mul
  | .fdiv => bin_fdiv
  | .mod => bin_mod
  | .pow => bin_pow
  | .shl => bin_shl
end
end PyD
end
section
set_option maxRecDepth 100000
set_option autoImplicit false
/-! PdD: comparisons, subscripts, truth. -/
namespace PyD
open PySem PySem.Spec L2

/-! ### plain data as the library's -/
mutual
def toPy : D → PyData
  | .non => .none
  | .bl b => .bool b
  | .int i => .int i
  | .str s => .str s
  | .tup xs => .tuple (toPyL xs)
  | .lst xs => .list (toPyL xs)
  | .ref _ => .none
def toPyL : List D → List PyData
  | [] => []
  | x :: xs => toPy x :: toPyL xs
end
theorem toPyL_map : ∀ xs : List D, toPyL xs = xs.map toPy
  | [] => rfl
  | x :: xs => by rw [toPyL, toPyL_map xs]; rfl
mutual
theorem eqv_py : ∀ {x y : D}, x.pl = true → y.pl = true → eqv x y = PyData.eqv (toPy x) (toPy y)
  | .non, y, _, hy => by cases y <;> first | rfl | cases hy
  | .bl b, y, _, hy => by
    cases y with
    | bl c => simp only [eqv, toPy, PyData.eqv]; rw [Bool.beq_eq_decide_eq]
    | int c => simp only [eqv, toPy, PyData.eqv]; rw [Bool.beq_eq_decide_eq]
    | ref n => cases hy
    | _ => rfl
  | .int b, y, _, hy => by
    cases y with
    | bl c => simp only [eqv, toPy, PyData.eqv]; rw [Bool.beq_eq_decide_eq]
    | int c => simp only [eqv, toPy, PyData.eqv]; rw [Bool.beq_eq_decide_eq]
    | ref n => cases hy
    | _ => rfl
  | .str b, y, _, hy => by
    cases y with
    | str c => simp only [eqv, toPy, PyData.eqv]; rw [Bool.beq_eq_decide_eq]
    | ref n => cases hy
    | _ => rfl
  | .tup xs, y, hx, hy => by
    cases y with
    | tup ys => simp only [eqv, toPy, PyData.eqv]; exact eqvL_py (by simpa [D.pl] using hx) (by simpa [D.pl] using hy)
    | ref n => cases hy
    | _ => rfl
  | .lst xs, y, hx, hy => by
    cases y with
    | lst ys => simp only [eqv, toPy, PyData.eqv]; exact eqvL_py (by simpa [D.pl] using hx) (by simpa [D.pl] using hy)
    | ref n => cases hy
    | _ => rfl
  | .ref n, _, hx, _ => by cases hx
theorem eqvL_py : ∀ {xs ys : List D}, D.plL xs = true → D.plL ys = true → eqvL xs ys = PyData.eqvAll (toPyL xs) (toPyL ys)
  | [], [], _, _ => rfl
  | [], _ :: _, _, _ => rfl
  | _ :: _, [], _, _ => rfl
  | x :: xs, y :: ys, hx, hy => by
    simp only [D.plL, Bool.and_eq_true] at hx hy
    simp only [eqvL, toPyL, PyData.eqvAll]
    rw [eqv_py hx.1 hy.1, eqvL_py hx.2 hy.2]
end
mutual
theorem dep_py : ∀ x : D, PyData.depth (toPy x) = x.dep
  | .non | .bl _ | .int _ | .str _ | .ref _ => rfl
  | .tup xs => by simp only [toPy, PyData.depth, D.dep]; rw [depL_py xs]
  | .lst xs => by simp only [toPy, PyData.depth, D.dep]; rw [depL_py xs]
theorem depL_py : ∀ xs : List D, PyData.depthAll (toPyL xs) = D.depL xs
  | [] => rfl
  | x :: xs => by simp only [toPyL, PyData.depthAll, D.depL]; rw [dep_py x, depL_py xs]
end
section
variable {K : PySem.W.Frag} {cl : Nat → Addr} {F : Hp} {r : List Addr} {M : Store} {H : Hp}
mutual
theorem den_can : ∀ {x : D} {v : V}, Den K F r x v → x.pl = true → (toPy x).canLay0 = true
  | .non, _, _, _ => rfl
  | .bl _, _, _, _ => rfl
  | .int _, _, _, _ => rfl
  | .str _, _, .str _ h, _ => h
  | .tup xs, _, .tup _ h, p => by simp only [toPy, PyData.canLay0]; exact dens_can h (by simpa [D.pl] using p)
  | .tup xs, _, .tupK _ _ h, p => by simp only [toPy, PyData.canLay0]; exact dens_can h (by simpa [D.pl] using p)
  | .lst xs, _, .lst _ h, p => by simp only [toPy, PyData.canLay0]; exact dens_can h (by simpa [D.pl] using p)
  | .ref _, _, _, p => by cases p
theorem dens_can : ∀ {xs : List D} {vs : List V}, Dens K F r xs vs → D.plL xs = true → PyData.canLayAll0 (toPyL xs) = true
  | [], _, _, _ => rfl
  | x :: xs, _, .cons h hs, p => by
    simp only [D.plL, Bool.and_eq_true] at p
    simp only [toPyL, PyData.canLayAll0, den_can h p.1, dens_can hs p.2, Bool.and_self]
end
mutual
theorem den_dp (R : Rep K cl F r M H) : ∀ {x : D} {v : V}, Den K F r x v → x.pl = true → Dp K H v (toPy x)
  | .non, _, .non, _ => .non
  | .bl _, _, .bl _, _ => .bl _
  | .int _, _, .int _, _ => .int _
  | .str _, _, .str _ _, _ => .str _
  | .tup xs, _, .tup e h, p => .tup (SqT.of (R.fr _ _ e)) (dens_dp R h (by simpa [D.pl] using p))
  | .tup xs, _, .tupK e _ h, p => .tup (.inr e) (dens_dp R h (by simpa [D.pl] using p))
  | .lst xs, _, .lst e h, p => .lst (SqL.of (R.fr _ _ e)) (dens_dp R h (by simpa [D.pl] using p))
  | .ref _, _, _, p => by cases p
theorem dens_dp (R : Rep K cl F r M H) : ∀ {xs : List D} {vs : List V}, Dens K F r xs vs → D.plL xs = true → DpAll K H vs (toPyL xs)
  | [], _, .nil, _ => .nil
  | x :: xs, _, .cons h hs, p => by
    simp only [D.plL, Bool.and_eq_true] at p
    exact .cons (den_dp R h p.1) (dens_dp R hs p.2)
end
theorem plOk_and {x : D} (h : plOk x = true) : x.pl = true ∧ x.dep ≤ 30 := by simpa [plOk] using h
theorem shaped_of {x : D} {v : V} (h : Den K F r x v) (p : plOk x = true) : SeqAt.shaped (toPy x) = true := by
  obtain ⟨p1, p2⟩ := plOk_and p
  unfold SeqAt.shaped
  rw [den_can h p1, dep_py]
  simp only [Bool.true_and, decide_eq_true_eq]
  omega
/-- a value, its list's cell opened, as the library's data -/
theorem den_open (R : Rep K cl F r M H) {x : D} {v : V} (h : Den K F r x v) (p : plOk (open1 M x) = true) : Dp K H v (toPy (open1 M x)) ∧ SeqAt.shaped (toPy (open1 M x)) = true := by
  by_cases c : ∃ n, x = .ref n
  · obtain ⟨n, rfl⟩ := c
    cases e : seqL M (.ref n) with
    | none =>
      simp only [open1, e] at p
      exact absurd (plOk_and p).1 (by simp [D.pl])
    | some ds =>
      have eo : open1 M (.ref n) = .lst ds := by simp only [open1, e]
      rw [eo] at p ⊢
      obtain ⟨a, xs, rfl, hs, hd⟩ := seqL_den R h e
      obtain ⟨p1, p2⟩ := plOk_and p
      have p1 : D.plL ds = true := by simpa [D.pl] using p1
      refine ⟨.lst hs (dens_dp R hd p1), ?_⟩
      unfold SeqAt.shaped
      rw [dep_py]
      simp only [toPy, PyData.canLay0, dens_can hd p1, Bool.true_and, decide_eq_true_eq]
      omega
  · have eo : open1 M x = x := by cases x <;> first | rfl | exact absurd ⟨_, rfl⟩ c
    rw [eo] at p ⊢
    exact ⟨den_dp R h (plOk_and p).1, shaped_of h p⟩
end

/-! ### two dicts compared -/
/-- the library's data of a dict's values -/
def DpKs (K : PySem.W.Frag) (H : Hp) : List (Key × V) → List (Key × PyData) → Prop := Paired fun p q => p.1 = q.1 ∧ Dp K H p.2 q.2 ∧ SeqAt.shaped q.2 = true
def valP (l : List (Key × PyData)) (k : Key) : Option PyData := (l.find? fun p => decide (p.1 = k)).map (·.2)
def eqDctP (ks ls : List (Key × PyData)) : Bool := ks.length == ls.length && ks.all fun p => match valP ls p.1 with
  | some u => PyData.eqv p.2 u
  | none => false
def rDct (K : PySem.W.Frag) (neg : Bool) : R2 := fun x y H Q => ∃ a b ks ls kd ld, x = .ref a ∧ y = .ref b ∧ Rd H a (.dK ks) ∧ Rd H b (.dK ls) ∧ DpKs K H ks kd ∧ DpKs K H ls ld ∧ Q (.bl (if neg = true then !eqDctP kd ld else eqDctP kd ld)) H
theorem valP_at {K : PySem.W.Frag} {H : Hp} {X : Cx} {pins : List (Addr × Obj)} {σ : L2.St} {s : Shared} (I : Inv X pins σ H s) (k : Key) : ∀ {ls : List (Key × V)} {ld : List (Key × PyData)} {vs : List (Key × Value)}, DpKs X.K H ls ld → KV ls vs →
    (valP ld k = none ∧ valueAt vs k = none) ∨ ∃ d u, valP ld k = some d ∧ valueAt vs k = some u ∧ SeqAt.shaped d = true ∧ ∃ as, Reads s.heap u d as
  | _, _, _, .nil, .nil => .inl ⟨rfl, rfl⟩
  | (k0, v0) :: ls, (k1, d1) :: ld, (k2, u2) :: vs, .cons ⟨e1, hd, hs⟩ t, .cons ⟨e2, rv⟩ t2 => by
    obtain rfl : k0 = k1 := e1
    obtain rfl : k0 = k2 := e2
    by_cases c : k0 = k
    · refine .inr ⟨d1, u2, ?_, ?_, hs, Dp.reads I _ _ _ hd rv⟩
      · simp [valP, List.find?_cons, c]
      · simp [valueAt, List.find?_cons, c]
    · rcases valP_at (K := K) I k t t2 with ⟨h1, h2⟩ | ⟨d, u, h1, h2, h3⟩
      · refine .inl ⟨?_, ?_⟩
        · simpa [valP, List.find?_cons, c] using h1
        · simpa [valueAt, List.find?_cons, c] using h2
      · refine .inr ⟨d, u, ?_, ?_, h3⟩
        · simpa [valP, List.find?_cons, c] using h1
        · simpa [valueAt, List.find?_cons, c] using h2
theorem hits_of {H : Hp} {X : Cx} {pins : List (Addr × Obj)} {σ : L2.St} {s : Shared} {A : Around} (I : Inv X pins σ H s) (hu : A.units + 64 < cLine) {ls : List (Key × V)} {ld : List (Key × PyData)} {lv : List (Key × Value)} (hl : DpKs X.K H ls ld) (rl : KV ls lv) :
    ∀ {ks : List (Key × V)} {kd : List (Key × PyData)} {kv : List (Key × Value)}, DpKs X.K H ks kd → KV ks kv → PySem.W.KeqHits A s lv kv (kd.all fun p => match valP ld p.1 with
      | some u => PyData.eqv p.2 u
      | none => false)
  | _, _, _, .nil, .nil => .nil
  | (k0, v0) :: ks, (k1, d1) :: kd, (k2, u2) :: kv, .cons ⟨e1, hd, hs⟩ t, .cons ⟨e2, rv⟩ t2 => by
    obtain rfl : k0 = k1 := e1
    obtain rfl : k0 = k2 := e2
    have ih := hits_of I hu hl rl t t2
    rw [List.all_cons]
    rcases valP_at (K := X.K) I k0 hl rl with ⟨h1, h2⟩ | ⟨d, u, h1, h2, h3, as, h4⟩
    · simp only [h1, Bool.false_and]
      exact .miss h2
    · simp only [h1]
      obtain ⟨bs, hr⟩ := Dp.reads I _ _ _ hd rv
      exact .hit h2 (SeqAt.eqAt_reads _ _ _ _ _ _ _ _ hr h4 (SeqAt.canLay_of_shaped hs) (SeqAt.canLay_of_shaped h3) (SeqAt.room_of_shaped hs hu)) ih
theorem DpKs.length {K : PySem.W.Frag} {H : Hp} {ks : List (Key × V)} {kd : List (Key × PyData)} (h : DpKs K H ks kd) : ks.length = kd.length := Paired.length h
theorem op_eqDct {X : Cx} (hu : X.A.units + 66 < cLine) : OpR X (compareOp .Eq) (rDct X.K false) := by
  intro pins s σ H x y v u Q I rx ry h
  obtain ⟨a, b, ks, ls, kd, ld, rfl, rfl, ea, eb, dk, dl, q⟩ := h
  obtain rfl : v = Value.ref a := rx
  obtain rfl : u = Value.ref b := ry
  obtain ⟨_, ya, va, ra, da⟩ := dk_rd I.hok ea
  obtain ⟨_, yb, vb, rb, db⟩ := dk_rd I.hok eb
  refine PySem.W.keq_eq (knd := mixKind X.prog X.w) ya yb da db (by omega) (fun _ => hits_of I (by show X.A.units + 1 + 64 < cLine; omega) dl rb dk ra) (fin_bl I q ?_)
  rw [← ra.length, ← rb.length, dk.length, dl.length]
  rfl
theorem op_neDct {X : Cx} (hu : X.A.units + 66 < cLine) : OpR X (compareOp .NotEq) (rDct X.K true) := by
  intro pins s σ H x y v u Q I rx ry h
  obtain ⟨a, b, ks, ls, kd, ld, rfl, rfl, ea, eb, dk, dl, q⟩ := h
  obtain rfl : v = Value.ref a := rx
  obtain rfl : u = Value.ref b := ry
  obtain ⟨_, ya, va, ra, da⟩ := dk_rd I.hok ea
  obtain ⟨_, yb, vb, rb, db⟩ := dk_rd I.hok eb
  refine PySem.W.keq_ne (knd := mixKind X.prog X.w) ya yb da db (by omega) (fun _ => hits_of I (by show X.A.units + 1 + 64 < cLine; omega) dl rb dk ra) (fin_bl I q ?_)
  rw [← ra.length, ← rb.length, dk.length, dl.length]
  rfl

theorem kD_inj {a b : Key} (h : kD a = kD b) : a = b := by
  cases a <;> cases b <;> simp_all [kD]
section
variable {K : PySem.W.Frag} {cl : Nat → Addr} {F : Hp} {r : List Addr} {M : Store} {H : Hp}
theorem ksD_dp (R : Rep K cl F r M H) : ∀ {kvs : List (D × D)} {ks : List (Key × V)}, KsD K F r kvs ks → kvs.all (fun p => plOk p.2) = true → DpKs K H ks (ks.zip kvs |>.map fun p => (p.1.1, toPy p.2.2))
  | _, _, .nil, _ => .nil
  | (k, d) :: kvs, (k1, v) :: ks, .cons ⟨e1, e2, hd⟩ t, h => by
    simp only [List.all_cons, Bool.and_eq_true] at h
    exact .cons ⟨rfl, den_dp R hd (plOk_and h.1).1, shaped_of hd h.1⟩ (ksD_dp R t h.2)
theorem valP_zip (k : Key) : ∀ {kvs : List (D × D)} {ks : List (Key × V)}, KsD K F r kvs ks → valP (ks.zip kvs |>.map fun p => (p.1.1, toPy p.2.2)) k = (lookD kvs (kD k)).map toPy
  | _, _, .nil => rfl
  | (k0, d) :: kvs, (k1, v) :: ks, .cons ⟨e1, e2, hd⟩ t => by
    have e1 : k0 = kD k1 := e1
    subst e1
    have ih := valP_zip k t
    by_cases c : k1 = k
    · subst c
      simp [valP, lookD, List.find?_cons]
    · have c' : ¬ kD k1 = kD k := fun z => c (kD_inj z)
      simpa [valP, lookD, List.find?_cons, c, c'] using ih
theorem lookD_pl {kvs : List (D × D)} (h : kvs.all (fun p => plOk p.2) = true) {k d : D} (e : lookD kvs k = some d) : plOk d = true := by
  unfold lookD at e
  obtain ⟨p, hp, rfl⟩ := Option.map_eq_some_iff.mp e
  exact List.all_eq_true.mp h p (List.mem_of_find?_eq_some hp)
theorem eqDct_zip {kvs lvs : List (D × D)} {ls : List (Key × V)} (hl : KsD K F r lvs ls) (pl : lvs.all (fun p => plOk p.2) = true) :
    ∀ {kvs : List (D × D)} {ks : List (Key × V)}, KsD K F r kvs ks → kvs.all (fun p => plOk p.2) = true → ((ks.zip kvs |>.map fun p => (p.1.1, toPy p.2.2)).all fun p => match valP (ls.zip lvs |>.map fun p => (p.1.1, toPy p.2.2)) p.1 with
      | some u => PyData.eqv p.2 u
      | none => false) = kvs.all fun p => match lookD lvs p.1 with
      | some u => eqv p.2 u
      | none => false
  | _, _, .nil, _ => rfl
  | (k0, d) :: kvs, (k1, v) :: ks, .cons ⟨e1, e2, hd⟩ t, h => by
    have e1 : k0 = kD k1 := e1
    subst e1
    simp only [List.all_cons, Bool.and_eq_true] at h
    have ih := eqDct_zip (kvs := kvs) hl pl t h.2
    rw [List.zip_cons_cons, List.map_cons, List.all_cons, List.all_cons, ih]
    congr 1
    simp only [valP_zip k1 hl]
    cases e : lookD lvs (kD k1) with
    | none => rfl
    | some u =>
      simp only [Option.map_some]
      rw [eqv_py (plOk_and h.1).1 (plOk_and (lookD_pl pl e)).1]
end

/-! ### comparisons -/
def copE : COp → CmpOp
  | .eq => .Eq | .ne => .NotEq | .lt => .Lt | .le => .LtE | .gt => .Gt | .ge => .GtE | .isIn => .In | .notIn => .NotIn | .is_ => .Is | .isNot => .IsNot
def CmpOk (X : Cx) (cl : Nat → Addr) (op : COp) : Prop :=
  ∃ q : R2, OpR X (compareOp (copE op)) q ∧ ∀ (F : Hp) (r : List Addr) (M : Store) (H : Hp) (x y : D) (v u : V) (Q : VK) (b : Bool), Rep X.K cl F r M H → Den X.K F r x v → Den X.K F r y u → cmpD op M x y = some b → Q (.bl b) H → q v u H Q
theorem ksD_len {K : PySem.W.Frag} {F : Hp} {r : List Addr} {kvs : List (D × D)} {ks : List (Key × V)} (h : KsD K F r kvs ks) : kvs.length = ks.length := Paired.length h
section
variable {X : Cx} {cl : Nat → Addr}
theorem eq_core {F : Hp} {r : List Addr} {M : Store} {H : Hp} {x y : D} {v u : V} {b : Bool} (rp : Rep X.K cl F r M H) (hx : Den X.K F r x v) (hy : Den X.K F r y u) (h : eqD M x y = some b) :
    (∃ d e, Dp X.K H v d ∧ Dp X.K H u e ∧ SeqAt.shaped d = true ∧ SeqAt.shaped e = true ∧ PyData.eqv d e = b) ∨
    (∃ a c ks ls kd ld, v = .ref a ∧ u = .ref c ∧ Rd H a (.dK ks) ∧ Rd H c (.dK ls) ∧ DpKs X.K H ks kd ∧ DpKs X.K H ls ld ∧ eqDctP kd ld = b) := by
  cases e1 : dictOf M x with
  | none =>
    cases e2 : dictOf M y with
    | some _ => simp [eqD, e1, e2] at h
    | none =>
      simp only [eqD, e1, e2] at h
      split at h
      · rename_i hp
        cases h
        simp only [Bool.and_eq_true] at hp
        obtain ⟨d1, s1⟩ := den_open rp hx hp.1
        obtain ⟨d2, s2⟩ := den_open rp hy hp.2
        exact .inl ⟨_, _, d1, d2, s1, s2, (eqv_py (plOk_and hp.1).1 (plOk_and hp.2).1).symm⟩
      · cases h
  | some p =>
    obtain ⟨tk, ks⟩ := p
    cases e2 : dictOf M y with
    | none => simp [eqD, e1, e2] at h
    | some q =>
      obtain ⟨tk', ls⟩ := q
      simp only [eqD, e1, e2] at h
      split at h
      · rename_i hp
        cases h
        simp only [Bool.and_eq_true, Bool.not_eq_true'] at hp
        obtain ⟨⟨⟨h1, h2⟩, h3⟩, h4⟩ := hp
        subst h1 h2
        obtain ⟨a, o, rfl, ra, da⟩ := dict_den rp hx e1
        obtain ⟨c, o', rfl, rc, dc⟩ := dict_den rp hy e2
        cases da with
        | k da =>
          cases dc with
          | k dc =>
            refine .inr ⟨a, c, _, _, _, _, rfl, rfl, ra, rc, ksD_dp rp da h3, ksD_dp rp dc h4, ?_⟩
            unfold eqDctP eqDct
            rw [eqDct_zip (kvs := ks) dc h4 da h3]
            rw [List.length_map, List.length_map, List.length_zip, List.length_zip, ← ksD_len da, ← ksD_len dc, Nat.min_self, Nat.min_self]
            all_goals rfl
      · cases h
theorem cmp_eq (hu : X.A.units + 66 < cLine) : CmpOk X cl .eq := by
  refine ⟨_, OpR.or (op_eqD (by omega)) (op_eqDct hu), fun F r M H x y v u Q b rp hx hy h q => ?_⟩
  rcases eq_core rp hx hy h with ⟨d, e, d1, d2, s1, s2, rfl⟩ | ⟨a, c, ks, ls, kd, ld, rfl, rfl, h1, h2, h3, h4, rfl⟩
  · exact .inl ⟨d, e, d1, d2, s1, s2, q⟩
  · exact .inr ⟨a, c, ks, ls, kd, ld, rfl, rfl, h1, h2, h3, h4, q⟩
theorem cmp_ne (hu : X.A.units + 66 < cLine) : CmpOk X cl .ne := by
  refine ⟨_, OpR.or (op_neD (by omega)) (op_neDct hu), fun F r M H x y v u Q b rp hx hy h q => ?_⟩
  have h : (eqD M x y).map (!·) = some b := h
  obtain ⟨b', h', rfl⟩ := Option.map_eq_some_iff.mp h
  rcases eq_core rp hx hy h' with ⟨d, e, d1, d2, s1, s2, rfl⟩ | ⟨a, c, ks, ls, kd, ld, rfl, rfl, h1, h2, h3, h4, rfl⟩
  · exact .inl ⟨d, e, d1, d2, s1, s2, q⟩
  · exact .inr ⟨a, c, ks, ls, kd, ld, rfl, rfl, h1, h2, h3, h4, q⟩
theorem cmp_ord {op : COp} {q1 q2 : R2} {f : Int → Int → Bool} {g : Str → Str → Bool} (h1 : OpR X (compareOp (copE op)) q1) (h2 : OpR X (compareOp (copE op)) q2)
    (k1 : ∀ i j H Q, Q (.bl (f i j)) H → q1 (.int i) (.int j) H Q) (k2 : ∀ i j H Q, Q (.bl (g i j)) H → q2 (.str i) (.str j) H Q)
    (hd : ∀ M x y b, cmpD op M x y = some b → (∃ i j, x = .int i ∧ y = .int j ∧ b = f i j) ∨ ∃ i j, x = .str i ∧ y = .str j ∧ b = g i j) : CmpOk X cl op := by
  refine ⟨_, OpR.or h1 h2, fun F r M H x y v u Q b rp hx hy h q => ?_⟩
  rcases hd M x y b h with ⟨i, j, rfl, rfl, rfl⟩ | ⟨i, j, rfl, rfl, rfl⟩
  · cases hx; cases hy; exact .inl (k1 _ _ _ _ q)
  · cases hx; cases hy; exact .inr (k2 _ _ _ _ q)
theorem cmp_lt : CmpOk X cl .lt := cmp_ord (f := fun i j => decide (i < j)) (g := strLt) op_lt op_lt_str (fun i j H Q q => ⟨i, j, rfl, rfl, q⟩) (fun i j H Q q => ⟨i, j, rfl, rfl, q⟩) fun M x y b h => by
  cases x <;> cases y <;> simp [cmpD] at h <;> first | exact .inl ⟨_, _, rfl, rfl, h.symm⟩ | exact .inr ⟨_, _, rfl, rfl, h.symm⟩
theorem cmp_le : CmpOk X cl .le := cmp_ord (f := fun i j => decide (i ≤ j)) (g := strLe) op_le op_le_str (fun i j H Q q => ⟨i, j, rfl, rfl, q⟩) (fun i j H Q q => ⟨i, j, rfl, rfl, q⟩) fun M x y b h => by
  cases x <;> cases y <;> simp [cmpD] at h <;> first | exact .inl ⟨_, _, rfl, rfl, h.symm⟩ | exact .inr ⟨_, _, rfl, rfl, h.symm⟩
theorem cmp_gt : CmpOk X cl .gt := cmp_ord (f := fun i j => decide (j < i)) (g := fun i j => strLt j i) op_gt op_gt_str (fun i j H Q q => ⟨i, j, rfl, rfl, q⟩) (fun i j H Q q => ⟨i, j, rfl, rfl, q⟩) fun M x y b h => by
  cases x <;> cases y <;> simp [cmpD] at h <;> first | exact .inl ⟨_, _, rfl, rfl, h.symm⟩ | exact .inr ⟨_, _, rfl, rfl, h.symm⟩
theorem cmp_ge : CmpOk X cl .ge := cmp_ord (f := fun i j => decide (j ≤ i)) (g := fun i j => strLe j i) op_ge op_ge_str (fun i j H Q q => ⟨i, j, rfl, rfl, q⟩) (fun i j H Q q => ⟨i, j, rfl, rfl, q⟩) fun M x y b h => by
  cases x <;> cases y <;> simp [cmpD] at h <;> first | exact .inl ⟨_, _, rfl, rfl, h.symm⟩ | exact .inr ⟨_, _, rfl, rfl, h.symm⟩
theorem den_non {K : PySem.W.Frag} {F : Hp} {r : List Addr} {x : D} {v : V} (h : Den K F r x v) : decide (v = .non) = decide (x = .non) := by
  cases h <;> simp
theorem cmp_is : CmpOk X cl .is_ := by
  refine ⟨_, OpR.or op_isN op_is_bl, fun F r M H x y v u Q b rp hx hy h q => ?_⟩
  cases y with
  | non =>
    cases hy
    have h : some (decide (x = .non)) = some b := by cases x <;> exact h
    cases h
    exact .inl ⟨rfl, by rw [den_non hx]; exact q⟩
  | bl c =>
    cases x <;> simp [cmpD] at h
    cases hx; cases hy
    subst h
    exact .inr ⟨_, _, rfl, rfl, by simpa using q⟩
  | _ => cases x <;> simp [cmpD] at h
theorem cmp_isNot : CmpOk X cl .isNot := by
  refine ⟨_, OpR.or op_notN op_isnot_bl, fun F r M H x y v u Q b rp hx hy h q => ?_⟩
  cases y with
  | non =>
    cases hy
    have h : some (!decide (x = .non)) = some b := by cases x <;> exact h
    cases h
    exact .inl ⟨rfl, by rw [den_non hx]; exact q⟩
  | bl c =>
    cases x <;> simp [cmpD] at h
    cases hx; cases hy
    exact .inr ⟨_, _, rfl, rfl, by rw [h]; simpa using q⟩
  | _ => cases x <;> simp [cmpD] at h

/-! in -/
theorem keyOf_den {F : Hp} {r : List Addr} {x : D} {v : V} {tk : Bool} (h : Den X.K F r x v) (k : isKey tk x = true) :
    (tk = false ∧ ∃ k : Key, x = kD k ∧ v = kV k ∧ kOk k = true) ∨ (tk = true ∧ ∃ (ks : List Key) (a : Addr), x = kDT ks ∧ strHd ks ∧ ks.all kOk = true ∧ v = .ref a ∧ F a = some (.tup (ks.map kV))) := by
  cases x with
  | int i => cases h; cases tk <;> simp [isKey] at k; exact .inl ⟨rfl, .inl i, rfl, rfl, rfl⟩
  | str s => cases h with | str _ hs => cases tk <;> simp [isKey] at k; exact .inl ⟨rfl, .inr s, rfl, rfl, hs⟩
  | tup xs =>
    cases xs with
    | nil => simp [isKey] at k
    | cons x0 xs =>
      cases x0 with
      | str s =>
        simp only [isKey, Bool.and_eq_true] at k
        obtain ⟨k1, k2⟩ := k
        have keys : ∀ {xs : List D} {vs : List V}, Dens X.K F r xs vs → (xs.all fun x => match x with
            | .int _ | .str _ => true
            | _ => false) = true → ∃ ks : List Key, xs = ks.map kD ∧ vs = ks.map kV ∧ ks.all kOk = true := by
          intro xs
          induction xs with
          | nil => intro vs hd _; cases hd; exact ⟨[], rfl, rfl, rfl⟩
          | cons y ys ih =>
            intro vs hd ha
            cases hd with
            | cons h1 h2 =>
              rw [List.all_cons, Bool.and_eq_true] at ha
              obtain ⟨ks, e1, e2, e3⟩ := ih h2 ha.2
              cases h1 with
              | int i => exact ⟨.inl i :: ks, by simp [kD, e1], by simp [kV, e2], by simp [kOk, e3]⟩
              | str s hs => exact ⟨.inr s :: ks, by simp [kD, e1], by simp [kV, e2], by simp [kOk, e3, hs]⟩
              | _ => exact absurd ha.1 (by simp)
        cases h with
        | tup hF hd =>
          cases hd with
          | cons h1 h2 =>
            cases h1 with
            | str _ hs =>
              obtain ⟨ks, e1, e2, e3⟩ := keys h2 k2
              refine .inr ⟨k1, .inr s :: ks, _, by simp [kDT, kD, e1], ⟨s, ks, rfl⟩, by simp [kOk, hs, e3], rfl, ?_⟩
              rw [hF, e2]
              rfl
        | tupK _ n _ => exact absurd rfl (n s xs)
      | _ => simp [isKey] at k
  | _ => simp [isKey] at k
theorem mapKD_inj : ∀ {a b : List Key}, a.map kD = b.map kD → a = b
  | [], [], _ => rfl
  | [], _ :: _, h => by simp at h
  | _ :: _, [], h => by simp at h
  | x :: xs, y :: ys, h => by
    simp only [List.map_cons, List.cons.injEq] at h
    rw [kD_inj h.1, mapKD_inj h.2]
theorem kDT_inj {a b : List Key} (h : kDT a = kDT b) : a = b := mapKD_inj (by simpa [kDT] using h)
theorem look_k {F : Hp} {r : List Addr} (k : Key) : ∀ {kvs : List (D × D)} {ks : List (Key × V)}, KsD X.K F r kvs ks →
    (lookD kvs (kD k) = none ∧ valV ks k = none) ∨ ∃ d v, lookD kvs (kD k) = some d ∧ valV ks k = some v ∧ Den X.K F r d v
  | _, _, .nil => .inl ⟨rfl, rfl⟩
  | (k0, d) :: kvs, (k1, v) :: ks, .cons ⟨e1, e2, hd⟩ t => by
    have e1 : k0 = kD k1 := e1
    subst e1
    by_cases c : k1 = k
    · subst c
      exact .inr ⟨d, v, by simp [lookD, List.find?_cons], by simp [valV, List.find?_cons], hd⟩
    · have c' : ¬ kD k1 = kD k := fun z => c (kD_inj z)
      rcases look_k k t with ⟨h1, h2⟩ | ⟨d', v', h1, h2, h3⟩
      · exact .inl ⟨by simpa [lookD, List.find?_cons, c'] using h1, by simpa [valV, List.find?_cons, c] using h2⟩
      · exact .inr ⟨d', v', by simpa [lookD, List.find?_cons, c'] using h1, by simpa [valV, List.find?_cons, c] using h2, h3⟩
theorem look_t {F : Hp} {r : List Addr} (k : List Key) : ∀ {kvs : List (D × D)} {ks : List (List Key × V)}, TsD X.K F r kvs ks →
    (lookD kvs (kDT k) = none ∧ valV ks k = none) ∨ ∃ d v, lookD kvs (kDT k) = some d ∧ valV ks k = some v ∧ Den X.K F r d v
  | _, _, .nil => .inl ⟨rfl, rfl⟩
  | (k0, d) :: kvs, (k1, v) :: ks, .cons ⟨e1, e2, hd⟩ t => by
    have e1 : k0 = kDT k1 := e1
    subst e1
    by_cases c : k1 = k
    · subst c
      exact .inr ⟨d, v, by simp [lookD, List.find?_cons], by simp [valV, List.find?_cons], hd⟩
    · have c' : ¬ kDT k1 = kDT k := fun z => c (kDT_inj z)
      rcases look_t k t with ⟨h1, h2⟩ | ⟨d', v', h1, h2, h3⟩
      · exact .inl ⟨by simpa [lookD, List.find?_cons, c'] using h1, by simpa [valV, List.find?_cons, c] using h2⟩
      · exact .inr ⟨d', v', by simpa [lookD, List.find?_cons, c'] using h1, by simpa [valV, List.find?_cons, c] using h2, h3⟩
/-- what the dict holds at the key -/
theorem dget_den {F : Hp} {r : List Addr} {M : Store} {H : Hp} {x k : D} {v u : V} {tk : Bool} {kvs : List (D × D)} (rp : Rep X.K cl F r M H) (hx : Den X.K F r x v) (hk : Den X.K F r k u) (e : dictOf M x = some (tk, kvs)) (ik : isKey tk k = true) :
    ∃ a, v = .ref a ∧ ((lookD kvs k = none ∧ DGet H a u none) ∨ ∃ d w, lookD kvs k = some d ∧ DGet H a u (some w) ∧ Den X.K F r d w) := by
  obtain ⟨a, o, rfl, rd, dd⟩ := dict_den rp hx e
  refine ⟨a, rfl, ?_⟩
  rcases keyOf_den hk ik with ⟨rfl, k', rfl, rfl, _⟩ | ⟨rfl, ks, b, rfl, _, _, rfl, hb⟩
  · cases dd with
    | k dd =>
      rcases look_k k' dd with ⟨h1, h2⟩ | ⟨d, w, h1, h2, h3⟩
      · exact .inl ⟨h1, .inl ⟨_, _, rd, rfl, h2.symm⟩⟩
      · exact .inr ⟨d, w, h1, .inl ⟨_, _, rd, rfl, h2.symm⟩, h3⟩
  · cases dd with
    | t dd =>
      rcases look_t ks dd with ⟨h1, h2⟩ | ⟨d, w, h1, h2, h3⟩
      · exact .inl ⟨h1, .inr ⟨_, _, b, rd, rfl, rp.fr _ _ hb, h2.symm⟩⟩
      · exact .inr ⟨d, w, h1, .inr ⟨_, _, b, rd, rfl, rp.fr _ _ hb, h2.symm⟩, h3⟩
/-- in, not in of a dict, by values -/
def rDIn (neg : Bool) : R2 := fun y x H Q => ∃ a o, x = .ref a ∧ DGet H a y o ∧ Q (.bl (if neg = true then !o.isSome else o.isSome)) H
theorem op_dIn (hu : X.A.units + 1 < cLine) : OpR X (compareOp .In) (rDIn false) := by
  intro pins s σ H y x u v Q I ry rx h
  obtain ⟨a, o, rfl, g, q⟩ := h
  obtain rfl : v = Value.ref a := rx
  exact d_in hu I g ry fun s3 I3 => ⟨.bl o.isSome, H, I3, rfl, q⟩
theorem op_dNotIn (hu : X.A.units + 1 < cLine) : OpR X (compareOp .NotIn) (rDIn true) := by
  intro pins s σ H y x u v Q I ry rx h
  obtain ⟨a, o, rfl, g, q⟩ := h
  obtain rfl : v = Value.ref a := rx
  exact d_notIn hu I g ry fun s3 I3 => ⟨.bl (!o.isSome), H, I3, rfl, q⟩
theorem flat_V {F : Hp} {r : List Addr} {x : D} {v : V} (h : Den X.K F r x v) (f : flat x = true) : flatV v = true := by
  cases h <;> first | rfl | (exfalso; simp [flat] at f; done)
theorem eqv_V {F : Hp} {r : List Addr} {x y : D} {v u : V} (h : Den X.K F r x v) (h' : Den X.K F r y u) (f : flat x = true) (f' : flat y = true) : eqv x y = eqV v u := by
  cases h <;> first | (exfalso; simp [flat] at f; done) | (cases h' <;> first | (exfalso; simp [flat] at f'; done) | rfl | (simp only [eqv, eqV]; rw [Bool.beq_eq_decide_eq]))
theorem flats_V {F : Hp} {r : List Addr} : ∀ {xs : List D} {vs : List V}, Dens X.K F r xs vs → xs.all flat = true → vs.all flatV = true
  | _, _, .nil, _ => rfl
  | x :: xs, v :: vs, .cons h hs, f => by
    simp only [List.all_cons, Bool.and_eq_true] at f ⊢
    exact ⟨flat_V h f.1, flats_V hs f.2⟩
theorem any_V {F : Hp} {r : List Addr} {x : D} {v : V} (h : Den X.K F r x v) (f : flat x = true) : ∀ {xs : List D} {vs : List V}, Dens X.K F r xs vs → xs.all flat = true → (xs.any fun z => eqv z x) = inV v vs
  | _, _, .nil, _ => rfl
  | y :: ys, u :: us, .cons h' hs, f' => by
    simp only [List.all_cons, Bool.and_eq_true] at f'
    unfold inV
    rw [List.any_cons, List.any_cons, eqv_V h' h f'.1 f, any_V h f hs f'.2]
    rfl
theorem any_py {x : D} (hx : x.pl = true) : ∀ {ys : List D}, D.plL ys = true → ((toPyL ys).any fun z => PyData.eqv z (toPy x)) = ys.any fun z => eqv z x
  | [], _ => rfl
  | y :: ys, h => by
    simp only [D.plL, Bool.and_eq_true] at h
    rw [toPyL, List.any_cons, List.any_cons, eqv_py h.1 hx, any_py hx h.2]
theorem in_core {F : Hp} {r : List Addr} {M : Store} {H : Hp} {x y : D} {v u : V} {b : Bool} (rp : Rep X.K cl F r M H) (hx : Den X.K F r x v) (hy : Den X.K F r y u) (h : isInD M x y = some b) :
    (∃ a o, u = .ref a ∧ DGet H a v o ∧ o.isSome = b) ∨ (∃ p xs, u = .ref p ∧ (SqL X.K H p xs ∨ SqT X.K H p xs) ∧ flatV v = true ∧ xs.all flatV = true ∧ inV v xs = b) ∨
    (∃ d ds, Dp X.K H v d ∧ Dp X.K H u (.list ds) ∧ SeqAt.shaped d = true ∧ SeqAt.shaped (.list ds) = true ∧ (ds.any fun z => PyData.eqv z d) = b) := by
  unfold isInD at h
  cases e : dictOf M y with
  | some p =>
    obtain ⟨tk, kvs⟩ := p
    simp only [e] at h
    split at h
    · rename_i ik
      cases h
      obtain ⟨a, rfl, g⟩ := dget_den rp hy hx e ik
      rcases g with ⟨h1, h2⟩ | ⟨d, w, h1, h2, h3⟩
      · exact .inl ⟨a, none, rfl, h2, by rw [h1]; rfl⟩
      · exact .inl ⟨a, some w, rfl, h2, by rw [h1]; rfl⟩
    · cases h
  | none =>
    simp only [e] at h
    split at h
    · rename_i ys
      split at h
      · rename_i hf
        cases h
        simp only [Bool.and_eq_true] at hf
        obtain ⟨a, xs, rfl, hs, hd⟩ := tup_den rp hy
        exact .inr (.inl ⟨a, xs, rfl, .inr hs, flat_V hx hf.1, flats_V hd hf.2, (any_V hx hf.1 hd hf.2).symm⟩)
      · cases h
    · split at h
      · rename_i ys e2
        split at h
        · rename_i hp
          cases h
          simp only [Bool.and_eq_true] at hp
          obtain ⟨a, xs, rfl, hs, hd⟩ := seqL_den rp hy e2
          obtain ⟨p1, p2⟩ := plOk_and hp.1
          obtain ⟨p3, p4⟩ := plOk_and hp.2
          have p3 : D.plL ys = true := by simpa [D.pl] using p3
          refine .inr (.inr ⟨toPy x, toPyL ys, den_dp rp hx p1, .lst hs (dens_dp rp hd p3), shaped_of hx hp.1, ?_, any_py p1 p3⟩)
          unfold SeqAt.shaped
          have e3 : PyData.depth (.list (toPyL ys)) = (D.lst ys).dep := dep_py (.lst ys)
          rw [e3]
          have e4 : (D.lst ys).dep = (D.tup ys).dep := rfl
          rw [e4]
          simp only [PyData.canLay0, dens_can hd p3, Bool.true_and, decide_eq_true_eq]
          omega
        · cases h
      · cases h
theorem cmp_in (hu : X.A.units + 66 < cLine) : CmpOk X cl .isIn := by
  refine ⟨_, OpR.or (op_dIn (by omega)) (OpR.or op_in_seq (op_inD (by omega))), fun F r M H x y v u Q b rp hx hy h q => ?_⟩
  rcases in_core rp hx hy h with ⟨a, o, rfl, g, rfl⟩ | ⟨p, xs, rfl, h1, h2, h3, rfl⟩ | ⟨d, ds, h1, h2, h3, h4, rfl⟩
  · exact .inl ⟨a, o, rfl, g, q⟩
  · exact .inr (.inl ⟨p, xs, rfl, h1, h2, h3, q⟩)
  · exact .inr (.inr ⟨d, ds, h1, h2, h3, h4, q⟩)
theorem cmp_notIn (hu : X.A.units + 66 < cLine) : CmpOk X cl .notIn := by
  refine ⟨_, OpR.or (op_dNotIn (by omega)) (OpR.or op_notIn_seq (op_notInD (by omega))), fun F r M H x y v u Q b rp hx hy h q => ?_⟩
  have h : (isInD M x y).map (!·) = some b := h
  obtain ⟨b', h', rfl⟩ := Option.map_eq_some_iff.mp h
  rcases in_core rp hx hy h' with ⟨a, o, rfl, g, rfl⟩ | ⟨p, xs, rfl, h1, h2, h3, rfl⟩ | ⟨d, ds, h1, h2, h3, h4, rfl⟩
  · exact .inl ⟨a, o, rfl, g, q⟩
  · exact .inr (.inl ⟨p, xs, rfl, h1, h2, h3, q⟩)
  · exact .inr (.inr ⟨d, ds, h1, h2, h3, h4, q⟩)
theorem cmp_ok (hu : X.A.units + 66 < cLine) : ∀ op : COp, CmpOk X cl op
  | .eq => cmp_eq hu
  | .ne => cmp_ne hu
  | .lt => cmp_lt
  | .le => cmp_le
  | .gt => cmp_gt
  | .ge => cmp_ge
  | .isIn => cmp_in hu
  | .notIn => cmp_notIn hu
  | .is_ => cmp_is
  | .isNot => cmp_isNot
end
end PyD
end
section
set_option maxRecDepth 100000
set_option autoImplicit false
/-! PdE: truth, subscripts, built-in functions of one or two arguments. -/
namespace PyD
open PySem PySem.Spec L2
open PyProof.Rows (risingS sortedS)
section
variable {X : Cx} {cl : Nat → Addr} {F : Hp} {r : List Addr} {M : Store} {H : Hp}

/-! ### truth -/
theorem isEmpty_dens {K : PySem.W.Frag} {ds : List D} {vs : List V} (h : Dens K F r ds vs) : vs.isEmpty = ds.isEmpty := by cases h <;> rfl
theorem tru_den {x : D} {v : V} {b : Bool} (rp : Rep X.K cl F r M H) (hx : Den X.K F r x v) (h : truD M x = some b) : TruV X.K v H b := by
  cases x with
  | non => cases hx; simp only [truD, Option.some.injEq] at h; show b = false; exact h.symm
  | bl c => cases hx; simp only [truD, Option.some.injEq] at h; exact h.symm
  | int i => cases hx; simp only [truD, Option.some.injEq] at h; exact h.symm
  | str s =>
    cases hx
    simp only [truD] at h
    split at h
    · rename_i hz
      cases h
      exact ⟨by rw [← big_line]; exact hz, rfl⟩
    · cases h
  | tup xs =>
    simp only [truD] at h
    cases h
    obtain ⟨a, vs, rfl, hs, hd⟩ := tup_den rp hx
    exact .inr (.inl ⟨vs, hs, by rw [isEmpty_dens hd]⟩)
  | lst xs =>
    simp only [truD] at h
    cases h
    obtain ⟨a, vs, rfl, hs, hd⟩ := seqL_den rp hx (ds := xs) rfl
    exact .inl ⟨vs, hs, by rw [isEmpty_dens hd]⟩
  | ref n =>
    cases hm : M[n]? with
    | none => simp [truD, hm] at h
    | some c =>
      have sl : ∀ ds : List D, seqL M (.ref n) = some ds → b = !ds.isEmpty → TruV X.K v H b := fun ds e hb => by
        obtain ⟨a, vs, rfl, hs, hd⟩ := seqL_den rp hx (ds := ds) e
        exact .inl ⟨vs, hs, by rw [isEmpty_dens hd]; exact hb⟩
      cases c with
      | lst ds => simp only [truD, hm, Option.some.injEq] at h; exact sl ds (by simp [seqL, hm]) h.symm
      | lkl ds => simp only [truD, hm, Option.some.injEq] at h; exact sl ds (by simp [seqL, hm]) h.symm
      | fz ds => simp only [truD, hm, Option.some.injEq] at h; exact sl ds (by simp [seqL, hm]) h.symm
      | scr ns => simp only [truD, hm, Option.some.injEq] at h; exact sl (ns.map D.int) (by simp [seqL, hm]) (by rw [← h, List.isEmpty_map])
      | dct tk kvs =>
        cases tk with
        | true => simp [truD, hm] at h
        | false =>
          simp only [truD, hm, Option.some.injEq] at h
          cases hx with
          | @ref _ a hn =>
            obtain ⟨a', ha', ca⟩ := rp.at_ n _ hm
            rw [hn] at ha'; cases ha'
            cases ca with
            | dct f e d =>
              cases d with
              | k d => exact .inr (.inr ⟨_, e, by cases d <;> exact h.symm⟩)
      | lkd tk kvs => simp [truD, hm] at h
      | ins C fs => simp [truD, hm] at h

/-! ### sorting -/
theorem strLt_irr (a : Str) : strLt a a = false := by simp [strLt, List.lt_irrefl]
theorem strLe_total (a b : Str) : (strLe a b || strLe b a) = true := by
  unfold strLe strLt
  by_cases h : b.cps.toList < a.cps.toList
  · have h2 : ¬ a.cps.toList < b.cps.toList := List.lt_asymm h
    simp [h, h2]
  · simp [h]
theorem strLe_trans (a b c : Str) (h1 : strLe a b = true) (h2 : strLe b c = true) : strLe a c = true := by
  unfold strLe strLt at *
  simp only [Bool.not_eq_true', decide_eq_false_iff_not] at *
  exact List.not_lt.mpr (List.le_trans (List.not_lt.mp h1) (List.not_lt.mp h2))
theorem strLe_anti {a b : Str} (h1 : strLe a b = true) (h2 : strLe b a = true) : a = b := by
  unfold strLe strLt at *
  simp only [Bool.not_eq_true', decide_eq_false_iff_not] at *
  have e := List.le_antisymm (List.not_lt.mp h1) (List.not_lt.mp h2)
  cases a; cases b
  simp only [Str.mk.injEq] at *
  exact Array.toList_inj.mp e
theorem sortS_pw (xs : List Str) : (sortS xs).Pairwise fun a b => strLe a b = true := List.pairwise_mergeSort strLe_trans strLe_total xs
theorem sortS_perm (xs : List Str) : (sortS xs).Perm xs := List.mergeSort_perm xs _
theorem sortI_pw (xs : List Int) : (sortI xs).Pairwise (· ≤ ·) := by
  have h := List.pairwise_mergeSort (le := fun a b : Int => decide (a ≤ b)) (fun a b c h1 h2 => by simp at *; omega) (fun a b => by simp; omega) xs
  exact h.imp fun h => by simpa using h
theorem sortI_perm (xs : List Int) : (sortI xs).Perm xs := List.mergeSort_perm xs _
theorem rising_pw : ∀ (l : List Str) (p : Str), risingS p l = true → (p :: l).Pairwise fun a b => strLe a b = true
  | [], p, _ => List.pairwise_singleton _ _
  | x :: l, p, h => by
    simp only [risingS, Bool.and_eq_true, Bool.not_eq_true'] at h
    have ih := rising_pw l x h.2
    have hx : strLe p x = true := by unfold strLe strLt; rw [← PyProof.Rows.ltCps_eq, h.1]; rfl
    refine List.pairwise_cons.mpr ⟨fun y hy => ?_, ih⟩
    rcases List.mem_cons.mp hy with rfl | hy
    · exact hx
    · exact strLe_trans _ _ _ hx ((List.pairwise_cons.mp ih).1 y hy)
theorem sortedS_pw : ∀ {l : List Str}, sortedS l = true → l.Pairwise fun a b => strLe a b = true
  | [], _ => .nil
  | x :: l, h => rising_pw l x h
theorem sortS_uniq {ys xs : List Str} (p : ys.Perm xs) (h : sortedS ys = true) : ys = sortS xs :=
  List.Perm.eq_of_pairwise (le := fun a b => strLe a b = true) (fun a b _ _ h1 h2 => strLe_anti h1 h2) (sortedS_pw h) (sortS_pw xs) (p.trans (sortS_perm xs).symm)
theorem sortI_uniq {ys xs : List Int} (p : ys.Perm xs) (h : ys.Pairwise (· ≤ ·)) : ys = sortI xs :=
  List.Perm.eq_of_pairwise (le := fun a b : Int => a ≤ b) (fun a b _ _ h1 h2 => Int.le_antisymm h1 h2) h (sortI_pw xs) (p.trans (sortI_perm xs).symm)

/-- sorted(xs), ints, any length -/
def rSorI (K : PySem.W.Frag) : List V → Hp → VK → Prop := fun vs H Q => ∃ (a : Addr) (ns : List Int), vs = [V.ref a] ∧ SqL K H a (ns.map V.int) ∧ ∀ p, H p = none → Q (.ref p) (upd H p (.lst ((sortI ns).map V.int)))
def rSorS (K : PySem.W.Frag) : List V → Hp → VK → Prop := fun vs H Q => ∃ (a : Addr) (ns : List Str), vs = [V.ref a] ∧ SqL K H a (ns.map V.str) ∧ ∀ p, H p = none → Q (.ref p) (upd H p (.lst ((sortS ns).map V.str)))
theorem call_sorI : CallR X (.builtin "sorted") (rSorI X.K) := by
  intro pins s σ H vs us Q I r h
  obtain ⟨a, ns, rfl, hs, q⟩ := h
  obtain ⟨its, rv, hl, hz⟩ := I.list hs
  rw [Vals.ref1 r]
  have hi := rv.ints
  have h16 : its.length ≤ sizeLine := by rw [← rv.length]; exact hz
  refine PyProof.Rows.sorted_intsAny hl.isList hi h16 fun out ns' h1 h2 h3 => ?_
  obtain ⟨ep, he'⟩ := PyProof.Rows.sortedAll_at s.heap its out
  have hlen : (ns'.map V.int).length ≤ sizeLine := by rw [List.length_map, h2.length_eq, ← hi.length]; exact h16
  have e := sortI_uniq h2 h3
  subst e
  exact ⟨.ref _, upd H (s.heap.objs.size + 1) (.lst ((sortI ns).map V.int)), I.laid (t' := s.toks) (fun _ _ => PyProof.Rows.sortedAll_old) (Nat.le_succ _) ⟨hlen, out.toList, ep, vals_of_ints h1, he'⟩, rfl, q _ (I.hok.fresh (Nat.le_succ _))⟩
theorem call_sorS : CallR X (.builtin "sorted") (rSorS X.K) := by
  intro pins s σ H vs us Q I r h
  obtain ⟨a, ns, rfl, hs, q⟩ := h
  obtain ⟨its, rv, hl, hz⟩ := I.list hs
  rw [Vals.ref1 r]
  have hi := rv.strs
  have h16 : its.length ≤ sizeLine := by rw [← rv.length]; exact hz
  have hlen0 := rv.length
  rw [List.length_map] at hlen0
  refine PyProof.Rows.sorted_strsAny hl.isList hi h16 fun out ns' h1 h2 h3 => ?_
  obtain ⟨ep, he'⟩ := PyProof.Rows.sortedAll_at s.heap its out
  have hlen : (ns'.map V.str).length ≤ sizeLine := by rw [List.length_map, h2.length_eq, hlen0]; exact h16
  have e := sortS_uniq h2 h3
  subst e
  exact ⟨.ref _, upd H (s.heap.objs.size + 1) (.lst ((sortS ns).map V.str)), I.laid (t' := s.toks) (fun _ _ => PyProof.Rows.sortedAll_old) (Nat.le_succ _) ⟨hlen, out.toList, ep, vals_of_strs h1, he'⟩, rfl, q _ (I.hok.fresh (Nat.le_succ _))⟩

/-- sorted(d): d's keys, texts, any number -/
def rSorD : List V → Hp → VK → Prop := fun xs H Q => ∃ (a : Addr) (kvs : List (Key × V)) (ks : List Str), xs = [.ref a] ∧ Rd H a (.dK kvs) ∧ kvs.map (·.1) = ks.map Sum.inr ∧
    ∀ p, H p = none → Q (.ref p) (upd H p (.lst ((sortS ks).map V.str)))
open PyProof.Rows in
theorem call_sorD (hcalm : X.calm = true) : CallR X (.builtin "sorted") rSorD := by
  intro pins s σ H xs us Q I r q
  obtain ⟨a, kvs, ks, ex, hd, hks, q⟩ := q
  subst ex
  obtain ⟨u, eu, rx⟩ := vals1 r
  subst eu
  cases rx
  obtain ⟨z, lo, vs, rel, dd⟩ := dk_rd I.hok hd
  obtain ⟨ep, hat⟩ := dd.dictAt
  have hkeys : vs.map (·.1) = ks.map Sum.inr := rel.keys.symm.trans hks
  have hl : vs.length = ks.length := by
    have e := congrArg List.length hkeys
    rw [List.length_map, List.length_map] at e
    exact e
  have h16 : vs.length ≤ sizeLine := by rw [← rel.length]; exact z
  have hk16 : ks.length ≤ sizeLine := by rw [← hl]; exact h16
  refine Calls.call_function_entry PyProof.Rows.kind_sorted PyProof.Rows.plain_sorted PyProof.Rows.entry_sorted (PyProof.Rows.args_sorted1 _) ?_
  unfold Builtin.«sorted»
  refine wpAny_bind (m := checkCount "sorted" 1 1 _) (wpAny_pure ?_)
  refine wpAny_bind (PySem.W.kdu_collect (A := X.A.in1) (PySem.W.kdl_dict (knd := mixKind X.prog X.w) (kvs := vs) (ep := ep) lo) (I.ok.hd hcalm) hat h16 fun h' tk acc hk hacc => ?_)
  have hal : acc.toList.length = ks.length := by rw [Array.length_toList, hacc.1, hl]
  have hS : StrsAre acc.toList ks := strs_at hal fun j v e => by
    obtain ⟨k, x, e1, e2⟩ := hacc.2 j v (by rw [← Array.getElem?_toList]; exact e)
    have e3 : (vs.map (·.1))[j]? = some k := by rw [List.getElem?_map, e1]; all_goals rfl
    rw [hkeys, List.getElem?_map] at e3
    cases e4 : ks[j]? with
    | none => rw [e4] at e3; cases e3
    | some y =>
      rw [e4] at e3
      have e5 : Sum.inr y = k := Option.some.inj e3
      subst e5
      obtain ⟨t, ev⟩ := Value.isStrOf_shape (x := y) (v := v) e2
      exact ⟨y, t, rfl, ev⟩
  have I1 : Inv X pins σ H { s with heap := h', toks := tk } := I.kept hk
  refine wpAny_bind (wpAny_newList ?_ (by rw [hal]; exact hk16))
  have hoL : (h'.push (seqObj "list" acc.toList.toArray 0)).get? h'.objs.size = some (seqObj "list" acc.toList.toArray 0) := Heap.get?_push_size _ rfl
  show wpAny _ _ _ _ _ { s with heap := h'.push (seqObj "list" acc.toList.toArray 0), toks := tk }
  refine wpAny_bind (wpAny_holding (wpAny_call_entry PyProof.Rows.slot_list_sort ⟨_, hoL, rfl⟩ PyProof.Rows.entry_list_sort
    (list_sort_treeKAny strKind_oneLt (s := { s with heap := h'.push (seqObj "list" acc.toList.toArray 0), toks := tk }) hoL hS.keysOf (fun v₁ v₂ rest e => keyKind_strs (by rw [← e]; exact hS)) (by rw [hal]; exact hk16) fun st' hp hs => ⟨_, rfl, ?_⟩)
    (PyProof.Rows.args_list_sort _)))
  obtain ⟨ys, g1, g2, g3⟩ := sorted_out_str hS hp hs
  obtain ⟨e', he'⟩ := PyProof.Rows.sortedHeap_at (vs := acc.toList) (out := (arrOf st').map (·.2)) hoL
  have e := sortS_uniq g2 g3
  subst e
  have hlen : ((sortS ks).map V.str).length ≤ sizeLine := by
    rw [List.length_map, g2.length_eq]
    exact hk16
  refine wpAny_pure ⟨_, rfl, .ref h'.objs.size, upd H h'.objs.size (.lst ((sortS ks).map V.str)), I1.laid (t' := tk) (fun b u e => ?_) (Nat.le_refl _)
    (show ObjOk X.prog X.w _ _ _ (.lst ((sortS ks).map V.str)) from ⟨hlen, ((arrOf st').map (·.2)).toList, e', vals_of_strs g1, by rw [Array.toArray_toList]; exact he'⟩), rfl, q _ (I1.hok.fresh (Nat.le_refl _))⟩
  have hb : b < h'.objs.size := Heap.lt_size e
  rw [PyProof.Rows.sortedHeap_old (Nat.ne_of_lt hb) (by rw [size_push']; exact Nat.lt_succ_of_lt hb)]
  exact Heap.get?_push_of_some _ e

/-- len(d) -/
def rLenD : List V → Hp → VK → Prop := fun xs H Q => ∃ (a : Addr), xs = [.ref a] ∧ ((∃ kvs, Rd H a (.dK kvs) ∧ Q (.int ((kvs.length : Nat) : Int)) H) ∨ ∃ kvs, Rd H a (.dT kvs) ∧ Q (.int ((kvs.length : Nat) : Int)) H)
theorem call_lenRd : CallR X (.builtin "len") rLenD := by
  intro pins s σ H xs us Q I r h
  obtain ⟨a, rfl, h⟩ := h
  obtain ⟨u, rfl, rx⟩ := vals1 r
  obtain rfl : u = .ref a := rx
  rcases h with ⟨kvs, hd, q⟩ | ⟨kvs, hd, q⟩
  · exact d_len I hd fun t s' I' => ⟨.int _, H, I', ⟨_, rfl⟩, q⟩
  · obtain ⟨z, hd', ys, rel, dd⟩ := dt_rd I.hok hd
    have hl : kvs.length = ys.length := Paired.length rel
    refine call_len_dictH hd' dd (by rw [← hl]; rw [sizeLine_eq] at z; omega) ?_
    rw [← hl]
    exact ⟨.int ((kvs.length : Nat) : Int), H, I.tok _, ⟨_, rfl⟩, q⟩

/-! ### built-in functions of one argument -/
theorem strOk_of (s : String) : PyData.strOk (Str.ofString s) = true := by
  rw [Str.ofString_eq_toList]
  unfold PyData.strOk
  rw [← Array.all_toList]
  simp only [List.all_eq_true, decide_eq_true_eq]
  intro x hx
  obtain ⟨c, _, rfl⟩ := List.mem_map.mp hx
  have := c.valid
  unfold UInt32.isValidChar Nat.isValidChar at this
  rcases this with h | ⟨_, h⟩
  · exact Nat.lt_trans h (by decide)
  · exact h
def b1V : B1 → Value
  | .len => .builtin "len" | .abs => .builtin "abs" | .int => .type "int" | .str => .type "str" | .sorted => .builtin "sorted" | .sum => .builtin "sum" | .min => .builtin "min" | .max => .builtin "max"
  | .list => .type "list" | .tuple => .type "tuple" | .dict => .type "dict" | .all => .builtin "all" | .any => .builtin "any" | .bool => .type "bool"
def B1Ok (X : Cx) (cl : Nat → Addr) (f : B1) : Prop :=
  ∃ q, CallR X (b1V f) q ∧ ∀ (F : Hp) (r : List Addr) (M : Store) (H : Hp) (cell : Bool) (x : D) (v : V) (Q : VK) (W : XK), Rep X.K cl F r M H → Den X.K F r x v → Post X.K cl F r Q W (b1D f cell x M) → q [v] H Q
theorem walk_den {x : D} {v : V} {ds : List D} (rp : Rep X.K cl F r M H) (hx : Den X.K F r x v) (h : walkD M x = some ds) :
    (∃ tk kvs a o, dictOf M x = some (tk, kvs) ∧ ds = kvs.map (·.1) ∧ v = .ref a ∧ Rd H a o ∧ DctO X.K F r tk kvs o) ∨
    (dictOf M x = none ∧ ∃ a xs, v = .ref a ∧ (SqL X.K H a xs ∨ SqT X.K H a xs) ∧ Dens X.K F r ds xs ∧ ((∃ ts, x = .tup ts ∧ SqT X.K H a xs) ∨ (seqL M x = some ds ∧ SqL X.K H a xs))) := by
  cases e : dictOf M x with
  | some p =>
    obtain ⟨tk, kvs⟩ := p
    simp only [walkD, e] at h
    cases h
    obtain ⟨a, o, rfl, h1, h2⟩ := dict_den rp hx e
    exact .inl ⟨tk, kvs, a, o, rfl, rfl, rfl, h1, h2⟩
  | none =>
    right
    refine ⟨rfl, ?_⟩
    by_cases c : ∃ ts, x = .tup ts
    · obtain ⟨ts, rfl⟩ := c
      simp only [walkD, e] at h
      cases h
      obtain ⟨a, xs, rfl, h1, h2⟩ := tup_den rp hx
      exact ⟨a, xs, rfl, .inr h1, h2, .inl ⟨_, rfl, h1⟩⟩
    · have h : seqL M x = some ds := by
        cases x <;> first | exact absurd ⟨_, rfl⟩ c | (simpa [walkD, e] using h)
      obtain ⟨a, xs, rfl, h1, h2⟩ := seqL_den rp hx h
      exact ⟨a, xs, rfl, .inl h1, h2, .inr ⟨h, h1⟩⟩
theorem ksD_lenK {kvs : List (D × D)} {ks : List (Key × V)} (h : KsD X.K F r kvs ks) : kvs.length = ks.length := Paired.length h
theorem tsD_len {kvs : List (D × D)} {ks : List (List Key × V)} (h : TsD X.K F r kvs ks) : kvs.length = ks.length := Paired.length h
theorem b1_len : B1Ok X cl .len := by
  refine ⟨_, CallR.or call_len call_lenRd, fun F r M H cell x v Q W rp hx h => ?_⟩
  by_cases c : ∃ s, x = .str s
  · obtain ⟨s, rfl⟩ := c
    have h : Post X.K cl F r Q W (if s.length ≤ big then .ok (.int s.length, M) else .stuck) := h
    split at h
    · rename_i hz
      cases hx
      exact .inl ⟨_, s.length, rfl, ⟨by rw [← big_line]; exact hz, rfl⟩, h.now rp (.int _)⟩
    · exact h.elim
  · have h : Post X.K cl F r Q W (match walkD M x with
      | some xs => .ok (.int xs.length, M)
      | none => .stuck) := by cases x <;> first | exact h | exact absurd ⟨_, rfl⟩ c
    cases e : walkD M x with
    | none => rw [e] at h; exact h.elim
    | some ds =>
      rw [e] at h
      have q : Q (.int (ds.length : Nat)) H := h.now rp (.int _)
      rcases walk_den rp hx e with ⟨tk, kvs, a, o, e1, rfl, rfl, h1, h2⟩ | ⟨e1, a, xs, rfl, h1, h2, _⟩
      · refine .inr ⟨a, rfl, ?_⟩
        rw [List.length_map] at q
        cases h2 with
        | k h2 => exact .inl ⟨_, h1, by rw [← ksD_lenK h2]; exact q⟩
        | t h2 => exact .inr ⟨_, h1, by rw [← tsD_len h2]; exact q⟩
      · refine .inl ⟨_, xs.length, rfl, ?_, by rw [← h2.length]; exact q⟩
        rcases h1 with h1 | h1
        · exact .inl ⟨_, h1, rfl⟩
        · exact .inr ⟨_, h1, rfl⟩
theorem b1_abs : B1Ok X cl .abs := by
  refine ⟨_, call_abs, fun F r M H cell x v Q W rp hx h => ?_⟩
  cases x with
  | int i => cases hx; exact ⟨i, rfl, h.now rp (.int _)⟩
  | _ => exact h.elim
theorem b1_int : B1Ok X cl .int := by
  refine ⟨_, call_int1, fun F r M H cell x v Q W rp hx h => ?_⟩
  cases x with
  | int i => cases hx; exact .inl ⟨i, rfl, h.now rp (.int _)⟩
  | bl b => cases hx; exact .inr ⟨b, rfl, h.now rp (.int _)⟩
  | _ => exact h.elim
theorem b1_bool : B1Ok X cl .bool := by
  refine ⟨_, call_bool1, fun F r M H cell x v Q W rp hx h => ?_⟩
  cases x with
  | int i => cases hx; exact .inl ⟨i, rfl, h.now rp (.bl _)⟩
  | bl b => cases hx; exact .inr ⟨b, rfl, h.now rp (.bl _)⟩
  | _ => exact h.elim
theorem b1_str : B1Ok X cl .str := by
  refine ⟨_, CallR.or call_str_int SkE.call_str_str, fun F r M H cell x v Q W rp hx h => ?_⟩
  cases x with
  | int i =>
    cases hx
    have h : Post X.K cl F r Q W (if strOkI i = true then .ok (.str (toString i), M) else .stuck) := h
    split at h
    · rename_i hz
      rw [strOkI_eq, decide_eq_true_eq] at hz
      refine .inl ⟨i, rfl, ?_, h.now rp (.str _ (strOk_of _))⟩
      by_cases c : i.natAbs = 0
      · rw [c]; decide
      · exact Nat.lt_trans ((Nat.log2_lt c).mpr hz) (by decide)
    · exact h.elim
  | str s => cases hx with
    | str _ hs => exact .inr ⟨s, rfl, h.now rp (.str _ hs)⟩
  | _ => exact h.elim
theorem seqI {x : D} {v : V} {is : List Int} (rp : Rep X.K cl F r M H) (hx : Den X.K F r x v) (h : (seqL M x).bind allI = some is) : ∃ a, v = .ref a ∧ SqL X.K H a (is.map V.int) := by
  obtain ⟨ds, e1, e2⟩ := Option.bind_eq_some_iff.mp h
  obtain ⟨a, xs, rfl, h1, h2⟩ := seqL_den rp hx e1
  rw [allI_eq e2] at h2
  rw [h2.ints] at h1
  exact ⟨a, rfl, h1⟩
theorem seqB {x : D} {v : V} {is : List Bool} (rp : Rep X.K cl F r M H) (hx : Den X.K F r x v) (h : (seqL M x).bind allB = some is) : ∃ a, v = .ref a ∧ SqL X.K H a (is.map V.bl) := by
  obtain ⟨ds, e1, e2⟩ := Option.bind_eq_some_iff.mp h
  obtain ⟨a, xs, rfl, h1, h2⟩ := seqL_den rp hx e1
  rw [allB_eq e2] at h2
  rw [h2.bls] at h1
  exact ⟨a, rfl, h1⟩
theorem b1_sum (hc : X.calm = true) : B1Ok X cl .sum := by
  refine ⟨_, cr_sum hc, fun F r M H cell x v Q W rp hx h => ?_⟩
  simp only [b1D] at h
  split at h
  · rename_i is e
    obtain ⟨a, rfl, h1⟩ := seqI rp hx e
    exact ⟨a, is, rfl, h1, h.now rp (.int _)⟩
  · exact h.elim
theorem b1_all (hc : X.calm = true) : B1Ok X cl .all := by
  refine ⟨_, cr_all hc, fun F r M H cell x v Q W rp hx h => ?_⟩
  simp only [b1D] at h
  split at h
  · rename_i is e
    obtain ⟨a, rfl, h1⟩ := seqB rp hx e
    exact ⟨a, is, rfl, h1, h.now rp (.bl _)⟩
  · exact h.elim
theorem b1_any (hc : X.calm = true) : B1Ok X cl .any := by
  refine ⟨_, cr_any hc, fun F r M H cell x v Q W rp hx h => ?_⟩
  simp only [b1D] at h
  split at h
  · rename_i is e
    obtain ⟨a, rfl, h1⟩ := seqB rp hx e
    exact ⟨a, is, rfl, h1, h.now rp (.bl _)⟩
  · exact h.elim
theorem maxI_spec : ∀ {is : List Int} {i : Int}, maxI is = some i → i ∈ is ∧ ∀ y ∈ is, y ≤ i
  | [], _, h => by cases h
  | j :: is, i, h => by
    have gen : ∀ (is : List Int) (j : Int), (is.foldl (fun a b => if b > a then b else a) j ∈ j :: is) ∧ ∀ y ∈ j :: is, y ≤ is.foldl (fun a b => if b > a then b else a) j := fun is => by
      induction is with
      | nil => intro j; simp
      | cons k is ih =>
        intro j
        rw [List.foldl_cons]
        obtain ⟨h1, h2⟩ := ih (if k > j then k else j)
        refine ⟨?_, fun y hy => ?_⟩
        · rcases List.mem_cons.mp h1 with h1 | h1
          · rw [h1]; split <;> simp
          · simp [h1]
        · have hb := h2 _ List.mem_cons_self
          simp only [List.mem_cons] at hy
          rcases hy with rfl | rfl | hy
          · refine Int.le_trans ?_ hb; split <;> omega
          · refine Int.le_trans ?_ hb; split <;> omega
          · exact h2 y (List.mem_cons_of_mem _ hy)
    cases h
    exact gen is j
theorem minI_spec : ∀ {is : List Int} {i : Int}, minI is = some i → i ∈ is ∧ ∀ y ∈ is, i ≤ y
  | [], _, h => by cases h
  | j :: is, i, h => by
    have gen : ∀ (is : List Int) (j : Int), (is.foldl (fun a b => if b < a then b else a) j ∈ j :: is) ∧ ∀ y ∈ j :: is, is.foldl (fun a b => if b < a then b else a) j ≤ y := fun is => by
      induction is with
      | nil => intro j; simp
      | cons k is ih =>
        intro j
        rw [List.foldl_cons]
        obtain ⟨h1, h2⟩ := ih (if k < j then k else j)
        refine ⟨?_, fun y hy => ?_⟩
        · rcases List.mem_cons.mp h1 with h1 | h1
          · rw [h1]; split <;> simp
          · simp [h1]
        · have hb := h2 _ List.mem_cons_self
          simp only [List.mem_cons] at hy
          rcases hy with rfl | rfl | hy
          · refine Int.le_trans hb ?_; split <;> omega
          · refine Int.le_trans hb ?_; split <;> omega
          · exact h2 y (List.mem_cons_of_mem _ hy)
    cases h
    exact gen is j
theorem b1_max (hc : X.calm = true) : B1Ok X cl .max := by
  refine ⟨_, cr_max hc, fun F r M H cell x v Q W rp hx h => ?_⟩
  simp only [b1D] at h
  split at h
  · rename_i i e
    obtain ⟨is, e1, e2⟩ := Option.bind_eq_some_iff.mp e
    obtain ⟨a, rfl, h1⟩ := seqI rp hx e1
    obtain ⟨m1, m2⟩ := maxI_spec e2
    refine ⟨a, is, rfl, h1, List.length_pos_of_mem m1, fun m k1 k2 => ?_⟩
    rw [Int.le_antisymm (m2 m k1) (k2 i m1)]
    exact h.now rp (.int _)
  · exact h.elim
theorem b1_min (hc : X.calm = true) : B1Ok X cl .min := by
  refine ⟨_, cr_min hc, fun F r M H cell x v Q W rp hx h => ?_⟩
  simp only [b1D] at h
  split at h
  · rename_i i e
    obtain ⟨is, e1, e2⟩ := Option.bind_eq_some_iff.mp e
    obtain ⟨a, rfl, h1⟩ := seqI rp hx e1
    obtain ⟨m1, m2⟩ := minI_spec e2
    refine ⟨a, is, rfl, h1, List.length_pos_of_mem m1, fun m k1 k2 => ?_⟩
    rw [Int.le_antisymm (k2 i m1) (m2 m k1)]
    exact h.now rp (.int _)
  · exact h.elim
theorem keys_strs : ∀ {kvs : List (D × D)} {ks : List (Key × V)} {ss : List Str}, KsD X.K F r kvs ks → allS (kvs.map (·.1)) = some ss → ks.map (·.1) = ss.map Sum.inr ∧ ∀ s ∈ ss, PyData.strOk s = true
  | _, _, ss, .nil, h => by cases h; exact ⟨rfl, fun s hs => by cases hs⟩
  | (k, d) :: kvs, (k1, v) :: ks, ss, .cons ⟨e1, e2, hd⟩ t, h => by
    have e1 : k = kD k1 := e1
    subst e1
    cases k1 with
    | inl i => simp [kD, allS] at h
    | inr s =>
      simp only [List.map_cons, kD, allS, Option.map_eq_some_iff] at h
      obtain ⟨ss', h1, rfl⟩ := h
      obtain ⟨g1, g2⟩ := keys_strs t h1
      refine ⟨by simp [g1], fun s' hs => ?_⟩
      rcases List.mem_cons.mp hs with rfl | hs
      · exact e2
      · exact g2 s' hs
theorem keys_kV : ∀ {kvs : List (D × D)} {ks : List (Key × V)}, KsD X.K F r kvs ks → Dens X.K F r (kvs.map (·.1)) (ks.map fun kv => kV kv.1)
  | _, _, .nil => .nil
  | (k, d) :: kvs, (k1, v) :: ks, .cons ⟨e1, e2, hd⟩ t => by
    have e1 : k = kD k1 := e1
    subst e1
    refine .cons ?_ (keys_kV t)
    cases k1 with
    | inl i => exact .int i
    | inr s => exact .str s e2
theorem b1_sorted (hc : X.calm = true) : B1Ok X cl .sorted := by
  refine ⟨_, CallR.or call_sorI (CallR.or call_sorS (call_sorD hc)), fun F r M H cell x v Q W rp hx h => ?_⟩
  simp only [b1D] at h
  split at h
  · rename_i xs e
    cases e1 : dictOf M x with
    | some p =>
      obtain ⟨tk, kvs⟩ := p
      cases tk with
      | true => simp [sortW, e1] at e
      | false =>
        simp only [sortW, e1] at e
        split at e
        · rename_i ss e2
          cases e
          obtain ⟨a, o, rfl, h1, h2⟩ := dict_den rp hx e1
          cases h2 with
          | k h2 =>
            obtain ⟨g1, g2⟩ := keys_strs h2 e2
            refine .inr (.inr ⟨a, _, ss, rfl, h1, g1, fun p hp => h.newL rp hp (Dens.ofStrs _ fun s hs => g2 s ((sortS_perm ss).mem_iff.mp hs))⟩)
        · cases e
    | none =>
      simp only [sortW, e1] at e
      obtain ⟨ds, e2, e3⟩ := Option.bind_eq_some_iff.mp e
      obtain ⟨a, vs, rfl, h1, h2⟩ := seqL_den rp hx e2
      unfold sortD at e3
      split at e3
      · rename_i ss e4
        cases e3
        rw [allS_eq e4] at h2
        have ok := h2.okStrs
        rw [h2.strs] at h1
        exact .inr (.inl ⟨a, ss, rfl, h1, fun p hp => h.newL rp hp (Dens.ofStrs _ fun s hs => ok s ((sortS_perm ss).mem_iff.mp hs))⟩)
      · split at e3
        · rename_i is e4
          cases e3
          rw [allI_eq e4] at h2
          rw [h2.ints] at h1
          exact .inl ⟨a, is, rfl, h1, fun p hp => h.newL rp hp (Dens.ofInts _)⟩
        · cases e3
  · exact h.elim
theorem b1_list (hc : X.calm = true) : B1Ok X cl .list := by
  refine ⟨_, CallR.or call_list_of (call_listD hc), fun F r M H cell x v Q W rp hx h => ?_⟩
  simp only [b1D] at h
  split at h
  · rename_i xs e
    cases e1 : dictOf M x with
    | some p =>
      obtain ⟨tk, kvs⟩ := p
      cases tk with
      | true => simp [listW, e1] at e
      | false =>
        simp only [listW, e1] at e
        cases e
        obtain ⟨a, o, rfl, h1, h2⟩ := dict_den rp hx e1
        cases h2 with
        | k h2 => exact .inr ⟨a, _, rfl, h1, fun p hp => h.newL rp hp (keys_kV h2)⟩
    | none =>
      have e : walkD M x = some xs := by unfold listW at e; rw [e1] at e; unfold walkD; rw [e1]; exact e
      rcases walk_den rp hx e with ⟨tk, kvs, a, o, e1', _⟩ | ⟨_, a, vs, rfl, h1, h2, _⟩
      · rw [e1] at e1'; cases e1'
      · exact .inl ⟨a, vs, rfl, h1, fun p hp => h.newL rp hp h2⟩
  · exact h.elim
theorem b1_tuple : B1Ok X cl .tuple := by
  refine ⟨_, call_tuple_of, fun F r M H cell x v Q W rp hx h => ?_⟩
  by_cases c : ∃ ts, x = .tup ts
  · obtain ⟨ts, rfl⟩ := c
    obtain ⟨a, vs, rfl, h1, h2⟩ := tup_den rp hx
    exact ⟨a, vs, rfl, .inr ⟨h1, Post.now (M := M) h rp hx⟩⟩
  · have h : Post X.K cl F r Q W (match seqL M x with
      | some xs => .ok (.tup xs, M)
      | none => .stuck) := by cases x <;> first | exact h | exact absurd ⟨_, rfl⟩ c
    cases e : seqL M x with
    | none => rw [e] at h; exact h.elim
    | some ds =>
      rw [e] at h
      obtain ⟨a, vs, rfl, h1, h2⟩ := seqL_den rp hx e
      exact ⟨a, vs, rfl, .inl ⟨h1, fun p hp => h.newT rp hp h2⟩⟩
theorem b1_dict : B1Ok X cl .dict := by
  refine ⟨_, call_dictD, fun F r M H cell x v Q W rp hx h => ?_⟩
  simp only [b1D] at h
  split at h
  · rename_i kvs e
    obtain ⟨a, o, rfl, h1, h2⟩ := dict_den rp hx e
    cases h2 with
    | k h2 => exact ⟨a, _, rfl, h1, fun p hp => h.newD rp hp (.k h2)⟩
  · exact h.elim
theorem b1_ok (hc : X.calm = true) : ∀ f : B1, B1Ok X cl f
  | .len => b1_len | .abs => b1_abs | .int => b1_int | .str => b1_str | .sorted => b1_sorted hc | .sum => b1_sum hc | .min => b1_min hc | .max => b1_max hc
  | .list => b1_list hc | .tuple => b1_tuple | .dict => b1_dict | .all => b1_all hc | .any => b1_any hc | .bool => b1_bool

def b2V : B2 → Value
  | .min => .builtin "min" | .max => .builtin "max" | .gcd => .builtin "math.gcd"
def B2Ok (X : Cx) (f : B2) : Prop :=
  ∃ q, CallR X (b2V f) q ∧ ∀ (K : PySem.W.Frag) (F : Hp) (r : List Addr) (H : Hp) (x y d : D) (v u : V) (Q : VK), Den K F r x v → Den K F r y u → b2D f x y = some d → (∀ w, Den K F r d w → Q w H) → q [v, u] H Q
theorem b2_ok (hc : X.calm = true) : ∀ f : B2, B2Ok X f
  | .min => ⟨_, call_min2 hc, fun K F r H x y d v u Q hx hy e h => by
    cases x <;> cases y <;> simp [b2D] at e
    cases hx; cases hy; subst e; exact ⟨_, _, rfl, h _ (.int _)⟩⟩
  | .max => ⟨_, call_max2 hc, fun K F r H x y d v u Q hx hy e h => by
    cases x <;> cases y <;> simp [b2D] at e
    cases hx; cases hy; subst e; exact ⟨_, _, rfl, h _ (.int _)⟩⟩
  | .gcd => ⟨_, cr_gcd, fun K F r H x y d v u Q hx hy e h => by
    cases x <;> cases y <;> simp [b2D] at e
    cases hx; cases hy; subst e; exact ⟨_, _, rfl, h _ (.int _)⟩⟩
/-! ### a subscript -/
theorem at_den {ds : List D} {vs : List V} (h : Dens X.K F r ds vs) {i : Int} {d : D} (e : atI ds i = some d) : ∃ w, atI vs i = some w ∧ Den X.K F r d w := by
  unfold atI at e ⊢
  obtain ⟨j, h1, h2⟩ := Option.bind_eq_some_iff.mp e
  obtain ⟨w, h3, h4⟩ := h.get h2
  rw [h.length] at h1
  exact ⟨w, by rw [h1]; exact h3, h4⟩
theorem ix_den {x y d : D} {v u : V} (rp : Rep X.K cl F r M H) (hx : Den X.K F r x v) (hy : Den X.K F r y u) (h : ixD M x y = some d) {Q : VK} (q : ∀ w, Den X.K F r d w → Q w H) :
    rIx X.K v u H Q ∨ ∃ a w, v = .ref a ∧ DGet H a u (some w) ∧ Q w H := by
  cases e : dictOf M x with
  | some p =>
    obtain ⟨tk, kvs⟩ := p
    right
    simp only [ixD, e] at h
    split at h
    · rename_i ik
      obtain ⟨a, rfl, ⟨h1, _⟩ | ⟨d', w, h1, h2, h3⟩⟩ := dget_den rp hx hy e ik
      · rw [h] at h1; cases h1
      · rw [h] at h1; cases h1
        exact ⟨a, w, rfl, h2, q w h3⟩
    · cases h
  | none =>
    left
    cases y with
    | int i =>
      cases hy
      by_cases c1 : ∃ ts, x = .tup ts
      · obtain ⟨ts, rfl⟩ := c1
        simp only [ixD, e] at h
        obtain ⟨a, xs, rfl, h1, h2⟩ := tup_den rp hx
        obtain ⟨w, h3, h4⟩ := at_den h2 h
        exact .inr (.inl ⟨a, xs, i, w, rfl, rfl, h1, h3, q w h4⟩)
      by_cases c2 : ∃ s, x = .str s
      · obtain ⟨s, rfl⟩ := c2
        simp only [ixD, e] at h
        split at h
        · rename_i hz
          obtain ⟨c, h1, rfl⟩ := Option.map_eq_some_iff.mp h
          cases hx with
          | str _ hs =>
            refine .inr (.inr ⟨s, i, c, rfl, rfl, by rw [← big_line]; exact hz, h1, q _ (.str _ ?_)⟩)
            obtain ⟨j, _, h3, _⟩ := atI_get h1
            unfold PyData.strOk at hs ⊢
            rw [← Array.all_toList] at hs
            have := List.all_eq_true.mp hs c (List.mem_of_getElem? h3)
            simpa using this
        · cases h
      · have h : (match seqL M x with
          | some xs => atI xs i
          | none => none) = some d := by
          cases x <;> first | exact absurd ⟨_, rfl⟩ c1 | exact absurd ⟨_, rfl⟩ c2 | (simp only [ixD, e] at h; exact h)
        cases e2 : seqL M x with
        | none => rw [e2] at h; cases h
        | some xs =>
          rw [e2] at h
          obtain ⟨a, vs, rfl, h1, h2⟩ := seqL_den rp hx e2
          obtain ⟨w, h3, h4⟩ := at_den h2 h
          exact .inl ⟨a, vs, i, w, rfl, rfl, h1, h3, q w h4⟩
    | _ => cases x <;> simp [ixD, e] at h
end
end PyD
end
section
set_option maxRecDepth 100000
set_option autoImplicit false
/-! PdF: the judgements by the interpreter; expressions. -/
namespace PyD
open PySem PySem.Spec L2

/-- what is wanted behind a result of any kind -/
def PostG {α β : Type} (K : PySem.W.Frag) (cl : Nat → Addr) (DP : Hp → List Addr → α → β → Prop) (F : Hp) (r : List Addr) (Q : β → Hp → Prop) (W : XK) : R (α × Store) → Prop
  | .ok x => ∀ F' r' v H', Ext F r F' r' → DP F' r' x.1 v → Rep K cl F' r' x.2 H' → Q v H'
  | .exc c fs M' => ∀ F' r' dd H', Ext F r F' r' → Rep K cl F' r' M' H' → XAt K F' r' fs dd H' → W (.ref (cl c)) (some dd) H'
  | .stuck => False
section
variable {K : PySem.W.Frag} {cl : Nat → Addr} {F F' : Hp} {r r' : List Addr} {M : Store} {H H' : Hp} {W : XK}
theorem post_iff {Q : VK} {x : R (D × Store)} : Post K cl F r Q W x ↔ PostG K cl (Den K) F r Q W x := by cases x <;> exact Iff.rfl
variable {α β γ δ : Type} {PA : Hp → List Addr → α → β → Prop} {PB : Hp → List Addr → γ → δ → Prop} {Q : δ → Hp → Prop} {Q1 : β → Hp → Prop}
theorem PostG.weak (e : Ext F r F' r') {x : R (γ × Store)} (h : PostG K cl PB F r Q W x) : PostG K cl PB F' r' Q W x := by
  cases x with
  | ok x => exact fun F2 r2 v H2 e2 => h F2 r2 v H2 (e.trans e2)
  | exc c fs M' => exact fun F2 r2 dd H2 e2 => h F2 r2 dd H2 (e.trans e2)
  | stuck => exact h
theorem PostG.bind {x : R (α × Store)} {f : α × Store → R (γ × Store)} (h : PostG K cl PB F r Q W (x.bind f))
    (k : ∀ a M' F' r' v H', Ext F r F' r' → PA F' r' a v → Rep K cl F' r' M' H' → PostG K cl PB F' r' Q W (f (a, M')) → Q1 v H') : PostG K cl PA F r Q1 W x := by
  cases x with
  | ok x => exact fun F' r' v H' e q rp => k x.1 x.2 F' r' v H' e q rp (h.weak e)
  | exc c fs M' => exact h
  | stuck => exact h
end
/-- a mode of reading: the classes, the functions, what is wanted of an exception -/
structure Md where
  cl : Nat → Addr
  G : Gam
  W : XK
/-- no exception -/
def Md.z (m : Md) : Md := { m with W := E0 }
section
variable (K : PySem.W.Frag) (m : Md)
def tE (T : T) : TE := fun σ H Q => ∃ F r M τ, Slots K F r τ σ ∧ Rep K m.cl F r M H ∧ PostG K m.cl (Den K) F r Q m.W (evE m.G T τ M)
def tA (T : T) : TA := fun σ H Q => ∃ F r M τ, Slots K F r τ σ ∧ Rep K m.cl F r M H ∧ PostG K m.cl (Dens K) F r Q m.W (evA m.G T τ M)
def tT (T : T) : TT := fun σ H Q => ∃ F r M τ, Slots K F r τ σ ∧ Rep K m.cl F r M H ∧ PostG K m.cl (fun _ _ (a b : Bool) => a = b) F r Q m.W (evT m.G T τ M)
end
def SE (X : Cx) (m : Md) (T : T) (e : Expr) : Prop := PE X e (tE X.K m T)
def SA (X : Cx) (m : Md) (T : T) (es : List Expr) : Prop := PA X es (tA X.K m T)
def ST (X : Cx) (m : Md) (T : T) (e : Expr) : Prop := PT X e (tT X.K m T)
def SW (X : Cx) (m : Md) (T : T) (e : Expr) : Prop := PW X e (tT X.K m T)
section
variable {X : Cx} {m : Md}
theorem PEimp {e : Expr} {t t' : TE} (h : PE X e t) (i : ∀ σ H Q, t' σ H Q → t σ H Q) : PE X e t' := ⟨fun pins s σ H Q I q => h.run pins s σ H Q I (i σ H Q q)⟩
theorem PAimp {e : List Expr} {t t' : TA} (h : PA X e t) (i : ∀ σ H Q, t' σ H Q → t σ H Q) : PA X e t' := ⟨fun pos pins s σ H Q I q => h.run pos pins s σ H Q I (i σ H Q q)⟩
theorem PTimp {e : Expr} {t t' : TT} (h : PT X e t) (i : ∀ σ H Q, t' σ H Q → t σ H Q) : PT X e t' := ⟨fun pins s σ H Q I q => h.run pins s σ H Q I (i σ H Q q)⟩
theorem PWimp {e : Expr} {t t' : TT} (h : PW X e t) (i : ∀ σ H Q, t' σ H Q → t σ H Q) : PW X e t' := ⟨fun wh pins s σ H Q I q => h.run wh pins s σ H Q I (i σ H Q q)⟩
theorem PEor {e : Expr} {t t' : TE} (h : PE X e t) (h' : PE X e t') : PE X e (fun σ H Q => t σ H Q ∨ t' σ H Q) := ⟨fun pins s σ H Q I q => q.elim (h.run pins s σ H Q I) (h'.run pins s σ H Q I)⟩
theorem PTor {e : Expr} {t t' : TT} (h : PT X e t) (h' : PT X e t') : PT X e (fun σ H Q => t σ H Q ∨ t' σ H Q) := ⟨fun pins s σ H Q I q => q.elim (h.run pins s σ H Q I) (h'.run pins s σ H Q I)⟩
variable {K : PySem.W.Frag} {F : Hp} {r : List Addr} {M : Store} {H : Hp} {τ : Tau} {σ : L2.St}
/-- one evaluation, then the rest -/
theorem tE.go {a : T} {γ δ : Type} {PB : Hp → List Addr → γ → δ → Prop} {Q : δ → Hp → Prop} {f : D × Store → R (γ × Store)} {Q1 : VK} (sl : Slots K F r τ σ) (rp : Rep K m.cl F r M H) (h : PostG K m.cl PB F r Q m.W ((evE m.G a τ M).bind f))
    (k : ∀ d M' F' r' v H', Ext F r F' r' → Slots K F' r' τ σ → Den K F' r' d v → Rep K m.cl F' r' M' H' → PostG K m.cl PB F' r' Q m.W (f (d, M')) → Q1 v H') : tE K m a σ H Q1 :=
  ⟨F, r, M, τ, sl, rp, PostG.bind h fun d M' F' r' v H' e q rp' h' => k d M' F' r' v H' e (sl.mono e) q rp' h'⟩
theorem tA.go {a : T} {γ δ : Type} {PB : Hp → List Addr → γ → δ → Prop} {Q : δ → Hp → Prop} {f : List D × Store → R (γ × Store)} {Q1 : List V → Hp → Prop} (sl : Slots K F r τ σ) (rp : Rep K m.cl F r M H) (h : PostG K m.cl PB F r Q m.W ((evA m.G a τ M).bind f))
    (k : ∀ d M' F' r' v H', Ext F r F' r' → Slots K F' r' τ σ → Dens K F' r' d v → Rep K m.cl F' r' M' H' → PostG K m.cl PB F' r' Q m.W (f (d, M')) → Q1 v H') : tA K m a σ H Q1 :=
  ⟨F, r, M, τ, sl, rp, PostG.bind h fun d M' F' r' v H' e q rp' h' => k d M' F' r' v H' e (sl.mono e) q rp' h'⟩
theorem tT.go {a : T} {γ δ : Type} {PB : Hp → List Addr → γ → δ → Prop} {Q : δ → Hp → Prop} {f : Bool × Store → R (γ × Store)} {Q1 : Bool → Hp → Prop} (sl : Slots K F r τ σ) (rp : Rep K m.cl F r M H) (h : PostG K m.cl PB F r Q m.W ((evT m.G a τ M).bind f))
    (k : ∀ d M' F' r' H', Ext F r F' r' → Slots K F' r' τ σ → Rep K m.cl F' r' M' H' → PostG K m.cl PB F' r' Q m.W (f (d, M')) → Q1 d H') : tT K m a σ H Q1 :=
  ⟨F, r, M, τ, sl, rp, PostG.bind h fun d M' F' r' v H' e q rp' h' => by cases q; exact k d M' F' r' H' e (sl.mono e) rp' h'⟩
theorem PostG.ofO {α γ δ : Type} {cl : Nat → Addr} {W : XK} {PB : Hp → List Addr → γ → δ → Prop} {Q : δ → Hp → Prop} {o : Option α} {f : α → R (γ × Store)} (h : PostG K cl PB F r Q W ((R.ofO o).bind f)) : ∃ a, o = some a ∧ PostG K cl PB F r Q W (f a) := by
  cases o with
  | none => exact h.elim
  | some a => exact ⟨a, rfl, h⟩
theorem PostG.now {α β : Type} {cl : Nat → Addr} {W : XK} {PB : Hp → List Addr → α → β → Prop} {Q : β → Hp → Prop} {d : α} {v : β} (h : PostG K cl PB F r Q W (.ok (d, M))) (R : Rep K cl F r M H) (q : PB F r d v) : Q v H := h F r v H Ext.refl q R

/-! ### expressions -/
theorem se_var {i : Nat} {x : Str} {pos : Pos} (hN : X.N[i]? = some x) (hv : Vis X.env.scope x) (hd : (x == ("__debug__" : Str)) = false := by decide) (hcd : (x == ("__classdict__" : Str)) = false := by decide) : SE X m (.v i) (.Name x pos) := by
  refine PEimp (pe_var hN hv hd hcd) fun σ H Q ⟨F, r, M, τ, sl, rp, h⟩ => ?_
  simp only [evE] at h
  split at h
  · rename_i d e
    obtain ⟨v, h1, h2⟩ := sl.get e
    exact ⟨v, h1, h.now rp h2⟩
  · exact h.elim
theorem se_c {d : D} {e : Expr} {v : V} (h : PE X e (tC v)) (hd : ∀ F r, Den X.K F r d v) : SE X m (.c d) e := by
  refine PEimp h fun σ H Q ⟨F, r, M, τ, sl, rp, h⟩ => ?_
  simp only [evE] at h
  exact h.now rp (hd F r)
theorem se_int {i : Int} {j pos} : SE X m (.c (.int i)) (.Constant (.int i) j pos) := se_c pe_int fun _ _ => .int i
theorem se_bl {i : Bool} {j pos} : SE X m (.c (.bl i)) (.Constant (.bool i) j pos) := se_c pe_bl fun _ _ => .bl i
theorem se_non {j pos} : SE X m (.c .non) (.Constant .none j pos) := se_c pe_non fun _ _ => .non
theorem se_str {i : Str} {j pos} (h : PyData.strOk i = true := by decide) : SE X m (.c (.str i)) (.Constant (.str i) j pos) := se_c pe_str fun _ _ => .str i h
theorem se_g {i : Nat} {d : D} {x : Str} {v : V} {u : Value} {pos : Pos} (hg : Gl X x) (hm : X.mg x = some u) (rv : RelV v u) (hi : m.G.con[i]? = some d) (hd : ∀ F r, Den X.K F r d v) (hdb : (x == ("__debug__" : Str)) = false := by decide) : SE X m (.g i) (.Name x pos) := by
  refine PEimp (pe_glob hg hm rv hdb) fun σ H Q ⟨F, r, M, τ, sl, rp, h⟩ => ?_
  simp only [evE, hi, R.ofO_some, R.bind_ok] at h
  exact h.now rp (hd F r)
variable {a b c : T} {ea eb ec : Expr} {pos : Pos}
theorem se_bin {op : BOp} {cell : Bool} (ha : SE X m a ea) (hb : SE X m b eb) : SE X m (.bin op cell a b) (.BinOp ea (bopE op) eb pos) := by
  obtain ⟨q, hop, hq⟩ := bin_ok (X := X) (cl := m.cl) op
  refine PEimp (pe_op hop ha hb) fun σ H Q ⟨F, r, M, τ, sl, rp, h⟩ => ?_
  simp only [evE] at h
  exact tE.go sl rp h fun d M1 F1 r1 v H1 e1 sl1 d1 rp1 h1 => tE.go sl1 rp1 h1 fun d2 M2 F2 r2 u H2 e2 sl2 d2' rp2 h2 => hq _ _ _ _ cell _ _ _ _ Q m.W rp2 (d1.mono e2) d2' (post_iff.mpr h2)
theorem se_neg (ha : SE X m a ea) : SE X m (.neg a) (.UnaryOp .USub ea pos) := by
  refine PEimp (pe_un un_neg ha) fun σ H Q ⟨F, r, M, τ, sl, rp, h⟩ => ?_
  simp only [evE] at h
  refine tE.go sl rp h fun d M1 F1 r1 v H1 e1 sl1 d1 rp1 h1 => ?_
  cases d with
  | int i => cases d1; exact ⟨i, rfl, h1.now rp1 (.int _)⟩
  | _ => exact h1.elim
theorem cmp_go {op : COp} {q : R2} (hq : ∀ (F : Hp) (r : List Addr) (M : Store) (H : Hp) (x y : D) (v u : V) (Q : VK) (b : Bool), Rep X.K m.cl F r M H → Den X.K F r x v → Den X.K F r y u → cmpD op M x y = some b → Q (.bl b) H → q v u H Q)
    {Q : VK} {H : Hp} {σ : L2.St} (h : tE X.K m (.cmp op a b) σ H Q) : tOp q (tE X.K m a) (tE X.K m b) σ H Q := by
  obtain ⟨F, r, M, τ, sl, rp, h⟩ := h
  simp only [evE] at h
  refine tE.go sl rp h fun d M1 F1 r1 v H1 e1 sl1 d1 rp1 h1 => tE.go sl1 rp1 h1 fun d2 M2 F2 r2 u H2 e2 sl2 d2' rp2 h2 => ?_
  obtain ⟨k, hk, h2⟩ := h2.ofO
  exact hq _ _ _ _ _ _ _ _ Q k rp2 (d1.mono e2) d2' hk (h2.now rp2 (.bl k))
theorem se_cmp {op : COp} (hu : X.A.units + 66 < cLine) (ha : SE X m a ea) (hb : SE X m b eb) (hm : behindInMarks (copE op) eb = false := by first | exact nobehind _ (by decide) (by decide) | rfl) : SE X m (.cmp op a b) (.Compare ea [copE op] [eb] pos) := by
  obtain ⟨q, hop, hq⟩ := cmp_ok (X := X) (cl := m.cl) hu op
  exact PEimp (pe_cmpR hop ha hb hm) fun σ H Q h => cmp_go hq h
theorem tru_bl {b : Bool} {M : Store} {x : D} (h : truD M x = some b) (v : V) (hv : ∃ k, v = .bl k) {F : Hp} {r : List Addr} (d : Den K F r x v) : v = .bl b := by
  obtain ⟨k, rfl⟩ := hv
  cases d
  simp only [truD, Option.some.injEq] at h
  rw [h]
/-- a test of a comparison -/
theorem st_of_bl {t : TE} {e : Expr} (h : PT X e (tTest t)) (ht : ∀ σ H Q, tE X.K m a σ H Q → t σ H Q) (hb : ∀ τ M x M', evE m.G a τ M = .ok (x, M') → ∃ k, x = .bl k) : ST X m (.tst a) e := by
  refine PTimp h fun σ H Q ⟨F, r, M, τ, sl, rp, h⟩ => ?_
  simp only [evT] at h
  refine ht _ _ _ ?_
  cases he : evE m.G a τ M with
  | ok y =>
    obtain ⟨k, hk⟩ := hb τ M y.1 y.2 he
    refine ⟨F, r, M, τ, sl, rp, ?_⟩
    rw [he] at h ⊢
    intro F' r' v H' e1 d1 rp1
    rw [hk] at d1
    cases d1
    have h := PostG.weak e1 h
    simp only [R.bind_ok, hk, truD, R.ofO_some] at h
    exact ⟨k, rfl, h.now rp1 rfl⟩
  | exc c fs M' => exact ⟨F, r, M, τ, sl, rp, by rw [he] at h ⊢; exact h⟩
  | stuck => rw [he] at h; exact h.elim
theorem bind_ok_inv {α β : Type} {x : R α} {f : α → R β} {y : β} (h : x.bind f = .ok y) : ∃ a, x = .ok a ∧ f a = .ok y := by
  cases x with
  | ok a => exact ⟨a, rfl, h⟩
  | exc c fs M => cases h
  | stuck => cases h
theorem cmp_bl {op : COp} {G : Gam} {τ : Tau} {M : Store} {x : D} {M' : Store} (h : evE G (.cmp op a b) τ M = .ok (x, M')) : ∃ k, x = .bl k := by
  simp only [evE] at h
  obtain ⟨u, _, h⟩ := bind_ok_inv h
  obtain ⟨w, _, h⟩ := bind_ok_inv h
  obtain ⟨k, _, h⟩ := bind_ok_inv h
  cases h
  exact ⟨k, rfl⟩
theorem st_cmp {op : COp} (hu : X.A.units + 66 < cLine) (ha : SE X m a ea) (hb : SE X m b eb) (hm : behindInMarks (copE op) eb = false := by first | exact nobehind _ (by decide) (by decide) | rfl) : ST X m (.tst (.cmp op a b)) (.Compare ea [copE op] [eb] pos) := by
  obtain ⟨q, hop, hq⟩ := cmp_ok (X := X) (cl := m.cl) hu op
  exact st_of_bl (pt_cmpR hop ha hb hm) (fun σ H Q h => cmp_go hq h) fun τ M x M' h => cmp_bl h
theorem chain_go {o1 o2 : COp} {q1 q2 : R2} (hq1 : ∀ (F : Hp) (r : List Addr) (M : Store) (H : Hp) (x y : D) (v u : V) (Q : VK) (b : Bool), Rep X.K m.cl F r M H → Den X.K F r x v → Den X.K F r y u → cmpD o1 M x y = some b → Q (.bl b) H → q1 v u H Q)
    (hq2 : ∀ (F : Hp) (r : List Addr) (M : Store) (H : Hp) (x y : D) (v u : V) (Q : VK) (b : Bool), Rep X.K m.cl F r M H → Den X.K F r x v → Den X.K F r y u → cmpD o2 M x y = some b → Q (.bl b) H → q2 v u H Q)
    {Q : VK} {H : Hp} {σ : L2.St} (h : tE X.K m (.chain o1 o2 a b c) σ H Q) : tChain q1 q2 (tE X.K m a) (tE X.K m b) (tE X.K m c) σ H Q := by
  obtain ⟨F, r, M, τ, sl, rp, h⟩ := h
  simp only [evE] at h
  refine tE.go sl rp h fun d M1 F1 r1 v H1 e1 sl1 d1 rp1 h1 => tE.go sl1 rp1 h1 fun d2 M2 F2 r2 u H2 e2 sl2 d2' rp2 h2 => ?_
  obtain ⟨k, hk, h2⟩ := h2.ofO
  refine hq1 _ _ _ _ _ _ _ _ _ k rp2 (d1.mono e2) d2' hk ⟨k, rfl, ?_⟩
  cases k with
  | false =>
    rw [if_neg (by decide)] at h2 ⊢
    exact h2.now rp2 (.bl false)
  | true =>
    rw [if_pos rfl] at h2 ⊢
    refine tE.go sl2 rp2 h2 fun d3 M3 F3 r3 w H3 e3 sl3 d3' rp3 h3 => ?_
    obtain ⟨l, hl, h3⟩ := h3.ofO
    exact hq2 _ _ _ _ _ _ _ _ _ l rp3 (d2'.mono e3) d3' hl (h3.now rp3 (.bl l))
theorem chain_bl {o1 o2 : COp} {G : Gam} {τ : Tau} {M : Store} {x : D} {M' : Store} (h : evE G (.chain o1 o2 a b c) τ M = .ok (x, M')) : ∃ k, x = .bl k := by
  simp only [evE] at h
  obtain ⟨u, _, h⟩ := bind_ok_inv h
  obtain ⟨w, _, h⟩ := bind_ok_inv h
  obtain ⟨k, _, h⟩ := bind_ok_inv h
  split at h
  · obtain ⟨u, _, h⟩ := bind_ok_inv h
    obtain ⟨k, _, h⟩ := bind_ok_inv h
    cases h
    exact ⟨k, rfl⟩
  · cases h
    exact ⟨_, rfl⟩
theorem se_chain {o1 o2 : COp} (hu : X.A.units + 66 < cLine) (ha : SE X m a ea) (hb : SE X m b eb) (hc : SE X m c ec) (hm : lastMarks [copE o1, copE o2] [eb, ec] = false := by with_unfolding_all rfl) : SE X m (.chain o1 o2 a b c) (.Compare ea [copE o1, copE o2] [eb, ec] pos) := by
  obtain ⟨q1, hop1, hq1⟩ := cmp_ok (X := X) (cl := m.cl) hu o1
  obtain ⟨q2, hop2, hq2⟩ := cmp_ok (X := X) (cl := m.cl) hu o2
  exact PEimp (pe_chain hop1 hop2 ha hb hc hm) fun σ H Q h => chain_go hq1 hq2 h
theorem st_chain {o1 o2 : COp} (hu : X.A.units + 66 < cLine) (ha : SE X m a ea) (hb : SE X m b eb) (hc : SE X m c ec) (hm : lastMarks [copE o1, copE o2] [eb, ec] = false := by with_unfolding_all rfl) : ST X m (.tst (.chain o1 o2 a b c)) (.Compare ea [copE o1, copE o2] [eb, ec] pos) := by
  obtain ⟨q1, hop1, hq1⟩ := cmp_ok (X := X) (cl := m.cl) hu o1
  obtain ⟨q2, hop2, hq2⟩ := cmp_ok (X := X) (cl := m.cl) hu o2
  exact st_of_bl (pt_chain hop1 hop2 ha hb hc hm) (fun σ H Q h => chain_go hq1 hq2 h) fun τ M x M' h => chain_bl h
theorem st_tst (ha : SE X m a ea) (he : ∀ whole, isTrue ea X.env whole = (do let v ← whole; standAt ea.pos; holding [v] (truthy v)) := by intro _; rfl) : ST X m (.tst a) ea := by
  refine PTimp (pt_truth ha he) fun σ H Q ⟨F, r, M, τ, sl, rp, h⟩ => ?_
  simp only [evT] at h
  refine tE.go sl rp h fun d M1 F1 r1 v H1 e1 sl1 d1 rp1 h1 => ?_
  obtain ⟨k, hk, h1⟩ := h1.ofO
  exact ⟨k, tru_den rp1 d1 hk, h1.now rp1 rfl⟩
theorem st_not (ha : ST X m a ea) : ST X m (.not_ a) (.UnaryOp .Not ea pos) := by
  refine PTimp (pt_not ha) fun σ H Q ⟨F, r, M, τ, sl, rp, h⟩ => ?_
  simp only [evT] at h
  exact tT.go sl rp h fun d M1 F1 r1 H1 e1 sl1 rp1 h1 => h1.now rp1 rfl
theorem sw_and1 (ha : ST X m a ea) : SW X m (.last a) (.BoolOp .And [ea] pos) := by
  refine PWimp (pw_and1 ha) fun σ H Q ⟨F, r, M, τ, sl, rp, h⟩ => ?_
  simp only [evT] at h
  exact ⟨F, r, M, τ, sl, rp, h⟩
theorem sw_or1 (ha : ST X m a ea) : SW X m (.last a) (.BoolOp .Or [ea] pos) := by
  refine PWimp (pw_or1 ha) fun σ H Q ⟨F, r, M, τ, sl, rp, h⟩ => ?_
  simp only [evT] at h
  exact ⟨F, r, M, τ, sl, rp, h⟩
theorem sw_and {rest : List Expr} (ha : ST X m a ea) (hb : SW X m b (.BoolOp .And (eb :: rest) pos)) : SW X m (.and_ a b) (.BoolOp .And (ea :: eb :: rest) pos) := by
  refine PWimp (pw_and ha hb) fun σ H Q ⟨F, r, M, τ, sl, rp, h⟩ => ?_
  simp only [evT] at h
  refine tT.go sl rp h fun d M1 F1 r1 H1 e1 sl1 rp1 h1 => ?_
  cases d with
  | true => rw [if_pos rfl] at h1 ⊢; exact ⟨F1, r1, M1, τ, sl1, rp1, h1⟩
  | false => rw [if_neg (by simp)] at h1 ⊢; exact h1.now rp1 rfl
theorem sw_or {rest : List Expr} (ha : ST X m a ea) (hb : SW X m b (.BoolOp .Or (eb :: rest) pos)) : SW X m (.or_ a b) (.BoolOp .Or (ea :: eb :: rest) pos) := by
  refine PWimp (pw_or ha hb) fun σ H Q ⟨F, r, M, τ, sl, rp, h⟩ => ?_
  simp only [evT] at h
  refine tT.go sl rp h fun d M1 F1 r1 H1 e1 sl1 rp1 h1 => ?_
  cases d with
  | true => rw [if_pos rfl] at h1 ⊢; exact h1.now rp1 rfl
  | false => rw [if_neg (by simp)] at h1 ⊢; exact ⟨F1, r1, M1, τ, sl1, rp1, h1⟩
theorem sw_pt (h : SW X m a ea) : ST X m a ea := PW.pt h
theorem se_one {op} (h : SE X m a ea) : SE X m (.last a) (.BoolOp op [ea] pos) := by
  refine PEimp (pe_one h) fun σ H Q ⟨F, r, M, τ, sl, rp, h⟩ => ?_
  simp only [evE] at h
  exact ⟨F, r, M, τ, sl, rp, h⟩
theorem se_and {rest : List Expr} (ha : SE X m a ea) (hb : SE X m b (.BoolOp .And (eb :: rest) pos)) : SE X m (.and_ a b) (.BoolOp .And (ea :: eb :: rest) pos) := by
  refine PEimp (pe_and ha hb) fun σ H Q ⟨F, r, M, τ, sl, rp, h⟩ => ?_
  simp only [evE] at h
  refine tE.go sl rp h fun d M1 F1 r1 v H1 e1 sl1 d1 rp1 h1 => ?_
  cases d with
  | bl k =>
    cases d1
    refine ⟨k, rfl, ?_⟩
    cases k with
    | true => rw [if_pos rfl]; exact ⟨F1, r1, M1, τ, sl1, rp1, h1⟩
    | false => rw [if_neg (by decide)]; exact h1.now rp1 (.bl false)
  | _ => exact h1.elim
theorem se_or {rest : List Expr} (ha : SE X m a ea) (hb : SE X m b (.BoolOp .Or (eb :: rest) pos)) : SE X m (.or_ a b) (.BoolOp .Or (ea :: eb :: rest) pos) := by
  refine PEimp (pe_or ha hb) fun σ H Q ⟨F, r, M, τ, sl, rp, h⟩ => ?_
  simp only [evE] at h
  refine tE.go sl rp h fun d M1 F1 r1 v H1 e1 sl1 d1 rp1 h1 => ?_
  cases d with
  | bl k =>
    cases d1
    refine ⟨k, rfl, ?_⟩
    cases k with
    | true => rw [if_pos rfl]; exact h1.now rp1 (.bl true)
    | false => rw [if_neg (by decide)]; exact ⟨F1, r1, M1, τ, sl1, rp1, h1⟩
  | _ => exact h1.elim
theorem se_not (ha : SE X m a ea) : SE X m (.not_ a) (.UnaryOp .Not ea pos) := by
  refine PEimp (pe_not ha) fun σ H Q ⟨F, r, M, τ, sl, rp, h⟩ => ?_
  simp only [evE] at h
  refine tE.go sl rp h fun d M1 F1 r1 v H1 e1 sl1 d1 rp1 h1 => ?_
  cases d with
  | bl k => cases d1; exact ⟨k, rfl, h1.now rp1 (.bl _)⟩
  | _ => exact h1.elim
theorem ix_dget (hu : X.A.units + 1 < cLine) : IxR X (fun x y H Q => ∃ a w, x = .ref a ∧ DGet H a y (some w) ∧ Q w H) := by
  intro value slice pins s σ H x y v u Q I rx ry h hs
  obtain ⟨a, w, rfl, g, q⟩ := h
  obtain rfl : v = Value.ref a := rx
  have hT := dict_typeIs I g
  unfold PyProof.Rows.subscriptTail
  refine wpAny_bind ?_
  rw [getitemInPython_of_ne hT.not_modules]
  refine wpAny_bind (wpAny_specialOf hT PySem.F.slot_dict_getitem.lookup ?_)
  have fin : wpAny (model X.prog X.w) X.A (subscripted slice false (.ref a) u) (fun r s₃ => wpAny (model X.prog X.w) X.A (letTemporaryGo value (.ref a) r >>= fun _ => pure r) (EP X pins σ Q) X.xe s₃) X.xe s := by
    rw [hs]
    exact wpAny_operating (wpAny_mono (d_getItem hu I g ry (Q := EP X pins σ Q) fun w' s3 I3 rw' => ⟨w, H, I3, rw', q⟩) (fun r s₃ h₃ => wpAny_bind (wpAny_letTemporaryGo (wpAny_pure h₃))) fun _ _ x => x)
  first
    | exact wpAny_pure (wpAny_bind fin)
    | exact wpAny_bind (wpAny_pure (wpAny_bind fin))
    | exact wpAny_bind fin
theorem se_ix (hu : X.A.units + 66 < cLine) (ha : SE X m a ea) (hb : SE X m b eb) (hs : PlainIx eb := by intro _ _; rfl) : SE X m (.ix a b) (.Subscript ea eb pos) := by
  refine PEimp (pe_ix (ix_seq.or (ix_dget (by omega))) ha hb hs) fun σ H Q ⟨F, r, M, τ, sl, rp, h⟩ => ?_
  simp only [evE] at h
  refine tE.go sl rp h fun d M1 F1 r1 v H1 e1 sl1 d1 rp1 h1 => tE.go sl1 rp1 h1 fun d2 M2 F2 r2 u H2 e2 sl2 d2' rp2 h2 => ?_
  obtain ⟨d, hd, h2⟩ := h2.ofO
  exact ix_den rp2 (d1.mono e2) d2' hd fun w hw => h2.now rp2 hw
theorem sa_nil : SA X m .anil [] := by
  refine PAimp pa_nil fun σ H Q ⟨F, r, M, τ, sl, rp, h⟩ => ?_
  simp only [evA] at h
  exact h.now rp .nil
theorem sa_cons {es : List Expr} (ha : SE X m a ea) (hb : SA X m b es) (hs : starEach (ea :: es) X.env = (false, eval ea X.env) :: starEach es X.env := by rfl) : SA X m (.acons a b) (ea :: es) := by
  refine PAimp (pa_cons ha hb hs) fun σ H Q ⟨F, r, M, τ, sl, rp, h⟩ => ?_
  simp only [evA] at h
  exact tE.go sl rp h fun d M1 F1 r1 v H1 e1 sl1 d1 rp1 h1 => tA.go sl1 rp1 h1 fun d2 M2 F2 r2 u H2 e2 sl2 d2' rp2 h2 => h2.now rp2 (.cons (d1.mono e2) d2')
theorem se_tup {es : List Expr} {x1} (ha : SA X m a es) : SE X m (.tup a) (.Tuple es x1 pos) := by
  refine PEimp (pe_tup ha) fun σ H Q ⟨F, r, M, τ, sl, rp, h⟩ => ?_
  simp only [evE] at h
  refine tA.go sl rp h fun d M1 F1 r1 v H1 e1 sl1 d1 rp1 h1 => ?_
  dsimp only at h1
  split at h1
  · rename_i hz
    exact ⟨by rw [← d1.length, ← big_line]; exact hz, fun p hp => (post_iff.mpr h1).newT rp1 hp d1⟩
  · exact h1.elim
theorem se_lst {es : List Expr} {cell : Bool} (ha : SA X m a es) : SE X m (.lst cell a) (.List es pos) := by
  refine PEimp (pe_lst ha) fun σ H Q ⟨F, r, M, τ, sl, rp, h⟩ => ?_
  simp only [evE] at h
  refine tA.go sl rp h fun d M1 F1 r1 v H1 e1 sl1 d1 rp1 h1 => ?_
  dsimp only at h1
  split at h1
  · rename_i hz
    exact ⟨by rw [← d1.length, ← big_line]; exact hz, fun p hp => (post_iff.mpr h1).newL rp1 hp d1⟩
  · exact h1.elim
theorem se_dnew {tk : Bool} : SE X m (.dnew tk) (.Dict [] [] pos) := by
  cases tk with
  | false =>
    refine PEimp pe_dnewK fun σ H Q ⟨F, r, M, τ, sl, rp, h⟩ => ?_
    simp only [evE] at h
    exact fun p hp => (post_iff.mpr h).newD rp hp (.k .nil)
  | true =>
    refine PEimp pe_dnewT fun σ H Q ⟨F, r, M, τ, sl, rp, h⟩ => ?_
    simp only [evE] at h
    exact fun p hp => (post_iff.mpr h).newD rp hp (.t .nil)
/-- a list that stays from now on (nothing runs) -/
theorem se_frz (ha : SE X m a ea) : SE X m (.frz a) ea := by
  refine PEimp ha fun σ H Q ⟨F, r, M, τ, sl, rp, h⟩ => ?_
  simp only [evE] at h
  refine ⟨F, r, M, τ, sl, rp, PostG.bind h fun d M1 F1 r1 v H1 e1 d1 rp1 h1 => ?_⟩
  dsimp only at h1
  cases d with
  | lst xs => exact h1.now rp1 d1
  | ref n =>
    dsimp only at h1
    split at h1
    · rename_i xs hm
      cases d1 with
      | @ref _ b hb =>
        obtain ⟨b', hb', cb⟩ := rp1.at_ n _ hm
        rw [hb] at hb'; cases hb'
        cases cb with
        | lst f hh d => exact h1 (upd F1 b (.lst _)) r1 (.ref b) H1 (ext_F f) (.lst upd_same (d.mono (ext_F f))) (rp1.freeze hm hb f hh d)
    · rename_i xs hm
      cases d1 with
      | @ref _ b hb =>
        obtain ⟨b', hb', cb⟩ := rp1.at_ n _ hm
        rw [hb] at hb'; cases hb'
        cases cb with
        | fz f d => exact h1.now rp1 (.lst f d)
    · exact h1.elim
  | _ => exact h1.elim
/-- what a function does, by its mirror -/
def spM (K : PySem.W.Frag) (cl : Nat → Addr) (mir : Mir) : Sp := fun vs H Q E => ∃ F r M ds, Rep K cl F r M H ∧ Dens K F r ds vs ∧ PostG K cl (Den K) F r Q E (mir ds M)
/-- a function of the text that may be called -/
structure FnIn (X : Cx) (CX : CXT) (k : Nat) (cl : Nat → Addr) (x : Str) (mir : Mir) : Prop where
  ex : ∃ (f : Addr) (fd : FuncData) (ps : List Str), FnOk X.prog X.w X.K X.mg X.base CX k f fd ps (spM X.K cl mir) ∧ X.mg x = some (.ref f) ∧ PySem.W.keepIn X.K (.ref f) = true ∧ Binds X.K fd ps []
theorem se_call {CX : CXT} {k : Nat} {f : Nat} {mir : Mir} {x : Str} {p : Pos} {e : Expr} {es : List Expr} (Fi : FnIn X CX k m.cl x mir) (hr : Room k X.A) (hx : Passes CX X m.W) (hg : Gl X x) (hf : m.G.fn[f]? = some mir) (ha : SA X m a (e :: es))
    (hdb : (x == ("__debug__" : Str)) = false := by decide) (he : starEach (e :: es) X.env = (false, eval e X.env) :: starEach es X.env := by rfl) (hpl : (backTo pos (starEach es X.env)).any (·.1) = false := by rfl) :
    SE X m (.call f a) (.Call (.Name x p) (e :: es) [] pos) := by
  obtain ⟨fa, fd, ps, F0, h1, h2, h3⟩ := Fi.ex
  refine PEimp (pe_call F0 hr hg h1 h2 h3 .nil hx ha hdb he hpl) fun σ H Q ⟨F, r, M, τ, sl, rp, h⟩ => ?_
  simp only [evE] at h
  refine tA.go sl rp h fun d M1 F1 r1 v H1 e1 sl1 d1 rp1 h1 => ?_
  rw [hf] at h1
  exact ⟨F1, r1, M1, d, rp1, by rw [List.append_nil]; exact d1, h1⟩
theorem se_call0 {CX : CXT} {k : Nat} {f : Nat} {mir : Mir} {x : Str} {p : Pos} (Fi : FnIn X CX k m.cl x mir) (hr : Room k X.A) (hx : Passes CX X m.W) (hg : Gl X x) (hf : m.G.fn[f]? = some mir)
    (hdb : (x == ("__debug__" : Str)) = false := by decide) : SE X m (.call f .anil) (.Call (.Name x p) [] [] pos) := by
  obtain ⟨fa, fd, ps, F0, h1, h2, h3⟩ := Fi.ex
  refine PEimp (pe_call0 F0 hr hg h1 h2 h3 .nil hx hdb) fun σ H Q ⟨F, r, M, τ, sl, rp, h⟩ => ?_
  simp only [evE, evA, R.bind_ok] at h
  rw [hf] at h
  exact ⟨F, r, M, [], rp, .nil, h⟩
def b1N : B1 → Str
  | .len => "len" | .abs => "abs" | .int => "int" | .str => "str" | .sorted => "sorted" | .sum => "sum" | .min => "min" | .max => "max"
  | .list => "list" | .tuple => "tuple" | .dict => "dict" | .all => "all" | .any => "any" | .bool => "bool"
def b2N : B2 → Str
  | .min => "min" | .max => "max" | .gcd => "gcd"
theorem b1_go {f : B1} {cell : Bool} {q : List V → Hp → VK → Prop} (hq : ∀ (F : Hp) (r : List Addr) (M : Store) (H : Hp) (cell : Bool) (x : D) (v : V) (Q : VK) (W : XK), Rep X.K m.cl F r M H → Den X.K F r x v → Post X.K m.cl F r Q W (b1D f cell x M) → q [v] H Q)
    {Q : VK} {H : Hp} {σ : L2.St} (h : tE X.K m (.b1 f cell a) σ H Q) : tCB q (tA X.K m (.acons a .anil)) σ H Q := by
  obtain ⟨F, r, M, τ, sl, rp, h⟩ := h
  simp only [evE] at h
  refine ⟨F, r, M, τ, sl, rp, ?_⟩
  simp only [evA, R.bind_ok]
  cases he : evE m.G a τ M with
  | ok x =>
    rw [he] at h
    rw [R.bind_ok]
    intro F' r' v H' e1 d1 rp1
    cases d1 with
    | cons d1 d2 =>
      cases d2
      exact hq _ _ _ _ cell _ _ _ m.W rp1 d1 (post_iff.mpr (PostG.weak e1 h))
  | exc c fs M' => rw [he] at h; exact h
  | stuck => rw [he] at h; exact h.elim
theorem se_b1 {f : B1} {cell : Bool} {p : Pos} (hc : X.calm = true) (hg : Gl X (b1N f)) (hm : X.mg (b1N f) = none) (ha : SE X m a ea)
    (he : starEach [ea] X.env = (false, eval ea X.env) :: starEach [] X.env := by rfl) :
    SE X m (.b1 f cell a) (.Call (.Name (b1N f) p) [ea] [] pos) := by
  obtain ⟨q, hcall, hq⟩ := b1_ok (X := X) (cl := m.cl) hc f
  have pa : PA X [ea] (tA X.K m (.acons a .anil)) := sa_cons ha sa_nil he
  have fin : ∀ σ H Q, tE X.K m (.b1 f cell a) σ H Q → tCB q (tA X.K m (.acons a .anil)) σ H Q := fun σ H Q h => b1_go hq h
  cases f <;> first
    | exact PEimp (pe_callB hcall hg hm (by decide +kernel) pa (by decide) (by decide) he rfl) fin
    | exact PEimp (pe_callTy hcall hg hm (by decide +kernel) pa (by decide) (by decide) he rfl) fin
theorem b2_go {f : B2} {q : List V → Hp → VK → Prop} (hq : ∀ (K : PySem.W.Frag) (F : Hp) (r : List Addr) (H : Hp) (x y d : D) (v u : V) (Q : VK), Den K F r x v → Den K F r y u → b2D f x y = some d → (∀ w, Den K F r d w → Q w H) → q [v, u] H Q)
    {Q : VK} {H : Hp} {σ : L2.St} (h : tE X.K m (.b2 f a b) σ H Q) : tCB q (tA X.K m (.acons a (.acons b .anil))) σ H Q := by
  obtain ⟨F, r, M, τ, sl, rp, h⟩ := h
  simp only [evE] at h
  refine ⟨F, r, M, τ, sl, rp, ?_⟩
  simp only [evA, R.bind_ok]
  cases he : evE m.G a τ M with
  | ok x =>
    rw [he, R.bind_ok] at h
    rw [R.bind_ok]
    cases he2 : evE m.G b τ x.2 with
    | ok y =>
      rw [he2, R.bind_ok] at h
      rw [R.bind_ok, R.bind_ok]
      obtain ⟨d, hd, h⟩ := h.ofO
      intro F' r' v H' e1 d1 rp1
      cases d1 with
      | cons d1 d2 =>
        cases d2 with
        | cons d2 d3 =>
          cases d3
          exact hq _ _ _ _ _ _ _ _ _ _ d1 d2 hd fun w hw => (PostG.weak e1 h).now rp1 hw
    | exc c fs M' => rw [he2] at h; exact h
    | stuck => rw [he2] at h; exact h.elim
  | exc c fs M' => rw [he] at h; exact h
  | stuck => rw [he] at h; exact h.elim
theorem se_b2 {f : B2} {p : Pos} (hc : X.calm = true) (hf : f ≠ .gcd) (hg : Gl X (b2N f)) (hm : X.mg (b2N f) = none) (ha : SE X m a ea) (hb : SE X m b eb)
    (he : starEach [ea, eb] X.env = (false, eval ea X.env) :: starEach [eb] X.env := by rfl) (he2 : starEach [eb] X.env = (false, eval eb X.env) :: starEach [] X.env := by rfl) (hpl : (backTo pos (starEach [eb] X.env)).any (·.1) = false := by rfl) :
    SE X m (.b2 f a b) (.Call (.Name (b2N f) p) [ea, eb] [] pos) := by
  obtain ⟨q, hcall, hq⟩ := b2_ok (X := X) hc f
  have pa : PA X [ea, eb] (tA X.K m (.acons a (.acons b .anil))) := sa_cons ha (sa_cons hb sa_nil he2) he
  have fin : ∀ σ H Q, tE X.K m (.b2 f a b) σ H Q → tCB q (tA X.K m (.acons a (.acons b .anil))) σ H Q := fun σ H Q h => b2_go hq h
  cases f
  · exact PEimp (pe_callB hcall hg hm (by decide +kernel) pa (by decide) (by decide) he hpl) fin
  · exact PEimp (pe_callB hcall hg hm (by decide +kernel) pa (by decide) (by decide) he hpl) fin
  · exact absurd rfl hf
theorem se_gcd {p : Pos} {x : Str} (hc : X.calm = true) (hg : Gl X x) (hm : X.mg x = some (.builtin "math.gcd")) (ha : SE X m a ea) (hb : SE X m b eb) (hdb : (x == ("__debug__" : Str)) = false := by decide)
    (he : starEach [ea, eb] X.env = (false, eval ea X.env) :: starEach [eb] X.env := by rfl) (he2 : starEach [eb] X.env = (false, eval eb X.env) :: starEach [] X.env := by rfl) (hpl : (backTo pos (starEach [eb] X.env)).any (·.1) = false := by rfl) :
    SE X m (.b2 .gcd a b) (.Call (.Name x p) [ea, eb] [] pos) := by
  obtain ⟨q, hcall, hq⟩ := b2_ok (X := X) hc .gcd
  have pa : PA X [ea, eb] (tA X.K m (.acons a (.acons b .anil))) := sa_cons ha (sa_cons hb sa_nil he2) he
  have fin : ∀ σ H Q, tE X.K m (.b2 .gcd a b) σ H Q → tCB q (tA X.K m (.acons a (.acons b .anil))) σ H Q := fun σ H Q h => b2_go hq h
  exact PEimp (pe_callBfun hcall hg hm pa hdb he hpl) fin
end
end PyD
end
section
set_option maxRecDepth 100000
set_option autoImplicit false
/-! PdG: locks, dropped cells, what is walked. -/
namespace PyD
open PySem PySem.Spec L2

/-! ### cells that nobody names are dropped -/
mutual
theorem D.bd_mono {m n : Nat} (h : m ≤ n) : ∀ {x : D}, x.bd m = true → x.bd n = true
  | .non, _ | .bl _, _ | .int _, _ | .str _, _ => rfl
  | .tup xs, q => by simp only [D.bd] at q ⊢; exact D.bdL_mono h q
  | .lst xs, q => by simp only [D.bd] at q ⊢; exact D.bdL_mono h q
  | .ref k, q => by simp only [D.bd, decide_eq_true_eq] at q ⊢; omega
theorem D.bdL_mono {m n : Nat} (h : m ≤ n) : ∀ {xs : List D}, D.bdL m xs = true → D.bdL n xs = true
  | [], _ => rfl
  | x :: xs, q => by
    simp only [D.bdL, Bool.and_eq_true] at q ⊢
    exact ⟨D.bd_mono h q.1, D.bdL_mono h q.2⟩
end
theorem Cell.bd_mono {m n : Nat} (h : m ≤ n) {c : Cell} (q : c.bd m = true) : c.bd n = true := by
  cases c <;> simp only [Cell.bd, List.all_eq_true, Bool.and_eq_true] at q ⊢ <;> first
    | exact fun x hx => D.bd_mono h (q x hx)
    | exact fun x hx => ⟨D.bd_mono h (q x hx).1, D.bd_mono h (q x hx).2⟩
    | trivial
section
variable {K : PySem.W.Frag} {cl : Nat → Addr} {F F' : Hp} {r r' : List Addr} {M M' : Store} {H H' : Hp} {a : Addr} {c : Cell} {n : Nat}
mutual
theorem Den.bd : ∀ {d : D} {v : V}, Den K F r d v → d.bd r.length = true
  | _, _, .non => rfl
  | _, _, .bl _ => rfl
  | _, _, .int _ => rfl
  | _, _, .str _ _ => rfl
  | _, _, .tup _ h => by simp only [D.bd]; exact Dens.bd h
  | _, _, .tupK _ _ h => by simp only [D.bd]; exact Dens.bd h
  | _, _, .lst _ h => by simp only [D.bd]; exact Dens.bd h
  | _, _, .ref h => by simp only [D.bd, decide_eq_true_eq]; exact (List.getElem?_eq_some_iff.mp h).1
theorem Dens.bd : ∀ {ds : List D} {vs : List V}, Dens K F r ds vs → D.bdL r.length ds = true
  | _, _, .nil => rfl
  | _, _, .cons h hs => by simp only [D.bdL, Den.bd h, Dens.bd hs, Bool.and_self]
end
mutual
theorem Den.take : ∀ {d : D} {v : V}, Den K F r d v → d.bd n = true → Den K F (r.take n) d v
  | _, _, .non, _ => .non
  | _, _, .bl b, _ => .bl b
  | _, _, .int i, _ => .int i
  | _, _, .str s h, _ => .str s h
  | _, _, .tup h hs, q => .tup h (Dens.take' hs (by simpa only [D.bd] using q))
  | _, _, .tupK h z hs, q => .tupK h z (Dens.take' hs (by simpa only [D.bd] using q))
  | _, _, .lst h hs, q => .lst h (Dens.take' hs (by simpa only [D.bd] using q))
  | _, _, .ref h, q => .ref (by
    simp only [D.bd, decide_eq_true_eq] at q
    rw [List.getElem?_take_of_lt q]; exact h)
theorem Dens.take' : ∀ {ds : List D} {vs : List V}, Dens K F r ds vs → D.bdL n ds = true → Dens K F (r.take n) ds vs
  | _, _, .nil, _ => .nil
  | _, _, .cons h hs, q => by
    simp only [D.bdL, Bool.and_eq_true] at q
    exact .cons (Den.take h q.1) (Dens.take' hs q.2)
end
theorem CellAt.bd (h : CellAt K cl F r H a c) : c.bd r.length = true := by
  have L : ∀ {ds : List D} {xs : List V}, Dens K F r ds xs → ∀ x ∈ ds, x.bd r.length = true := fun d => D.bdL_all.mp d.bd
  have kD' : ∀ k : Key, (kD k).bd r.length = true := fun k => by cases k <;> rfl
  have kT' : ∀ k : List Key, (kDT k).bd r.length = true := fun k => by
    simp only [kDT, D.bd]
    exact D.bdL_all.mpr fun x hx => by obtain ⟨k, _, rfl⟩ := List.mem_map.mp hx; exact kD' k
  have Dd : ∀ {tk : Bool} {kvs : List (D × D)} {o : HO}, DctO K F r tk kvs o → ∀ p ∈ kvs, p.1.bd r.length = true ∧ p.2.bd r.length = true := fun {tk kvs o} d => by
    cases d with
    | k d =>
      intro p hp
      obtain ⟨i, hi⟩ := List.getElem?_of_mem hp
      obtain ⟨q, _, h1, _, h3⟩ := Paired.getP d hi
      exact ⟨by rw [h1]; exact kD' _, h3.bd⟩
    | t d =>
      intro p hp
      obtain ⟨i, hi⟩ := List.getElem?_of_mem hp
      obtain ⟨q, _, h1, _, h3⟩ := Paired.getP d hi
      exact ⟨by rw [h1]; exact kT' _, h3.bd⟩
  cases h with
  | lst f h d => simp only [Cell.bd, List.all_eq_true]; exact L d
  | lkl f d => simp only [Cell.bd, List.all_eq_true]; exact L d
  | fz f d => simp only [Cell.bd, List.all_eq_true]; exact L d
  | dct f h d => simp only [Cell.bd, List.all_eq_true, Bool.and_eq_true]; exact Dd d
  | lkd f d => simp only [Cell.bd, List.all_eq_true, Bool.and_eq_true]; exact Dd d
  | scr h => rfl
  | ins f h d =>
    simp only [Cell.bd, List.all_eq_true]
    intro p hp
    obtain ⟨i, hi⟩ := List.getElem?_of_mem hp
    obtain ⟨q, _, _, h3⟩ := Paired.getP d hi
    exact h3.bd
theorem Paired.mapM {α β : Type} {P Q : α → β → Prop} : ∀ {xs : List α} {ys : List β}, Paired P xs ys → (∀ x y, x ∈ xs → P x y → Q x y) → Paired Q xs ys
  | _, _, .nil, _ => .nil
  | _, _, .cons p t, h => .cons (h _ _ List.mem_cons_self p) (Paired.mapM t fun x y hx => h x y (List.mem_cons_of_mem _ hx))
theorem DctO.take {tk : Bool} {kvs : List (D × D)} {o : HO} (d : DctO K F r tk kvs o) (q : ∀ p ∈ kvs, p.1.bd n = true ∧ p.2.bd n = true) : DctO K F (r.take n) tk kvs o := by
  cases d with
  | k d => exact .k (Paired.mapM d fun x y hx h => ⟨h.1, h.2.1, h.2.2.take (q x hx).2⟩)
  | t d => exact .t (Paired.mapM d fun x y hx h => ⟨h.1, h.2.1, h.2.2.take (q x hx).2⟩)
theorem CellAt.take (h : CellAt K cl F r H a c) (q : c.bd n = true) : CellAt K cl F (r.take n) H a c := by
  cases h with
  | lst f h d => exact .lst f h (d.take' (D.bdL_all.mpr (by simpa only [Cell.bd, List.all_eq_true] using q)))
  | lkl f d => exact .lkl f (d.take' (D.bdL_all.mpr (by simpa only [Cell.bd, List.all_eq_true] using q)))
  | fz f d => exact .fz f (d.take' (D.bdL_all.mpr (by simpa only [Cell.bd, List.all_eq_true] using q)))
  | dct f h d => exact .dct f h (d.take (by simpa only [Cell.bd, List.all_eq_true, Bool.and_eq_true] using q))
  | lkd f d => exact .lkd f (d.take (by simpa only [Cell.bd, List.all_eq_true, Bool.and_eq_true] using q))
  | scr h => exact .scr h
  | ins f h d =>
    simp only [Cell.bd, List.all_eq_true] at q
    exact .ins f h (Paired.mapM d fun x y hx z => ⟨z.1, z.2.take (q x hx)⟩)
theorem okC_get : ∀ {M L : Store} {i : Nat} {c : Cell}, okC n M L = true → L[i]? = some c → M[i]? = some c ∨ c.bd n = true
  | _, [], i, c, _, e => by simp at e
  | [], c' :: L, 0, c, h, e => by
    simp only [okC, Bool.and_eq_true] at h
    simp at e; subst e; exact .inr h.1
  | [], c' :: L, i + 1, c, h, e => by
    simp only [okC, Bool.and_eq_true] at h
    rcases okC_get (i := i) h.2 (by simpa using e) with z | z
    · simp at z
    · exact .inr z
  | m :: M, c' :: L, 0, c, h, e => by
    simp only [okC, Bool.and_eq_true, Bool.or_eq_true, decide_eq_true_eq] at h
    simp at e; subst e
    rcases h.1 with z | z
    · subst z; exact .inl rfl
    · exact .inr z
  | m :: M, c' :: L, i + 1, c, h, e => by
    simp only [okC, Bool.and_eq_true] at h
    rcases okC_get (i := i) h.2 (by simpa using e) with z | z
    · exact .inl (by simpa using z)
    · exact .inr z
theorem Rep.trim (R : Rep K cl F r M H) (e : Ext F r F' r') (R' : Rep K cl F' r' M' H') (hn : M.length ≤ n) (hk : okC n M (M'.take n) = true) : Rep K cl F' (r'.take n) (M'.take n) H' ∧ Ext F r F' (r'.take n) := by
  have up : ∀ {α : Type} {l : List α} {i : Nat} {x : α}, (l.take n)[i]? = some x → l[i]? = some x ∧ i < n := fun {α l i x} q => by
    have hi : i < n := by
      have := (List.getElem?_eq_some_iff.mp q).1
      simp at this; omega
    rw [List.getElem?_take_of_lt hi] at q
    exact ⟨q, hi⟩
  refine ⟨⟨R'.fr, by simp [R'.len], fun m k a c c' h1 h2 e1 e2 => R'.nd m k a c c' (up h1).1 (up h2).1 (up e1).1 (up e2).1, fun i c q => ?_⟩, e.fr, fun i a q => ?_⟩
  · obtain ⟨q1, q2⟩ := up q
    obtain ⟨b, hb, cb⟩ := R'.at_ i c q1
    refine ⟨b, by rw [List.getElem?_take_of_lt q2]; exact hb, cb.take ?_⟩
    rcases okC_get hk q with z | z
    · obtain ⟨_, _, cz⟩ := R.at_ i c z
      have := cz.bd
      rw [R.len] at this
      exact Cell.bd_mono hn this
    · exact z
  · have hi : i < n := by
      have := (List.getElem?_eq_some_iff.mp q).1
      rw [R.len] at this; omega
    rw [List.getElem?_take_of_lt hi]
    exact e.pre _ _ q

/-! ### locks -/
/-- a list's cell (its list ds) or a dict's; the heap's thing u -/
inductive Lck (K : PySem.W.Frag) (F : Hp) (r : List Addr) : Cell → Cell → HO → Prop
  | l {ds : List D} {xs : List V} : Dens K F r ds xs → Lck K F r (.lst ds) (.lkl ds) (.lst xs)
  | d {tk : Bool} {kvs : List (D × D)} {o : HO} : DctO K F r tk kvs o → Lck K F r (.dct tk kvs) (.lkd tk kvs) o
theorem Lck.mono (e : Ext F r F' r') {c c' : Cell} {u : HO} (h : Lck K F r c c' u) : Lck K F' r' c c' u := by
  cases h with
  | l h => exact .l (h.mono e)
  | d h => exact .d (h.mono e)
theorem Lck.mut {c c' : Cell} {u : HO} (h : Lck K F r c c' u) : Mut (some u) := by
  cases h with
  | l h => exact trivial
  | d h => cases h <;> exact trivial
theorem Rep.lock (R : Rep K cl F r M H) {c' : Cell} {u : HO} (h0 : M[n]? = some c) (ha : r[n]? = some a) (hF : F a = none) (hH : H a = some u) (L : Lck K F r c c' u) (od : Obj) :
    Rep K cl (upd F a (.frz od u)) r (M.set n c') (upd H a (.frz od u)) := by
  have hs : c.isScr = false := by cases L <;> rfl
  have ex : Ext F r (upd F a (.frz od u)) r := ext_F hF
  refine ⟨fun b w e => ?_, by simp [R.len], R.nd_set h0 hs, fun m c2 e => ?_⟩
  · by_cases hb : b = a
    · subst hb; rw [upd_same] at e ⊢; exact e
    · rw [upd_ne hb] at e ⊢; exact R.fr _ _ e
  · by_cases hm : m = n
    · subst hm
      rw [List.getElem?_set_self (List.getElem?_eq_some_iff.mp h0).1] at e
      cases e
      refine ⟨a, ha, ?_⟩
      cases L with
      | l d => exact .lkl upd_same (d.mono ex)
      | d d => exact .lkd upd_same (d.mono ex)
    · rw [List.getElem?_set_ne (Ne.symm hm)] at e
      obtain ⟨b, hb, cb⟩ := R.at_ m c2 e
      exact ⟨b, hb, cb.mono ex (fun hs' q => by rw [upd_ne (R.other h0 hs ha hm e hb hs')]; exact q) fun hs' w q => by rw [upd_ne (R.other h0 hs ha hm e hb hs')]; exact q⟩
/-- the lock is taken off: the fixed part without it -/
def offF (F : Hp) (a : Addr) : Hp := fun b => if b = a then none else F b
theorem offF_ne {b : Addr} (h : b ≠ a) : offF F a b = F b := if_neg h
theorem offF_eq : offF F a a = none := if_pos rfl
section
variable {od : Obj} {u : HO}
mutual
theorem Den.off (hF : F a = some (.frz od u)) : ∀ {d : D} {v : V}, Den K F r d v → Den K (offF F a) r d v
  | _, _, .non => .non
  | _, _, .bl b => .bl b
  | _, _, .int i => .int i
  | _, _, .str s h => .str s h
  | _, _, .tup h hs => .tup (by rw [offF_ne (fun z => by rw [z, hF] at h; cases h)]; exact h) (Dens.off hF hs)
  | _, _, .tupK h z hs => .tupK h z (Dens.off hF hs)
  | _, _, .lst h hs => .lst (by rw [offF_ne (fun z => by rw [z, hF] at h; cases h)]; exact h) (Dens.off hF hs)
  | _, _, .ref h => .ref h
theorem Dens.off (hF : F a = some (.frz od u)) : ∀ {ds : List D} {vs : List V}, Dens K F r ds vs → Dens K (offF F a) r ds vs
  | _, _, .nil => .nil
  | _, _, .cons h hs => .cons (Den.off hF h) (Dens.off hF hs)
end
theorem DctO.off (hF : F a = some (.frz od u)) {tk : Bool} {kvs : List (D × D)} {o : HO} (d : DctO K F r tk kvs o) : DctO K (offF F a) r tk kvs o := by
  cases d with
  | k d => exact .k (Paired.mapP d fun x y h => ⟨h.1, h.2.1, h.2.2.off hF⟩)
  | t d => exact .t (Paired.mapP d fun x y h => ⟨h.1, h.2.1, h.2.2.off hF⟩)
theorem FsD.off (hF : F a = some (.frz od u)) {fs : List (Str × D)} {fv : List (Str × V)} (d : FsD K F r fs fv) : FsD K (offF F a) r fs fv := Paired.mapP d fun x y h => ⟨h.1, h.2.off hF⟩
theorem CellAt.off (hF : F a = some (.frz od u)) {b : Addr} (hb : c.isScr = false → b ≠ a) (h : CellAt K cl F r H b c) : CellAt K cl (offF F a) r (upd H a u) b c := by
  cases h with
  | lst f h d => exact .lst (by rw [offF_ne (hb rfl)]; exact f) (by rw [upd_ne (hb rfl)]; exact h) (d.off hF)
  | lkl f d => exact .lkl (by rw [offF_ne (hb rfl)]; exact f) (d.off hF)
  | fz f d => exact .fz (by rw [offF_ne (hb rfl)]; exact f) (d.off hF)
  | dct f h d => exact .dct (by rw [offF_ne (hb rfl)]; exact f) (by rw [upd_ne (hb rfl)]; exact h) (d.off hF)
  | lkd f d => exact .lkd (by rw [offF_ne (hb rfl)]; exact f) (d.off hF)
  | scr h => exact .scr (h.elim (fun h => .inl (by rw [offF_ne (fun z => by rw [z, hF] at h; cases h)]; exact h)) .inr)
  | ins f h d => exact .ins (by rw [offF_ne (hb rfl)]; exact f) (by rw [upd_ne (hb rfl)]; exact h) (FsD.off hF d)
theorem Ext.off (e : Ext F r F' r') (hF : F a = none) : Ext F r (offF F' a) r' := ⟨fun b o q => by rw [offF_ne (ne_of_none q hF)]; exact e.fr _ _ q, e.pre⟩
/-- unlocked -/
theorem Rep.unlock (R : Rep K cl F r M H) (hF : F a = some (.frz od u)) (ha : r[n]? = some a) {N : Store} (hN : unlockN (some n) M = some N) : Rep K cl (offF F a) r N (upd H a u) ∧ ∃ c c', M[n]? = some c' ∧ N = M.set n c ∧ Lck K (offF F a) r c c' u := by
  have key : ∀ c c', M[n]? = some c' → N = M.set n c → (CellAt K cl F r H a c' → Lck K (offF F a) r c c' u) → (Lck K (offF F a) r c c' u → CellAt K cl (offF F a) r (upd H a u) a c) → c'.isScr = false →
      Rep K cl (offF F a) r N (upd H a u) ∧ ∃ c c', M[n]? = some c' ∧ N = M.set n c ∧ Lck K (offF F a) r c c' u := fun c c' h0 eN h1 h2 hs => by
    obtain ⟨b, hb, cb⟩ := R.at_ n c' h0
    rw [ha] at hb; cases hb
    have L := h1 cb
    refine ⟨⟨fun b w e => ?_, by rw [eN]; simp [R.len], by rw [eN]; exact R.nd_set h0 hs, fun m c2 e => ?_⟩, c, c', h0, eN, L⟩
    · have hb : b ≠ a := fun z => by rw [z, offF_eq] at e; cases e
      rw [offF_ne hb] at e
      rw [upd_ne hb]; exact R.fr _ _ e
    · rw [eN] at e
      by_cases hm : m = n
      · subst hm
        rw [List.getElem?_set_self (List.getElem?_eq_some_iff.mp h0).1] at e
        cases e
        exact ⟨a, ha, h2 L⟩
      · rw [List.getElem?_set_ne (Ne.symm hm)] at e
        obtain ⟨b, hb, cb⟩ := R.at_ m c2 e
        exact ⟨b, hb, cb.off hF fun hs' => R.other h0 hs ha hm e hb hs'⟩
  cases hm : M[n]? with
  | none => simp [unlockN, hm] at hN
  | some c' =>
    cases c' with
    | lkl ds =>
      simp only [unlockN, hm, Option.some.injEq] at hN
      rw [← hm]
      refine key (.lst ds) (.lkl ds) hm hN.symm (fun cb => ?_) (fun L => ?_) rfl
      · cases cb with
        | lkl f d => rw [hF] at f; cases f; exact .l (d.off hF)
      · cases L with
        | l d => exact .lst offF_eq upd_same d
    | lkd tk kvs =>
      simp only [unlockN, hm, Option.some.injEq] at hN
      rw [← hm]
      refine key (.dct tk kvs) (.lkd tk kvs) hm hN.symm (fun cb => ?_) (fun L => ?_) rfl
      · cases cb with
        | lkd f d => rw [hF] at f; cases f; exact .d (d.off hF)
      · cases L with
        | d d => exact .dct offF_eq upd_same d
    | _ => simp [unlockN, hm] at hN
end
end

/-! ### what is walked -/
/-- the iterator yields these -/
def Yl (K : PySem.W.Frag) (F : Hp) (r : List Addr) (ds : List D) (J : It) : Prop := ∀ F' r' H' i, Ext F r F' r' → (∀ a o, F' a = some o → H' a = some o) →
  (ds.length ≤ i → J.stop i H') ∧ ∀ d, ds[i]? = some d → J.go i H' ∧ ∀ x H'', J.yld i H' x H'' → H'' = H' ∧ Den K F' r' d x
def tI (K : PySem.W.Frag) (m : Md) (T : T) : TI := fun σ H R => ∃ F r M τ, Slots K F r τ σ ∧ Rep K m.cl F r M H ∧ (∀ ds n M', evI m.G T τ M ≠ .ok ((ds, some n), M')) ∧
  PostG K m.cl (fun F r (a : List D × Option Nat) J => Yl K F r a.1 J) F r R m.W (evI m.G T τ M)
def SI (X : Cx) (m : Md) (tg : Expr) (T : T) (e : Expr) : Prop := PI X tg e (tI X.K m T)
section
variable {X : Cx} {m : Md} {tg : Expr} {a b : T} {ea eb : Expr} {pos : Pos} {K : PySem.W.Frag} {F : Hp} {r : List Addr}
theorem PIimp {e : Expr} {t t' : TI} (h : PI X tg e t) (i : ∀ σ H Q, t' σ H Q → t σ H Q) : PI X tg e t' := ⟨fun pins s σ H Q I q => h.run pins s σ H Q I (i σ H Q q)⟩
theorem PIor {e : Expr} {t t' : TI} (h : PI X tg e t) (h' : PI X tg e t') : PI X tg e (fun σ H Q => t σ H Q ∨ t' σ H Q) := ⟨fun pins s σ H Q I q => q.elim (h.run pins s σ H Q I) (h'.run pins s σ H Q I)⟩
theorem yl_rng {lo hi : Int} : Yl K F r (rngL lo hi) (Itr lo (hi - lo).toNat) := by
  intro F' r' H' i e hf
  refine ⟨fun h => ?_, fun d hd => ?_⟩
  · show (hi - lo).toNat ≤ i
    unfold rngL at h
    rw [List.length_map, List.length_range] at h
    exact h
  · unfold rngL at hd
    rw [List.getElem?_map] at hd
    obtain ⟨j, hj, rfl⟩ := Option.map_eq_some_iff.mp hd
    obtain ⟨h1, h2⟩ := List.getElem?_eq_some_iff.mp hj
    simp at h1 h2
    subst h2
    refine ⟨by show i < _; omega, fun x H'' hx => ?_⟩
    obtain ⟨rfl, rfl⟩ := hx
    exact ⟨rfl, .int _⟩
theorem yl_list {ad : Addr} {ds : List D} {vs : List V} (hs : ∀ F' r' H', Ext F r F' r' → (∀ a o, F' a = some o → H' a = some o) → SqL K H' ad vs) (hd : Dens K F r ds vs) : Yl K F r ds (Itl K ad) := by
  intro F' r' H' i e hf
  have h := hs F' r' H' e hf
  refine ⟨fun z => ⟨vs, h, by rw [← hd.length]; exact z⟩, fun d z => ?_⟩
  obtain ⟨v, h1, h2⟩ := hd.get z
  refine ⟨⟨vs, v, h, h1⟩, fun x H'' hx => ?_⟩
  obtain ⟨rfl, hx⟩ := hx
  have := hx vs h
  rw [h1] at this; cases this
  exact ⟨rfl, h2.mono e⟩
theorem yl_tup {ad : Addr} {ds : List D} {vs : List V} (hs : ∀ F' r' H', Ext F r F' r' → (∀ a o, F' a = some o → H' a = some o) → SqT K H' ad vs) (hd : Dens K F r ds vs) : Yl K F r ds (Itt K ad) := by
  intro F' r' H' i e hf
  have h := hs F' r' H' e hf
  refine ⟨fun z => ⟨vs, h, by rw [← hd.length]; exact z⟩, fun d z => ?_⟩
  obtain ⟨v, h1, h2⟩ := hd.get z
  refine ⟨⟨vs, v, h, h1⟩, fun x H'' hx => ?_⟩
  obtain ⟨rfl, hx⟩ := hx
  have := hx vs h
  rw [h1] at this; cases this
  exact ⟨rfl, h2.mono e⟩
theorem yl_str {s : Str} (ok : PyData.strOk s = true) : Yl K F r (s.cps.toList.map fun c => .str ⟨#[c]⟩) (Its s) := by
  intro F' r' H' i e hf
  refine ⟨fun z => by show s.cps.size ≤ i; simpa using z, fun d z => ?_⟩
  rw [List.getElem?_map] at z
  obtain ⟨c, hc, rfl⟩ := Option.map_eq_some_iff.mp z
  have hc' : s.cps[i]? = some c := by simpa using hc
  refine ⟨(Array.getElem?_eq_some_iff.mp hc').1, fun x H'' hx => ?_⟩
  obtain ⟨rfl, c', h1, rfl⟩ := hx
  rw [hc'] at h1; cases h1
  refine ⟨rfl, .str _ ?_⟩
  unfold PyData.strOk at ok ⊢
  rw [← Array.all_toList] at ok
  have := List.all_eq_true.mp ok c (List.mem_of_getElem? hc)
  simpa using this
theorem yl_keys {ad : Addr} {od : Obj} {kvs : List (D × D)} {ks : List (Key × V)} (hf0 : F ad = some (.frz od (.dK ks))) (hd : KsD X.K F r kvs ks) : Yl X.K F r (kvs.map (·.1)) (Itk ad od ks) := by
  intro F' r' H' i e hf
  have h := hf _ _ (e.fr _ _ hf0)
  have kk := keys_kV hd
  refine ⟨fun z => ⟨h, by have := kk.length; simp at this z; omega⟩, fun d z => ?_⟩
  obtain ⟨v, h1, h2⟩ := kk.get z
  rw [List.getElem?_map] at h1
  obtain ⟨kv, h3, rfl⟩ := Option.map_eq_some_iff.mp h1
  refine ⟨⟨h, (List.getElem?_eq_some_iff.mp h3).1⟩, fun x H'' hx => ?_⟩
  obtain ⟨rfl, k, w, h4, rfl⟩ := hx
  rw [h3] at h4; cases h4
  exact ⟨rfl, h2.mono e⟩
theorem si_rng1 {p : Pos} (hg : Gl X "range") (hm : X.mg "range" = none) (ha : SE X m a ea) (hs : starEach [ea] X.env = [(false, eval ea X.env)] := by rfl) : SI X m tg (.rng1 a) (.Call (.Name "range" p) [ea] [] pos) := by
  refine PIimp (pi_range1 hg hm (sa_cons ha sa_nil (by rw [hs]; rfl)) hs) fun σ H Q ⟨F, r, M, τ, sl, rp, _, h⟩ => ?_
  simp only [evI] at h
  refine ⟨F, r, M, τ, sl, rp, ?_⟩
  simp only [evA, R.bind_ok]
  cases he : evE m.G a τ M with
  | stuck => rw [he] at h; exact h.elim
  | exc c fs M' => rw [he] at h; exact h
  | ok x =>
    rw [he] at h
    rw [R.bind_ok] at h ⊢
    obtain ⟨d, M'⟩ := x
    cases d with
    | int j =>
      dsimp only at h
      split at h
      · rename_i hz
        simp only [rngOk_eq, Bool.and_eq_true, decide_eq_true_eq] at hz
        intro F' r' v H' e1 d1 rp1
        cases d1 with
        | cons d1 d2 =>
          cases d2
          cases d1
          refine ⟨j, rfl, hz.1, hz.2, ?_⟩
          have := PostG.weak e1 h
          exact this.now rp1 (by have := yl_rng (K := X.K) (F := F') (r := r') (lo := 0) (hi := j); simpa using this)
      · exact h.elim
    | _ => exact h.elim
theorem si_rng2 {p : Pos} (hg : Gl X "range") (hm : X.mg "range" = none) (ha : SE X m a ea) (hb : SE X m b eb) (hs : starEach [ea, eb] X.env = [(false, eval ea X.env), (false, eval eb X.env)] := by rfl) (hs2 : starEach [eb] X.env = [(false, eval eb X.env)] := by rfl) :
    SI X m tg (.rng2 a b) (.Call (.Name "range" p) [ea, eb] [] pos) := by
  refine PIimp (pi_range2 hg hm (sa_cons ha (sa_cons hb sa_nil (by rw [hs2]; rfl)) (by rw [hs, hs2])) hs hs2) fun σ H Q ⟨F, r, M, τ, sl, rp, _, h⟩ => ?_
  simp only [evI] at h
  refine ⟨F, r, M, τ, sl, rp, ?_⟩
  simp only [evA, R.bind_ok]
  cases he : evE m.G a τ M with
  | stuck => rw [he] at h; exact h.elim
  | exc c fs M' => rw [he] at h; exact h
  | ok x =>
    rw [he] at h
    rw [R.bind_ok] at h ⊢
    cases he2 : evE m.G b τ x.2 with
    | stuck => rw [he2] at h; exact h.elim
    | exc c fs M' => rw [he2] at h; exact h
    | ok y =>
      rw [he2] at h
      rw [R.bind_ok] at h ⊢
      obtain ⟨d, M1⟩ := x
      obtain ⟨d2, M2⟩ := y
      cases d with
      | int i =>
        cases d2 with
        | int j =>
          dsimp only at h
          split at h
          · rename_i hz
            simp only [rngOk_eq, Bool.and_eq_true, decide_eq_true_eq] at hz
            intro F' r' v H' e1 d1 rp1
            cases d1 with
            | cons d1 d2 =>
              cases d2 with
              | cons d2 d3 =>
                cases d3
                cases d1
                cases d2
                refine ⟨i, j, rfl, ⟨hz.1.1, hz.1.2, hz.2.1, hz.2.2⟩, ?_⟩
                exact (PostG.weak e1 h).now rp1 yl_rng
          · exact h.elim
        | _ => exact h.elim
      | _ => cases d2 <;> exact h.elim
theorem tE.of_ok {T : T} {M M' : Store} {τ : Tau} {H : Hp} {σ : L2.St} {d : D} {Q : VK} (sl : Slots K F r τ σ) (rp : Rep K m.cl F r M H) (he : evE m.G T τ M = .ok (d, M')) (k : ∀ F' r' v H', Ext F r F' r' → Den K F' r' d v → Rep K m.cl F' r' M' H' → Q v H') : tE K m T σ H Q :=
  ⟨F, r, M, τ, sl, rp, by rw [he]; exact k⟩
theorem si_wd (ha : SE X m a ea) : SI X m tg (.wd a) ea := by
  refine PIimp (PIor (pi_list ha) (PIor (pi_tup ha) (PIor (pi_str ha) (pi_keys ha)))) fun σ H Q ⟨F, r, M, τ, sl, rp, nl, h⟩ => ?_
  simp only [evI] at h nl
  cases he : evE m.G a τ M with
  | stuck => rw [he] at h; exact h.elim
  | exc c fs M' => exact .inl ⟨F, r, M, τ, sl, rp, by rw [he] at h ⊢; exact h⟩
  | ok x =>
    rw [he] at h
    rw [he] at nl
    rw [R.bind_ok] at h
    simp only [R.bind_ok] at nl
    obtain ⟨d, M'⟩ := x
    cases d with
    | str s =>
      refine .inr (.inr (.inl (tE.of_ok sl rp he fun F' r' v H' e d1 rp1 => ?_)))
      cases d1 with
      | str _ hs => exact ⟨s, rfl, (PostG.weak e h).now rp1 (yl_str hs)⟩
    | tup ts =>
      refine .inr (.inl (tE.of_ok sl rp he fun F' r' v H' e d1 rp1 => ?_))
      cases d1 with
      | @tup _ ad vs h1 hd => exact ⟨ad, rfl, ⟨vs, SqT.of (rp1.fr _ _ h1)⟩, (PostG.weak e h).now rp1 (yl_tup (fun F2 r2 H2 e2 hf => SqT.of (hf _ _ (e2.fr _ _ h1))) hd)⟩
      | @tupK _ ad vs h1 _ hd => exact ⟨ad, rfl, ⟨vs, .inr h1⟩, (PostG.weak e h).now rp1 (yl_tup (fun F2 r2 H2 e2 hf => .inr h1) hd)⟩
    | lst ts =>
      refine .inl (tE.of_ok sl rp he fun F' r' v H' e d1 rp1 => ?_)
      cases d1 with
      | @lst _ ad vs h1 hd => exact ⟨ad, rfl, ⟨vs, SqL.of (rp1.fr _ _ h1)⟩, (PostG.weak e h).now rp1 (yl_list (fun F2 r2 H2 e2 hf => SqL.of (hf _ _ (e2.fr _ _ h1))) hd)⟩
    | ref n =>
      cases hm : M'[n]? with
      | none => simp only [hm] at h; exact h.elim
      | some c =>
        simp only [hm] at h nl
        cases c with
        | fz ts =>
          refine .inl (tE.of_ok sl rp he fun F' r' v H' e d1 rp1 => ?_)
          cases d1 with
          | @ref _ ad hr =>
            obtain ⟨b, hb, cb⟩ := rp1.at_ n _ hm
            rw [hr] at hb; cases hb
            cases cb with
            | fz f hd => exact ⟨ad, rfl, ⟨_, SqL.of (rp1.fr _ _ f)⟩, (PostG.weak e h).now rp1 (yl_list (fun F2 r2 H2 e2 hf => SqL.of (hf _ _ (e2.fr _ _ f))) hd)⟩
        | lkl ts =>
          refine .inl (tE.of_ok sl rp he fun F' r' v H' e d1 rp1 => ?_)
          cases d1 with
          | @ref _ ad hr =>
            obtain ⟨b, hb, cb⟩ := rp1.at_ n _ hm
            rw [hr] at hb; cases hb
            cases cb with
            | lkl f hd => exact ⟨ad, rfl, ⟨_, .inl (.inr ⟨_, rp1.fr _ _ f⟩)⟩, (PostG.weak e h).now rp1 (yl_list (fun F2 r2 H2 e2 hf => .inl (.inr ⟨_, hf _ _ (e2.fr _ _ f)⟩)) hd)⟩
        | scr ns =>
          refine .inl (tE.of_ok sl rp he fun F' r' v H' e d1 rp1 => ?_)
          cases d1 with
          | @ref _ ad hr =>
            obtain ⟨b, hb, cb⟩ := rp1.at_ n _ hm
            rw [hr] at hb; cases hb
            cases cb with
            | scr f => exact ⟨ad, rfl, ⟨_, f.sq rp1.fr⟩, (PostG.weak e h).now rp1 (yl_list (fun F2 r2 H2 e2 hf => (f.ext e2.fr).sq hf) (Dens.ofInts _))⟩
        | lkd tk kvs =>
          cases tk with
          | true => exact h.elim
          | false =>
            refine .inr (.inr (.inr (tE.of_ok sl rp he fun F' r' v H' e d1 rp1 => ?_)))
            cases d1 with
            | @ref _ ad hr =>
              obtain ⟨b, hb, cb⟩ := rp1.at_ n _ hm
              rw [hr] at hb; cases hb
              cases cb with
              | lkd f hd =>
                cases hd with
                | k hd => exact ⟨ad, _, rfl, .inl ⟨_, rp1.fr _ _ f, (PostG.weak e h).now rp1 (yl_keys f hd)⟩⟩
        | lst ts =>
          exfalso
          dsimp only at h nl
          cases he2 : evE m.G a τ (M.set n (.lkl ts)) with
          | ok y =>
            rw [he2, R.calm_ok, R.bind_ok] at h
            simp only [he2, R.calm_ok, R.bind_ok] at nl
            split at h
            · rename_i hz
              exact nl ts n M (by rw [if_pos hz])
            · exact h
          | exc c fs M2 => rw [he2] at h; exact h
          | stuck => rw [he2] at h; exact h
        | dct tk kvs =>
          exfalso
          cases tk with
          | true => exact h
          | false =>
            dsimp only at h nl
            cases he2 : evE m.G a τ (M.set n (.lkd false kvs)) with
            | ok y =>
              rw [he2, R.calm_ok, R.bind_ok] at h
              simp only [he2, R.calm_ok, R.bind_ok] at nl
              split at h
              · rename_i hz
                exact nl (kvs.map (·.1)) n M (by rw [if_pos hz])
              · exact h
            | exc c fs M2 => rw [he2] at h; exact h
            | stuck => rw [he2] at h; exact h
        | ins C fs => exact h.elim
    | _ => exact h.elim
/-- what is locked, and how it is read then -/
theorem evI_lock {G : Gam} {T : T} {τ : Tau} {M M' : Store} {ds : List D} {n : Nat} (h : evI G T τ M = .ok ((ds, some n), M')) :
    M' = M ∧ evI G T τ (lockN (some n) M) = .ok ((ds, none), lockN (some n) M) ∧ ((∃ xs, M[n]? = some (.lst xs)) ∨ ∃ kvs, M[n]? = some (.dct false kvs)) := by
  have no : ∀ {α : Type} {x : R α} {f : α → R ((List D × Option Nat) × Store)}, x.bind f = .ok ((ds, some n), M') → (∀ y, f y ≠ .ok ((ds, some n), M')) → False := fun hx hf => by
    obtain ⟨y, _, h2⟩ := bind_ok_inv hx
    exact hf y h2
  cases T with
  | wd a =>
    simp only [evI] at h ⊢
    obtain ⟨x, h1, h2⟩ := bind_ok_inv h
    obtain ⟨d, M1⟩ := x
    cases d with
    | ref k =>
      dsimp only at h2
      cases hk : M1[k]? with
      | none => rw [hk] at h2; cases h2
      | some c =>
        rw [hk] at h2
        cases c with
        | lst xs =>
          dsimp only at h2
          obtain ⟨y, h3, h4⟩ := bind_ok_inv h2
          split at h4
          · rename_i hz
            cases h4
            obtain ⟨z1, z2, z3⟩ := hz
            subst z2
            obtain ⟨y1, y2⟩ := y
            dsimp only at z1 z3
            subst z1 z3
            have h3 : evE G a τ (M1.set n (.lkl ds)) = .ok (.ref n, M1.set n (.lkl ds)) := by
              cases he : evE G a τ (M1.set n (.lkl ds)) with
              | ok w => rw [he] at h3; exact h3
              | exc c fs M2 => rw [he] at h3; cases h3
              | stuck => rw [he] at h3; cases h3
            have hl : lockN (some n) M1 = M1.set n (.lkl ds) := by simp only [lockN, hk]
            refine ⟨rfl, ?_, .inl ⟨_, hk⟩⟩
            rw [hl, h3, R.bind_ok]
            dsimp only
            rw [List.getElem?_set_self (List.getElem?_eq_some_iff.mp hk).1]
          · cases h4
        | dct tk kvs =>
          cases tk with
          | true => cases h2
          | false =>
            dsimp only at h2
            obtain ⟨y, h3, h4⟩ := bind_ok_inv h2
            split at h4
            · rename_i hz
              cases h4
              obtain ⟨z1, z2, z3⟩ := hz
              subst z2
              obtain ⟨y1, y2⟩ := y
              dsimp only at z1 z3
              subst z1 z3
              have h3 : evE G a τ (M1.set n (.lkd false kvs)) = .ok (.ref n, M1.set n (.lkd false kvs)) := by
                cases he : evE G a τ (M1.set n (.lkd false kvs)) with
                | ok w => rw [he] at h3; exact h3
                | exc c fs M2 => rw [he] at h3; cases h3
                | stuck => rw [he] at h3; cases h3
              have hl : lockN (some n) M1 = M1.set n (.lkd false kvs) := by simp only [lockN, hk]
              refine ⟨rfl, ?_, .inr ⟨_, hk⟩⟩
              rw [hl, h3, R.bind_ok]
              dsimp only
              rw [List.getElem?_set_self (List.getElem?_eq_some_iff.mp hk).1]
            · cases h4
        | lkd tk kvs => cases tk <;> cases h2
        | _ => cases h2
    | _ => cases h2
  | rng1 a =>
    exfalso
    simp only [evI] at h
    refine no h fun y q => ?_
    obtain ⟨d, M1⟩ := y
    cases d <;> simp only at q <;> first | (split at q <;> cases q) | cases q
  | rng2 a b =>
    exfalso
    simp only [evI] at h
    refine no h fun y q => no q fun z q => ?_
    obtain ⟨d, M1⟩ := y
    obtain ⟨d2, M2⟩ := z
    cases d <;> cases d2 <;> simp only at q <;> first | (split at q <;> cases q) | cases q
  | rev a =>
    exfalso
    simp only [evI] at h
    refine no h fun y q => ?_
    obtain ⟨d, M1⟩ := y
    cases d <;> simp only at q <;> cases q
  | _ => simp [evI] at h
end
end PyD
end
section
set_option maxRecDepth 100000
set_option autoImplicit false
/-! PdH: targets, comprehensions, methods of lists and dicts. -/
namespace PyD
open PySem PySem.Spec L2

/-! ### targets -/
theorem wipe_at {σ : L2.St} {i : Nat} : ∀ {vs : List Nat}, (wipe σ vs)[i]? = if i ∈ vs then (σ[i]?).map (fun _ => none) else σ[i]?
  | [] => by simp [wipe]
  | v :: vs => by
    unfold wipe
    by_cases h : v = i
    · subst h
      rw [List.getElem?_set, if_pos rfl, wipe_length]
      simp only [List.mem_cons_self, if_true]
      split
      · rename_i h; rw [List.getElem?_eq_getElem h]; rfl
      · rename_i h; rw [List.getElem?_eq_none (by omega)]; rfl
    · rw [List.getElem?_set_ne h, wipe_at (vs := vs)]
      have : (i ∈ v :: vs) ↔ i ∈ vs := by simp [Ne.symm h]
      simp only [this]
theorem wipe_set {σ : L2.St} {i : Nat} {x : Option V} {vs : List Nat} (h : i ∈ vs) : wipe (σ.set i x) vs = wipe σ vs := by
  refine List.ext_getElem? fun j => ?_
  rw [wipe_at, wipe_at]
  by_cases c : j ∈ vs
  · rw [if_pos c, if_pos c, List.getElem?_set]
    split
    · rename_i e; subst e
      split
      · rename_i hl; rw [List.getElem?_eq_getElem hl]; rfl
      · rename_i hl; rw [List.getElem?_eq_none (by omega)]
        try rfl
    · rfl
  · rw [if_neg c, if_neg c, List.getElem?_set_ne (fun e => c (by rw [← e]; exact h))]
theorem wipe_wipe {σ : L2.St} {vs : List Nat} : wipe (wipe σ vs) vs = wipe σ vs := by
  refine List.ext_getElem? fun j => ?_
  rw [wipe_at, wipe_at]
  by_cases c : j ∈ vs
  · rw [if_pos c, if_pos c, Option.map_map]; rfl
  · rw [if_neg c, if_neg c]
/-- the names of a target are among these -/
def tgIn (vs : List Nat) : T → Bool
  | .v i => decide (i ∈ vs)
  | .tgs a => tgIn vs a
  | .anil => true
  | .acons a b => tgIn vs a && tgIn vs b
  | _ => false
def tG (K : PySem.W.Frag) (m : Md) (T : T) : TG := fun v σ H Q => ∃ F r M τ d τ', Slots K F r τ σ ∧ Rep K m.cl F r M H ∧ Den K F r d v ∧ asgT T d τ M = some τ' ∧
  ∀ σ', Slots K F r τ' σ' → (∀ vs, tgIn vs T = true → wipe σ' vs = wipe σ vs) → Q σ' H
def tGs (K : PySem.W.Frag) (m : Md) (T : T) : TGs := fun v σ H Q => ∃ F r M τ d τ', Slots K F r τ σ ∧ Rep K m.cl F r M H ∧ Dens K F r d v ∧ asgT.asgTs T d τ M = some τ' ∧
  ∀ σ', Slots K F r τ' σ' → (∀ vs, tgIn vs T = true → wipe σ' vs = wipe σ vs) → Q σ' H
def SG (X : Cx) (m : Md) (T : T) (e : Expr) : Prop := PG X e (tG X.K m T)
def SGs (X : Cx) (m : Md) (T : T) (e : List Expr) : Prop := PGs X e (tGs X.K m T)
section
variable {X : Cx} {m : Md} {pos : Pos} {a b c : T} {ea eb ec : Expr}
theorem PGimp {e : Expr} {t t' : TG} (h : PG X e t) (i : ∀ v σ H Q, t' v σ H Q → t v σ H Q) : PG X e t' := ⟨fun pins s σ H v u Q I r q => h.run pins s σ H v u Q I r (i v σ H Q q)⟩
theorem PGor {e : Expr} {t t' : TG} (h : PG X e t) (h' : PG X e t') : PG X e (fun v σ H Q => t v σ H Q ∨ t' v σ H Q) := ⟨fun pins s σ H v u Q I r q => q.elim (h.run pins s σ H v u Q I r) (h'.run pins s σ H v u Q I r)⟩
theorem PGsimp {e : List Expr} {t t' : TGs} (h : PGs X e t) (i : ∀ v σ H Q, t' v σ H Q → t v σ H Q) : PGs X e t' := ⟨fun pins s σ H v u Q I r q => h.run pins s σ H v u Q I r (i v σ H Q q)⟩
theorem sg_name {i : Nat} {x : Str} (hN : X.N.Nodup) (hi : X.N[i]? = some x) (hx : Loc X.env.scope x) (hf : X.fn x = true ∨ X.env.scope.names.lookup x = some .local := by first | exact .inl rfl | exact .inr rfl | assumption) : SG X m (.v i) (.Name x pos) := by
  refine PGimp (pg_name hN hi hx hf) fun v σ H Q ⟨F, r, M, τ, d, τ', sl, rp, hd, ha, k⟩ => ?_
  simp only [asgT] at ha
  split at ha
  · cases ha
    exact k _ (sl.set i hd) fun vs hv => wipe_set (by simpa [tgIn] using hv)
  · cases ha
theorem sgs_nil : SGs X m .anil [] := by
  refine PGsimp pgs_nil fun v σ H Q ⟨F, r, M, τ, d, τ', sl, rp, hd, ha, k⟩ => ?_
  cases hd with
  | nil => simp only [asgT.asgTs] at ha; cases ha; exact ⟨rfl, k _ sl fun _ _ => rfl⟩
  | cons h1 h2 => simp [asgT.asgTs] at ha
theorem sgs_cons {i : Nat} {es : List Expr} (h1 : SG X m (.v i) ea) (h2 : SGs X m b es) (hs : (assignEach (ea :: es) X.env).map (·.2) = assign ea X.env :: (assignEach es X.env).map (·.2) := by rfl) : SGs X m (.acons (.v i) b) (ea :: es) := by
  refine PGsimp (pgs_cons h1 h2 hs) fun v σ H Q ⟨F, r, M, τ, d, τ', sl, rp, hd, ha, k⟩ => ?_
  cases hd with
  | nil => simp [asgT.asgTs] at ha
  | cons g1 g2 =>
    simp only [asgT.asgTs] at ha
    split at ha
    · rename_i hi
      refine ⟨_, _, rfl, F, r, M, τ, _, _, sl, rp, g1, by simp only [asgT]; rw [if_pos hi], fun σ' s' w => ?_⟩
      exact ⟨F, r, M, _, _, _, s', rp, g2, ha, fun σ2 s2 w2 => k σ2 s2 fun vs hv => by
        simp only [tgIn, Bool.and_eq_true] at hv
        rw [w2 vs hv.2]
        exact w vs (by simpa [tgIn] using hv.1)⟩
    · cases ha
def tgLen : T → Nat
  | .acons _ b => tgLen b + 1
  | _ => 0
theorem asgTs_len : ∀ {T : T} {ds : List D} {τ τ' : Tau} {M : Store}, asgT.asgTs T ds τ M = some τ' → ds.length = tgLen T
  | .anil, [], _, _, _, _ => rfl
  | .acons (.v i) r, d :: ds, τ, τ', M, h => by
    simp only [asgT.asgTs] at h
    split at h
    · simp [tgLen, asgTs_len h]
    · cases h
  | .anil, d :: ds, _, _, _, h => by simp [asgT.asgTs] at h
  | .acons a b, [], _, _, _, h => by cases a <;> simp [asgT.asgTs] at h
theorem sg_tgs {es : List Expr} {k : Nat} (hc : X.calm = true) (h : SGs X m a es) (hn : (assignEach es X.env).length = tgLen a := by rfl) (hst : (assignEach es X.env).findIdx? (·.1) = none := by rfl) : SG X m (.tgs a) (.Tuple es k pos) := by
  refine PGimp (PGor (pg_tup hc h hn hst) (pg_lst hc h hn hst)) fun v σ H Q ⟨F, r, M, τ, d, τ', sl, rp, hd, ha, k⟩ => ?_
  by_cases ct : ∃ ts, d = .tup ts
  · obtain ⟨ts, rfl⟩ := ct
    simp only [asgT] at ha
    obtain ⟨ad, vs, rfl, h1, h2⟩ := tup_den rp hd
    exact .inl ⟨ad, vs, rfl, h1, by rw [← h2.length]; exact asgTs_len ha, F, r, M, τ, ts, τ', sl, rp, h2, ha, fun σ' s' w => k σ' s' w⟩
  · have ha : ((seqL M d).bind fun ds => asgT.asgTs a ds τ M) = some τ' := by
      cases d <;> first | exact absurd ⟨_, rfl⟩ ct | (simp only [asgT] at ha; exact ha)
    obtain ⟨ts, e1, ha⟩ := Option.bind_eq_some_iff.mp ha
    obtain ⟨ad, vs, rfl, h1, h2⟩ := seqL_den rp hd e1
    exact .inr ⟨ad, vs, rfl, h1, by rw [← h2.length]; exact asgTs_len ha, F, r, M, τ, ts, τ', sl, rp, h2, ha, fun σ' s' w => k σ' s' w⟩

/-! ### comprehensions -/
def SP (X : Cx) (m : Md) (T : T) (es : List Expr) : Prop := PTs X es (tT X.K m T)
theorem PTsimp {e : List Expr} {t t' : TT} (h : PTs X e t) (i : ∀ σ H Q, t' σ H Q → t σ H Q) : PTs X e t' := ⟨fun pins s σ H Q I q => h.run pins s σ H Q I (i σ H Q q)⟩
theorem sp_nil : SP X m .pass [] := by
  refine PTsimp pts_nil fun σ H Q ⟨F, r, M, τ, sl, rp, h⟩ => ?_
  simp only [evT] at h
  exact h.now rp rfl
theorem sp_one (h : ST X m a ea) : SP X m a [ea] := pts_one h
section
variable {K : PySem.W.Frag} {F F' : Hp} {r r' : List Addr} {M : Store} {H : Hp} {τ : Tau} {σ : L2.St}
theorem calm_bind {α β γ δ : Type} {cl : Nat → Addr} {W : XK} {PB : Hp → List Addr → γ → δ → Prop} {Q : δ → Hp → Prop} {x : R α} {k : α → R β} {f : β → R (γ × Store)} (h : PostG K cl PB F r Q W ((x.bind k).calm.bind f)) :
    ∃ y, x = .ok y ∧ PostG K cl PB F r Q W ((k y).calm.bind f) := by
  cases x with
  | ok y => exact ⟨y, rfl, h⟩
  | exc c fs M => exact h.elim
  | stuck => exact h.elim
theorem calm_ofO {α β γ δ : Type} {cl : Nat → Addr} {W : XK} {PB : Hp → List Addr → γ → δ → Prop} {Q : δ → Hp → Prop} {x : Option α} {k : α → R β} {f : β → R (γ × Store)} (h : PostG K cl PB F r Q W (((R.ofO x).bind k).calm.bind f)) :
    ∃ y, x = some y ∧ PostG K cl PB F r Q W ((k y).calm.bind f) := by
  cases x with
  | some y => exact ⟨y, rfl, h⟩
  | none => exact h.elim
/-- the step of a list's comprehension -/
noncomputable def stepL (G : Gam) (own : List Nat) (tg tt e : T) (t : Tau) : D → Store → R (Option D × Store) := fun d M => (R.ofO (asgT tg d (wipeT t own) M)).bind fun t' =>
  (evT G tt t' M).bind fun b => if b.1 = true then (evE G e t' b.2).bind fun y => .ok (some y.1, y.2) else .ok (none, b.2)
noncomputable def compX (G : Gam) (cell : Bool) (own : List Nat) (tg tt e : T) (t : Tau) (ds : List D) (M1 : Store) : R (D × Store) :=
  (compL M1.length (stepL G own tg tt e t) ds (M1 ++ [.lst []])).calm.bind fun M2 => endL cell M1 M2
theorem evE_comp {G : Gam} {cell : Bool} {own : List Nat} {tg it tt e : T} {t : Tau} {M : Store} : evE G (.comp cell own tg it tt e) t M = (evI G it t M).bind fun w => (compX G cell own tg tt e t w.1.1 (lockN w.1.2 w.2)).bind fun r => (R.ofO (unlockN w.1.2 r.2)).bind fun M' => .ok (r.1, M') := by
  simp only [evE]; rfl
noncomputable def stepD (G : Gam) (own : List Nat) (tg tt k e : T) (t : Tau) : D → Store → R (Option (D × D) × Store) := fun d M => (R.ofO (asgT tg d (wipeT t own) M)).bind fun t' =>
  (evT G tt t' M).bind fun b => if b.1 = true then (evE G k t' b.2).bind fun y => (evE G e t' y.2).bind fun z => .ok (some (y.1, z.1), z.2) else .ok (none, b.2)
noncomputable def compY (G : Gam) (own : List Nat) (tg tt k e : T) (t : Tau) (ds : List D) (M1 : Store) : R (D × Store) :=
  (compD M1.length (stepD G own tg tt k e t) ds (M1 ++ [.dct false []])).calm.bind fun M2 => .ok (.ref M1.length, M2)
theorem evE_dcomp {G : Gam} {own : List Nat} {tg it tt k e : T} {t : Tau} {M : Store} : evE G (.dcomp own tg it tt k e) t M = (evI G it t M).bind fun w => (compY G own tg tt k e t w.1.1 (lockN w.1.2 w.2)).bind fun r => (R.ofO (unlockN w.1.2 r.2)).bind fun M' => .ok (r.1, M') := by
  simp only [evE, compY]
  cases evI G it t M with
  | ok w =>
    simp only [R.bind_ok]
    show R.bind (R.calm (compD _ (stepD G own tg tt k e t) _ _)) _ = R.bind (R.bind (R.calm (compD _ (stepD G own tg tt k e t) _ _)) _) _
    cases (compD (lockN w.1.2 w.2).length (stepD G own tg tt k e t) w.1.1 (lockN w.1.2 w.2 ++ [Cell.dct false []])).calm <;> rfl
  | exc c fs M => rfl
  | stuck => rfl
theorem endL_ok {cl : Nat → Addr} {W : XK} {cell : Bool} {M1 M' : Store} {D : Addr} {H1 : Hp} {F1 : Hp} {r1 : List Addr} {Q : VK} (rp1 : Rep K cl F1 r1 M1 H1) (e : Ext F1 r1 F' r') (rp : Rep K cl F' r' M' H) (hD : r'[M1.length]? = some D)
    (h : PostG K cl (Den K) F1 r1 Q W (endL cell M1 M')) : Q (.ref D) H := by
  unfold endL at h
  split at h
  · exact h F' r' _ H e (.ref hD) rp
  · split at h
    · rename_i xs hm
      obtain ⟨b, hb, cb⟩ := rp.at_ _ _ hm
      rw [hD] at hb; cases hb
      cases cb with
      | @lst _ vs f hh hd =>
        have fz := rp.freeze hm hD f hh hd
        have ef : Ext F' r' (upd F' D (.lst vs)) r' := ext_F f
        split at h
        · rename_i hz
          simp only [Bool.and_eq_true, decide_eq_true_eq] at hz
          obtain ⟨⟨z1, z2⟩, z3⟩ := hz
          have et : (M'.set M1.length (.fz xs)).take M1.length = M'.take M1.length := by rw [List.take_set_of_le (Nat.le_refl _)]
          obtain ⟨t1, t2⟩ := rp1.trim (n := M1.length) (e.trans ef) fz (Nat.le_refl _) (by rw [et]; exact z3)
          rw [et] at t1
          exact h _ _ _ H t2 (.lst upd_same ((hd.mono ef).take' z2)) t1
        · exact h _ _ _ H (e.trans ef) (.lst upd_same (hd.mono ef)) fz
    · exact h.elim
theorem lc_go {cell : Bool} {own : List Nat} {tg it tt e : T} {Q : VK} (hin : tgIn own tg = true) (sl : Slots K F r τ σ) (rp : Rep K m.cl F r M H) (nl : ∀ ds n M', evI m.G it τ M ≠ .ok ((ds, some n), M'))
    (h : PostG K m.cl (Den K) F r Q m.W ((evI m.G it τ M).bind fun w => compX m.G cell own tg tt e τ w.1.1 w.2)) :
    tLc (tI K m it) (tG K m.z tg) (tT K m.z tt) (tE K m.z e) own σ H Q := by
  refine ⟨F, r, M, τ, sl, rp, nl, PostG.bind h fun w M1 F1 r1 J H1 e1 yl rp1 h1 => ?_⟩
  intro D hD
  obtain ⟨ds, lk⟩ := w
  dsimp only at yl h1
  have sl1 := sl.mono e1
  refine ⟨fun i mm H => mm + i = ds.length ∧ ∃ F' r' M', Ext F1 r1 F' r' ∧ Rep K m.cl F' r' M' H ∧ r'[M1.length]? = some D ∧
    PostG K m.cl (Den K) F1 r1 Q m.W ((compL M1.length (stepL m.G own tg tt e τ) (ds.drop i) M').calm.bind fun M2 => endL cell M1 M2), ⟨ds.length, rfl, F1, r1 ++ [D], M1 ++ [.lst []], ext_r, ?_, ?_, by unfold compX at h1; exact h1⟩, ?_⟩
  · exact rp1.newC hD (.lst (rp1.free hD) upd_same .nil)
  · rw [← rp1.len, List.getElem?_append_right (Nat.le_refl _)]; simp
  intro i mm H2 ⟨hi, F', r', M', ex, rp', hr, h2⟩
  obtain ⟨y1, y2⟩ := yl F' r' H2 i ex rp'.fr
  cases hd : ds.drop i with
  | nil =>
    left
    have hl : ds.length ≤ i := List.drop_eq_nil_iff.mp hd
    rw [hd] at h2
    exact ⟨y1 hl, endL_ok rp1 ex rp' hr h2⟩
  | cons d rest =>
    right
    have hd0 : ds[i]? = some d := by rw [← List.head?_drop, hd]; rfl
    have hrest : ds.drop (i + 1) = rest := by rw [← List.drop_drop, hd]; rfl
    have hlt : i < ds.length := (List.getElem?_eq_some_iff.mp hd0).1
    obtain ⟨y3, y4⟩ := y2 d hd0
    refine ⟨y3, fun H' => (mm - 1) + (i + 1) = ds.length ∧ ∃ F' r' M', Ext F1 r1 F' r' ∧ Rep K m.cl F' r' M' H' ∧ r'[M1.length]? = some D ∧
      PostG K m.cl (Den K) F1 r1 Q m.W ((compL M1.length (stepL m.G own tg tt e τ) (ds.drop (i + 1)) M').calm.bind fun M2 => endL cell M1 M2), fun H' hn => ⟨mm - 1, by omega, hn⟩, fun x H3 hy => ?_⟩
    obtain ⟨rfl, dx⟩ := y4 x H3 hy
    rw [hd] at h2
    unfold compL at h2
    have h2' : PostG K m.cl (Den K) F1 r1 Q m.W ((((R.ofO (asgT tg d (wipeT τ own) M')).bind fun t' => (evT m.G tt t' M').bind fun b => if b.1 = true then (evE m.G e t' b.2).bind fun y => .ok (some y.1, y.2) else .ok (none, b.2)).bind fun r => match r.1 with
      | some y => (match r.2[M1.length]? with
        | some (.lst acc) => if acc.length < big then compL M1.length (stepL m.G own tg tt e τ) rest (r.2.set M1.length (.lst (acc ++ [y]))) else .stuck
        | _ => .stuck)
      | none => compL M1.length (stepL m.G own tg tt e τ) rest r.2).calm.bind fun M2 => endL cell M1 M2) := h2
    obtain ⟨z, hz, h3⟩ := calm_bind h2'
    obtain ⟨τ', ha, hz⟩ : ∃ τ', asgT tg d (wipeT τ own) M' = some τ' ∧ ((evT m.G tt τ' M').bind fun b => if b.1 = true then (evE m.G e τ' b.2).bind fun y => .ok (some y.1, y.2) else .ok (none, b.2)) = .ok z := by
      cases ha : asgT tg d (wipeT τ own) M' with
      | none => rw [ha] at hz; cases hz
      | some τ' => rw [ha] at hz; exact ⟨τ', rfl, hz⟩
    refine ⟨F', r', M', wipeT τ own, d, τ', (sl1.mono ex).wipe own, rp', dx, ha, fun σ2 s2 w2 => ⟨by rw [w2 own hin, wipe_wipe], ?_⟩⟩
    obtain ⟨b, hb, hz⟩ := bind_ok_inv hz
    refine ⟨F', r', M', τ', s2, rp', ?_⟩
    show PostG K m.cl _ F' r' _ E0 (evT m.G tt τ' M')
    rw [hb]
    intro F2 r2 k H4 e2 hk rp2
    cases hk
    obtain ⟨bb, Mb⟩ := b
    cases bb with
    | false =>
      simp only [Bool.false_eq_true, if_false] at hz
      cases hz
      rw [if_neg (by simp)]
      exact ⟨by omega, F2, r2, Mb, ex.trans e2, rp2, e2.pre _ _ hr, by rw [hrest]; exact h3⟩
    | true =>
      simp only [if_true] at hz
      rw [if_pos rfl]
      obtain ⟨y, hy2, hz⟩ := bind_ok_inv hz
      cases hz
      refine ⟨F2, r2, Mb, τ', s2.mono e2, rp2, ?_⟩
      show PostG K m.cl _ F2 r2 _ E0 (evE m.G e τ' Mb)
      rw [hy2]
      intro F3 r3 v H5 e3 dv rp3
      dsimp only at h3
      cases hm : y.2[M1.length]? with
      | none => rw [hm] at h3; exact h3.elim
      | some c =>
        rw [hm] at h3
        cases c with
        | lst acc =>
          dsimp only at h3
          split at h3
          · rename_i hl
            have hr3 := e3.pre _ _ (e2.pre _ _ hr)
            obtain ⟨b', hb', cb⟩ := rp3.at_ _ _ hm
            rw [hr3] at hb'; cases hb'
            cases cb with
            | @lst _ vs f hh hdd =>
              refine ⟨vs, hh, by rw [← hdd.length, ← big_line]; exact hl, by omega, F3, r3, _, (ex.trans e2).trans e3, rp3.setC hm rfl hr3 f (.lst f upd_same (hdd.append (.cons dv .nil))), hr3, by rw [hrest]; exact h3⟩
          · exact h3.elim
        | _ => exact h3.elim
/-- a dict written -/
theorem put_gen {κ : Type} [DecidableEq κ] {f : κ → D} (inj : ∀ a b, f a = f b → a = b) {G : κ → Prop} {k : κ} {d : D} {v : V} (hk : G k) (hd : Den K F r d v) {kvs : List (D × D)} {ks : List (κ × V)}
    (h : Paired (fun p q => p.1 = f q.1 ∧ G q.1 ∧ Den K F r p.2 q.2) kvs ks) : Paired (fun p q => p.1 = f q.1 ∧ G q.1 ∧ Den K F r p.2 q.2) (putD kvs (f k) d) (putK ks k v) := by
  have ha : ∀ {kvs : List (D × D)} {ks : List (κ × V)}, Paired (fun p q => p.1 = f q.1 ∧ G q.1 ∧ Den K F r p.2 q.2) kvs ks → (kvs.any fun p => decide (p.1 = f k)) = ks.any fun kv => decide (kv.1 = k) := by
    intro kvs ks h
    induction h with
    | nil => rfl
    | @cons p q _ _ hp t ih =>
      rw [List.any_cons, List.any_cons, ih]
      congr 1
      rw [hp.1]
      by_cases c : q.1 = k
      · rw [decide_eq_true c, decide_eq_true (by rw [c])]
      · rw [decide_eq_false c, decide_eq_false fun z => c (inj _ _ z)]
  have hm : ∀ {kvs : List (D × D)} {ks : List (κ × V)}, Paired (fun p q => p.1 = f q.1 ∧ G q.1 ∧ Den K F r p.2 q.2) kvs ks → Paired (fun p q => p.1 = f q.1 ∧ G q.1 ∧ Den K F r p.2 q.2) (kvs.map fun p => if p.1 = f k then (p.1, d) else p) (ks.map fun kv => if kv.1 = k then (kv.1, v) else kv) := by
    intro kvs ks h
    induction h with
    | nil => exact .nil
    | @cons p q _ _ hp t ih =>
      rw [List.map_cons, List.map_cons]
      refine .cons ?_ ih
      by_cases c : q.1 = k
      · rw [if_pos c, if_pos (by rw [hp.1, c])]; exact ⟨hp.1, hp.2.1, hd⟩
      · rw [if_neg c, if_neg fun z => c (inj _ _ (hp.1.symm.trans z))]; exact hp
  have app : ∀ {kvs : List (D × D)} {ks : List (κ × V)}, Paired (fun p q => p.1 = f q.1 ∧ G q.1 ∧ Den K F r p.2 q.2) kvs ks → Paired (fun p q => p.1 = f q.1 ∧ G q.1 ∧ Den K F r p.2 q.2) (kvs ++ [(f k, d)]) (ks ++ [(k, v)]) := by
    intro kvs ks h
    induction h with
    | nil => exact .cons ⟨rfl, hk, hd⟩ .nil
    | cons p t ih => exact .cons p ih
  unfold putD putK
  rw [ha h]
  split
  · exact hm h
  · exact app h
theorem put_k {k : Key} {d : D} {v : V} (hk : kOk k = true) (hd : Den K F r d v) {kvs : List (D × D)} {ks : List (Key × V)} (h : KsD K F r kvs ks) : KsD K F r (putD kvs (kD k) d) (putK ks k v) :=
  put_gen (f := kD) (G := fun k => kOk k = true) (fun _ _ => kD_inj) hk hd h
theorem put_t {k : List Key} {d : D} {v : V} (hk : strHd k ∧ k.all kOk = true) (hd : Den K F r d v) {kvs : List (D × D)} {ks : List (List Key × V)} (h : TsD K F r kvs ks) : TsD K F r (putD kvs (kDT k) d) (putK ks k v) :=
  put_gen (f := kDT) (G := fun k => strHd k ∧ k.all kOk = true) (fun _ _ => kDT_inj) hk hd h
theorem dc_go {own : List Nat} {tg it tt k e : T} {Q : VK} (hin : tgIn own tg = true) {F : Hp} {M : Store} (sl : Slots X.K F r τ σ) (rp : Rep X.K m.cl F r M H) (nl : ∀ ds n M', evI m.G it τ M ≠ .ok ((ds, some n), M'))
    (h : PostG X.K m.cl (Den X.K) F r Q m.W ((evI m.G it τ M).bind fun w => compY m.G own tg tt k e τ w.1.1 w.2)) :
    tDc (tI X.K m it) (tG X.K m.z tg) (tT X.K m.z tt) (tE X.K m.z k) (tE X.K m.z e) own σ H Q := by
  refine ⟨F, r, M, τ, sl, rp, nl, PostG.bind h fun w M1 F1 r1 J H1 e1 yl rp1 h1 => ?_⟩
  intro D hD
  obtain ⟨ds, lk⟩ := w
  dsimp only at yl h1
  have sl1 := sl.mono e1
  refine ⟨fun i mm H => mm + i = ds.length ∧ ∃ F' r' M', Ext F1 r1 F' r' ∧ Rep X.K m.cl F' r' M' H ∧ r'[M1.length]? = some D ∧
    PostG X.K m.cl (Den X.K) F1 r1 Q m.W ((compD M1.length (stepD m.G own tg tt k e τ) (ds.drop i) M').calm.bind fun M2 => .ok (.ref M1.length, M2)), ⟨ds.length, rfl, F1, r1 ++ [D], M1 ++ [.dct false []], ext_r, ?_, ?_, by unfold compY at h1; exact h1⟩, ?_⟩
  · exact rp1.newC hD (.dct (rp1.free hD) upd_same (.k .nil))
  · rw [← rp1.len, List.getElem?_append_right (Nat.le_refl _)]; simp
  intro i mm H2 ⟨hi, F', r', M', ex, rp', hr, h2⟩
  obtain ⟨y1, y2⟩ := yl F' r' H2 i ex rp'.fr
  cases hd : ds.drop i with
  | nil =>
    left
    have hl : ds.length ≤ i := List.drop_eq_nil_iff.mp hd
    rw [hd] at h2
    exact ⟨y1 hl, h2 F' r' _ H2 ex (.ref hr) rp'⟩
  | cons d rest =>
    right
    have hd0 : ds[i]? = some d := by rw [← List.head?_drop, hd]; rfl
    have hrest : ds.drop (i + 1) = rest := by rw [← List.drop_drop, hd]; rfl
    have hlt : i < ds.length := (List.getElem?_eq_some_iff.mp hd0).1
    obtain ⟨y3, y4⟩ := y2 d hd0
    refine ⟨y3, fun H' => (mm - 1) + (i + 1) = ds.length ∧ ∃ F' r' M', Ext F1 r1 F' r' ∧ Rep X.K m.cl F' r' M' H' ∧ r'[M1.length]? = some D ∧
      PostG X.K m.cl (Den X.K) F1 r1 Q m.W ((compD M1.length (stepD m.G own tg tt k e τ) (ds.drop (i + 1)) M').calm.bind fun M2 => .ok (.ref M1.length, M2)), fun H' hn => ⟨mm - 1, by omega, hn⟩, fun x H3 hy => ?_⟩
    obtain ⟨rfl, dx⟩ := y4 x H3 hy
    rw [hd] at h2
    unfold compD at h2
    have h2' : PostG X.K m.cl (Den X.K) F1 r1 Q m.W ((((R.ofO (asgT tg d (wipeT τ own) M')).bind fun t' => (evT m.G tt t' M').bind fun b => if b.1 = true then (evE m.G k t' b.2).bind fun y => (evE m.G e t' y.2).bind fun z => .ok (some (y.1, z.1), z.2) else .ok (none, b.2)).bind fun r => match r.1 with
      | some y => (match r.2[M1.length]? with
        | some (.dct false kvs) => if isKey false y.1 = true ∧ kvs.length < big then compD M1.length (stepD m.G own tg tt k e τ) rest (r.2.set M1.length (.dct false (putD kvs y.1 y.2))) else .stuck
        | _ => .stuck)
      | none => compD M1.length (stepD m.G own tg tt k e τ) rest r.2).calm.bind fun M2 => .ok (.ref M1.length, M2)) := h2
    obtain ⟨z, hz, h3⟩ := calm_bind h2'
    obtain ⟨τ', ha, hz⟩ : ∃ τ', asgT tg d (wipeT τ own) M' = some τ' ∧ ((evT m.G tt τ' M').bind fun b => if b.1 = true then (evE m.G k τ' b.2).bind fun y => (evE m.G e τ' y.2).bind fun z => .ok (some (y.1, z.1), z.2) else .ok (none, b.2)) = .ok z := by
      cases ha : asgT tg d (wipeT τ own) M' with
      | none => rw [ha] at hz; cases hz
      | some τ' => rw [ha] at hz; exact ⟨τ', rfl, hz⟩
    refine ⟨F', r', M', wipeT τ own, d, τ', (sl1.mono ex).wipe own, rp', dx, ha, fun σ2 s2 w2 => ⟨by rw [w2 own hin, wipe_wipe], ?_⟩⟩
    obtain ⟨b, hb, hz⟩ := bind_ok_inv hz
    refine ⟨F', r', M', τ', s2, rp', ?_⟩
    show PostG X.K m.cl _ F' r' _ E0 (evT m.G tt τ' M')
    rw [hb]
    intro F2 r2 kk H4 e2 hk rp2
    cases hk
    obtain ⟨bb, Mb⟩ := b
    cases bb with
    | false =>
      simp only [Bool.false_eq_true, if_false] at hz
      cases hz
      rw [if_neg (by simp)]
      exact ⟨by omega, F2, r2, Mb, ex.trans e2, rp2, e2.pre _ _ hr, by rw [hrest]; exact h3⟩
    | true =>
      simp only [if_true] at hz
      rw [if_pos rfl]
      obtain ⟨y, hy2, hz⟩ := bind_ok_inv hz
      obtain ⟨w, hw2, hz⟩ := bind_ok_inv hz
      cases hz
      refine ⟨F2, r2, Mb, τ', s2.mono e2, rp2, ?_⟩
      show PostG X.K m.cl _ F2 r2 _ E0 (evE m.G k τ' Mb)
      rw [hy2]
      intro F3 r3 v H5 e3 dv rp3
      refine ⟨F3, r3, y.2, τ', (s2.mono e2).mono e3, rp3, ?_⟩
      show PostG X.K m.cl _ F3 r3 _ E0 (evE m.G e τ' y.2)
      rw [hw2]
      intro F4 r4 u H6 e4 du rp4
      dsimp only at h3
      cases hm : w.2[M1.length]? with
      | none => rw [hm] at h3; exact h3.elim
      | some c =>
        rw [hm] at h3
        cases c with
        | dct tk kvs =>
          cases tk with
          | true => exact h3.elim
          | false =>
            dsimp only at h3
            split at h3
            · rename_i hl
              have hr3 := e4.pre _ _ (e3.pre _ _ (e2.pre _ _ hr))
              obtain ⟨b', hb', cb⟩ := rp4.at_ _ _ hm
              rw [hr3] at hb'; cases hb'
              rcases keyOf_den (dv.mono e4) hl.1 with ⟨_, k', hk1, rfl, hk2⟩ | ⟨hk1, _⟩
              · cases cb with
                | dct f hh hdd =>
                  cases hdd with
                  | k hdd =>
                    refine ⟨_, k', rfl, hh, by rw [← ksD_len hdd, ← big_line]; exact hl.2, by omega, F4, r4, _, ((ex.trans e2).trans e3).trans e4, rp4.setC hm rfl hr3 f (.dct f upd_same (.k (put_k hk2 du hdd))), hr3, by rw [hrest, ← hk1]; exact h3⟩
              · cases hk1
            · exact h3.elim
        | _ => exact h3.elim

/-! ### the comprehension with its lock -/
theorem lock_go {F : Hp} {M : Store} {t : TE} {it : T} {ds : List D} {n : Nat} {M' : Store} {Q : VK} {x : R (D × Store)} (sl : Slots X.K F r τ σ) (rp : Rep X.K m.cl F r M H) (hi : evI m.G it τ M = .ok ((ds, some n), M'))
    (h : PostG X.K m.cl (Den X.K) F r Q m.W (x.bind fun r => (R.ofO (unlockN (some n) r.2)).bind fun M' => .ok (r.1, M'))) (hx : ∀ c fs M, x ≠ .exc c fs M)
    (k : ∀ F' H' Q', Slots X.K F' r τ σ → Rep X.K m.cl F' r (lockN (some n) M) H' → PostG X.K m.cl (Den X.K) F' r Q' m.W x → t σ H' Q') : tLockE t σ H Q := by
  obtain ⟨hM, hi2, hc⟩ := evI_lock hi
  have hM := hM.symm
  subst hM
  have key : ∀ c c' u ad, M[n]? = some c → r[n]? = some ad → F ad = none → H ad = some u → Lck X.K F r c c' u → lockN (some n) M = M.set n c' → tLockE t σ H Q := fun c c' u ad h0 hr hF hH L hl => by
    refine ⟨ad, u, hH, L.mut, fun od => ?_⟩
    have ex : Ext F r (upd F ad (.frz od u)) r := ext_F hF
    refine k (upd F ad (.frz od u)) _ _ (sl.mono ex) (by rw [hl]; exact rp.lock h0 hr hF hH L od) ?_
    cases x with
    | stuck => exact h
    | exc c fs M => exact absurd rfl (hx c fs M)
    | ok y =>
      intro F2 r2 v H2 e2 dv rp2
      rw [R.bind_ok] at h
      obtain ⟨N, hN, h⟩ := h.ofO
      have hF2 : F2 ad = some (.frz od u) := e2.fr _ _ upd_same
      obtain ⟨rp3, _⟩ := rp2.unlock hF2 (e2.pre _ _ hr) hN
      exact ⟨rp2.fr _ _ hF2, h _ _ _ _ ((ex.trans e2).off hF) (dv.off hF2) rp3⟩
  rcases hc with ⟨xs, h0⟩ | ⟨kvs, h0⟩
  · obtain ⟨ad, hr, ca⟩ := rp.at_ n _ h0
    cases ca with
    | lst f hh d => exact key _ (.lkl xs) _ ad h0 hr f hh (.l d) (by simp only [lockN, h0])
  · obtain ⟨ad, hr, ca⟩ := rp.at_ n _ h0
    cases ca with
    | dct f hh d => exact key _ (.lkd false kvs) _ ad h0 hr f hh (.d d) (by simp only [lockN, h0])
theorem unlock_none {x : R (D × Store)} : (x.bind fun r => (R.ofO (unlockN none r.2)).bind fun M' => .ok (r.1, M')) = x := by cases x <;> rfl
theorem calm_noexc {α β : Type} {x : R α} {f : α → R β} (hf : ∀ a c fs M, f a ≠ .exc c fs M) (c fs M) : x.calm.bind f ≠ .exc c fs M := by
  cases x with
  | ok a => exact hf a c fs M
  | exc => simp [R.calm, R.bind]
  | stuck => simp [R.calm, R.bind]
end
theorem lc_both {own : List Nat} {Tg it tt e : T} {cell : Bool} {σ : L2.St} {H : Hp} {Q : VK} (hin : tgIn own Tg = true) (h : tE X.K m (.comp cell own Tg it tt e) σ H Q) :
    tLc (tI X.K m it) (tG X.K m.z Tg) (tT X.K m.z tt) (tE X.K m.z e) own σ H Q ∨ tLockE (tLc (tI X.K m it) (tG X.K m.z Tg) (tT X.K m.z tt) (tE X.K m.z e) own) σ H Q := by
  obtain ⟨F, r, M, τ, sl, rp, h⟩ := h
  rw [evE_comp] at h
  cases hi : evI m.G it τ M with
  | stuck => rw [hi] at h; exact h.elim
  | exc c fs M' =>
    exact .inl (lc_go (cell := cell) hin sl rp (fun ds n M' z => by rw [hi] at z; cases z) (by rw [hi] at h ⊢; exact h))
  | ok w =>
    obtain ⟨⟨ds, lk⟩, M'⟩ := w
    rw [hi, R.bind_ok] at h
    cases lk with
    | none =>
      dsimp only at h
      rw [unlock_none] at h
      exact .inl (lc_go (cell := cell) hin sl rp (fun ds n M' z => by rw [hi] at z; cases z) (by rw [hi, R.bind_ok]; exact h))
    | some n =>
      right
      refine lock_go sl rp hi h (fun c fs M => calm_noexc (fun a c fs M => ?_) c fs M) fun F' H' Q' sl' rp' h' => ?_
      · unfold endL; split
        · simp
        · split
          · split <;> simp
          · simp
      · have h2 := (evI_lock hi).2.1
        obtain ⟨hM, _⟩ := evI_lock hi
        subst hM
        exact lc_go (cell := cell) hin sl' rp' (fun ds n M' z => by rw [h2] at z; cases z) (by rw [h2, R.bind_ok]; exact h')
theorem se_lc {elt tg iter : Expr} {ifs : List Expr} {scope : Scope} {own : List (Str × Nat)} {Tg it tt e : T} {cell : Bool} (hc : X.calm = true) (hN : X.N.Nodup) (hi : SI X m tg it iter) (ok : blkC X.N X.env.scope scope own = true)
    (hg : ∀ (s : Shared) (H : Hp) (C : Addr) (cl : List (Str × Addr)) (fp : List Addr), SG (X.blk s H scope (compEnvC scope cl C X.env) fp) m.z Tg tg) (ht : ∀ (s : Shared) (H : Hp) (C : Addr) (cl : List (Str × Addr)) (fp : List Addr), SP (X.blk s H scope (compEnvC scope cl C X.env) fp) m.z tt ifs)
    (he : ∀ (s : Shared) (H : Hp) (C : Addr) (cl : List (Str × Addr)) (fp : List Addr), SE (X.blk s H scope (compEnvC scope cl C X.env) fp) m.z e elt) (hin : tgIn (own.map (·.2)) Tg = true := by rfl) (hs : ∀ x, foldedSetIterable iter X.env x = pure x := by intro _; rfl) :
    SE X m (.comp cell (own.map (·.2)) Tg it tt e) (.ListComp elt [⟨tg, iter, ifs, 0⟩] scope pos) := by
  have base := pe_lc (pos := pos) (g := tG X.K m.z Tg) (tt := tT X.K m.z tt) (te := tE X.K m.z e) (wi := tI X.K m it) hc hN hi (blkOk_by ok) hg ht he hs
  exact PEimp (PEor base (pe_lock base)) fun σ H Q h => lc_both hin h
theorem dc_both {own : List Nat} {Tg it tt k e : T} {σ : L2.St} {H : Hp} {Q : VK} (hin : tgIn own Tg = true) (h : tE X.K m (.dcomp own Tg it tt k e) σ H Q) :
    tDc (tI X.K m it) (tG X.K m.z Tg) (tT X.K m.z tt) (tE X.K m.z k) (tE X.K m.z e) own σ H Q ∨ tLockE (tDc (tI X.K m it) (tG X.K m.z Tg) (tT X.K m.z tt) (tE X.K m.z k) (tE X.K m.z e) own) σ H Q := by
  obtain ⟨F, r, M, τ, sl, rp, h⟩ := h
  rw [evE_dcomp] at h
  cases hi : evI m.G it τ M with
  | stuck => rw [hi] at h; exact h.elim
  | exc c fs M' =>
    exact .inl (dc_go hin sl rp (fun ds n M' z => by rw [hi] at z; cases z) (by rw [hi] at h ⊢; exact h))
  | ok w =>
    obtain ⟨⟨ds, lk⟩, M'⟩ := w
    rw [hi, R.bind_ok] at h
    cases lk with
    | none =>
      dsimp only at h
      rw [unlock_none] at h
      exact .inl (dc_go hin sl rp (fun ds n M' z => by rw [hi] at z; cases z) (by rw [hi, R.bind_ok]; exact h))
    | some n =>
      right
      refine lock_go sl rp hi h (fun c fs M => calm_noexc (fun a c fs M => by simp) c fs M) fun F' H' Q' sl' rp' h' => ?_
      have h2 := (evI_lock hi).2.1
      obtain ⟨hM, _⟩ := evI_lock hi
      subst hM
      exact dc_go hin sl' rp' (fun ds n M' z => by rw [h2] at z; cases z) (by rw [h2, R.bind_ok]; exact h')
theorem se_dc {kx vx tg iter : Expr} {ifs : List Expr} {scope : Scope} {own : List (Str × Nat)} {Tg it tt k e : T} (hc : X.calm = true) (hN : X.N.Nodup) (hi : SI X m tg it iter) (ok : blkC X.N X.env.scope scope own = true)
    (hg : ∀ (s : Shared) (H : Hp) (C : Addr) (cl : List (Str × Addr)) (fp : List Addr), SG (X.blk s H scope (compEnvC scope cl C X.env) fp) m.z Tg tg) (ht : ∀ (s : Shared) (H : Hp) (C : Addr) (cl : List (Str × Addr)) (fp : List Addr), SP (X.blk s H scope (compEnvC scope cl C X.env) fp) m.z tt ifs)
    (hk : ∀ (s : Shared) (H : Hp) (C : Addr) (cl : List (Str × Addr)) (fp : List Addr), SE (X.blk s H scope (compEnvC scope cl C X.env) fp) m.z k kx)
    (he : ∀ (s : Shared) (H : Hp) (C : Addr) (cl : List (Str × Addr)) (fp : List Addr), SE (X.blk s H scope (compEnvC scope cl C X.env) fp) m.z e vx) (hin : tgIn (own.map (·.2)) Tg = true := by rfl) (hs : ∀ x, foldedSetIterable iter X.env x = pure x := by intro _; rfl) :
    SE X m (.dcomp (own.map (·.2)) Tg it tt k e) (.DictComp kx vx [⟨tg, iter, ifs, 0⟩] scope pos) := by
  have base := pe_dc (pos := pos) (g := tG X.K m.z Tg) (tt := tT X.K m.z tt) (tk := tE X.K m.z k) (tv := tE X.K m.z e) (wi := tI X.K m it) hc hN hi (blkOk_by ok) hg ht hk he hs
  exact PEimp (PEor base (pe_lock base)) fun σ H Q h => dc_both hin h
end
end PyD
end
section
set_option maxRecDepth 100000
set_option autoImplicit false
/-! PdI: statements. -/
namespace PyD
open PySem PySem.Spec L2

def PostS (K : PySem.W.Frag) (cl : Nat → Addr) (F : Hp) (r : List Addr) (D : Ends) (W : XK) : Out → Prop
  | .nx t M => ∀ F' r' σ' H', Ext F r F' r' → Slots K F' r' t σ' → Rep K cl F' r' M H' → D.nx σ' H'
  | .rt d M => ∀ F' r' v H', Ext F r F' r' → Den K F' r' d v → Rep K cl F' r' M H' → D.rt v H'
  | .bk t M => ∀ F' r' σ' H', Ext F r F' r' → Slots K F' r' t σ' → Rep K cl F' r' M H' → D.bk σ' H'
  | .ct t M => ∀ F' r' σ' H', Ext F r F' r' → Slots K F' r' t σ' → Rep K cl F' r' M H' → D.ct σ' H'
  | .exc c fs _ M => ∀ F' r' dd H', Ext F r F' r' → Rep K cl F' r' M H' → XAt K F' r' fs dd H' → W (.ref (cl c)) (some dd) H'
  | .stuck => False
def tS (K : PySem.W.Frag) (m : Md) (T : T) : TS := fun D σ H => ∃ F r M τ, Slots K F r τ σ ∧ Rep K m.cl F r M H ∧ PostS K m.cl F r D m.W (evS m.G T τ M)
def SS (X : Cx) (m : Md) (T : T) (e : Stmt) : Prop := PS X e (tS X.K m T)
def SSs (X : Cx) (m : Md) (T : T) (e : List Stmt) : Prop := PSs X e (tS X.K m T)
section
variable {K : PySem.W.Frag} {cl : Nat → Addr} {F F' : Hp} {r r' : List Addr} {M : Store} {H H' : Hp} {W : XK} {D : Ends} {τ : Tau} {σ : L2.St}
theorem PostS.weak (e : Ext F r F' r') {x : Out} (h : PostS K cl F r D W x) : PostS K cl F' r' D W x := by
  cases x with
  | nx t M => exact fun F2 r2 v H2 e2 => h F2 r2 v H2 (e.trans e2)
  | rt t M => exact fun F2 r2 v H2 e2 => h F2 r2 v H2 (e.trans e2)
  | bk t M => exact fun F2 r2 v H2 e2 => h F2 r2 v H2 (e.trans e2)
  | ct t M => exact fun F2 r2 v H2 e2 => h F2 r2 v H2 (e.trans e2)
  | exc c fs t M' => exact fun F2 r2 dd H2 e2 => h F2 r2 dd H2 (e.trans e2)
  | stuck => exact h
theorem PostS.out {α β : Type} {PA : Hp → List Addr → α → β → Prop} {x : R (α × Store)} {t : Tau} {f : α × Store → Out} {Q1 : β → Hp → Prop} (h : PostS K cl F r D W (x.out t f))
    (k : ∀ a M' F' r' v H', Ext F r F' r' → PA F' r' a v → Rep K cl F' r' M' H' → PostS K cl F' r' D W (f (a, M')) → Q1 v H') : PostG K cl PA F r Q1 W x := by
  cases x with
  | ok x => exact fun F' r' v H' e q rp => k x.1 x.2 F' r' v H' e q rp (h.weak e)
  | exc c fs M' => exact h
  | stuck => exact h
theorem PostS.ofO {α : Type} {o : Option α} {f : α → Out} (h : PostS K cl F r D W (PyD.ofO o f)) : ∃ a, o = some a ∧ PostS K cl F r D W (f a) := by
  cases o with
  | none => exact h.elim
  | some a => exact ⟨a, rfl, h⟩
end
section
variable {K : PySem.W.Frag} {m : Md} {F : Hp} {r : List Addr} {M : Store} {H : Hp} {τ : Tau} {σ : L2.St}
theorem tE.out {a : T} {t : Tau} {f : D × Store → Out} {Q1 : VK} {E : Ends} (sl : Slots K F r τ σ) (rp : Rep K m.cl F r M H) (h : PostS K m.cl F r E m.W ((evE m.G a τ M).out t f))
    (k : ∀ d M' F' r' v H', Ext F r F' r' → Slots K F' r' τ σ → Den K F' r' d v → Rep K m.cl F' r' M' H' → PostS K m.cl F' r' E m.W (f (d, M')) → Q1 v H') : tE K m a σ H Q1 :=
  ⟨F, r, M, τ, sl, rp, PostS.out h fun d M' F' r' v H' e q rp' h' => k d M' F' r' v H' e (sl.mono e) q rp' h'⟩
theorem tT.out {a : T} {t : Tau} {f : Bool × Store → Out} {Q1 : Bool → Hp → Prop} {E : Ends} (sl : Slots K F r τ σ) (rp : Rep K m.cl F r M H) (h : PostS K m.cl F r E m.W ((evT m.G a τ M).out t f))
    (k : ∀ d M' F' r' H', Ext F r F' r' → Slots K F' r' τ σ → Rep K m.cl F' r' M' H' → PostS K m.cl F' r' E m.W (f (d, M')) → Q1 d H') : tT K m a σ H Q1 :=
  ⟨F, r, M, τ, sl, rp, PostS.out h fun d M' F' r' v H' e q rp' h' => by cases q; exact k d M' F' r' H' e (sl.mono e) rp' h'⟩
end
section
variable {X : Cx} {m : Md} {pos : Pos} {a b c : T} {ea eb ec : Expr}
theorem PSimp {e : Stmt} {t t' : TS} (h : PS X e t) (i : ∀ D σ H, t' D σ H → t D σ H) : PS X e t' := ⟨fun pins s σ H D I q => h.run pins s σ H D I (i D σ H q)⟩
theorem PSsimp {e : List Stmt} {t t' : TS} (h : PSs X e t) (i : ∀ D σ H, t' D σ H → t D σ H) : PSs X e t' := ⟨fun pins s σ H D I q => h.run pins s σ H D I (i D σ H q)⟩
theorem PSor {e : Stmt} {t t' : TS} (h : PS X e t) (h' : PS X e t') : PS X e (fun D σ H => t D σ H ∨ t' D σ H) := ⟨fun pins s σ H D I q => q.elim (h.run pins s σ H D I) (h'.run pins s σ H D I)⟩
theorem ss_nil : SSs X m .snil [] := by
  refine PSsimp pss_nil fun D σ H ⟨F, r, M, τ, sl, rp, h⟩ => ?_
  simp only [evS] at h
  exact h F r σ H Ext.refl sl rp
theorem ss_cons {st : Stmt} {rest : List Stmt} (ha : SS X m a st) (hb : SSs X m b rest) : SSs X m (.scons a b) (st :: rest) := by
  refine PSsimp (pss_cons ha hb) fun D σ H ⟨F, r, M, τ, sl, rp, h⟩ => ⟨F, r, M, τ, sl, rp, ?_⟩
  simp only [evS] at h
  cases he : evS m.G a τ M with
  | nx t M' => rw [he] at h; exact fun F' r' σ' H' e s' rp' => ⟨F', r', M', t, s', rp', PostS.weak e h⟩
  | rt d M' => rw [he] at h; exact h
  | bk t M' => rw [he] at h; exact h
  | ct t M' => rw [he] at h; exact h
  | exc c fs t M' => rw [he] at h; exact h
  | stuck => rw [he] at h; exact h
theorem ss_expr (ha : SE X m a ea) (hs : swapsWith ea none pos.line X.env = pure false := by rfl) : SS X m (.expr a) (.Expr ea pos) := by
  refine PSimp (ps_expr ha hs) fun D σ H ⟨F, r, M, τ, sl, rp, h⟩ => ?_
  simp only [evS] at h
  exact tE.out sl rp h fun d M1 F1 r1 v H1 e1 sl1 d1 rp1 h1 => h1 F1 r1 σ H1 Ext.refl sl1 rp1
theorem ss_doc {x : Str} {j : Nat} {pos pos' : Pos} : SS X m .pass (.Expr (.Constant (.str x) j pos) pos') := by
  refine PSimp ps_doc fun D σ H ⟨F, r, M, τ, sl, rp, h⟩ => ?_
  simp only [evS] at h
  exact h F r σ H Ext.refl sl rp
theorem ss_pass : SS X m .pass (.Pass pos) := by
  refine PSimp ps_pass fun D σ H ⟨F, r, M, τ, sl, rp, h⟩ => ?_
  simp only [evS] at h
  exact h F r σ H Ext.refl sl rp
theorem ss_brk : SS X m .brk (.Break pos) := by
  refine PSimp ps_break fun D σ H ⟨F, r, M, τ, sl, rp, h⟩ => ?_
  simp only [evS] at h
  exact h F r σ H Ext.refl sl rp
theorem ss_cnt : SS X m .cnt (.Continue pos) := by
  refine PSimp ps_continue fun D σ H ⟨F, r, M, τ, sl, rp, h⟩ => ?_
  simp only [evS] at h
  exact h F r σ H Ext.refl sl rp
theorem ss_wall {st : Stmt} : SS X m .wall st := by
  refine PSimp ps_never fun D σ H ⟨F, r, M, τ, sl, rp, h⟩ => ?_
  simp only [evS] at h
  exact h
theorem ss_ret (ha : SE X m a ea) : SS X m (.ret a) (.Return (some ea) pos) := by
  refine PSimp (ps_ret ha) fun D σ H ⟨F, r, M, τ, sl, rp, h⟩ => ?_
  simp only [evS] at h
  exact tE.out sl rp h fun d M1 F1 r1 v H1 e1 sl1 d1 rp1 h1 => h1 F1 r1 v H1 Ext.refl d1 rp1
theorem ss_retN : SS X m .retN (.Return none pos) := by
  refine PSimp ps_retN fun D σ H ⟨F, r, M, τ, sl, rp, h⟩ => ?_
  simp only [evS] at h
  exact h F r .non H Ext.refl .non rp
theorem ss_if {s1 s2 : List Stmt} (hc : ST X m c ec) (ha : SSs X m a s1) (hb : SSs X m b s2) : SS X m (.iff c a b) (.If ec s1 s2 pos) := by
  refine PSimp (ps_if hc ha hb) fun D σ H ⟨F, r, M, τ, sl, rp, h⟩ => ?_
  simp only [evS] at h
  refine tT.out sl rp h fun d M1 F1 r1 H1 e1 sl1 rp1 h1 => ?_
  cases d with
  | true => rw [if_pos rfl] at h1 ⊢; exact ⟨F1, r1, M1, τ, sl1, rp1, h1⟩
  | false => rw [if_neg (by simp)] at h1 ⊢; exact ⟨F1, r1, M1, τ, sl1, rp1, h1⟩
/-- a name is given a value: what the value's reading must do -/
theorem asg_go {tg : T} {σ : L2.St} {H : Hp} {D : Ends} (h : tS X.K m (.asg tg a) D σ H) : tE X.K m a σ H (fun x H1 => tG X.K m tg x σ H1 D.nx) := by
  obtain ⟨F, r, M, τ, sl, rp, h⟩ := h
  simp only [evS] at h
  refine tE.out sl rp h fun d M1 F1 r1 v H1 e1 sl1 d1 rp1 h1 => ?_
  obtain ⟨τ', ha, h1⟩ := h1.ofO
  exact ⟨F1, r1, M1, τ, d, τ', sl1, rp1, d1, ha, fun σ' s' _ => h1 F1 r1 σ' H1 Ext.refl s' rp1⟩
theorem ss_asg {tg : T} {et : Expr} (ha : SE X m a ea) (hg : SG X m tg et) (hs : swapsWithSole [et] ea pos.line X.env = pure false := by rfl) (hw : swappedStores [et] ea X.env = pure none := by rfl)
    (h1 : (assignEach [et] X.env).map (·.2) = [assign et X.env] := by rfl) : SS X m (.asg tg a) (.Assign [et] ea pos) :=
  PSimp (ps_asg ha hg hs hw h1) fun D σ H h => asg_go h
theorem gname_go {i : Nat} {v : V} {σ : L2.St} {H : Hp} {Q : L2.St → Hp → Prop} (h : tG X.K m (.v i) v σ H Q) : gName i v σ H Q := by
  obtain ⟨F, r, M, τ, d, τ', sl, rp, hd, ha, k⟩ := h
  simp only [asgT] at ha
  split at ha
  · cases ha
    exact k _ (sl.set i hd) fun vs hv => wipe_set (by simpa [tgIn] using hv)
  · cases ha
theorem tE_mono {T : T} {σ : L2.St} {H : Hp} {Q Q' : VK} (i : ∀ v H, Q v H → Q' v H) (h : tE X.K m T σ H Q) : tE X.K m T σ H Q' := by
  obtain ⟨F, r, M, τ, sl, rp, h⟩ := h
  refine ⟨F, r, M, τ, sl, rp, ?_⟩
  cases he : evE m.G T τ M with
  | ok x => rw [he] at h; exact fun F' r' v H' e d rp' => i _ _ (h F' r' v H' e d rp')
  | exc c fs M' => rw [he] at h; exact h
  | stuck => rw [he] at h; exact h
theorem ss_set {i : Nat} {x : Str} {pos' : Pos} (ha : SE X m a ea) (hN : X.N.Nodup) (hi : X.N[i]? = some x) (hx : Loc X.env.scope x) (hs : swapsWith ea (some (.Name x pos')) pos.line X.env = pure false := by rfl)
    (hf : X.fn x = true ∨ X.env.scope.names.lookup x = some .local := by first | exact .inl rfl | exact .inr rfl | assumption) : SS X m (.asg (.v i) a) (.Assign [.Name x pos'] ea pos) :=
  PSimp (L2.ps_set hN hi hx ha hs hf) fun D σ H h => tE_mono (fun v H => gname_go) (asg_go h)
theorem ss_par {i j : Nat} {x y : Str} {px py pt : Pos} {kt k2 pt2} (hc : X.calm = true) (hN : X.N.Nodup) (hi : X.N[i]? = some x) (hj : X.N[j]? = some y) (hij : i ≠ j)
    (hx : X.env.scope.names.lookup x = some .local) (hy : X.env.scope.names.lookup y = some .local) (ha : SE X m a ea) (hb : SE X m b eb)
    (hw : swappedStores [.Tuple [.Name x px, .Name y py] kt pt] (.Tuple [ea, eb] k2 pt2) X.env = pure (some [x, y]) := by rfl)
    (hs : swapsWithSole [.Tuple [.Name x px, .Name y py] kt pt] (.Tuple [ea, eb] k2 pt2) pos.line X.env = pure false := by rfl)
    (he : starEach [ea, eb] X.env = (false, eval ea X.env) :: starEach [eb] X.env := by rfl) (he2 : starEach [eb] X.env = (false, eval eb X.env) :: starEach [] X.env := by rfl) :
    SS X m (.par i j a b) (.Assign [.Tuple [.Name x px, .Name y py] kt pt] (.Tuple [ea, eb] k2 pt2) pos) := by
  refine PSimp (ps_par hc hN hi hj hij hx hy (sa_cons ha (sa_cons hb sa_nil he2) he) hw hs) fun D σ H ⟨F, r, M, τ, sl, rp, h⟩ => ?_
  simp only [evS] at h
  refine ⟨F, r, M, τ, sl, rp, ?_⟩
  simp only [evA, R.bind_ok]
  cases e1 : evE m.G a τ M with
  | stuck => rw [e1] at h; exact h.elim
  | exc c fs M' => rw [e1] at h; exact h
  | ok x =>
    rw [e1] at h
    rw [R.bind_ok]
    simp only [R.out_ok] at h
    cases e2 : evE m.G b τ x.2 with
    | stuck => rw [e2] at h; exact h.elim
    | exc c fs M' => rw [e2] at h; exact h
    | ok y =>
      rw [e2] at h
      simp only [R.out_ok, R.bind_ok] at h ⊢
      intro F' r' vs H' e d rp'
      cases d with
      | cons d1 d =>
        cases d with
        | cons d2 d =>
          cases d
          split at h
          · exact ⟨_, _, rfl, h F' r' _ H' e (((sl.mono e).set i d1).set j d2) rp'⟩
          · exact h.elim
theorem ss_put {eo ei : Expr} {o i : T} {pos' : Pos} (hu : X.A.units + 66 < cLine) (ha : SE X m a ea) (ho : SE X m o eo) (hi : SE X m i ei)
    (hq : ∀ v, assign (.Subscript eo ei pos') X.env v = (do
      let ov ← holding [v] (eval eo X.env)
      let iv ← holding [v, ov] (eval ei X.env)
      standAt pos'
      holding [v, ov, iv] (setItem ov iv v)
      release [v, ov, iv] []) := by intro _; rfl)
    (hs : swapsWithSole [.Subscript eo ei pos'] ea pos.line X.env = pure false := by rfl) (hw : swappedStores [.Subscript eo ei pos'] ea X.env = pure none := by rfl)
    (h1 : (assignEach [.Subscript eo ei pos'] X.env).map (·.2) = [assign (.Subscript eo ei pos') X.env] := by rfl) : SS X m (.put o i a) (.Assign [.Subscript eo ei pos'] ea pos) := by
  have ps : PSet X (fun o i v H Q => rSetL o i v H Q ∨ rSetD o i v H Q) := fun pins s σ H o i v ov iv u Q I ro ri rv h => h.elim (set_list pins s σ H o i v ov iv u Q I ro ri rv) (set_dict (by omega) pins s σ H o i v ov iv u Q I ro ri rv)
  refine PSimp (ps_asg ha (pg_sub ho hi ps hq) hs hw h1) fun D σ H ⟨F, r, M, τ, sl, rp, h⟩ => ?_
  simp only [evS] at h
  refine tE.out sl rp h fun d M1 F1 r1 v H1 e1 sl1 d1 rp1 h1 => tE.out sl1 rp1 h1 fun d2 M2 F2 r2 v2 H2 e2 sl2 d2' rp2 h2 => tE.out sl2 rp2 h2 fun d3 M3 F3 r3 v3 H3 e3 sl3 d3' rp3 h3 => ?_
  obtain ⟨M4, hM, h4⟩ := h3.ofO
  have d1 := (d1.mono e2).mono e3
  have d2' := d2'.mono e3
  dsimp only at hM
  cases d2 with
  | ref n =>
    cases d2' with
    | @ref _ ad hr =>
      cases hm : M3[n]? with
      | none => simp [putIx, hm] at hM
      | some c =>
        obtain ⟨ad', hr', cb⟩ := rp3.at_ n _ hm
        rw [hr] at hr'; cases hr'
        cases c with
        | lst xs =>
          left
          cases d3 with
          | int k =>
            simp only [putIx, hm, Option.map_eq_some_iff] at hM
            obtain ⟨j, hj, rfl⟩ := hM
            cases d3'
            cases cb with
            | lst f hh hd =>
              refine ⟨ad, _, k, j, rfl, rfl, hh, by rw [← hd.length]; exact hj, h4 F3 r3 σ _ Ext.refl sl3 (rp3.setC hm rfl hr f (.lst f upd_same (hd.set d1 j)))⟩
          | _ => simp [putIx, hm] at hM
        | dct tk kvs =>
          right
          simp only [putIx, hm] at hM
          split at hM
          · rename_i hz
            cases hM
            rcases keyOf_den d3' hz.1 with ⟨rfl, k', rfl, rfl, hk2⟩ | ⟨rfl, ks, b, rfl, hk1, hk2, rfl, hb⟩
            · cases cb with
              | dct f hh hd =>
                cases hd with
                | k hd =>
                  exact ⟨ad, _, rfl, .inl ⟨_, k', hh, rfl, by rw [← ksD_len hd, ← big_line]; exact hz.2, rfl⟩, h4 F3 r3 σ _ Ext.refl sl3 (rp3.setC hm rfl hr f (.dct f upd_same (.k (put_k hk2 d1 hd))))⟩
            · cases cb with
              | dct f hh hd =>
                cases hd with
                | t hd =>
                  exact ⟨ad, _, rfl, .inr ⟨_, ks, b, hh, rfl, rp3.fr _ _ hb, by rw [← tsD_len hd, ← big_line]; exact hz.2, rfl⟩, h4 F3 r3 σ _ Ext.refl sl3 (rp3.setC hm rfl hr f (.dct f upd_same (.t (put_t ⟨hk1, hk2⟩ d1 hd))))⟩
          · cases hM
        | _ => simp [putIx, hm] at hM
  | _ => simp [putIx] at hM
/-! ### loops -/
theorem ss_while {fuel : Nat} {body : List Stmt} (hp : PassesOwn (model X.prog X.w) X.A X.env X.xe) (hc : ST X m c ec) (hb : SSs X m b body) : SS X m (.whil fuel c b) (.While ec body [] pos) := by
  refine PSimp (ps_while hp hc hb) fun D σ H ⟨F, r, M, τ, sl, rp, h⟩ => ?_
  simp only [evS] at h
  refine ⟨fun k σ H => ∃ F r M τ, Slots X.K F r τ σ ∧ Rep X.K m.cl F r M H ∧ PostS X.K m.cl F r D m.W (runWhile (fun t M => evT m.G c t M) (fun t M => evS m.G b t M) k τ M), ⟨fuel, F, r, M, τ, sl, rp, h⟩, ?_⟩
  intro k σ H ⟨F, r, M, τ, sl, rp, h⟩
  cases k with
  | zero => exact h.elim
  | succ k =>
    unfold runWhile at h
    refine tT.out sl rp h fun d M1 F1 r1 H1 e1 sl1 rp1 h1 => ?_
    cases d with
    | false => rw [if_neg (by simp)] at h1 ⊢; exact h1 F1 r1 σ H1 Ext.refl sl1 rp1
    | true =>
      rw [if_pos rfl] at h1 ⊢
      dsimp only at h1
      refine ⟨fun σ H => ∃ F r M τ, Slots X.K F r τ σ ∧ Rep X.K m.cl F r M H ∧ PostS X.K m.cl F r D m.W (runWhile (fun t M => evT m.G c t M) (fun t M => evS m.G b t M) k τ M), fun σ' H' hn => ⟨k, Nat.lt_succ_self k, hn⟩, F1, r1, M1, τ, sl1, rp1, ?_⟩
      cases he : evS m.G b τ M1 with
      | nx t M' => rw [he] at h1; exact fun F' r' σ' H' e s' rp' => ⟨F', r', M', t, s', rp', PostS.weak e h1⟩
      | ct t M' => rw [he] at h1; exact fun F' r' σ' H' e s' rp' => ⟨F', r', M', t, s', rp', PostS.weak e h1⟩
      | bk t M' => rw [he] at h1; exact h1
      | rt d M' => rw [he] at h1; exact h1
      | exc c fs t M' => rw [he] at h1; exact h1
      | stuck => rw [he] at h1; exact h1
/-- a turn of a for -/
noncomputable def stepF (G : Gam) (tg b : T) : D → Tau → Store → Out := fun d t M => ofO (asgT tg d t M) fun t' => evS G b t' M
theorem for_go {tg it : T} {σ : L2.St} {H : Hp} {D : Ends} {F : Hp} {r : List Addr} {M : Store} {τ : Tau} (sl : Slots X.K F r τ σ) (rp : Rep X.K m.cl F r M H) (nl : ∀ ds n M', evI m.G it τ M ≠ .ok ((ds, some n), M'))
    (h : PostS X.K m.cl F r D m.W ((evI m.G it τ M).out τ fun w => runFor (stepF m.G tg b) w.1.1 τ w.2)) (hnb : ∀ ds t M t' M', runFor (stepF m.G tg b) ds t M ≠ .bk t' M') : tFor (tI X.K m it) (tG X.K m tg) (tS X.K m b) D σ H := by
  refine ⟨F, r, M, τ, sl, rp, nl, PostS.out h fun w M1 F1 r1 J H1 e1 yl rp1 h1 => ?_⟩
  obtain ⟨ds, lk⟩ := w
  dsimp only at yl h1
  have sl1 := sl.mono e1
  refine ⟨fun i k σ H => k + i = ds.length ∧ ∃ F' r' M' τ', Ext F1 r1 F' r' ∧ Slots X.K F' r' τ' σ ∧ Rep X.K m.cl F' r' M' H ∧ PostS X.K m.cl F' r' D m.W (runFor (stepF m.G tg b) (ds.drop i) τ' M'),
    ⟨ds.length, rfl, F1, r1, M1, τ, Ext.refl, sl1, rp1, h1⟩, ?_⟩
  intro i k σ H2 ⟨hi, F', r', M', τ', ex, sl', rp', h2⟩
  obtain ⟨y1, y2⟩ := yl F' r' H2 i ex rp'.fr
  cases hd : ds.drop i with
  | nil =>
    left
    have hl : ds.length ≤ i := List.drop_eq_nil_iff.mp hd
    rw [hd] at h2
    exact ⟨y1 hl, h2 F' r' σ H2 Ext.refl sl' rp'⟩
  | cons d rest =>
    right
    have hd0 : ds[i]? = some d := by rw [← List.head?_drop, hd]; rfl
    have hrest : ds.drop (i + 1) = rest := by rw [← List.drop_drop, hd]; rfl
    have hlt : i < ds.length := (List.getElem?_eq_some_iff.mp hd0).1
    obtain ⟨y3, y4⟩ := y2 d hd0
    refine ⟨y3, fun σ H => (k - 1) + (i + 1) = ds.length ∧ ∃ F' r' M' τ', Ext F1 r1 F' r' ∧ Slots X.K F' r' τ' σ ∧ Rep X.K m.cl F' r' M' H ∧ PostS X.K m.cl F' r' D m.W (runFor (stepF m.G tg b) (ds.drop (i + 1)) τ' M'),
      fun σ' H' hn => ⟨k - 1, by omega, hn⟩, fun x H3 hy => ?_⟩
    obtain ⟨rfl, dx⟩ := y4 x H3 hy
    rw [hd] at h2
    unfold runFor at h2
    cases ha : asgT tg d τ' M' with
    | none =>
      have : stepF m.G tg b d τ' M' = .stuck := by unfold stepF; rw [ha]; rfl
      rw [this] at h2
      exact h2.elim
    | some τ2 =>
      have es : stepF m.G tg b d τ' M' = evS m.G b τ2 M' := by unfold stepF; rw [ha]; rfl
      rw [es] at h2
      refine ⟨F', r', M', τ', d, τ2, sl', rp', dx, ha, fun σ2 s2 _ => ⟨F', r', M', τ2, s2, rp', ?_⟩⟩
      cases he : evS m.G b τ2 M' with
      | nx t M2 => rw [he] at h2; exact fun F2 r2 σ' H' e s' rp2 => ⟨by omega, F2, r2, M2, t, ex.trans e, s', rp2, by rw [hrest]; exact PostS.weak e h2⟩
      | ct t M2 => rw [he] at h2; exact fun F2 r2 σ' H' e s' rp2 => ⟨by omega, F2, r2, M2, t, ex.trans e, s', rp2, by rw [hrest]; exact PostS.weak e h2⟩
      | bk t M2 => rw [he] at h2; exact h2
      | rt d M2 => rw [he] at h2; exact h2
      | exc c fs t M2 => rw [he] at h2; exact h2
      | stuck => rw [he] at h2; exact h2
theorem runFor_ends {f : D → Tau → Store → Out} : ∀ {ds : List D} {t : Tau} {M : Store}, (∀ t' M', runFor f ds t M ≠ .bk t' M') ∧ ∀ t' M', runFor f ds t M ≠ .ct t' M'
  | [], _, _ => ⟨fun _ _ => by simp [runFor], fun _ _ => by simp [runFor]⟩
  | d :: ds, t, M => by
    unfold runFor
    cases f d t M with
    | nx t' M' => exact runFor_ends
    | ct t' M' => exact runFor_ends
    | bk t' M' => exact ⟨fun _ _ => by simp, fun _ _ => by simp⟩
    | rt d M' => exact ⟨fun _ _ => by simp, fun _ _ => by simp⟩
    | exc c fs t' M' => exact ⟨fun _ _ => by simp, fun _ _ => by simp⟩
    | stuck => exact ⟨fun _ _ => by simp, fun _ _ => by simp⟩
theorem unlock_free {K : PySem.W.Frag} {cl : Nat → Addr} {F : Hp} {r : List Addr} {D : Ends} {W : XK} {o : Out} (h : PostS K cl F r D W (o.unlock none)) : PostS K cl F r D W o := by
  cases o with
  | bk t M => exact False.elim h
  | ct t M => exact False.elim h
  | _ => exact h
theorem ss_for {tg it : T} {et ei : Expr} {body : List Stmt} (hp : PassesOwn (model X.prog X.w) X.A X.env X.xe) (hc : X.calm = true) (hi : SI X m et it ei) (hg : SG X m tg et) (hb : SSs X m b body)
    (hs : ∀ x, foldedSetIterable ei X.env x = pure x := by intro _; rfl) : SS X m (.for_ tg it b) (.For et ei body [] pos) := by
  have base := L2.ps_for (pos := pos) hp hc hi hg hb hs
  refine PSimp (PSor base (ps_lock base)) fun D σ H ⟨F, r, M, τ, sl, rp, h⟩ => ?_
  have h : PostS X.K m.cl F r D m.W ((evI m.G it τ M).out τ fun w => (runFor (stepF m.G tg b) w.1.1 τ (lockN w.1.2 w.2)).unlock w.1.2) := by simp only [evS] at h; exact h
  cases hi : evI m.G it τ M with
  | stuck => rw [hi] at h; exact h.elim
  | exc c fs M' => exact .inl (for_go sl rp (fun ds n M' z => by rw [hi] at z; cases z) (by rw [hi] at h ⊢; exact h) fun ds t M => (runFor_ends).1)
  | ok w =>
    obtain ⟨⟨ds, lk⟩, M'⟩ := w
    rw [hi, R.out_ok] at h
    cases lk with
    | none => exact .inl (for_go sl rp (fun ds n M' z => by rw [hi] at z; cases z) (by rw [hi, R.out_ok]; exact unlock_free h) fun ds t M => (runFor_ends).1)
    | some n =>
      right
      obtain ⟨hM, hi2, hcs⟩ := evI_lock hi
      have hM := hM.symm
      subst hM
      dsimp only at h
      have key : ∀ c c' u ad, M[n]? = some c → r[n]? = some ad → F ad = none → H ad = some u → Lck X.K F r c c' u → lockN (some n) M = M.set n c' → tLock (tFor (tI X.K m it) (tG X.K m tg) (tS X.K m b)) D σ H := fun c c' u ad h0 hr hF hH L hl => by
        refine ⟨ad, u, hH, L.mut, fun od => ?_⟩
        have ex : Ext F r (upd F ad (.frz od u)) r := ext_F hF
        refine for_go (sl.mono ex) (M := lockN (some n) M) (by rw [hl]; exact rp.lock h0 hr hF hH L od) (fun ds n M' z => by rw [hi2] at z; cases z) ?_ fun ds t M => (runFor_ends).1
        rw [hi2, R.out_ok]
        dsimp only
        have un : ∀ {M2 N : Store} {F2 : Hp} {r2 : List Addr} {H2 : Hp}, unlockN (some n) M2 = some N → Ext (upd F ad (.frz od u)) r F2 r2 → Rep X.K m.cl F2 r2 M2 H2 → H2 ad = some (.frz od u) ∧ F2 ad = some (.frz od u) ∧ Ext F r (offF F2 ad) r2 ∧ Rep X.K m.cl (offF F2 ad) r2 N (upd H2 ad u) := fun hN e2 rp2 => by
          have hF2 := e2.fr _ _ (upd_same (H := F) (a := ad) (o := .frz od u))
          obtain ⟨rp3, _⟩ := rp2.unlock hF2 (e2.pre _ _ hr) hN
          exact ⟨rp2.fr _ _ hF2, hF2, (ex.trans e2).off hF, rp3⟩
        have sof : ∀ {F2 : Hp} {r2 : List Addr} {t : Tau} {σ' : L2.St}, F2 ad = some (.frz od u) → Slots X.K F2 r2 t σ' → Slots X.K (offF F2 ad) r2 t σ' := fun hF2 s => Paired.mapP s fun _ _ q d z => let ⟨v, h1, h2⟩ := q d z; ⟨v, h1, h2.off hF2⟩
        cases ho : runFor (stepF m.G tg b) ds τ (lockN (some n) M) with
        | nx t M2 =>
          rw [ho] at h
          cases hN : unlockN (some n) M2 with
          | none => simp only [Out.unlock, hN] at h; exact h.elim
          | some N =>
            simp only [Out.unlock, hN] at h
            intro F2 r2 σ' H2 e2 s2 rp2
            obtain ⟨u1, u2, u3, u4⟩ := un hN e2 rp2
            exact ⟨u1, h _ _ _ _ u3 (sof u2 s2) u4⟩
        | rt d M2 =>
          rw [ho] at h
          cases hN : unlockN (some n) M2 with
          | none => simp only [Out.unlock, hN] at h; exact h.elim
          | some N =>
            simp only [Out.unlock, hN] at h
            intro F2 r2 v H2 e2 d2 rp2
            obtain ⟨u1, u2, u3, u4⟩ := un hN e2 rp2
            exact ⟨u1, h _ _ _ _ u3 (d2.off u2) u4⟩
        | bk t M2 => exact absurd ho (runFor_ends.1 t M2)
        | ct t M2 => exact absurd ho (runFor_ends.2 t M2)
        | exc c fs t M2 => rw [ho] at h; exact h.elim
        | stuck => rw [ho] at h; exact h.elim
      rcases hcs with ⟨xs, h0⟩ | ⟨kvs, h0⟩
      · obtain ⟨ad, hr, ca⟩ := rp.at_ n _ h0
        cases ca with
        | lst f hh d => exact key _ (.lkl xs) _ ad h0 hr f hh (.l d) (by simp only [lockN, h0])
      · obtain ⟨ad, hr, ca⟩ := rp.at_ n _ h0
        cases ca with
        | dct f hh d => exact key _ (.lkd false kvs) _ ad h0 hr f hh (.d d) (by simp only [lockN, h0])
end
end PyD
end
section
set_option maxRecDepth 100000
set_option autoImplicit false
/-! PdJ: methods of lists and dicts, comprehensions given to a name, functions. -/
namespace PyD
open PySem PySem.Spec L2
open PyProof.Rows (envOfC)
section
variable {X : Cx} {m : Md} {pos apos cpos : Pos} {a b c o : T} {ea eb ec eo : Expr}
theorem cell_lst {K : PySem.W.Frag} {cl : Nat → Addr} {F : Hp} {r : List Addr} {M : Store} {H : Hp} {n : Nat} {v : V} {ds : List D} (rp : Rep K cl F r M H) (d : Den K F r (.ref n) v) (hm : M[n]? = some (.lst ds)) :
    ∃ ad vs, v = .ref ad ∧ r[n]? = some ad ∧ F ad = none ∧ H ad = some (.lst vs) ∧ Dens K F r ds vs := by
  cases d with
  | @ref _ ad hr =>
    obtain ⟨ad', hr', cb⟩ := rp.at_ n _ hm
    rw [hr] at hr'; cases hr'
    cases cb with
    | lst f hh hd => exact ⟨ad, _, rfl, hr, f, hh, hd⟩
theorem se_append (ho : SE X m o eo) (ha : SE X m a ea) (hbase : attributeBase eo "append" X.env (eval eo X.env) = eval eo X.env := by rfl) (he : starEach [ea] X.env = (false, eval ea X.env) :: starEach [] X.env := by rfl)
    (hfew : ((backTo cpos (starEach [ea] X.env)).all (fun x => !x.1) && (backToKw cpos (keywordEach [] X.env)).all (fun x => x.1.isSome) && decide (([ea] : List Expr).length + ([] : List Keyword).length + (if ([] : List Keyword).isEmpty then 0 else 1) < 30)) = true := by rfl)
    (hline : (apos.endLine == cpos.line) = true := by rfl) (hpl : (backTo cpos (starEach [] X.env)).any (·.1) = false := by rfl) : SE X m (.append o a) (.Call (.Attribute eo "append" apos) [ea] [] cpos) := by
  refine PEimp (pe_bm PySem.F.plainAttrs_list PySem.F.slot_list_append PySem.F.type_list_append mt_append ho (sa_cons ha sa_nil he) hbase hfew hline he hpl) fun σ H Q ⟨F, r, M, τ, sl, rp, h⟩ => ?_
  simp only [evE] at h
  refine tE.go sl rp h fun d M1 F1 r1 v H1 e1 sl1 d1 rp1 h1 => ?_
  cases d with
  | ref n =>
    dsimp only at h1
    split at h1
    · rename_i ds hm
      obtain ⟨ad, vs, rfl, hr, hF, hH, hd⟩ := cell_lst rp1 d1 hm
      refine ⟨.inl ⟨rfl, vs, SqL.of hH⟩, F1, r1, M1, τ, sl1, rp1, ?_⟩
      simp only [evA, R.bind_ok]
      cases e2 : evE m.G a τ M1 with
      | stuck => rw [e2] at h1; exact h1.elim
      | exc c fs M' => rw [e2] at h1; exact h1
      | ok y =>
        rw [e2, R.bind_ok] at h1
        rw [R.bind_ok]
        intro F2 r2 us H2 x2 du rp2
        cases du with
        | cons du dn =>
          cases dn
          split at h1
          · rename_i xs hm2
            split at h1
            · rename_i hz
              obtain ⟨ad2, vs2, e3, hr2, hF2, hH2, hd2⟩ := cell_lst rp2 (d1.mono x2) hm2
              cases e3
              exact ⟨ad, vs2, _, rfl, rfl, hH2, by rw [← hd2.length, ← big_line]; exact hz, h1 F2 r2 .non _ x2 .non (rp2.setC hm2 rfl hr2 hF2 (.lst hF2 upd_same (hd2.append (.cons du .nil))))⟩
            · exact h1.elim
          · exact h1.elim
    · exact h1.elim
  | _ => exact h1.elim
theorem se_pop (ho : SE X m o eo) (hbase : attributeBase eo "pop" X.env (eval eo X.env) = eval eo X.env := by rfl) (hline : (apos.endLine == cpos.line) = true := by rfl) : SE X m (.pop o) (.Call (.Attribute eo "pop" apos) [] [] cpos) := by
  refine PEimp (pe_bm0 PySem.F.plainAttrs_list PySem.F.slot_list_pop PySem.F.type_list_pop mt_pop ho hbase hline) fun σ H Q ⟨F, r, M, τ, sl, rp, h⟩ => ?_
  simp only [evE] at h
  refine tE.go sl rp h fun d M1 F1 r1 v H1 e1 sl1 d1 rp1 h1 => ?_
  cases d with
  | ref n =>
    dsimp only at h1
    split at h1
    · rename_i ds hm
      obtain ⟨ad, vs, rfl, hr, hF, hH, hd⟩ := cell_lst rp1 d1 hm
      split at h1
      · rename_i y hy
        obtain ⟨w, hw, dw⟩ := hd.get hy
        exact ⟨.inl ⟨rfl, vs, SqL.of hH⟩, ad, vs, w, rfl, rfl, hH, by rw [← hd.length]; exact hw, h1 F1 r1 w _ Ext.refl dw (rp1.setC hm rfl hr hF (.lst hF upd_same hd.dropLast))⟩
      · exact h1.elim
    · exact h1.elim
  | _ => exact h1.elim
theorem isD_of {F : Hp} {r : List Addr} {M : Store} {H : Hp} {x : D} {v : V} (rp : Rep X.K m.cl F r M H) (d : Den X.K F r x v) (h : (dictOf M x).isSome = true) : ∃ ad, v = .ref ad ∧ IsD H ad := by
  obtain ⟨⟨tk, kvs⟩, e⟩ := Option.isSome_iff_exists.mp h
  obtain ⟨ad, o, rfl, rd, dd⟩ := dict_den rp d e
  cases dd with
  | k dd => exact ⟨ad, rfl, .inl ⟨_, rd⟩⟩
  | t dd => exact ⟨ad, rfl, .inr ⟨_, rd⟩⟩
theorem se_get1 (hu : X.A.units + 66 < cLine) (ho : SE X m o eo) (ha : SE X m a ea) (hm : M1 X eo "get" apos ea cpos := by exact ⟨rfl, rfl, rfl, rfl⟩) : SE X m (.get1 o a) (.Call (.Attribute eo "get" apos) [ea] [] cpos) := by
  refine PEimp (pe_dget1 (by omega) ho ha hm) fun σ H Q ⟨F, r, M, τ, sl, rp, h⟩ => ?_
  simp only [evE] at h
  refine tE.go sl rp h fun d M1 F1 r1 v H1 e1 sl1 d1 rp1 h1 => ?_
  dsimp only at h1
  split at h1
  · rename_i hs
    obtain ⟨ad, rfl, hI⟩ := isD_of rp1 d1 hs
    refine ⟨ad, rfl, hI, tE.go sl1 rp1 h1 fun d2 M2 F2 r2 u H2 e2 sl2 d2' rp2 h2 => ?_⟩
    dsimp only at h2
    split at h2
    · rename_i tk kvs e3
      split at h2
      · rename_i ik
        obtain ⟨ad', ea', hg⟩ := dget_den rp2 (d1.mono e2) d2' e3 ik
        cases ea'
        rcases hg with ⟨h3, h4⟩ | ⟨d', w, h3, h4, h5⟩
        · exact ⟨none, h4, h2.now rp2 (by rw [h3]; exact .non)⟩
        · exact ⟨some w, h4, h2.now rp2 (by rw [h3]; exact h5)⟩
      · exact h2.elim
    · exact h2.elim
  · exact h1.elim
theorem se_get2 (hu : X.A.units + 66 < cLine) (ho : SE X m o eo) (ha : SE X m a ea) (hb : SE X m b eb) (hm : M2 X eo "get" apos ea eb cpos := by exact ⟨rfl, rfl, rfl, rfl⟩) : SE X m (.get2 o a b) (.Call (.Attribute eo "get" apos) [ea, eb] [] cpos) := by
  refine PEimp (pe_dget2 (by omega) ho ha hb hm) fun σ H Q ⟨F, r, M, τ, sl, rp, h⟩ => ?_
  simp only [evE] at h
  refine tE.go sl rp h fun d M1 F1 r1 v H1 e1 sl1 d1 rp1 h1 => ?_
  dsimp only at h1
  split at h1
  · rename_i hs
    obtain ⟨ad, rfl, hI⟩ := isD_of rp1 d1 hs
    refine ⟨ad, rfl, hI, tE.go sl1 rp1 h1 fun d2 M2 F2 r2 u H2 e2 sl2 d2' rp2 h2 => tE.go sl2 rp2 h2 fun d3 M3 F3 r3 z H3 e3 sl3 d3' rp3 h3 => ?_⟩
    dsimp only at h3
    split at h3
    · rename_i tk kvs e4
      split at h3
      · rename_i ik
        obtain ⟨ad', ea', hg⟩ := dget_den rp3 ((d1.mono e2).mono e3) (d2'.mono e3) e4 ik
        cases ea'
        rcases hg with ⟨h5, h6⟩ | ⟨d', w, h5, h6, h7⟩
        · exact ⟨none, h6, h3.now rp3 (by rw [h5]; exact d3')⟩
        · exact ⟨some w, h6, h3.now rp3 (by rw [h5]; exact h7)⟩
      · exact h3.elim
    · exact h3.elim
  · exact h1.elim

/-! ### functions -/
theorem trim_ok {K : PySem.W.Frag} {cl : Nat → Addr} {F F' : Hp} {r r' : List Addr} {M M' : Store} {H H' : Hp} {keep : Nat} {d : D} {v : V} {Q : VK} {W : XK} (rp : Rep K cl F r M H) (e : Ext F r F' r') (hd : Den K F' r' d v) (rp' : Rep K cl F' r' M' H')
    (h : PostG K cl (Den K) F r Q W (trim keep M d M')) : Q v H' := by
  unfold trim at h
  split at h
  · rename_i hz
    simp only [Bool.and_eq_true] at hz
    obtain ⟨t1, t2⟩ := rp.trim (n := M.length + keep) e rp' (by omega) hz.2
    exact h _ _ v H' t2 (hd.take hz.1) t1
  · exact h _ _ v H' e hd rp'
theorem slots_start {K : PySem.W.Frag} {F : Hp} {r : List Addr} {N : List Str} {ds : List D} {vs : List V} (hd : Dens K F r ds vs) (n : Nat) (hn : N.length = n) : Slots K F r (ds.map some ++ List.replicate (n - ds.length) none) (L2.start N vs) := by
  subst hn
  unfold L2.start
  rw [← hd.length]
  have app : ∀ {ds : List D} {vs : List V}, Dens K F r ds vs → ∀ k, Slots K F r (ds.map some ++ List.replicate k none) (vs.map some ++ List.replicate k none) := by
    intro ds vs hd
    induction ds generalizing vs with
    | nil =>
      cases hd
      intro k
      induction k with
      | zero => exact .nil
      | succ k ih => exact .cons (fun d e => by cases e) ih
    | cons d ds ih =>
      cases hd with
      | cons h1 h2 => exact fun k => .cons (fun d' e => by cases e; exact ⟨_, rfl, h1⟩) (ih h2 k)
  exact app hd _
/-- a function of the text -/
structure FnI (P : Program) (w : World) (K : PySem.W.Frag) (mg : Str → Option Value) (base : Heap) (CX : CXT) (k : Nat) (cl : Nat → Addr) (x : Str) (mir : Mir) : Prop where
  ex : ∃ (f : Addr) (fd : FuncData) (ps : List Str), FnOk P w K mg base CX k f fd ps (spM K cl mir) ∧ mg x = some (.ref f) ∧ PySem.W.keepIn K (.ref f) = true ∧ Binds K fd ps []
theorem FnI.at_ {X : Cx} {CX : CXT} {j k : Nat} {cl : Nat → Addr} {x : Str} {mir : Mir} (h : FnI X.prog X.w X.K X.mg X.base CX j cl x mir) (hj : j ≤ k) : FnIn X CX k cl x mir := by
  obtain ⟨f, fd, ps, h1, h2, h3, h4⟩ := h.ex
  exact ⟨f, fd, ps, h1.mono hj, h2, h3, h4⟩
theorem FnI.mono {P : Program} {w : World} {K : PySem.W.Frag} {mg : Str → Option Value} {base : Heap} {CX : CXT} {j k : Nat} {cl : Nat → Addr} {x : Str} {mir : Mir} (h : FnI P w K mg base CX j cl x mir) (hj : j ≤ k) : FnI P w K mg base CX k cl x mir := by
  obtain ⟨f, fd, ps, h1, h2, h3, h4⟩ := h.ex
  exact ⟨f, fd, ps, h1.mono hj, h2, h3, h4⟩
theorem fn_ok {P : Program} {w : World} {K : PySem.W.Frag} {mg : Str → Option Value} {base : Heap} {cl : Nat → Addr} {x qual : Str} {params : Arguments} {body : List Stmt} {scope : Scope} {f : Addr} {fd : FuncData} {N ps : List Str} {k n p keep : Nat} {G : Gam} {T : T}
    (F : FunD K x qual params body scope [] [] f fd) (S : FnScope N ps scope) (hn : N.length = n) (hp : ps.length = p)
    (hb : ∀ (cdv : Value) (A : Around) (outer : List Env) (s : Shared) (H : Hp) (E : XK), Room k (A.deeper (envOfC qual scope s.heap.objs.size f cdv)) →
      SSs (cxOf CX0 P w K mg base N qual scope f cdv A outer s H E).nox ⟨cl, G, E⟩ T body) : FnOk P w K mg base CX0 (k + 1) f fd ps (spM K cl (mkM n p keep T G)) := by
  have lenOf : ∀ {F : Hp} {r : List Addr} {M : Store} {ds : List D} {Q : VK} {E : XK}, PostG K cl (Den K) F r Q E (mkM n p keep T G ds M) → ds.length = p := fun {F r M ds Q E} h => by
    unfold mkM at h
    split at h
    · assumption
    · exact h.elim
  refine F.ok S (fun vs H Q E ⟨F, r, M, ds, rp, dd, h⟩ => ?_) fun cdv A outer s H vs Q E hr ⟨F, r, M, ds, rp, dd, h⟩ => ⟨tS K ⟨cl, G, E⟩ T, PSs.nox (hb cdv A outer s H E hr), F, r, M, ds.map some ++ List.replicate (n - p) none, ?_, rp, ?_⟩
  · rw [← dd.length, lenOf h, hp]
  · have := slots_start dd n hn
    rw [lenOf h] at this
    exact this
  · have hl := lenOf h
    unfold mkM at h
    rw [if_pos hl] at h
    show PostS K cl F r _ E (evS G T (ds.map some ++ List.replicate (n - p) none) M)
    cases he : evS G T (ds.map some ++ List.replicate (n - p) none) M with
    | nx t M' => rw [he] at h; exact fun F' r' σ' H' e s' rp' => trim_ok rp e .non rp' h
    | rt d M' => rw [he] at h; exact fun F' r' v H' e d' rp' => trim_ok rp e d' rp' h
    | bk t M' => rw [he] at h; exact h.elim
    | ct t M' => rw [he] at h; exact h.elim
    | exc c fs t M' => rw [he] at h; exact h
    | stuck => rw [he] at h; exact h.elim
end
end PyD
end
section
set_option maxRecDepth 100000
set_option autoImplicit false
/-! PdK: a comprehension given to a name on one line. -/
namespace PyD
open PySem PySem.Spec L2
section
variable {X : Cx} {m : Md}
theorem ss_setLc {i : Nat} {y : Str} {py : Pos} {elt tg iter : Expr} {ifs : List Expr} {scope : Scope} {own : List (Str × Nat)} {pos spos : Pos} {Tg it tt e : T} {cell : Bool} (hc : X.calm = true) (hN : X.N.Nodup) (hy : X.N[i]? = some y) (hyl : X.env.scope.names.lookup y = some .local)
    (hi : SI X m tg it iter) (ok : blkC X.N X.env.scope scope own = true)
    (hg : ∀ (s : Shared) (H : Hp) (C : Addr) (cl : List (Str × Addr)) (fp : List Addr), SG (X.blk s H scope (compEnvC scope cl C X.env) fp) m.z Tg tg) (ht : ∀ (s : Shared) (H : Hp) (C : Addr) (cl : List (Str × Addr)) (fp : List Addr), SP (X.blk s H scope (compEnvC scope cl C X.env) fp) m.z tt ifs)
    (he : ∀ (s : Shared) (H : Hp) (C : Addr) (cl : List (Str × Addr)) (fp : List Addr), SE (X.blk s H scope (compEnvC scope cl C X.env) fp) m.z e elt)
    (hsw : swapsWith (.ListComp elt [⟨tg, iter, ifs, 0⟩] scope pos) (some (.Name y py)) spos.line X.env = pure true := by rfl) (hin : tgIn (own.map (·.2)) Tg = true := by rfl) (hs : ∀ x, foldedSetIterable iter X.env x = pure x := by intro _; rfl) :
    SS X m (.asg (.v i) (.comp cell (own.map (·.2)) Tg it tt e)) (.Assign [.Name y py] (.ListComp elt [⟨tg, iter, ifs, 0⟩] scope pos) spos) := by
  have base := ps_setLc (g := tG X.K m.z Tg) (tt := tT X.K m.z tt) (te := tE X.K m.z e) (wi := tI X.K m it) hc hN hy hyl hsw hi (blkOk_by ok) hg ht he hs
  refine PSimp (PSor base (ps_lock base)) fun D σ H h => ?_
  have h := tE_mono (Q' := fun x H1 => gName i x σ H1 D.nx) (fun v H => gname_go) (asg_go h)
  rcases lc_both hin h with h | h
  · exact .inl h
  · exact .inr h
theorem ps_setDc {i : Nat} {y : Str} {py : Pos} {kx vx tg iter : Expr} {ifs : List Expr} {scope : Scope} {own : List (Str × Nat)} {pos spos : Pos} {wi : TI} {g : TG} {tt : TT} {tk tv : TE} (hc : X.calm = true) (hN : X.N.Nodup) (hy : X.N[i]? = some y) (hyl : X.env.scope.names.lookup y = some .local)
    (hsw : swapsWith (.DictComp kx vx [⟨tg, iter, ifs, 0⟩] scope pos) (some (.Name y py)) spos.line X.env = pure true) (hi : PI X tg iter wi) (ok : BlkOk X.N X.env.scope scope own)
    (hg : ∀ (s : Shared) (H : Hp) (C : Addr) (cl : List (Str × Addr)) (fp : List Addr), PG (X.blk s H scope (compEnvC scope cl C X.env) fp) tg g) (ht : ∀ (s : Shared) (H : Hp) (C : Addr) (cl : List (Str × Addr)) (fp : List Addr), PTs (X.blk s H scope (compEnvC scope cl C X.env) fp) ifs tt)
    (hk : ∀ (s : Shared) (H : Hp) (C : Addr) (cl : List (Str × Addr)) (fp : List Addr), PE (X.blk s H scope (compEnvC scope cl C X.env) fp) kx tk)
    (he : ∀ (s : Shared) (H : Hp) (C : Addr) (cl : List (Str × Addr)) (fp : List Addr), PE (X.blk s H scope (compEnvC scope cl C X.env) fp) vx tv) (hs : ∀ x, foldedSetIterable iter X.env x = pure x := by intro _; rfl) :
    PS X (.Assign [.Name y py] (.DictComp kx vx [⟨tg, iter, ifs, 0⟩] scope pos) spos) (tAsg (tDc wi g tt tk tv (own.map (·.2))) (gName i)) := by
  refine ⟨fun pins s σ H D I h => ?_⟩
  rw [exec_Assign_Name_used _ _ _ _ hsw]
  refine wpAny_bind (wpAny_standAt (wpAny_bind ?_))
  show wpAny _ X.A (do let _ ← comprehension (.DictComp kx vx [⟨tg, iter, ifs, 0⟩] scope pos) scope X.env (firstIterPos [⟨tg, iter, ifs, 0⟩] pos) newDict false (eval iter X.env) (some (assign (.Name y py) X.env))) _ _ s
  have h : tDc wi g tt tk tv (own.map (·.2)) σ H (fun x H1 => gName i x σ H1 D.nx) := h
  refine wpAny_bind (thn (dc_core (Qf := fun _ s' => L2.SP X pins D .next s') hc hN I hi ok hg ht hk he hs h fun L C s' m H' I' q hn f => ?_) fun _ s' hq => wpAny_pure (wpAny_pure hq))
  show wpAny _ _ (assign (.Name y py) X.env (.ref L)) _ _ _
  refine wpAny_assign_Name (store_ok2 (v := V.ref L) I' hN hy (.inl hyl) rfl (fun s2 I2 ⟨a, sb, ha⟩ => ?_) (.inr hyl))
  obtain ⟨f0, f1, f2, f3, f4, f5⟩ := f
  have haC : C ≠ a := by
    rcases ha with z | z
    · rw [z]; exact f1
    · exact fun e => f4 y a z e.symm
  refine ⟨m, hn.sameBut sb haC, fun h3 sb3 => ?_⟩
  exact ⟨_, H', I2.turned (t' := s2.toks) (fun b o hb e => (sb3.2 b hb).trans e) f0 f1 f3 f4 f5, q⟩
theorem ss_setDc {i : Nat} {y : Str} {py : Pos} {kx vx tg iter : Expr} {ifs : List Expr} {scope : Scope} {own : List (Str × Nat)} {pos spos : Pos} {Tg it tt k e : T} (hc : X.calm = true) (hN : X.N.Nodup) (hy : X.N[i]? = some y) (hyl : X.env.scope.names.lookup y = some .local)
    (hi : SI X m tg it iter) (ok : blkC X.N X.env.scope scope own = true)
    (hg : ∀ (s : Shared) (H : Hp) (C : Addr) (cl : List (Str × Addr)) (fp : List Addr), SG (X.blk s H scope (compEnvC scope cl C X.env) fp) m.z Tg tg) (ht : ∀ (s : Shared) (H : Hp) (C : Addr) (cl : List (Str × Addr)) (fp : List Addr), PyD.SP (X.blk s H scope (compEnvC scope cl C X.env) fp) m.z tt ifs)
    (hk : ∀ (s : Shared) (H : Hp) (C : Addr) (cl : List (Str × Addr)) (fp : List Addr), SE (X.blk s H scope (compEnvC scope cl C X.env) fp) m.z k kx)
    (he : ∀ (s : Shared) (H : Hp) (C : Addr) (cl : List (Str × Addr)) (fp : List Addr), SE (X.blk s H scope (compEnvC scope cl C X.env) fp) m.z e vx)
    (hsw : swapsWith (.DictComp kx vx [⟨tg, iter, ifs, 0⟩] scope pos) (some (.Name y py)) spos.line X.env = pure true := by rfl) (hin : tgIn (own.map (·.2)) Tg = true := by rfl) (hs : ∀ x, foldedSetIterable iter X.env x = pure x := by intro _; rfl) :
    SS X m (.asg (.v i) (.dcomp (own.map (·.2)) Tg it tt k e)) (.Assign [.Name y py] (.DictComp kx vx [⟨tg, iter, ifs, 0⟩] scope pos) spos) := by
  have base := ps_setDc (g := tG X.K m.z Tg) (tt := tT X.K m.z tt) (tk := tE X.K m.z k) (tv := tE X.K m.z e) (wi := tI X.K m it) hc hN hy hyl hsw hi (blkOk_by ok) hg ht hk he hs
  refine PSimp (PSor base (ps_lock base)) fun D σ H h => ?_
  have h := tE_mono (Q' := fun x H1 => gName i x σ H1 D.nx) (fun v H => gname_go) (asg_go h)
  rcases dc_both hin h with h | h
  · exact .inl h
  · exact .inr h
end
end PyD
end
section
set_option maxRecDepth 100000
set_option autoImplicit false
/-! PdL: what the printed texts name. -/
namespace PyD
open PySem PySem.Spec L2
def visB (sc : Scope) (x : Str) : Bool := match sc.names.lookup x with
  | some .local => true
  | some .cell => true
  | some .free => true
  | _ => false
theorem visOf {sc : Scope} {x : Str} (h : visB sc x = true) : Vis sc x := by
  unfold visB at h
  split at h
  · rename_i e; exact .inl e
  · rename_i e; exact .inr (.inl e)
  · rename_i e; exact .inr (.inr e)
  · cases h
def locB (sc : Scope) (x : Str) : Bool := match sc.names.lookup x with
  | some .local => true
  | some .cell => true
  | _ => false
theorem locOf {sc : Scope} {x : Str} (h : locB sc x = true) : Loc sc x := by
  unfold locB at h
  split at h
  · rename_i e; exact .inl e
  · rename_i e; exact .inr e
  · cases h
theorem room_hu {k : Nat} {A : Around} (r : Room k A) : A.units + 66 < cLine := by have := r.un; omega
/-- a constant of the text -/
structure GC (K : PySem.W.Frag) (mg : Str → Option Value) (x : Str) (d : D) : Prop where
  ex : ∃ v u, mg x = some u ∧ RelV v u ∧ ∀ F r, Den K F r d v
section
variable {X : Cx} {m : Md} {pos : Pos}
theorem se_v {i : Nat} {x : Str} (hN : X.N[i]? = some x) (hv : visB X.env.scope x = true) (hd : (x == ("__debug__" : Str)) = false := by decide) (hcd : (x == ("__classdict__" : Str)) = false := by decide) : SE X m (.v i) (.Name x pos) :=
  se_var hN (visOf hv) hd hcd
theorem se_gx {i : Nat} {d : D} {x : Str} (h : GC X.K X.mg x d) (hg : Gl X x) (hi : m.G.con[i]? = some d) (hdb : (x == ("__debug__" : Str)) = false := by decide) : SE X m (.g i) (.Name x pos) := by
  obtain ⟨v, u, h1, h2, h3⟩ := h.ex
  exact se_g hg h1 h2 hi h3 hdb
end
end PyD
end
section
set_option maxRecDepth 100000
set_option autoImplicit false
/-! PdM: the head: facts by a check of one's own; the law's start. -/
namespace PyD
open PySem PySem.Spec L2
/-! ### the Hook with a check of one's own -/
abbrev AlX : Type := Bool × He.AlD
def obsX (n : Nat) (ex : PySem.W.Frag → Bool) (fa : List He.Fa) (fn : List He.DefD) (g : Addr → Option Obj) : AlX := (ex (He.frG g (He.asD g n)), He.obsDG n fa fn g)
def hookX (n : Nat) (ex : PySem.W.Frag → Bool) (fa : List He.Fa) (fn : List He.DefD) : PySem.W.Hook where
  α := AlX
  obs := fun s => obsX n ex fa fn s.heap.get?
  val := fun _ => (true, He.valD fn)
  says := fun _ h => ∃ K : PySem.W.Frag, K.In h ∧ ex K = true ∧ He.SaysD fa fn K
  of := fun _ _ e => ⟨_, He.frG_in, congrArg (fun z : AlX => z.1) e, congrArg (fun z : AlX => z.2) e⟩
  keeps := fun _ _ _ ⟨K, hK, c⟩ k => ⟨K, PySem.W.Frag.In.keeps hK k, c⟩
theorem obsX_eq {n : Nat} {ex : PySem.W.Frag → Bool} {fa : List He.Fa} {fn : List He.DefD} {g : Addr → Option Obj} {s : Shared} (h : ∀ a, g a = s.heap.get? a) : obsX n ex fa fn g = (hookX n ex fa fn).obs s := by
  have e : g = s.heap.get? := funext h
  rw [e] <;> rfl
/-- a name is that built-in function -/
def bltB (K : PySem.W.Frag) (x : Str) (id : String) : Bool := He.eqO (PySem.W.nsIn K mainGlobals x) (some (some (.builtin id)))
theorem bltB_ok {K : PySem.W.Frag} {h : Heap} {mg : Str → Option Value} {x : Str} {id : String} (X : K.In h) (G : h.Ns mainGlobals mg) (c : bltB K x id = true) : mg x = some (.builtin id) := PySem.W.mg_of X G (He.eqO_ok c)
/-- a name is that tuple of numbers and texts -/
def dvD : He.Dv → D
  | .int i => .int i
  | .str s => .str s
  | .bl b => .bl b
  | _ => .non
def dvOk : He.Dv → Bool
  | .int _ | .bl _ | .non => true
  | .str s => PyData.strOk s
  | _ => false
def tupC (K : PySem.W.Frag) (x : Str) (vs : List He.Dv) : Bool := He.tupB K x vs && (He.eqO (PySem.W.nsIn K mainGlobals x) (some (some (.ref (He.ga K x)))) && (vs.all dvOk && match vs with
  | .str _ :: _ => false
  | _ => true))
theorem dvs_den {K : PySem.W.Frag} {F : Hp} {r : List Addr} : ∀ {vs : List He.Dv}, vs.all dvOk = true → Dens K F r (vs.map dvD) (vs.map (He.Dv.v K))
  | [], _ => .nil
  | v :: vs, h => by
    rw [List.all_cons, Bool.and_eq_true] at h
    refine .cons ?_ (dvs_den h.2)
    cases v with
    | int i => exact .int i
    | bl i => exact .bl i
    | str s => exact .str s h.1
    | non => exact .non
    | _ => exact absurd h.1 (by simp [dvOk])
theorem tupC_ok {K : PySem.W.Frag} {h : Heap} {mg : Str → Option Value} {x : Str} {vs : List He.Dv} (X : K.In h) (G : h.Ns mainGlobals mg) (c : tupC K x vs = true) : GC K mg x (.tup (vs.map dvD)) := by
  obtain ⟨h1, h2⟩ := He.ba c
  obtain ⟨h2, h3⟩ := He.ba h2
  obtain ⟨h3, h4⟩ := He.ba h3
  refine ⟨.ref (He.ga K x), .ref (He.ga K x), PySem.W.mg_of X G (He.eqO_ok h2), rfl, fun F r => ?_⟩
  rcases He.tupB_ok h1 (fun _ => none) with z | z
  · rcases z with z | ⟨_, z⟩ <;> cases z
  · refine .tupK z (fun s l e => ?_) (dvs_den h3)
    cases vs with
    | nil => cases e
    | cons v vs =>
      cases v with
      | str s' => exact absurd h4 (by simp)
      | _ => simp [dvD] at e
/-! ### the law's start -/
theorem law_sp {K : PySem.W.Frag} {cl : Nat → Addr} {H : Hp} {a : Addr} {ns : List Int} {mir : Mir} {E : XK} (hO : Only H) (hS : SqL K H a (ns.map V.int))
    (hm : ∀ c, (c = Cell.scr ns ∨ c = Cell.lkl (ns.map D.int)) → ∃ M', mir [.ref 0] [c] = .ok (.bl true, M')) : spM K cl mir [.ref a] H (fun v _ => v = .bl true) E := by
  have go : ∀ c, (c = Cell.scr ns ∨ c = Cell.lkl (ns.map D.int)) → CellAt K cl H [a] H a c → spM K cl mir [.ref a] H (fun v _ => v = .bl true) E := fun c hc hat => by
    obtain ⟨M', e⟩ := hm c hc
    refine ⟨H, [a], [c], [.ref 0], ⟨fun _ _ h => h, rfl, fun m n b c1 c2 h1 h2 _ _ _ _ => ?_, fun n c' h => ?_⟩, .cons (.ref rfl) .nil, ?_⟩
    · have l1 := (List.getElem?_eq_some_iff.mp h1).1
      have l2 := (List.getElem?_eq_some_iff.mp h2).1
      simp at l1 l2
      omega
    · have l1 := (List.getElem?_eq_some_iff.mp h).1
      simp at l1
      subst l1
      cases h
      exact ⟨a, rfl, hat⟩
    · rw [e]
      intro F' r' v H' _ d _
      cases d
      rfl
  rcases hS with (h | ⟨od, h⟩) | h
  · rcases hO a with z | ⟨_, _, z⟩
    · rw [h] at z; cases z
    · rw [h] at z; cases z
  · exact go _ (.inr rfl) (.lkl h (Dens.ofInts ns))
  · exact go _ (.inl rfl) (.scr (.inr h))
end PyD
end
section
set_option maxRecDepth 100000
set_option autoImplicit false
/-! PdN: reading mirrors: rules for the interpreter's values. -/
namespace PyD
/-! data without truth values: equality is equality -/
mutual
def D.nb : D → Bool
  | .bl _ => false
  | .tup xs => D.nbL xs
  | .lst xs => D.nbL xs
  | .ref _ => false
  | _ => true
def D.nbL : List D → Bool
  | [] => true
  | x :: xs => D.nb x && D.nbL xs
end
end PyD
namespace PyM
open PySem L2 PyD
section
variable {M : Store} {cell : Bool} {i j : Int}
theorem okC_same : ∀ {n : Nat} {M : Store}, okC n M M = true
  | _, [] => rfl
  | n, c :: M => by simp [okC, okC_same (n := n) (M := M)]
theorem trim_app {d : D} {C : Store} (h : d.bd M.length = true) : trim 0 M d (M ++ C) = .ok (d, M) := by
  unfold trim
  have e : (M ++ C).take (M.length + 0) = M := by simp
  rw [e, Nat.add_zero, h, okC_same]
  simp
theorem trim_same {d : D} (h : d.bd M.length = true) : trim 0 M d M = .ok (d, M) := by
  have := trim_app (M := M) (C := []) h
  simpa using this
@[simp] theorem bin_addI : binD .add cell (.int i) (.int j) M = .ok (.int (i + j), M) := rfl
@[simp] theorem bin_subI : binD .sub cell (.int i) (.int j) M = .ok (.int (i - j), M) := rfl
theorem bin_mulI (h : mulOk i j = true) : binD .mul cell (.int i) (.int j) M = .ok (.int (i * j), M) := by simp [binD, binI, h]
theorem bin_divI (h : divOk j = true) : binD .fdiv cell (.int i) (.int j) M = .ok (.int (i.fdiv j), M) := by simp [binD, binI, h]
theorem bin_modI (h : j ≠ 0) : binD .mod cell (.int i) (.int j) M = .ok (.int (i.fmod j), M) := by simp [binD, binI, h]
/-- small enough to be multiplied with anything -/
def sm (i : Int) : Prop := i.natAbs < 2 ^ 64
theorem mulOk_r (h : sm j) : mulOk i j = true := by
  unfold sm at h
  have h1 : -(2 ^ 64) < j := by omega
  have h2 : j < 2 ^ 64 := by omega
  simp only [mulOk_eq, Bool.or_eq_true, Bool.and_eq_true, decide_eq_true_eq]
  exact .inl (.inr ⟨h1, h2⟩)
theorem mulOk_l (h : sm i) : mulOk i j = true := by
  unfold sm at h
  have h1 : -(2 ^ 64) < i := by omega
  have h2 : i < 2 ^ 64 := by omega
  simp only [mulOk_eq, Bool.or_eq_true, Bool.and_eq_true, decide_eq_true_eq]
  exact .inl (.inl ⟨h1, h2⟩)
theorem divOk_pos (h : 0 < j) (h2 : j.natAbs < 2 ^ 8000) : divOk j = true := by
  simp only [divOk_eq, Bool.or_eq_true, Bool.and_eq_true, decide_eq_true_eq]
  exact .inr ⟨h, h2⟩
theorem sm_lt (h : sm i) : i.natAbs < 2 ^ 8000 := Nat.lt_of_lt_of_le h (Nat.pow_le_pow_right (by decide) (by decide))
mutual
theorem eqv_nb : ∀ {x y : D}, x.nb = true → y.nb = true → eqv x y = decide (x = y)
  | .non, y, _, hy => by cases y <;> first | rfl | simp [eqv] | cases hy
  | .int i, y, _, hy => by cases y <;> first | (simp [eqv]; done) | cases hy
  | .str i, y, _, hy => by cases y <;> first | (simp [eqv]; done) | cases hy
  | .tup xs, y, hx, hy => by
    cases y with
    | tup ys =>
      simp only [eqv]
      rw [eqvL_nb (by simpa [D.nb] using hx) (by simpa [D.nb] using hy)]
      by_cases c : xs = ys <;> simp [c]
    | _ => first | (simp [eqv]; done) | cases hy
  | .lst xs, y, hx, hy => by
    cases y with
    | lst ys =>
      simp only [eqv]
      rw [eqvL_nb (by simpa [D.nb] using hx) (by simpa [D.nb] using hy)]
      by_cases c : xs = ys <;> simp [c]
    | _ => first | (simp [eqv]; done) | cases hy
  | .bl _, _, hx, _ => by cases hx
  | .ref _, _, hx, _ => by cases hx
theorem eqvL_nb : ∀ {xs ys : List D}, D.nbL xs = true → D.nbL ys = true → eqvL xs ys = decide (xs = ys)
  | [], [], _, _ => rfl
  | [], _ :: _, _, _ => by simp [eqvL]
  | _ :: _, [], _, _ => by simp [eqvL]
  | x :: xs, y :: ys, hx, hy => by
    simp only [D.nbL, Bool.and_eq_true] at hx hy
    simp only [eqvL]
    rw [eqv_nb hx.1 hy.1, eqvL_nb hx.2 hy.2]
    by_cases c : x = y <;> by_cases c2 : xs = ys <;> simp [c, c2]
end
mutual
theorem nb_pl : ∀ {x : D}, x.nb = true → x.pl = true
  | .non, _ | .int _, _ | .str _, _ => rfl
  | .tup xs, h => by simp only [D.nb] at h; simp only [D.pl]; exact nbL_pl h
  | .lst xs, h => by simp only [D.nb] at h; simp only [D.pl]; exact nbL_pl h
  | .bl _, _ => rfl
  | .ref _, h => by cases h
theorem nbL_pl : ∀ {xs : List D}, D.nbL xs = true → D.plL xs = true
  | [], _ => rfl
  | x :: xs, h => by
    simp only [D.nbL, Bool.and_eq_true] at h
    simp only [D.plL, nb_pl h.1, nbL_pl h.2, Bool.and_self]
end
mutual
theorem pl_bd : ∀ {n : Nat} {x : D}, x.pl = true → x.bd n = true
  | _, .non, _ | _, .int _, _ | _, .str _, _ | _, .bl _, _ => rfl
  | n, .tup xs, h => by simp only [D.pl] at h; simp only [D.bd]; exact plL_bd h
  | n, .lst xs, h => by simp only [D.pl] at h; simp only [D.bd]; exact plL_bd h
  | _, .ref _, h => by cases h
theorem plL_bd : ∀ {n : Nat} {xs : List D}, D.plL xs = true → D.bdL n xs = true
  | _, [], _ => rfl
  | n, x :: xs, h => by
    simp only [D.plL, Bool.and_eq_true] at h
    simp only [D.bdL, pl_bd h.1, plL_bd h.2, Bool.and_self]
end
theorem dictOf_nr {x : D} (h : ∀ n, x ≠ .ref n) : dictOf M x = none := by cases x <;> first | rfl | exact absurd rfl (h _)
theorem open1_nr {x : D} (h : ∀ n, x ≠ .ref n) : open1 M x = x := by cases x <;> first | rfl | exact absurd rfl (h _)
theorem nb_nr {x : D} (h : x.nb = true) (n : Nat) : x ≠ .ref n := fun e => by rw [e] at h; cases h
theorem eqD_nb {x y : D} (hx : x.nb = true) (hy : y.nb = true) (dx : x.dep ≤ 30) (dy : y.dep ≤ 30) : eqD M x y = some (decide (x = y)) := by
  unfold eqD
  rw [dictOf_nr (nb_nr hx), dictOf_nr (nb_nr hy), open1_nr (nb_nr hx), open1_nr (nb_nr hy)]
  simp only [plOk, nb_pl hx, nb_pl hy, dx, dy, decide_true, Bool.and_self, if_true, eqv_nb hx hy]
@[simp] theorem eqD_int : eqD M (.int i) (.int j) = some (decide (i = j)) := by
  rw [eqD_nb rfl rfl (by simp [D.dep]) (by simp [D.dep])]; simp
@[simp] theorem eqD_str {a b : Str} : eqD M (.str a) (.str b) = some (decide (a = b)) := by
  rw [eqD_nb rfl rfl (by simp [D.dep]) (by simp [D.dep])]; simp
/-- a fraction -/
def frq (q : Rat) : D := .tup [.int q.num, .int q.den]
theorem frq_nb {q : Rat} : (frq q).nb = true := rfl
@[simp] theorem frq_bd {q : Rat} {n : Nat} : (frq q).bd n = true := rfl
theorem frq_dep {q : Rat} : (frq q).dep ≤ 30 := by simp [frq, D.dep, D.depL]
theorem frq_inj {p q : Rat} (h : frq p = frq q) : p = q := by
  simp only [frq, D.tup.injEq, List.cons.injEq, D.int.injEq, and_true] at h
  exact Rat.ext h.1 (by omega)
@[simp] theorem eqD_frq {p q : Rat} : eqD M (frq p) (frq q) = some (decide (p = q)) := by
  rw [eqD_nb frq_nb frq_nb frq_dep frq_dep]
  by_cases h : p = q
  · simp [h]
  · simp only [h, decide_false, Option.some.injEq, decide_eq_false_iff_not]; exact fun e => h (frq_inj e)
@[simp] theorem ix_frq0 {q : Rat} : ixD M (frq q) (.int 0) = some (.int q.num) := rfl
@[simp] theorem ix_frq1 {q : Rat} : ixD M (frq q) (.int 1) = some (.int q.den) := rfl
@[simp] theorem b1_int {M : Store} : b1D .int cell (.int i) M = .ok (.int i, M) := rfl
@[simp] theorem b1_abs {M : Store} : b1D .abs cell (.int i) M = .ok (.int (i.natAbs : Nat), M) := by
  show R.ok (D.int (if i < 0 then -i else i), M) = _
  congr 2
  split <;> congr 1 <;> omega
@[simp] theorem tru_bl {b : Bool} : truD M (.bl b) = some b := rfl
@[simp] theorem tru_int : truD M (.int i) = some (i != 0) := rfl
@[simp] theorem ix_tup {xs : List D} : ixD M (.tup xs) (.int i) = atI xs i := rfl
@[simp] theorem ix_lst {xs : List D} : ixD M (.lst xs) (.int i) = atI xs i := rfl
@[simp] theorem atI0 {α : Type} {x : α} {xs : List α} : atI (x :: xs) 0 = some x := atI_nat (xs := x :: xs) (j := 0) rfl
@[simp] theorem atI1 {α : Type} {x y : α} {xs : List α} : atI (x :: y :: xs) 1 = some y := atI_nat (xs := x :: y :: xs) (j := 1) rfl
@[simp] theorem atI2 {α : Type} {x y z : α} {xs : List α} : atI (x :: y :: z :: xs) 2 = some z := atI_nat (xs := x :: y :: z :: xs) (j := 2) rfl

/-! ### statements, one by one -/
section
variable {G : Gam} {a b c o k tg it : T} {t : Tau} {M : Store} {v w : Nat}
theorem evS_snil : evS G .snil t M = .nx t M := by simp only [evS]
theorem evS_scons : evS G (.scons a b) t M = (match evS G a t M with
    | .nx t' M' => evS G b t' M'
    | o => o) := by
  simp only [evS] <;> (cases evS G a t M <;> rfl)
theorem evS_expr : evS G (.expr a) t M = (evE G a t M).out t fun x => .nx t x.2 := by simp only [evS]
theorem evS_asg : evS G (.asg tg a) t M = (evE G a t M).out t fun x => ofO (asgT tg x.1 t x.2) fun t' => .nx t' x.2 := by simp only [evS]
theorem evS_par : evS G (.par v w a b) t M = (evE G a t M).out t fun x => (evE G b t x.2).out t fun y => if v < t.length ∧ w < t.length then .nx ((t.set v (some x.1)).set w (some y.1)) y.2 else .stuck := by simp only [evS]
theorem evS_put : evS G (.put o k a) t M = (evE G a t M).out t fun x => (evE G o t x.2).out t fun y => (evE G k t y.2).out t fun z => ofO (putIx z.2 y.1 z.1 x.1) fun M' => .nx t M' := by simp only [evS]
theorem evS_ret : evS G (.ret a) t M = (evE G a t M).out t fun x => .rt x.1 x.2 := by simp only [evS]
theorem evS_retN : evS G .retN t M = .rt .non M := by simp only [evS]
theorem evS_iff : evS G (.iff c a b) t M = (evT G c t M).out t fun x => if x.1 = true then evS G a t x.2 else evS G b t x.2 := by simp only [evS]
theorem evS_pass : evS G .pass t M = .nx t M := by simp only [evS]
theorem evS_brk : evS G .brk t M = .bk t M := by simp only [evS]
theorem evS_cnt : evS G .cnt t M = .ct t M := by simp only [evS]
/-- a turn of a for -/
noncomputable def stF (G : Gam) (tg b : T) (d : D) (t : Tau) (M : Store) : Out := ofO (asgT tg d t M) fun t' => evS G b t' M
theorem evS_for : evS G (.for_ tg it b) t M = (evI G it t M).out t fun w => (runFor (stF G tg b) w.1.1 t (lockN w.1.2 w.2)).unlock w.1.2 := by simp only [evS]; rfl
end
/-- what holds behind a statement: P when it goes on, Q when it returns -/
def Wp (x : Out) (P : Tau → Store → Prop) (Q : D → Store → Prop) : Prop := match x with
  | .nx t M => P t M
  | .rt d M => Q d M
  | _ => False
@[simp] theorem wp_nx {t : Tau} {M : Store} {P : Tau → Store → Prop} {Q : D → Store → Prop} : Wp (.nx t M) P Q = P t M := rfl
@[simp] theorem wp_rt {d : D} {M : Store} {P : Tau → Store → Prop} {Q : D → Store → Prop} : Wp (.rt d M) P Q = Q d M := rfl
theorem Wp.mono {x : Out} {P P' : Tau → Store → Prop} {Q Q' : D → Store → Prop} (h : Wp x P Q) (h1 : ∀ t M, P t M → P' t M) (h2 : ∀ d M, Q d M → Q' d M) : Wp x P' Q' := by
  cases x <;> first | exact h1 _ _ h | exact h2 _ _ h | exact h
theorem wp_scons {G : Gam} {a b : T} {t : Tau} {M : Store} {P : Tau → Store → Prop} {Q : D → Store → Prop} (h : Wp (evS G a t M) (fun t M => Wp (evS G b t M) P Q) Q) : Wp (evS G (.scons a b) t M) P Q := by
  rw [evS_scons]
  cases he : evS G a t M <;> rw [he] at h <;> first | exact h | exact h.elim
theorem wp_run {f : D → Tau → Store → Out} {P : Tau → Store → Prop} {Q : D → Store → Prop} (I : Nat → Tau → Store → Prop) : ∀ (ds : List D) (i : Nat) (t : Tau) (M : Store), I i t M →
    (∀ j d t M, ds[j]? = some d → I (i + j) t M → Wp (f d t M) (I (i + j + 1)) Q) → (∀ t M, I (i + ds.length) t M → P t M) → Wp (runFor f ds t M) P Q
  | [], i, t, M, h, _, he => he t M h
  | d :: ds, i, t, M, h, hs, he => by
    have h1 := hs 0 d t M rfl h
    unfold runFor
    cases hf : f d t M with
    | nx t' M' =>
      rw [hf] at h1
      exact wp_run I ds (i + 1) t' M' h1 (fun j d' t M e hi => by
        have := hs (j + 1) d' t M (by simpa using e) (by rw [show i + (j + 1) = i + 1 + j by omega]; exact hi)
        rw [show i + (j + 1) + 1 = i + 1 + j + 1 by omega] at this
        exact this) (fun t M hi => he t M (by rw [List.length_cons, show i + (ds.length + 1) = i + 1 + ds.length by omega]; exact hi))
    | rt d' M' => rw [hf] at h1; exact h1
    | bk t' M' => rw [hf] at h1; exact h1.elim
    | ct t' M' => rw [hf] at h1; exact h1.elim
    | exc c fs t' M' => rw [hf] at h1; exact h1.elim
    | stuck => rw [hf] at h1; exact h1.elim
/-- a for over things that stay -/
theorem wp_for {G : Gam} {tg it b : T} {t : Tau} {M M1 : Store} {ds : List D} {P : Tau → Store → Prop} {Q : D → Store → Prop} (I : Nat → Tau → Store → Prop) (hi : evI G it t M = .ok ((ds, none), M1)) (h0 : I 0 t M1)
    (hs : ∀ j d t M, ds[j]? = some d → I j t M → Wp (stF G tg b d t M) (I (j + 1)) Q) (he : ∀ t M, I ds.length t M → P t M) : Wp (evS G (.for_ tg it b) t M) P Q := by
  rw [evS_for, hi, R.out_ok]
  have := wp_run (f := stF G tg b) (P := P) (Q := Q) I ds 0 t M1 h0 (fun j d t M e h => by rw [Nat.zero_add] at h ⊢; exact hs j d t M e h) (fun t M h => he t M (by rwa [Nat.zero_add] at h))
  dsimp only
  show Wp ((runFor (stF G tg b) ds t M1).unlock none) P Q
  cases hr : runFor (stF G tg b) ds t M1 <;> rw [hr] at this <;> first | exact this | exact this.elim
/-- a def's mirror -/
theorem mk_wp {n p keep : Nat} {b : T} {G : Gam} {ds : List D} {M : Store} {r : R (D × Store)} (hl : ds.length = p) (h : Wp (evS G b (ds.map some ++ List.replicate (n - p) none) M) (fun _ M' => trim keep M .non M' = r) (fun d M' => trim keep M d M' = r)) : mkM n p keep b G ds M = r := by
  unfold mkM
  rw [if_pos hl]
  cases he : evS G b (ds.map some ++ List.replicate (n - p) none) M <;> rw [he] at h <;> first | exact h | exact h.elim
theorem mk_wpP {n p keep : Nat} {b : T} {G : Gam} {ds : List D} {M : Store} {P : R (D × Store) → Prop} (hl : ds.length = p) (h : Wp (evS G b (ds.map some ++ List.replicate (n - p) none) M) (fun _ M' => P (trim keep M .non M')) (fun d M' => P (trim keep M d M'))) : P (mkM n p keep b G ds M) := by
  unfold mkM
  rw [if_pos hl]
  cases he : evS G b (ds.map some ++ List.replicate (n - p) none) M <;> rw [he] at h <;> first | exact h | exact h.elim
theorem divOk_lit {j : Int} (h : 0 < j) (h2 : j < 2 ^ 100) : divOk j = true := divOk_pos h (Nat.lt_of_lt_of_le (by omega : j.natAbs < 2 ^ 100) (Nat.pow_le_pow_right (by decide) (by decide)))

/-! ### comprehensions -/
theorem compL_map {n : Nat} {step : D → Store → R (Option D × Store)} {f : D → D} {M : Store} (hn : M.length = n) : ∀ (ds acc : List D), acc.length + ds.length ≤ big →
    (∀ d ∈ ds, ∀ acc : List D, step d (M ++ [.lst acc]) = .ok (some (f d), M ++ [.lst acc])) → compL n step ds (M ++ [.lst acc]) = .ok (M ++ [.lst (acc ++ ds.map f)])
  | [], acc, _, _ => by simp [compL]
  | d :: ds, acc, hl, h => by
    unfold compL
    rw [h d List.mem_cons_self acc, R.bind_ok]
    subst hn
    have e : (M ++ [Cell.lst acc])[M.length]? = some (.lst acc) := by simp
    have e2 : (M ++ [Cell.lst acc]).set M.length (.lst (acc ++ [f d])) = M ++ [.lst (acc ++ [f d])] := by simp
    have hlt : acc.length < big := by rw [List.length_cons] at hl; omega
    simp only [e, hlt, if_true, e2]
    have := compL_map rfl ds (acc ++ [f d]) (by rw [List.length_append, List.length_cons, List.length_nil]; rw [List.length_cons] at hl; omega) fun d' hd' => h d' (List.mem_cons_of_mem _ hd')
    rw [this, List.append_assoc]
    rfl
/-- .. with a test -/
theorem compL_fil {n : Nat} {step : D → Store → R (Option D × Store)} {f : D → Option D} {M : Store} (hn : M.length = n) : ∀ (ds acc : List D), acc.length + ds.length ≤ big →
    (∀ d ∈ ds, ∀ acc : List D, step d (M ++ [.lst acc]) = .ok (f d, M ++ [.lst acc])) → compL n step ds (M ++ [.lst acc]) = .ok (M ++ [.lst (acc ++ ds.filterMap f)])
  | [], acc, _, _ => by simp [compL]
  | d :: ds, acc, hl, h => by
    unfold compL
    rw [h d List.mem_cons_self acc, R.bind_ok]
    subst hn
    cases hf : f d with
    | none =>
      dsimp only
      rw [List.filterMap_cons_none hf]
      exact compL_fil rfl ds acc (by rw [List.length_cons] at hl; omega) fun d' hd' => h d' (List.mem_cons_of_mem _ hd')
    | some y =>
      have e : (M ++ [Cell.lst acc])[M.length]? = some (.lst acc) := by simp
      have e2 : (M ++ [Cell.lst acc]).set M.length (.lst (acc ++ [y])) = M ++ [.lst (acc ++ [y])] := by simp
      have hlt : acc.length < big := by rw [List.length_cons] at hl; omega
      simp only [e, hlt, if_true, e2]
      have := compL_fil rfl ds (acc ++ [y]) (by rw [List.length_append, List.length_cons, List.length_nil]; rw [List.length_cons] at hl; omega) fun d' hd' => h d' (List.mem_cons_of_mem _ hd')
      rw [this, List.append_assoc, List.filterMap_cons_some hf]
      rfl
theorem endL_new {M : Store} {xs : List D} (h : D.bdL M.length xs = true) : endL false M (M ++ [.lst xs]) = .ok (.lst xs, M) := by
  unfold endL
  have e : (M ++ [Cell.lst xs])[M.length]? = some (.lst xs) := by simp
  have e2 : (M ++ [Cell.lst xs]).take M.length = M := by simp
  simp [e, e2, h, okC_same]
theorem endL_cell {M : Store} {xs : List D} : endL true M (M ++ [.lst xs]) = .ok (.ref M.length, M ++ [.lst xs]) := by simp [endL]
section
variable {G : Gam} {own : List Nat} {tg it tt e k : T} {t : Tau} {M M1 : Store} {ds : List D}
theorem ev_comp {f : D → Option D} (hi : evI G it t M = .ok ((ds, none), M1)) (hs : ∀ d ∈ ds, ∀ acc : List D, stepL G own tg tt e t d (M1 ++ [.lst acc]) = .ok (f d, M1 ++ [.lst acc])) (hl : ds.length ≤ big) (hb : D.bdL M1.length (ds.filterMap f) = true) :
    evE G (.comp false own tg it tt e) t M = .ok (.lst (ds.filterMap f), M1) := by
  rw [evE_comp, hi, R.bind_ok]
  show ((compX G false own tg tt e t ds M1).bind fun r => (R.ofO (unlockN none r.2)).bind fun M' => .ok (r.1, M')) = _
  unfold compX
  rw [compL_fil rfl ds [] (by simpa using hl) hs]
  simp only [R.calm_ok, R.bind_ok, List.nil_append]
  rw [endL_new hb]
  rfl
/-- over a dict of the store -/
theorem ev_comp_lk {f : D → Option D} {n : Nat} (hi : evI G it t M = .ok ((ds, some n), M)) {kvs : List (D × D)} (hn : M[n]? = some (.dct false kvs)) (hs : ∀ d ∈ ds, ∀ acc : List D, stepL G own tg tt e t d (M.set n (.lkd false kvs) ++ [.lst acc]) = .ok (f d, M.set n (.lkd false kvs) ++ [.lst acc])) (hl : ds.length ≤ big) (hb : D.bdL M.length (ds.filterMap f) = true) :
    evE G (.comp false own tg it tt e) t M = .ok (.lst (ds.filterMap f), M) := by
  rw [evE_comp, hi, R.bind_ok]
  have e1 : lockN (some n) M = M.set n (.lkd false kvs) := by simp only [lockN, hn]
  show ((compX G false own tg tt e t ds (lockN (some n) M)).bind fun r => (R.ofO (unlockN (some n) r.2)).bind fun M' => .ok (r.1, M')) = _
  rw [e1]
  unfold compX
  rw [compL_fil rfl ds [] (by simpa using hl) hs]
  simp only [R.calm_ok, R.bind_ok, List.nil_append]
  rw [endL_new (by rw [List.length_set]; exact hb), R.bind_ok]
  have hlt := (List.getElem?_eq_some_iff.mp hn).1
  have e2 : unlockN (some n) (M.set n (.lkd false kvs)) = some M := by
    simp only [unlockN, List.getElem?_set_self hlt, List.set_set]
    rw [show M.set n (.dct false kvs) = M from by rw [← (List.getElem?_eq_some_iff.mp hn).2]; exact List.set_getElem_self hlt]
  simp only [e2, R.ofO_some, R.bind_ok]
theorem evI_dct {i n : Nat} {kvs : List (D × D)} (ht : t[i]? = some (some (.ref n))) (hn : M[n]? = some (.dct false kvs)) : evI G (.wd (.v i)) t M = .ok ((kvs.map (·.1), some n), M) := by
  simp [evI, evE, ht, hn]
theorem evI_lst {xs : List D} {a : T} (h : evE G a t M = .ok (.lst xs, M)) : evI G (.wd a) t M = .ok ((xs, none), M) := by
  simp [evI, h]
end
/-! a comprehension that makes a dict, its keys all different -/
theorem putD_new {kvs : List (D × D)} {k v : D} (h : ∀ p ∈ kvs, p.1 ≠ k) : putD kvs k v = kvs ++ [(k, v)] := by
  unfold putD
  rw [if_neg]
  simp only [List.any_eq_true, decide_eq_true_eq, not_exists, not_and]
  exact h
theorem compD_map {n : Nat} {step : D → Store → R (Option (D × D) × Store)} {f : D → D} {M : Store} (hn : M.length = n) : ∀ (ds : List D) (acc : List (D × D)), acc.length + ds.length ≤ big → ds.Nodup → (∀ d ∈ ds, isKey false d = true ∧ ∀ p ∈ acc, p.1 ≠ d) →
    (∀ d ∈ ds, ∀ acc : List (D × D), step d (M ++ [.dct false acc]) = .ok (some (d, f d), M ++ [.dct false acc])) → compD n step ds (M ++ [.dct false acc]) = .ok (M ++ [.dct false (acc ++ ds.map fun d => (d, f d))])
  | [], acc, _, _, _, _ => by simp [compD]
  | d :: ds, acc, hl, hnd, hk, h => by
    unfold compD
    rw [h d List.mem_cons_self acc, R.bind_ok]
    subst hn
    obtain ⟨k1, k2⟩ := hk d List.mem_cons_self
    have e : (M ++ [Cell.dct false acc])[M.length]? = some (.dct false acc) := by simp
    have e2 : (M ++ [Cell.dct false acc]).set M.length (.dct false (acc ++ [(d, f d)])) = M ++ [.dct false (acc ++ [(d, f d)])] := by simp
    have hlt : acc.length < big := by rw [List.length_cons] at hl; omega
    simp only [e, k1, hlt, true_and, if_true, putD_new k2, e2]
    rw [List.nodup_cons] at hnd
    have := compD_map rfl ds (acc ++ [(d, f d)]) (by rw [List.length_append, List.length_cons, List.length_nil]; rw [List.length_cons] at hl; omega) hnd.2 (fun d' hd' => ⟨(hk d' (List.mem_cons_of_mem _ hd')).1, fun p hp => by
      rcases List.mem_append.mp hp with hp | hp
      · exact (hk d' (List.mem_cons_of_mem _ hd')).2 p hp
      · rw [List.mem_singleton.mp hp]
        intro z
        have z : d = d' := z
        rw [z] at hnd
        exact hnd.1 hd'⟩) fun d' hd' => h d' (List.mem_cons_of_mem _ hd')
    rw [this, List.append_assoc]
    rfl
theorem ev_dcomp {G : Gam} {own : List Nat} {tg it e k : T} {t : Tau} {M M1 : Store} {ds : List D} {f : D → D} (hi : evI G it t M = .ok ((ds, none), M1)) (hnd : ds.Nodup) (hk : ∀ d ∈ ds, isKey false d = true)
    (hs : ∀ d ∈ ds, ∀ acc : List (D × D), stepD G own tg .pass k e t d (M1 ++ [.dct false acc]) = .ok (some (d, f d), M1 ++ [.dct false acc])) (hl : ds.length ≤ big) :
    evE G (.dcomp own tg it .pass k e) t M = .ok (.ref M1.length, M1 ++ [.dct false (ds.map fun d => (d, f d))]) := by
  rw [evE_dcomp, hi, R.bind_ok]
  show ((compY G own tg .pass k e t ds M1).bind fun r => (R.ofO (unlockN none r.2)).bind fun M' => .ok (r.1, M')) = _
  unfold compY
  rw [compD_map rfl ds [] (by simpa using hl) hnd (fun d hd => ⟨hk d hd, by simp⟩) hs]
  simp [unlockN]
/-- .. a new list of the store, over a dict -/
theorem ev_comp_lkc {G : Gam} {own : List Nat} {tg it tt e : T} {t : Tau} {M : Store} {ds : List D} {f : D → Option D} {n : Nat} (hi : evI G it t M = .ok ((ds, some n), M)) {kvs : List (D × D)} (hn : M[n]? = some (.dct false kvs))
    (hs : ∀ d ∈ ds, ∀ acc : List D, stepL G own tg tt e t d (M.set n (.lkd false kvs) ++ [.lst acc]) = .ok (f d, M.set n (.lkd false kvs) ++ [.lst acc])) (hl : ds.length ≤ big) :
    evE G (.comp true own tg it tt e) t M = .ok (.ref M.length, M ++ [.lst (ds.filterMap f)]) := by
  rw [evE_comp, hi, R.bind_ok]
  have e1 : lockN (some n) M = M.set n (.lkd false kvs) := by simp only [lockN, hn]
  show ((compX G true own tg tt e t ds (lockN (some n) M)).bind fun r => (R.ofO (unlockN (some n) r.2)).bind fun M' => .ok (r.1, M')) = _
  rw [e1]
  unfold compX
  rw [compL_fil rfl ds [] (by simpa using hl) hs]
  simp only [R.calm_ok, R.bind_ok, List.nil_append]
  rw [endL_cell, R.bind_ok]
  have hlt := (List.getElem?_eq_some_iff.mp hn).1
  have e2 : unlockN (some n) (M.set n (.lkd false kvs) ++ [.lst (ds.filterMap f)]) = some (M ++ [.lst (ds.filterMap f)]) := by
    have g : (M.set n (.lkd false kvs) ++ [Cell.lst (ds.filterMap f)])[n]? = some (.lkd false kvs) := by
      rw [List.getElem?_append_left (by rw [List.length_set]; exact hlt), List.getElem?_set_self hlt]
    simp only [unlockN, g]
    rw [List.set_append_left _ _ (by rw [List.length_set]; exact hlt), List.set_set]
    rw [show M.set n (.dct false kvs) = M from by rw [← (List.getElem?_eq_some_iff.mp hn).2]; exact List.set_getElem_self hlt]
  simp only [e2, R.ofO_some, R.bind_ok, List.length_set]
/-! ### dicts of texts -/
theorem dictOf_ref {M : Store} {n : Nat} {tk : Bool} {kvs : List (D × D)} (h : M[n]? = some (.dct tk kvs)) : dictOf M (.ref n) = some (tk, kvs) := by simp [dictOf, h]
theorem dictOf_lk {M : Store} {n : Nat} {tk : Bool} {kvs : List (D × D)} (h : M[n]? = some (.lkd tk kvs)) : dictOf M (.ref n) = some (tk, kvs) := by simp [dictOf, h]
theorem ix_dict {M : Store} {x : D} {kvs : List (D × D)} {s : Str} (h : dictOf M x = some (false, kvs)) : ixD M x (.str s) = lookD kvs (.str s) := by simp [ixD, h, isKey]
theorem allS_map {ss : List Str} : allS (ss.map D.str) = some ss := by
  induction ss with
  | nil => rfl
  | cons s ss ih => simp [allS, ih]
theorem allI_map {ss : List Int} : allI (ss.map D.int) = some ss := by
  induction ss with
  | nil => rfl
  | cons s ss ih => simp [allI, ih]
theorem sorted_dict {M : Store} {x : D} {kvs : List (D × D)} {ss : List Str} (h : dictOf M x = some (false, kvs)) (hk : kvs.map (·.1) = ss.map D.str) : b1D .sorted false x M = .ok (.lst ((sortS ss).map D.str), M) := by
  simp [b1D, sortW, h, hk, allS_map, newL]
theorem look_map {α : Type} {f : α → Str} {g : α → D} : ∀ {l : List α} {a : α}, a ∈ l → (l.map f).Nodup → lookD (l.map fun a => (D.str (f a), g a)) (.str (f a)) = some (g a)
  | b :: l, a, h, hn => by
    rw [List.map_cons, List.nodup_cons] at hn
    rcases List.mem_cons.mp h with rfl | h
    · simp [lookD]
    · have hne : f b ≠ f a := fun e => hn.1 (by rw [e]; exact List.mem_map_of_mem h)
      have ih := look_map (f := f) (g := g) h hn.2
      unfold lookD at ih ⊢
      rw [List.map_cons, List.find?_cons]
      simp only [D.str.injEq, hne, decide_false]
      exact ih
end
end PyM
end
section
set_option maxRecDepth 100000
set_option autoImplicit false
/-! terms and mirrors of defs that several laws have (printed by gen.py) -/
namespace P0
open PySem PyD L2
def T_fraction : T := (.scons (.iff (.tst (.cmp .lt (.v 1) (.c (.int 0)))) (.scons (.asg (.v 0) (.neg (.v 0)))
 (.scons (.asg (.v 1) (.neg (.v 1)))
 .snil)) .snil)
 (.scons (.asg (.v 2) (.b2 .gcd (.v 0) (.v 1)))
 (.scons (.ret (.tup (.acons (.bin .fdiv false (.v 0) (.v 2)) (.acons (.bin .fdiv false (.v 1) (.v 2)) .anil))))
 .snil)))
noncomputable def g_fraction : Gam := ⟨[], []⟩
noncomputable def m_fraction : Mir := mkM 3 2 0 T_fraction g_fraction
def T_plus : T := (.scons (.ret (.call 0 (.acons (.bin .add false (.bin .mul false (.ix (.v 0) (.c (.int 0))) (.ix (.v 1) (.c (.int 1)))) (.bin .mul false (.ix (.v 1) (.c (.int 0))) (.ix (.v 0) (.c (.int 1))))) (.acons (.bin .mul false (.ix (.v 0) (.c (.int 1))) (.ix (.v 1) (.c (.int 1)))) .anil))))
 .snil)
noncomputable def g_plus : Gam := ⟨[m_fraction], []⟩
noncomputable def m_plus : Mir := mkM 2 2 0 T_plus g_plus
def T_minus : T := (.scons (.ret (.call 0 (.acons (.bin .sub false (.bin .mul false (.ix (.v 0) (.c (.int 0))) (.ix (.v 1) (.c (.int 1)))) (.bin .mul false (.ix (.v 1) (.c (.int 0))) (.ix (.v 0) (.c (.int 1))))) (.acons (.bin .mul false (.ix (.v 0) (.c (.int 1))) (.ix (.v 1) (.c (.int 1)))) .anil))))
 .snil)
noncomputable def g_minus : Gam := ⟨[m_fraction], []⟩
noncomputable def m_minus : Mir := mkM 2 2 0 T_minus g_minus
def T_times : T := (.scons (.ret (.call 0 (.acons (.bin .mul false (.ix (.v 0) (.c (.int 0))) (.ix (.v 1) (.c (.int 0)))) (.acons (.bin .mul false (.ix (.v 0) (.c (.int 1))) (.ix (.v 1) (.c (.int 1)))) .anil))))
 .snil)
noncomputable def g_times : Gam := ⟨[m_fraction], []⟩
noncomputable def m_times : Mir := mkM 2 2 0 T_times g_times
def T_over : T := (.scons (.ret (.call 0 (.acons (.bin .mul false (.ix (.v 0) (.c (.int 0))) (.ix (.v 1) (.c (.int 1)))) (.acons (.bin .mul false (.ix (.v 0) (.c (.int 1))) (.ix (.v 1) (.c (.int 0)))) .anil))))
 .snil)
noncomputable def g_over : Gam := ⟨[m_fraction], []⟩
noncomputable def m_over : Mir := mkM 2 2 0 T_over g_over
def T_is_less : T := (.scons (.ret (.cmp .lt (.bin .mul false (.ix (.v 0) (.c (.int 0))) (.ix (.v 1) (.c (.int 1)))) (.bin .mul false (.ix (.v 1) (.c (.int 0))) (.ix (.v 0) (.c (.int 1))))))
 .snil)
noncomputable def g_is_less : Gam := ⟨[], []⟩
noncomputable def m_is_less : Mir := mkM 2 2 0 T_is_less g_is_less
def c_ZERO : D := .tup [.int 0, .int 1]
def T_total : T := (.scons (.asg (.v 1) (.g 0))
 (.scons (.for_ (.v 2) (.wd (.v 0)) (.scons (.asg (.v 1) (.call 0 (.acons (.v 1) (.acons (.v 2) .anil))))
 .snil))
 (.scons (.ret (.v 1))
 .snil)))
noncomputable def g_total : Gam := ⟨[m_plus], [c_ZERO]⟩
noncomputable def m_total : Mir := mkM 3 1 0 T_total g_total
def T_whole_part : T := (.scons (.ret (.bin .fdiv false (.ix (.v 0) (.c (.int 0))) (.ix (.v 0) (.c (.int 1)))))
 .snil)
noncomputable def g_whole_part : Gam := ⟨[], []⟩
noncomputable def m_whole_part : Mir := mkM 1 1 0 T_whole_part g_whole_part
def T_in_coins : T := (.scons (.asg (.v 1) (.dcomp [8] (.v 8) (.wd (.b1 .sorted false (.v 0))) .pass (.v 8) (.call 2 (.acons (.ix (.v 0) (.v 8)) .anil))))
 (.scons (.asg (.v 2) (.call 3 (.acons (.comp false [8] (.v 8) (.wd (.v 0)) .pass (.ix (.v 0) (.v 8))) .anil)))
 (.scons (.asg (.v 3) (.bin .sub false (.call 2 (.acons (.v 2) .anil)) (.b1 .sum false (.comp false [8] (.v 8) (.wd (.v 1)) .pass (.ix (.v 1) (.v 8))))))
 (.scons (.asg (.v 4) (.comp true [8] (.v 8) (.wd (.v 1)) .pass (.tup (.acons (.call 1 (.acons (.ix (.v 0) (.v 8)) (.acons (.tup (.acons (.ix (.v 1) (.v 8)) (.acons (.c (.int 1)) .anil))) .anil))) (.acons (.v 8) .anil)))))
 (.scons (.for_ (.v 5) (.rng1 (.v 3)) (.scons (.asg (.v 6) (.c (.int 0)))
 (.scons (.for_ (.v 7) (.rng2 (.c (.int 1)) (.b1 .len false (.v 4))) (.scons (.iff (.tst (.call 0 (.acons (.ix (.ix (.v 4) (.v 6)) (.c (.int 0))) (.acons (.ix (.ix (.v 4) (.v 7)) (.c (.int 0))) .anil)))) (.scons (.asg (.v 6) (.v 7))
 .snil) .snil)
 .snil))
 (.scons (.put (.v 1) (.ix (.ix (.v 4) (.v 6)) (.c (.int 1))) (.bin .add false (.ix (.v 1) (.ix (.ix (.v 4) (.v 6)) (.c (.int 1)))) (.c (.int 1))))
 (.scons (.put (.v 4) (.v 6) (.tup (.acons (.tup (.acons (.neg (.c (.int 1))) (.acons (.c (.int 1)) .anil))) (.acons (.ix (.ix (.v 4) (.v 6)) (.c (.int 1))) .anil))))
 .snil)))))
 (.scons (.ret (.v 1))
 .snil))))))
noncomputable def g_in_coins : Gam := ⟨[m_is_less, m_minus, m_whole_part, m_total], []⟩
noncomputable def m_in_coins : Mir := mkM 9 1 1 T_in_coins g_in_coins
def T__law_cell : T := (.scons (.iff (.tst (.cmp .lt (.v 1) (.b1 .len false (.v 0)))) (.scons (.ret (.b1 .int false (.ix (.v 0) (.v 1))))
 .snil) .snil)
 (.scons (.ret (.c (.int 0)))
 .snil))
noncomputable def g__law_cell : Gam := ⟨[], []⟩
noncomputable def m__law_cell : Mir := mkM 2 2 0 T__law_cell g__law_cell
def T__law_numbers : T := (.scons (.asg (.v 2) (.lst true .anil))
 (.scons (.asg (.v 3) (.b1 .abs false (.v 0)))
 (.scons (.iff (.tst (.cmp .ge (.v 3) (.c (.int 1000000000000000000)))) (.scons (.for_ (.v 4) (.rng1 (.v 1)) (.scons (.expr (.append (.v 2) (.bin .mod false (.b1 .int false (.v 3)) (.c (.int 1048576)))))
 (.scons (.asg (.v 3) (.bin .fdiv false (.v 3) (.c (.int 1048576))))
 .snil)))
 (.scons (.ret (.frz (.v 2)))
 .snil)) .snil)
 (.scons (.for_ (.v 4) (.rng1 (.v 1)) (.scons (.asg (.v 3) (.bin .mod false (.b1 .int false (.bin .add false (.bin .add false (.bin .mul false (.v 3) (.c (.int 48271))) (.bin .mul false (.v 4) (.c (.int 7919)))) (.c (.int 11)))) (.c (.int 2147483647))))
 (.scons (.expr (.append (.v 2) (.bin .mod false (.bin .mod false (.b1 .int false (.bin .mul false (.v 3) (.c (.int 69621)))) (.c (.int 2147483629))) (.c (.int 1048576)))))
 .snil)))
 (.scons (.ret (.frz (.v 2)))
 .snil)))))
noncomputable def g__law_numbers : Gam := ⟨[], []⟩
noncomputable def m__law_numbers : Mir := mkM 5 2 0 T__law_numbers g__law_numbers
def T__law_common : T := (.scons (.for_ (.v 2) (.rng1 (.c (.int 4000))) (.scons (.iff (.tst (.cmp .eq (.v 1) (.c (.int 0)))) (.scons (.ret (.v 0))
 .snil) .snil)
 (.scons (.par 0 1 (.v 1) (.bin .mod false (.b1 .int false (.v 0)) (.v 1)))
 .snil)))
 (.scons (.ret (.v 0))
 .snil))
noncomputable def g__law_common : Gam := ⟨[], []⟩
noncomputable def m__law_common : Mir := mkM 3 2 0 T__law_common g__law_common
def T__law_low : T := (.scons (.iff (.tst (.cmp .lt (.v 1) (.c (.int 0)))) (.scons (.asg (.v 0) (.bin .sub false (.c (.int 0)) (.v 0)))
 (.scons (.asg (.v 1) (.bin .sub false (.c (.int 0)) (.v 1)))
 .snil)) .snil)
 (.scons (.asg (.v 2) (.call 0 (.acons (.b1 .abs false (.v 0)) (.acons (.v 1) .anil))))
 (.scons (.ret (.tup (.acons (.bin .fdiv false (.v 0) (.v 2)) (.acons (.bin .fdiv false (.v 1) (.v 2)) .anil))))
 .snil)))
noncomputable def g__law_low : Gam := ⟨[m__law_common], []⟩
noncomputable def m__law_low : Mir := mkM 3 2 0 T__law_low g__law_low
end P0
end
section
set_option maxRecDepth 100000
set_option autoImplicit false
/-! terms and mirrors of defs that several laws have (printed by gen.py) -/
namespace P0
open PySem PyD L2
def T_share_of : T := (.scons (.iff (.not_ (.tst (.v 2))) (.scons (.ret (.g 0))
 .snil) .snil)
 (.scons (.ret (.call 0 (.acons (.v 0) (.acons (.tup (.acons (.v 1) (.acons (.c (.int 1)) .anil))) .anil))))
 .snil))
noncomputable def g_share_of : Gam := ⟨[m_minus], [c_ZERO]⟩
noncomputable def m_share_of : Mir := mkM 3 3 0 T_share_of g_share_of
def T_levels : T := (.scons (.asg (.v 2) (.b1 .sorted false (.v 1)))
 (.scons (.whil 100000 (.tst (.v 2)) (.scons (.asg (.v 3) (.v 0))
 (.scons (.for_ (.v 4) (.wd (.v 2)) (.scons (.asg (.v 3) (.call 3 (.acons (.v 3) (.acons (.tup (.acons (.ix (.v 1) (.v 4)) (.acons (.c (.int 1)) .anil))) .anil))))
 .snil))
 (.scons (.asg (.v 5) (.call 2 (.acons (.ix (.v 3) (.c (.int 0))) (.acons (.bin .mul false (.ix (.v 3) (.c (.int 1))) (.b1 .len false (.v 2))) .anil))))
 (.scons (.asg (.v 6) (.comp false [4] (.v 4) (.wd (.v 2)) (.tst (.call 1 (.acons (.v 5) (.acons (.tup (.acons (.ix (.v 1) (.v 4)) (.acons (.c (.int 1)) .anil))) .anil)))) (.v 4)))
 (.scons (.iff (.not_ (.tst (.v 6))) (.scons (.ret (.dcomp [4] (.v 4) (.wd (.b1 .sorted false (.v 1))) .pass (.v 4) (.call 0 (.acons (.v 5) (.acons (.ix (.v 1) (.v 4)) (.acons (.cmp .isIn (.v 4) (.v 2)) .anil))))))
 .snil) .snil)
 (.scons (.asg (.v 2) (.comp false [4] (.v 4) (.wd (.v 2)) (.tst (.cmp .notIn (.v 4) (.v 6))) (.v 4)))
 .snil)))))))
 (.scons (.ret (.dcomp [4] (.v 4) (.wd (.v 1)) .pass (.v 4) (.g 0)))
 .snil)))
noncomputable def g_levels : Gam := ⟨[m_share_of, m_is_less, m_fraction, m_plus], [c_ZERO]⟩
noncomputable def m_levels : Mir := mkM 7 2 1 T_levels g_levels
end P0
end
section
set_option maxRecDepth 100000
namespace P0
open PySem PyD PyM
/-! ### fractions -/
theorem num_den_dvd {t b : Int} (hb : b ≠ 0) : (Rat.divInt t b).num = (if b < 0 then -t else t).fdiv ((Nat.gcd t.natAbs b.natAbs : Nat) : Int) ∧ ((Rat.divInt t b).den : Int) = (if b < 0 then -b else b).fdiv ((Nat.gcd t.natAbs b.natAbs : Nat) : Int) := by
  have hg : 0 ≤ ((Nat.gcd t.natAbs b.natAbs : Nat) : Int) := Int.natCast_nonneg _
  rw [Rat.num_divInt, Rat.den_divInt, if_neg hb, Int.fdiv_eq_ediv_of_nonneg _ hg, Int.fdiv_eq_ediv_of_nonneg _ hg]
  have e : (b.gcd t : Nat) = Nat.gcd t.natAbs b.natAbs := by rw [Int.gcd, Nat.gcd_comm]
  rw [e]
  constructor
  · congr 1
    by_cases h : b < 0
    · rw [if_pos h, Int.sign_eq_neg_one_of_neg h, Int.neg_one_mul]
    · rw [if_neg h, Int.sign_eq_one_of_pos (by omega), Int.one_mul]
  · rw [Int.natCast_ediv]
    congr 1
    split <;> omega
theorem m_fraction_eq {t b : Int} {M : Store} (hb : b ≠ 0) (hs : b.natAbs < 2 ^ 8000) : m_fraction [.int t, .int b] M = .ok (frq (Rat.divInt t b), M) := by
  obtain ⟨h1, h2⟩ := num_den_dvd (t := t) hb
  have hg : 0 < ((Nat.gcd t.natAbs b.natAbs : Nat) : Int) := by
    have := Nat.gcd_pos_of_pos_right t.natAbs (Int.natAbs_pos.mpr hb); omega
  have hg2 : (((Nat.gcd t.natAbs b.natAbs : Nat) : Int)).natAbs < 2 ^ 8000 := by
    have := Nat.gcd_le_right (n := b.natAbs) t.natAbs (Int.natAbs_pos.mpr hb)
    rw [Int.natAbs_natCast]; omega
  have hd := divOk_pos hg hg2
  unfold frq
  rw [h1, h2]
  by_cases h : b < 0
  · rw [if_pos h, if_pos h]
    simp [evS_snil, evS_scons, evS_expr, evS_asg, evS_par, evS_put, evS_ret, evS_retN, evS_iff, evS_pass, evS_brk, evS_cnt, evT, evE, evA, asgT, asgT.asgTs, cmpD, b2D, mkM, m_fraction, T_fraction, h, bin_divI hd]
    exact trim_same (by rfl)
  · rw [if_neg h, if_neg h]
    simp [evS_snil, evS_scons, evS_expr, evS_asg, evS_par, evS_put, evS_ret, evS_retN, evS_iff, evS_pass, evS_brk, evS_cnt, evT, evE, evA, asgT, asgT.asgTs, cmpD, b2D, mkM, m_fraction, T_fraction, h, bin_divI hd]
    exact trim_same (by rfl)
theorem den_ne {q : Rat} : ((q.den : Nat) : Int) ≠ 0 := by have := q.den_nz; omega
theorem divInt_nd {q : Rat} : Rat.divInt q.num q.den = q := Rat.num_divInt_den q
/-- small denominators -/
def sd (q : Rat) : Prop := q.den < 2 ^ 64
theorem sd_sm {q : Rat} (h : sd q) : sm (q.den : Int) := by unfold sm; unfold sd at h; omega
theorem mul_sd {p q : Rat} (hp : sd p) (hq : sd q) : (((p.den : Int) * (q.den : Int)).natAbs) < 2 ^ 8000 := by
  unfold sd at hp hq
  have : p.den * q.den < 2 ^ 64 * 2 ^ 64 := Nat.mul_lt_mul'' hp hq
  rw [← Int.natCast_mul, Int.natAbs_natCast]
  exact Nat.lt_of_lt_of_le this (by decide +kernel)
/-! the walks, by whole numbers -/
section
variable {a b c d : Int} {x : D} {M : Store}
theorem w_plus (e1 : mulOk a d = true) (e2 : mulOk c b = true) (e3 : mulOk b d = true) (h : m_fraction [.int (a * d + c * b), .int (b * d)] M = .ok (x, M)) (hx : x.bd M.length = true) : m_plus [.tup [.int a, .int b], .tup [.int c, .int d]] M = .ok (x, M) := by
  simp [evS_snil, evS_scons, evS_expr, evS_asg, evS_par, evS_put, evS_ret, evS_retN, evS_iff, evS_pass, evS_brk, evS_cnt, evT, evE, evA, asgT, asgT.asgTs, cmpD, b2D, mkM, m_plus, T_plus, g_plus, bin_mulI e1, bin_mulI e2, bin_mulI e3, h]
  exact trim_same hx
theorem w_minus (e1 : mulOk a d = true) (e2 : mulOk c b = true) (e3 : mulOk b d = true) (h : m_fraction [.int (a * d - c * b), .int (b * d)] M = .ok (x, M)) (hx : x.bd M.length = true) : m_minus [.tup [.int a, .int b], .tup [.int c, .int d]] M = .ok (x, M) := by
  simp [evS_snil, evS_scons, evS_expr, evS_asg, evS_par, evS_put, evS_ret, evS_retN, evS_iff, evS_pass, evS_brk, evS_cnt, evT, evE, evA, asgT, asgT.asgTs, cmpD, b2D, mkM, m_minus, T_minus, g_minus, bin_mulI e1, bin_mulI e2, bin_mulI e3, h]
  exact trim_same hx
theorem w_times (e1 : mulOk a c = true) (e3 : mulOk b d = true) (h : m_fraction [.int (a * c), .int (b * d)] M = .ok (x, M)) (hx : x.bd M.length = true) : m_times [.tup [.int a, .int b], .tup [.int c, .int d]] M = .ok (x, M) := by
  simp [evS_snil, evS_scons, evS_expr, evS_asg, evS_par, evS_put, evS_ret, evS_retN, evS_iff, evS_pass, evS_brk, evS_cnt, evT, evE, evA, asgT, asgT.asgTs, cmpD, b2D, mkM, m_times, T_times, g_times, bin_mulI e1, bin_mulI e3, h]
  exact trim_same hx
theorem w_over (e1 : mulOk a d = true) (e3 : mulOk b c = true) (h : m_fraction [.int (a * d), .int (b * c)] M = .ok (x, M)) (hx : x.bd M.length = true) : m_over [.tup [.int a, .int b], .tup [.int c, .int d]] M = .ok (x, M) := by
  simp [evS_snil, evS_scons, evS_expr, evS_asg, evS_par, evS_put, evS_ret, evS_retN, evS_iff, evS_pass, evS_brk, evS_cnt, evT, evE, evA, asgT, asgT.asgTs, cmpD, b2D, mkM, m_over, T_over, g_over, bin_mulI e1, bin_mulI e3, h]
  exact trim_same hx
theorem w_is_less (e1 : mulOk a d = true) (e2 : mulOk c b = true) : m_is_less [.tup [.int a, .int b], .tup [.int c, .int d]] M = .ok (.bl (decide (a * d < c * b)), M) := by
  simp [evS_snil, evS_scons, evS_expr, evS_asg, evS_par, evS_put, evS_ret, evS_retN, evS_iff, evS_pass, evS_brk, evS_cnt, evT, evE, evA, asgT, asgT.asgTs, cmpD, b2D, mkM, m_is_less, T_is_less, g_is_less, bin_mulI e1, bin_mulI e2]
  exact trim_same (by rfl)
theorem w_whole_part (e1 : divOk b = true) : m_whole_part [.tup [.int a, .int b]] M = .ok (.int (a.fdiv b), M) := by
  simp [evS_snil, evS_scons, evS_expr, evS_asg, evS_par, evS_put, evS_ret, evS_retN, evS_iff, evS_pass, evS_brk, evS_cnt, evT, evE, evA, asgT, asgT.asgTs, cmpD, b2D, mkM, m_whole_part, T_whole_part, g_whole_part, bin_divI e1]
  exact trim_same (by rfl)
end
/-! .. by fractions -/
theorem m_plus_eq {p q : Rat} {M : Store} (hp : sd p) (hq : sd q) : m_plus [frq p, frq q] M = .ok (frq (p + q), M) := by
  have e : Rat.divInt (p.num * q.den + q.num * p.den) (p.den * q.den) = p + q := by
    rw [← Rat.divInt_add_divInt _ _ den_ne den_ne, divInt_nd, divInt_nd]
  have h := m_fraction_eq (t := p.num * q.den + q.num * p.den) (M := M) (Int.mul_ne_zero (den_ne (q := p)) (den_ne (q := q))) (mul_sd hp hq)
  rw [e] at h
  exact w_plus (mulOk_r (sd_sm hq)) (mulOk_r (sd_sm hp)) (mulOk_r (sd_sm hq)) h frq_bd
theorem m_minus_eq {p q : Rat} {M : Store} (hp : sd p) (hq : sd q) : m_minus [frq p, frq q] M = .ok (frq (p - q), M) := by
  have e : Rat.divInt (p.num * q.den - q.num * p.den) (p.den * q.den) = p - q := by
    rw [← Rat.divInt_sub_divInt _ _ den_ne den_ne, divInt_nd, divInt_nd]
  have h := m_fraction_eq (t := p.num * q.den - q.num * p.den) (M := M) (Int.mul_ne_zero (den_ne (q := p)) (den_ne (q := q))) (mul_sd hp hq)
  rw [e] at h
  exact w_minus (mulOk_r (sd_sm hq)) (mulOk_r (sd_sm hp)) (mulOk_r (sd_sm hq)) h frq_bd
theorem m_times_eq {p q : Rat} {M : Store} (hp : sd p) (hq : sd q) (hs : sm q.num) : m_times [frq p, frq q] M = .ok (frq (Rat.divInt (p.num * q.num) (p.den * q.den)), M) := by
  have h := m_fraction_eq (t := p.num * q.num) (M := M) (Int.mul_ne_zero (den_ne (q := p)) (den_ne (q := q))) (mul_sd hp hq)
  exact w_times (mulOk_r hs) (mulOk_r (sd_sm hq)) h frq_bd
theorem over_sd {p q : Rat} (hp : sd p) (hs : sm q.num) : (((p.den : Int) * q.num).natAbs) < 2 ^ 8000 := by
  unfold sd at hp
  unfold sm at hs
  rw [Int.natAbs_mul, Int.natAbs_natCast]
  exact Nat.lt_of_lt_of_le (Nat.mul_lt_mul'' hp hs) (by decide +kernel)
theorem m_over_eq {p q : Rat} {M : Store} (hp : sd p) (hq : sd q) (hs : sm q.num) (h0 : q.num ≠ 0) : m_over [frq p, frq q] M = .ok (frq (Rat.divInt (p.num * q.den) (p.den * q.num)), M) := by
  have h := m_fraction_eq (t := p.num * q.den) (M := M) (Int.mul_ne_zero (den_ne (q := p)) h0) (over_sd hp hs)
  exact w_over (mulOk_r (sd_sm hq)) (mulOk_r hs) h frq_bd
theorem m_is_less_eq {p q : Rat} {M : Store} (hp : sd p) (hq : sd q) : m_is_less [frq p, frq q] M = .ok (.bl (decide (p < q)), M) := by
  have h := w_is_less (a := p.num) (b := p.den) (c := q.num) (d := q.den) (M := M) (mulOk_r (sd_sm hq)) (mulOk_r (sd_sm hp))
  have e : decide (p.num * q.den < q.num * p.den) = decide (p < q) := decide_eq_decide.mpr (Rat.lt_iff p q).symm
  rw [e] at h
  exact h
theorem m_whole_part_eq {p : Rat} {M : Store} (hp : sd p) : m_whole_part [frq p] M = .ok (.int p.floor, M) := by
  have hd : divOk (p.den : Int) = true := divOk_pos (by have := p.den_pos; omega) (sm_lt (sd_sm hp))
  have h := w_whole_part (a := p.num) (M := M) hd
  rw [Int.fdiv_eq_ediv_of_nonneg _ (Int.natCast_nonneg _), ← Rat.floor_def] at h
  exact h
/-! ### the law's own functions -/
/-- Euclid's turns -/
def euc : Nat → Int → Int → Int
  | 0, a, _ => a
  | n + 1, a, b => if b = 0 then a else euc n b (a.fmod b)
theorem euc_gcd : ∀ (k n : Nat) (a b : Int), 0 ≤ a → 0 ≤ b → b < 2 ^ k → 2 * k + 1 ≤ n → euc n a b = ((Nat.gcd a.natAbs b.natAbs : Nat) : Int)
  | 0, n, a, b, ha, hb, hk, hn => by
    have hb0 : b = 0 := by simp at hk; omega
    subst hb0
    obtain ⟨n, rfl⟩ : ∃ m, n = m + 1 := ⟨n - 1, by omega⟩
    simp [euc]; omega
  | k + 1, n, a, b, ha, hb, hk, hn => by
    obtain ⟨n, rfl⟩ : ∃ m, n = m + 2 := ⟨n - 2, by omega⟩
    unfold euc
    by_cases h0 : b = 0
    · subst h0; simp; omega
    · rw [if_neg h0]
      unfold euc
      have hr : a.fmod b = a % b := Int.fmod_eq_emod_of_nonneg a hb
      have h1 : 0 ≤ a % b := Int.emod_nonneg a h0
      have h2 : a % b < b := Int.emod_lt_of_pos a (by omega)
      have g1 : Nat.gcd a.natAbs b.natAbs = Nat.gcd b.natAbs (a % b).natAbs := by
        rw [Int.natAbs_emod_of_nonneg ha, Nat.gcd_comm a.natAbs, Nat.gcd_rec b.natAbs a.natAbs, Nat.gcd_comm]
      rw [hr]
      by_cases h3 : a % b = 0
      · rw [if_pos h3, g1, h3]; simp; omega
      · rw [if_neg h3]
        have hr2 : b.fmod (a % b) = b % (a % b) := Int.fmod_eq_emod_of_nonneg b h1
        have h4 : 0 ≤ b % (a % b) := Int.emod_nonneg b h3
        have h5 : b % (a % b) < a % b := Int.emod_lt_of_pos b (by omega)
        have h6 : 2 * (b % (a % b)) < b := by
          have e := Int.mul_ediv_add_emod b (a % b)
          have : 1 ≤ b / (a % b) := by
            apply Int.le_ediv_of_mul_le (by omega)
            omega
          have : (a % b) * 1 ≤ (a % b) * (b / (a % b)) := Int.mul_le_mul_of_nonneg_left this (by omega)
          omega
        rw [hr2, euc_gcd k n (a % b) (b % (a % b)) h1 h4 (by rw [Int.pow_succ] at hk; omega) (by omega), g1]
        congr 1
        rw [Int.natAbs_emod_of_nonneg hb, Nat.gcd_comm (a % b).natAbs, Nat.gcd_comm b.natAbs, ← Nat.gcd_rec]
theorem m__law_common_eq {a b : Int} {M : Store} (ha : 0 ≤ a) (hb : 0 ≤ b) (hk : b < 2 ^ 100) : m__law_common [.int a, .int b] M = .ok (.int ((Nat.gcd a.natAbs b.natAbs : Nat) : Int), M) := by
  obtain ⟨N, hN⟩ : ∃ N : Nat, N = 4000 := ⟨_, rfl⟩
  have he := euc_gcd 100 N a b ha hb hk (by omega)
  have hl : (rngL 0 4000).length = N := by rw [hN]; simp [rngL]
  have hi : evI g__law_common (.rng1 (.c (.int 4000))) ([some (D.int a), some (D.int b)] ++ [none]) M = .ok ((rngL 0 4000, none), M) := by simp [evI, evE, rngOk_eq]
  generalize ((Nat.gcd a.natAbs b.natAbs : Nat) : Int) = r at he
  generalize rngL 0 4000 = ds at hl hi
  refine mk_wp rfl ?_
  unfold T__law_common
  refine wp_scons (wp_for (fun j t M' => M' = M ∧ ∃ a' b' o, t = [some (.int a'), some (.int b'), o] ∧ j ≤ N ∧ euc (N - j) a' b' = r) hi ?_ ?_ ?_)
  · exact ⟨rfl, a, b, none, rfl, by omega, he⟩
  · rintro j d t M' hd ⟨rfl, a', b', o, rfl, hj, e⟩
    have hj2 : j < N := by
      have := (List.getElem?_eq_some_iff.mp hd).1
      omega
    obtain ⟨n, hn⟩ : ∃ n, N - j = n + 1 := ⟨N - j - 1, by omega⟩
    rw [hn] at e
    by_cases h : b' = 0
    · subst h
      simp only [euc, if_true] at e
      simp [evS_snil, evS_scons, evS_expr, evS_asg, evS_par, evS_put, evS_ret, evS_retN, evS_iff, evS_pass, evS_brk, evS_cnt, evT, evE, evA, asgT, asgT.asgTs, cmpD, b2D, mkM, stF, Wp, e]
      exact trim_same (by rfl)
    · simp only [euc, if_neg h] at e
      simp [evS_snil, evS_scons, evS_expr, evS_asg, evS_par, evS_put, evS_ret, evS_retN, evS_iff, evS_pass, evS_brk, evS_cnt, evT, evE, evA, asgT, asgT.asgTs, cmpD, b2D, mkM, stF, Wp, h, bin_modI h]
      refine ⟨_, _, ⟨rfl, rfl⟩, by omega, ?_⟩
      rw [show N - (j + 1) = n by omega]
      exact e
  · rintro t M' ⟨rfl, a', b', o, rfl, hj, e⟩
    rw [hl, Nat.sub_self] at e
    simp only [euc] at e
    simp [evS_snil, evS_scons, evS_expr, evS_asg, evS_par, evS_put, evS_ret, evS_retN, evS_iff, evS_pass, evS_brk, evS_cnt, evT, evE, evA, asgT, asgT.asgTs, cmpD, b2D, mkM, Wp, e]
    exact trim_same (by rfl)
theorem w_low {a b g : Int} {M : Store} {x : D} (hb : ¬ b < 0) (h : m__law_common [.int (a.natAbs : Nat), .int b] M = .ok (.int g, M)) (hg : divOk g = true) : m__law_low [.int a, .int b] M = .ok (.tup [.int (a.fdiv g), .int (b.fdiv g)], M) := by
  simp [evS_snil, evS_scons, evS_expr, evS_asg, evS_par, evS_put, evS_ret, evS_retN, evS_iff, evS_pass, evS_brk, evS_cnt, evT, evE, evA, asgT, asgT.asgTs, cmpD, b2D, mkM, m__law_low, T__law_low, g__law_low, hb, h, bin_divI hg]
  exact trim_same (by rfl)
theorem w_low2 {a b g : Int} {M : Store} {x : D} (hb : b < 0) (h : m__law_common [.int (a.natAbs : Nat), .int (-b)] M = .ok (.int g, M)) (hg : divOk g = true) : m__law_low [.int a, .int b] M = .ok (.tup [.int ((-a).fdiv g), .int ((-b).fdiv g)], M) := by
  simp [evS_snil, evS_scons, evS_expr, evS_asg, evS_par, evS_put, evS_ret, evS_retN, evS_iff, evS_pass, evS_brk, evS_cnt, evT, evE, evA, asgT, asgT.asgTs, cmpD, b2D, mkM, m__law_low, T__law_low, g__law_low, hb, h, bin_divI hg]
  exact trim_same (by rfl)
theorem m__law_low_eq {t b : Int} {M : Store} (hb : b ≠ 0) (hs : b.natAbs < 2 ^ 100) : m__law_low [.int t, .int b] M = .ok (frq (Rat.divInt t b), M) := by
  obtain ⟨h1, h2⟩ := num_den_dvd (t := t) hb
  have hg : 0 < ((Nat.gcd t.natAbs b.natAbs : Nat) : Int) := by
    have := Nat.gcd_pos_of_pos_right t.natAbs (Int.natAbs_pos.mpr hb); omega
  have hg2 : (((Nat.gcd t.natAbs b.natAbs : Nat) : Int)).natAbs < 2 ^ 8000 := by
    have := Nat.gcd_le_right (n := b.natAbs) t.natAbs (Int.natAbs_pos.mpr hb)
    rw [Int.natAbs_natCast]
    exact Nat.lt_of_le_of_lt this (Nat.lt_of_lt_of_le hs (Nat.pow_le_pow_right (by decide) (by decide)))
  have hd := divOk_pos hg hg2
  unfold frq
  rw [h1, h2]
  by_cases h : b < 0
  · rw [if_pos h, if_pos h]
    have hc := m__law_common_eq (a := (t.natAbs : Nat)) (b := -b) (M := M) (Int.natCast_nonneg _) (by omega) (by omega)
    rw [Int.natAbs_natCast, Int.natAbs_neg] at hc
    exact w_low2 (x := .non) h hc hd
  · rw [if_neg h, if_neg h]
    have hc := m__law_common_eq (a := (t.natAbs : Nat)) (b := b) (M := M) (Int.natCast_nonneg _) (by omega) (by omega)
    rw [Int.natAbs_natCast] at hc
    exact w_low (x := .non) h hc hd
/-! ### the script -/
/-- the script's cell -/
def scrC (ns : List Int) (c : Cell) : Prop := c = Cell.scr ns ∨ c = Cell.lkl (ns.map D.int)
def celI (ns : List Int) (k : Nat) : Int := match ns[k]? with
  | some i => i
  | none => 0
theorem scr_seq {ns : List Int} {c : Cell} {C : Store} (h : scrC ns c) : seqL (c :: C) (.ref 0) = some (ns.map D.int) ∧ dictOf (c :: C) (.ref 0) = none := by
  rcases h with rfl | rfl <;> simp [seqL, dictOf]
theorem scr_len {ns : List Int} {c : Cell} {C : Store} (h : scrC ns c) : b1D .len false (.ref 0) (c :: C) = .ok (.int ns.length, c :: C) := by
  obtain ⟨h1, h2⟩ := scr_seq (C := C) h
  simp [b1D, walkD, h1, h2]
theorem scr_ix {ns : List Int} {c : Cell} {C : Store} {k : Nat} (h : scrC ns c) (hk : k < ns.length) : ixD (c :: C) (.ref 0) (.int k) = some (.int (celI ns k)) := by
  obtain ⟨h1, h2⟩ := scr_seq (C := C) h
  simp only [ixD, h1, h2]
  refine L2.atI_nat ?_
  rw [List.getElem?_map, List.getElem?_eq_getElem hk]
  simp [celI, List.getElem?_eq_getElem hk]
theorem w_cell {L v : Int} {k : Int} {M : Store} (e1 : b1D .len false (.ref 0) M = .ok (.int L, M)) (hk : k < L) (e2 : ixD M (.ref 0) (.int k) = some (.int v)) : m__law_cell [.ref 0, .int k] M = .ok (.int v, M) := by
  simp [evS_snil, evS_scons, evS_expr, evS_asg, evS_par, evS_put, evS_ret, evS_retN, evS_iff, evS_pass, evS_brk, evS_cnt, evT, evE, evA, asgT, asgT.asgTs, cmpD, b2D, mkM, m__law_cell, T__law_cell, e1, e2, hk]
  exact trim_same rfl
theorem w_cell0 {L : Int} {k : Int} {M : Store} (e1 : b1D .len false (.ref 0) M = .ok (.int L, M)) (hk : ¬ k < L) : m__law_cell [.ref 0, .int k] M = .ok (.int 0, M) := by
  simp [evS_snil, evS_scons, evS_expr, evS_asg, evS_par, evS_put, evS_ret, evS_retN, evS_iff, evS_pass, evS_brk, evS_cnt, evT, evE, evA, asgT, asgT.asgTs, cmpD, b2D, mkM, m__law_cell, T__law_cell, e1, hk]
  exact trim_same rfl
theorem m__law_cell_eq {ns : List Int} {c : Cell} {C : Store} {k : Nat} (h : scrC ns c) : m__law_cell [.ref 0, .int k] (c :: C) = .ok (.int (celI ns k), c :: C) := by
  by_cases hk : k < ns.length
  · exact w_cell (scr_len h) (by omega) (scr_ix h hk)
  · have e3 : celI ns k = 0 := by simp [celI, List.getElem?_eq_none (by omega : ns.length ≤ k)]
    rw [e3]
    exact w_cell0 (scr_len h) (by omega)
/-! ### numbers from a cell -/
/-- numbers below 2^20 -/
def low20 (y : Int) : Prop := 0 ≤ y ∧ y < 1048576
section
variable {M : Store} {n k r : Int} {o : Option D} {xs : List D} {x : D}
def bodyN1 : T := .scons (.expr (.append (.v 2) (.bin .mod false (.b1 .int false (.v 3)) (.c (.int 1048576))))) (.scons (.asg (.v 3) (.bin .fdiv false (.v 3) (.c (.int 1048576)))) .snil)
def bodyN2 : T := .scons (.asg (.v 3) (.bin .mod false (.b1 .int false (.bin .add false (.bin .add false (.bin .mul false (.v 3) (.c (.int 48271))) (.bin .mul false (.v 4) (.c (.int 7919)))) (.c (.int 11)))) (.c (.int 2147483647)))) (.scons (.expr (.append (.v 2) (.bin .mod false (.bin .mod false (.b1 .int false (.bin .mul false (.v 3) (.c (.int 69621)))) (.c (.int 2147483629))) (.c (.int 1048576))))) .snil)
theorem get_last {c : Cell} : (M ++ [c])[M.length]? = some c := by simp
theorem set_last {c c' : Cell} : (M ++ [c]).set M.length c' = M ++ [c'] := by simp
theorem w_N1 {G : Gam} (hx : xs.length < big) (hd : divOk 1048576 = true) : stF G (.v 4) bodyN1 (.int k) [some x, some (.int n), some (.ref M.length), some (.int r), o] (M ++ [.lst xs]) =
    .nx [some x, some (.int n), some (.ref M.length), some (.int (r.fdiv 1048576)), some (.int k)] (M ++ [.lst (xs ++ [.int (r.fmod 1048576)])]) := by
  simp [evS_snil, evS_scons, evS_expr, evS_asg, evS_par, evS_put, evS_ret, evS_retN, evS_iff, evS_pass, evS_brk, evS_cnt, evT, evE, evA, asgT, asgT.asgTs, cmpD, b2D, mkM, stF, bodyN1, hx, bin_divI hd, bin_modI (show (1048576 : Int) ≠ 0 by decide), get_last, set_last]
theorem w_N2 {G : Gam} (hx : xs.length < big) (h1 : mulOk r 48271 = true) (h2 : mulOk k 7919 = true) (h3 : ∀ i, mulOk i 69621 = true) : ∃ r', r' < 2147483647 ∧ 0 ≤ r' ∧ ∃ y : Int, low20 y ∧ stF G (.v 4) bodyN2 (.int k) [some x, some (.int n), some (.ref M.length), some (.int r), o] (M ++ [.lst xs]) =
    .nx [some x, some (.int n), some (.ref M.length), some (.int r'), some (.int k)] (M ++ [.lst (xs ++ [.int y])]) := by
  have hm : (2147483647 : Int) ≠ 0 := by decide
  have hm2 : (2147483629 : Int) ≠ 0 := by decide
  have hm3 : (1048576 : Int) ≠ 0 := by decide
  refine ⟨_, ?_, ?_, _, ⟨?_, ?_⟩, by
    simp [evS_snil, evS_scons, evS_expr, evS_asg, evS_par, evS_put, evS_ret, evS_retN, evS_iff, evS_pass, evS_brk, evS_cnt, evT, evE, evA, asgT, asgT.asgTs, cmpD, b2D, mkM, stF, bodyN2, hx, bin_mulI h1, bin_mulI h2, bin_mulI (h3 _), bin_modI hm, bin_modI hm2, bin_modI hm3, get_last, set_last]
    exact ⟨rfl, rfl⟩⟩
  · exact Int.fmod_lt_of_pos _ (by decide)
  · exact Int.fmod_nonneg_of_pos _ (by decide)
  · exact Int.fmod_nonneg_of_pos _ (by decide)
  · exact Int.fmod_lt_of_pos _ (by decide)
end
theorem rng_n {G : Gam} {t : Tau} {M : Store} {n : Nat} (h : n < 1000) (ht : t[1]? = some (some (.int n))) : evI G (.rng1 (.v 1)) t M = .ok ((rngL 0 n, none), M) := by
  have e : rngOk (n : Int) = true := by
    simp only [rngOk_eq, Bool.and_eq_true, decide_eq_true_eq]
    constructor
    · exact Int.le_trans (by decide) (Int.natCast_nonneg n)
    · exact Int.lt_trans (Int.ofNat_lt.mpr h) (by decide)
  simp only [evI, evE, ht, R.bind_ok, e, if_true]
theorem rngL_len {n : Nat} : (rngL 0 n).length = n := by simp [rngL]
theorem rngL_get {n j : Nat} {d : D} (h : (rngL 0 n)[j]? = some d) : j < n ∧ d = .int j := by
  unfold rngL at h
  rw [List.getElem?_map] at h
  obtain ⟨k, hk, rfl⟩ := Option.map_eq_some_iff.mp h
  obtain ⟨h1, h2⟩ := List.getElem?_eq_some_iff.mp hk
  simp at h1 h2
  subst h2
  exact ⟨by omega, by simp⟩
/-- the numbers' list under way -/
def NumI (x : D) (n : Nat) (M : Store) (j : Nat) (t : Tau) (M' : Store) : Prop := ∃ (ys : List Int) (r : Int) (o : Option D), t = [some x, some (.int n), some (.ref M.length), some (.int r), o] ∧ M' = M ++ [.lst (ys.map D.int)] ∧ ys.length = j ∧ j ≤ n ∧ ∀ y ∈ ys, low20 y
def NumI2 (x : D) (n : Nat) (M : Store) (j : Nat) (t : Tau) (M' : Store) : Prop := ∃ (ys : List Int) (r : Int) (o : Option D), t = [some x, some (.int n), some (.ref M.length), some (.int r), o] ∧ M' = M ++ [.lst (ys.map D.int)] ∧ ys.length = j ∧ j ≤ n ∧ (∀ y ∈ ys, low20 y) ∧ sm r
theorem app_low {ys : List Int} {y : Int} (h : ∀ y ∈ ys, low20 y) (hy : low20 y) : ∀ z ∈ ys ++ [y], low20 z := fun z hz => by
  rcases List.mem_append.mp hz with hz | hz
  · exact h z hz
  · rw [List.mem_singleton.mp hz]; exact hy
theorem big_of {j n : Nat} (h : n < 1000) (hj : j ≤ n) : j < big := Nat.lt_of_le_of_lt hj (Nat.lt_trans h (by decide))
theorem num_loop1 {G : Gam} {x : D} {n : Nat} {M M' : Store} {t : Tau} {P : Tau → Store → Prop} {Q : D → Store → Prop} (hn : n < 1000) (h0 : NumI x n M 0 t M') (he : ∀ t M', NumI x n M n t M' → P t M') :
    Wp (evS G (.for_ (.v 4) (.rng1 (.v 1)) bodyN1) t M') P Q := by
  have ht : t[1]? = some (some (.int n)) := by obtain ⟨_, _, _, rfl, _⟩ := h0; rfl
  refine wp_for (NumI x n M) (rng_n hn ht) h0 ?_ ?_
  · rintro j d t M' hd ⟨ys, r, o, rfl, rfl, hl, hj, hy⟩
    obtain ⟨hj2, rfl⟩ := rngL_get hd
    rw [w_N1 (by rw [List.length_map, hl]; exact big_of hn hj) (divOk_lit (by decide) (by decide))]
    refine ⟨ys ++ [r.fmod 1048576], _, _, rfl, by rw [List.map_append]; rfl, by rw [List.length_append, hl]; rfl, hj2, app_low hy ⟨Int.fmod_nonneg_of_pos _ (by decide), Int.fmod_lt_of_pos _ (by decide)⟩⟩
  · intro t M' h
    rw [rngL_len] at h
    exact he t M' h
theorem mul_ok_sm {i j : Int} (h : sm j) : mulOk i j = true := mulOk_r h
theorem num_loop2 {G : Gam} {x : D} {n : Nat} {M M' : Store} {t : Tau} {P : Tau → Store → Prop} {Q : D → Store → Prop} (hn : n < 1000) (h0 : NumI2 x n M 0 t M') (he : ∀ t M', NumI x n M n t M' → P t M') :
    Wp (evS G (.for_ (.v 4) (.rng1 (.v 1)) bodyN2) t M') P Q := by
  have ht : t[1]? = some (some (.int n)) := by obtain ⟨_, _, _, rfl, _⟩ := h0; rfl
  refine wp_for (NumI2 x n M) (rng_n hn ht) h0 ?_ ?_
  · rintro j d t M' hd ⟨ys, r, o, rfl, rfl, hl, hj, hy, hr⟩
    obtain ⟨hj2, rfl⟩ := rngL_get hd
    obtain ⟨r', b1, b2, y, yl, e⟩ := w_N2 (G := G) (M := M) (n := n) (k := j) (r := r) (o := o) (xs := ys.map D.int) (x := x) (by rw [List.length_map, hl]; exact big_of hn hj) (mulOk_r (by unfold sm; decide)) (mulOk_r (by unfold sm; decide)) (fun i => mulOk_r (by unfold sm; decide))
    rw [e]
    refine ⟨ys ++ [y], _, _, rfl, by rw [List.map_append]; rfl, by rw [List.length_append, hl]; rfl, hj2, app_low hy yl, ?_⟩
    unfold sm
    omega
  · intro t M' ⟨ys, r, o, h1, h2, h3, h4, h5, _⟩
    rw [rngL_len] at h3 h4
    exact he t M' ⟨ys, r, o, h1, h2, h3, h4, h5⟩
theorem m__law_numbers_eq {x : Int} {n : Nat} {M : Store} (hn : n < 1000) : ∃ ys : List Int, ys.length = n ∧ (∀ y ∈ ys, low20 y) ∧ m__law_numbers [.int x, .int n] M = .ok (.lst (ys.map D.int), M) := by
  refine mk_wpP (P := fun r => ∃ ys : List Int, ys.length = n ∧ (∀ y ∈ ys, low20 y) ∧ r = .ok (.lst (ys.map D.int), M)) rfl ?_
  show Wp (evS g__law_numbers T__law_numbers [some (.int x), some (.int n), none, none, none] M) _ _
  have fin : ∀ {t : Tau} {M' : Store}, NumI (.int x) n M n t M' → Wp (evS g__law_numbers (.scons (.ret (.frz (.v 2))) .snil) t M') (fun _ _ => False) (fun d M' => ∃ ys : List Int, ys.length = n ∧ (∀ y ∈ ys, low20 y) ∧ trim 0 M d M' = .ok (.lst (ys.map D.int), M)) := by
    rintro t M' ⟨ys, r, o, rfl, rfl, hl, _, hy⟩
    simp [evS_snil, evS_scons, evS_expr, evS_asg, evS_par, evS_put, evS_ret, evS_retN, evS_iff, evS_pass, evS_brk, evS_cnt, evT, evE, evA, asgT, asgT.asgTs, cmpD, b2D, mkM, Wp, get_last, set_last]
    refine ⟨ys, hl, hy, trim_app ?_⟩
    simp only [D.bd]
    exact D.bdL_all.mpr fun y hy => by obtain ⟨z, _, rfl⟩ := List.mem_map.mp hy; rfl
  unfold T__law_numbers
  refine wp_scons ?_
  simp [evS_asg, evE, evA, asgT, newL, Wp]
  refine wp_scons ?_
  simp [evS_asg, evE, evA, asgT, newL, Wp]
  refine wp_scons ?_
  rw [evS_iff]
  by_cases hg : (1000000000000000000 : Int) ≤ (x.natAbs : Nat)
  · simp [evT, evE, cmpD, hg]
    refine wp_scons (num_loop1 hn ⟨[], _, _, rfl, rfl, rfl, by omega, by simp⟩ fun t M' h => ?_)
    exact Wp.mono (fin h) (fun _ _ z => z.elim) fun _ _ z => z
  · simp [evT, evE, cmpD, hg, evS_snil]
    refine wp_scons (num_loop2 hn ⟨[], _, _, rfl, rfl, rfl, by omega, by simp, ?_⟩ fun t M' h => ?_)
    · unfold sm
      omega
    · exact Wp.mono (fin h) (fun _ _ z => z.elim) fun _ _ z => z
/-! ### total -/
def tot (qs : List Rat) : Rat := qs.foldl (· + ·) 0
theorem tot_take {qs : List Rat} {j : Nat} {q : Rat} (h : qs[j]? = some q) : tot (qs.take (j + 1)) = tot (qs.take j) + q := by
  unfold tot
  rw [List.take_succ, h, List.foldl_append]
  rfl
def bodyT : T := .scons (.asg (.v 1) (.call 0 (.acons (.v 1) (.acons (.v 2) .anil)))) .snil
theorem w_total {x y z l : D} {o : Option D} {M : Store} (h : m_plus [x, y] M = .ok (z, M)) : stF g_total (.v 2) bodyT y [some l, some x, o] M = .nx [some l, some z, some y] M := by
  simp [evS_snil, evS_scons, evS_expr, evS_asg, evS_par, evS_put, evS_ret, evS_retN, evS_iff, evS_pass, evS_brk, evS_cnt, evT, evE, evA, asgT, asgT.asgTs, cmpD, b2D, mkM, stF, bodyT, g_total, h]
theorem zero_frq : c_ZERO = frq 0 := rfl
theorem m_total_eq {qs : List Rat} {M : Store} (hs : ∀ (i : Nat) (q : Rat), qs[i]? = some q → sd q ∧ sd (tot (qs.take i))) : m_total [.lst (qs.map frq)] M = .ok (frq (tot qs), M) := by
  refine mk_wp rfl ?_
  show Wp (evS g_total T_total [some (.lst (qs.map frq)), none, none] M) _ _
  unfold T_total
  refine wp_scons ?_
  simp [evS_asg, evE, g_total, asgT]
  refine wp_scons (wp_for (fun j t M' => M' = M ∧ j ≤ qs.length ∧ ∃ o, t = [some (.lst (qs.map frq)), some (frq (tot (qs.take j))), o]) (evI_lst (xs := qs.map frq) (by simp [evE])) ⟨rfl, by omega, none, by rw [zero_frq]; rfl⟩ ?_ ?_)
  · rintro j d t M' hd ⟨rfl, hj, o, rfl⟩
    rw [List.getElem?_map] at hd
    obtain ⟨q, hq, rfl⟩ := Option.map_eq_some_iff.mp hd
    obtain ⟨h1, h2⟩ := hs j q hq
    have e := w_total (l := .lst (qs.map frq)) (o := o) (m_plus_eq (M := M') h2 h1)
    unfold bodyT g_total at e
    rw [e]
    exact ⟨rfl, (List.getElem?_eq_some_iff.mp hq).1, some (frq q), by rw [tot_take hq]⟩
  · rintro t M' ⟨rfl, hj, o, rfl⟩
    rw [List.length_map, List.take_length]
    simp [evS_snil, evS_scons, evS_expr, evS_asg, evS_par, evS_put, evS_ret, evS_retN, evS_iff, evS_pass, evS_brk, evS_cnt, evT, evE, evA, asgT, asgT.asgTs, cmpD, b2D, mkM]
    exact trim_same frq_bd
end P0
end
section
set_option maxRecDepth 100000
namespace P0
open PySem PyD PyM
/-! ### in_coins -/
/-- the shares: names and fractions -/
def shK (ps : List (Str × Rat)) : List (D × D) := ps.map fun p => (.str p.1, frq p.2)
def nms (ps : List (Str × Rat)) : List Str := ps.map (·.1)
def srt (ps : List (Str × Rat)) : List Str := sortS (nms ps)
def val (ps : List (Str × Rat)) (s : Str) : Rat := ((ps.find? fun p => decide (p.1 = s)).map (·.2)).getD 0
theorem val_mem {ps : List (Str × Rat)} (hn : (nms ps).Nodup) {p : Str × Rat} (h : p ∈ ps) : val ps p.1 = p.2 := by
  unfold val
  induction ps with
  | nil => cases h
  | cons q ps ih =>
    rw [nms, List.map_cons, List.nodup_cons] at hn
    rw [List.find?_cons]
    rcases List.mem_cons.mp h with rfl | h
    · simp
    · have hne : q.1 ≠ p.1 := fun e => hn.1 (by rw [e]; exact List.mem_map_of_mem h)
      simp only [hne, decide_false]
      exact ih hn.2 h
theorem shK_keys {ps : List (Str × Rat)} : (shK ps).map (·.1) = (nms ps).map D.str := by simp [shK, nms]
theorem look_sh {ps : List (Str × Rat)} (hn : (nms ps).Nodup) {s : Str} (h : s ∈ nms ps) : lookD (shK ps) (.str s) = some (frq (val ps s)) := by
  obtain ⟨p, hp, rfl⟩ := List.mem_map.mp h
  rw [val_mem hn hp]
  exact look_map (f := fun p : Str × Rat => p.1) (g := fun p => frq p.2) hp hn
theorem srt_mem {ps : List (Str × Rat)} {s : Str} : s ∈ srt ps ↔ s ∈ nms ps := (sortS_perm _).mem_iff
theorem srt_nodup {ps : List (Str × Rat)} (hn : (nms ps).Nodup) : (srt ps).Nodup := (sortS_perm _).nodup_iff.mpr hn
section
variable {M M' : Store} {x d y z w : D} {t : Tau} {acc : List D} {dacc : List (D × D)} {o1 o2 o3 o4 o5 o6 o7 o8 : Option D}
/-- coins: one turn -/
theorem w_c1 (h : ixD M x d = some y) (h2 : m_whole_part [y] M = .ok (z, M)) : stepD g_in_coins [8] (.v 8) .pass (.v 8) (.call 2 (.acons (.ix (.v 0) (.v 8)) .anil)) [some x, o1, o2, o3, o4, o5, o6, o7, o8] d M = .ok (some (d, z), M) := by
  simp [evS_snil, evS_scons, evS_expr, evS_asg, evS_par, evS_put, evS_ret, evS_retN, evS_iff, evS_pass, evS_brk, evS_cnt, evT, evE, evA, asgT, asgT.asgTs, cmpD, b2D, mkM, stepD, wipeT, g_in_coins, h, h2]
/-- shares[name] -/
theorem w_c2 {G : Gam} (h : ixD M x d = some y) : stepL G [8] (.v 8) .pass (.ix (.v 0) (.v 8)) [some x, o1, o2, o3, o4, o5, o6, o7, o8] d M = .ok (some y, M) := by
  simp [evS_snil, evS_scons, evS_expr, evS_asg, evS_par, evS_put, evS_ret, evS_retN, evS_iff, evS_pass, evS_brk, evS_cnt, evT, evE, evA, asgT, asgT.asgTs, cmpD, b2D, mkM, stepL, wipeT, h]
theorem w_c3 {G : Gam} (h : ixD M x d = some y) : stepL G [8] (.v 8) .pass (.ix (.v 1) (.v 8)) [o1, some x, o2, o3, o4, o5, o6, o7, o8] d M = .ok (some y, M) := by
  simp [evS_snil, evS_scons, evS_expr, evS_asg, evS_par, evS_put, evS_ret, evS_retN, evS_iff, evS_pass, evS_brk, evS_cnt, evT, evE, evA, asgT, asgT.asgTs, cmpD, b2D, mkM, stepL, wipeT, h]
theorem w_c4 (h : ixD M x d = some y) (h2 : ixD M w d = some z) {u : D} (h3 : m_minus [y, .tup [z, .int 1]] M = .ok (u, M)) : stepL g_in_coins [8] (.v 8) .pass (.tup (.acons (.call 1 (.acons (.ix (.v 0) (.v 8)) (.acons (.tup (.acons (.ix (.v 1) (.v 8)) (.acons (.c (.int 1)) .anil))) .anil))) (.acons (.v 8) .anil))) [some x, some w, o2, o3, o4, o5, o6, o7, o8] d M = .ok (some (.tup [u, d]), M) := by
  simp [evS_snil, evS_scons, evS_expr, evS_asg, evS_par, evS_put, evS_ret, evS_retN, evS_iff, evS_pass, evS_brk, evS_cnt, evT, evE, evA, asgT, asgT.asgTs, cmpD, b2D, mkM, stepL, wipeT, g_in_coins, h, h2, h3, big]
/-! the turns that give a coin more -/
def bodyI : T := .scons (.iff (.tst (.call 0 (.acons (.ix (.ix (.v 4) (.v 6)) (.c (.int 0))) (.acons (.ix (.ix (.v 4) (.v 7)) (.c (.int 0))) .anil)))) (.scons (.asg (.v 6) (.v 7)) .snil) .snil) .snil
theorem w_i {p pb nb pk nk : D} {b k : Int} {c : Bool} (h1 : ixD M p (.int b) = some (.tup [pb, nb])) (h2 : ixD M p (.int k) = some (.tup [pk, nk])) (h3 : m_is_less [pb, pk] M = .ok (.bl c, M)) :
    stF g_in_coins (.v 7) bodyI (.int k) [o1, o2, o3, o4, some p, o5, some (.int b), o6, o7] M = .nx [o1, o2, o3, o4, some p, o5, some (.int (if c = true then k else b)), some (.int k), o7] M := by
  cases c <;> simp [evS_snil, evS_scons, evS_expr, evS_asg, evS_par, evS_put, evS_ret, evS_retN, evS_iff, evS_pass, evS_brk, evS_cnt, evT, evE, evA, asgT, asgT.asgTs, cmpD, b2D, mkM, stF, bodyI, g_in_coins, h1, h2, h3]
def put1 : T := .put (.v 1) (.ix (.ix (.v 4) (.v 6)) (.c (.int 1))) (.bin .add false (.ix (.v 1) (.ix (.ix (.v 4) (.v 6)) (.c (.int 1)))) (.c (.int 1)))
def put2 : T := .put (.v 4) (.v 6) (.tup (.acons (.tup (.acons (.neg (.c (.int 1))) (.acons (.c (.int 1)) .anil))) (.acons (.ix (.ix (.v 4) (.v 6)) (.c (.int 1))) .anil)))
theorem w_p1 {G : Gam} {p cn pb nm : D} {b c : Int} (h1 : ixD M p (.int b) = some (.tup [pb, nm])) (h2 : ixD M cn nm = some (.int c)) (h3 : putIx M cn nm (.int (c + 1)) = some M') :
    evS G put1 [o1, some cn, o3, o4, some p, o5, some (.int b), o6, o7] M = .nx [o1, some cn, o3, o4, some p, o5, some (.int b), o6, o7] M' := by
  simp [evS_snil, evS_scons, evS_expr, evS_asg, evS_par, evS_put, evS_ret, evS_retN, evS_iff, evS_pass, evS_brk, evS_cnt, evT, evE, evA, asgT, asgT.asgTs, cmpD, b2D, mkM, put1, h1, h2, h3]
theorem w_p2 {G : Gam} {p pb nm : D} {b : Int} (h1 : ixD M p (.int b) = some (.tup [pb, nm])) (h3 : putIx M p (.int b) (.tup [.tup [.int (-1), .int 1], nm]) = some M') :
    evS G put2 [o1, o2, o3, o4, some p, o5, some (.int b), o6, o7] M = .nx [o1, o2, o3, o4, some p, o5, some (.int b), o6, o7] M' := by
  simp [evS_snil, evS_scons, evS_expr, evS_asg, evS_par, evS_put, evS_ret, evS_retN, evS_iff, evS_pass, evS_brk, evS_cnt, evT, evE, evA, asgT, asgT.asgTs, cmpD, b2D, mkM, put2, h1, h3, big]
end
/-! rows of names with a mark each -/
def kz (g : Str → Bool → D) (ss : List Str) (bs : List Bool) : List (D × D) := List.zipWith (fun s b => (D.str s, g s b)) ss bs
def qz (g : Str → Bool → D) (ss : List Str) (bs : List Bool) : List D := List.zipWith (fun s b => g s b) ss bs
theorem kz_look {g : Str → Bool → D} : ∀ {ss : List Str} {bs : List Bool} {i : Nat} {s : Str} {b : Bool}, ss.Nodup → ss[i]? = some s → bs[i]? = some b → lookD (kz g ss bs) (.str s) = some (g s b)
  | [], _, _, _, _, _, h, _ => by simp at h
  | _ :: _, [], _, _, _, _, _, h => by simp at h
  | s0 :: ss, b0 :: bs, 0, s, b, hn, h1, h2 => by
    simp at h1 h2
    subst h1 h2
    simp [kz, lookD]
  | s0 :: ss, b0 :: bs, i + 1, s, b, hn, h1, h2 => by
    rw [List.nodup_cons] at hn
    have h1 : ss[i]? = some s := by simpa using h1
    have hne : s0 ≠ s := fun e => hn.1 (by rw [e]; exact List.mem_of_getElem? h1)
    have ih := kz_look (g := g) hn.2 h1 (by simpa using h2 : bs[i]? = some b)
    unfold lookD kz at ih ⊢
    rw [List.zipWith_cons_cons, List.find?_cons]
    simp only [D.str.injEq, hne, decide_false]
    exact ih
theorem map_id_of {l : List (D × D)} {f : D × D → D × D} (h : ∀ p ∈ l, f p = p) : l.map f = l := by
  conv => rhs; rw [← List.map_id l]
  exact List.map_congr_left h
theorem kz_keys {g : Str → Bool → D} : ∀ {ss : List Str} {bs : List Bool} {p : D × D}, p ∈ kz g ss bs → ∃ s ∈ ss, p.1 = .str s
  | [], _, _, h => by simp [kz] at h
  | _ :: _, [], _, h => by simp [kz] at h
  | s :: ss, b :: bs, p, h => by
    unfold kz at h
    rw [List.zipWith_cons_cons] at h
    rcases List.mem_cons.mp h with rfl | h
    · exact ⟨s, List.mem_cons_self, rfl⟩
    · obtain ⟨s', h1, h2⟩ := kz_keys (g := g) (ss := ss) (bs := bs) h
      exact ⟨s', List.mem_cons_of_mem _ h1, h2⟩
theorem kz_put {g : Str → Bool → D} : ∀ {ss : List Str} {bs : List Bool} {i : Nat} {s : Str} {b : Bool}, ss.Nodup → ss[i]? = some s → bs[i]? = some b → putD (kz g ss bs) (.str s) (g s true) = kz g ss (bs.set i true) := by
  intro ss bs i s b hn h1 h2
  have hmap : ∀ {ss : List Str} {bs : List Bool} {i : Nat}, ss.Nodup → ss[i]? = some s → bs[i]? = some b → ((kz g ss bs).any fun p => decide (p.1 = .str s)) = true ∧ (kz g ss bs).map (fun p => if p.1 = .str s then (p.1, g s true) else p) = kz g ss (bs.set i true) := by
    intro ss
    induction ss with
    | nil => intro bs i _ h; simp at h
    | cons s0 ss ih =>
      intro bs i hn h1 h2
      cases bs with
      | nil => simp at h2
      | cons b0 bs =>
        rw [List.nodup_cons] at hn
        cases i with
        | zero =>
          simp at h1 h2
          subst h1 h2
          refine ⟨by simp [kz], ?_⟩
          simp only [kz, List.zipWith_cons_cons, List.map_cons, List.set_cons_zero, if_true]
          congr 1
          refine map_id_of fun p hp => ?_
          obtain ⟨s', h3, h4⟩ := kz_keys (g := g) (ss := ss) (bs := bs) hp
          rw [if_neg]
          rw [h4]
          intro e
          cases e
          exact hn.1 h3
        | succ i =>
          have h1 : ss[i]? = some s := by simpa using h1
          have hne : s0 ≠ s := fun e => hn.1 (by rw [e]; exact List.mem_of_getElem? h1)
          obtain ⟨i1, i2⟩ := ih hn.2 h1 (by simpa using h2 : bs[i]? = some b)
          unfold kz at i1 i2 ⊢
          refine ⟨by rw [List.zipWith_cons_cons, List.any_cons, i1, Bool.or_true], ?_⟩
          rw [List.zipWith_cons_cons, List.map_cons, List.set_cons_succ, List.zipWith_cons_cons, i2]
          simp [hne]
  obtain ⟨m1, m2⟩ := hmap hn h1 h2
  unfold putD
  rw [if_pos m1, m2]
theorem qz_get {g : Str → Bool → D} {ss : List Str} {bs : List Bool} {i : Nat} {s : Str} {b : Bool} (h1 : ss[i]? = some s) (h2 : bs[i]? = some b) : (qz g ss bs)[i]? = some (g s b) := by
  unfold qz
  rw [List.getElem?_zipWith, h1, h2]
theorem qz_set {g : Str → Bool → D} : ∀ {ss : List Str} {bs : List Bool} {i : Nat} {s : Str}, ss[i]? = some s → (qz g ss bs).set i (g s true) = qz g ss (bs.set i true)
  | [], _, _, _, h => by simp at h
  | _ :: _, [], _, _, _ => by simp [qz]
  | s0 :: ss, b0 :: bs, 0, s, h => by
    simp at h
    subst h
    simp [qz]
  | s0 :: ss, b0 :: bs, i + 1, s, h => by
    have ih := qz_set (g := g) (bs := bs) (by simpa using h : ss[i]? = some s)
    unfold qz at ih ⊢
    rw [List.zipWith_cons_cons, List.set_cons_succ, List.set_cons_succ, List.zipWith_cons_cons, ih]
theorem rlt_of_le {a b c : Rat} (h1 : a ≤ b) (h2 : b < c) : a < c := Rat.not_le.mp fun h => Rat.not_le.mpr h2 (Rat.le_trans h h1)
theorem rlt_trans {a b c : Rat} (h1 : a < b) (h2 : b < c) : a < c := rlt_of_le (Rat.le_of_lt h1) h2
theorem rngOk_lo {i : Int} (h1 : 0 ≤ i) (h2 : i < 2 ^ 60) : rngOk i = true := by
  simp only [rngOk_eq, Bool.and_eq_true, decide_eq_true_eq]
  omega
theorem rngL_get' {lo hi : Int} {j : Nat} {d : D} (h : (rngL lo hi)[j]? = some d) : lo + j < hi ∧ d = .int (lo + j) := by
  unfold rngL at h
  rw [List.getElem?_map] at h
  obtain ⟨k, hk, rfl⟩ := Option.map_eq_some_iff.mp h
  obtain ⟨h1, h2⟩ := List.getElem?_eq_some_iff.mp hk
  simp at h1 h2
  subst h2
  exact ⟨by omega, rfl⟩
theorem rng2_ev {G : Gam} {t : Tau} {M : Store} {p : D} {m : Int} (ht : t[4]? = some (some p)) (h : b1D .len false p M = .ok (.int m, M)) (hm : rngOk m = true) (h1 : rngOk 1 = true) : evI G (.rng2 (.c (.int 1)) (.b1 .len false (.v 4))) t M = .ok ((rngL 1 m, none), M) := by
  simp [evI, evE, ht, h, hm, h1]
theorem inner {M : Store} {p : D} {m : Nat} {v : Nat → Rat} {nm : Nat → D} {o1 o2 o3 o4 o5 o6 o7 : Option D} {P : Tau → Store → Prop} {Q : D → Store → Prop} (hm : 1 ≤ m) (hm2 : m < 2 ^ 60) (hl : b1D .len false p M = .ok (.int m, M))
    (hp : ∀ k, k < m → ixD M p (.int k) = some (.tup [frq (v k), nm k]) ∧ sd (v k)) (he : ∀ (b : Nat) (o : Option D), b < m → (∀ k, k < m → ¬ v b < v k) → (∀ k, k < b → v k < v b) → P [o1, o2, o3, o4, some p, o5, some (.int b), o, o7] M) :
    Wp (evS g_in_coins (.for_ (.v 7) (.rng2 (.c (.int 1)) (.b1 .len false (.v 4))) bodyI) [o1, o2, o3, o4, some p, o5, some (.int 0), o6, o7] M) P Q := by
  refine wp_for (fun j t M' => M' = M ∧ ∃ (b : Nat) (o : Option D), b ≤ j ∧ b < m ∧ (∀ k, k ≤ j → k < m → ¬ v b < v k) ∧ (∀ k, k < b → v k < v b) ∧ t = [o1, o2, o3, o4, some p, o5, some (.int b), o, o7])
    (rng2_ev rfl hl (rngOk_lo (by omega) (by omega)) (rngOk_lo (by decide) (by decide))) ⟨rfl, 0, o6, by omega, by omega, fun k hk _ => by rw [show k = 0 by omega]; exact Rat.lt_irrefl, fun k hk => by omega, rfl⟩ ?_ ?_
  · rintro j d t M' hd ⟨rfl, b, o, hb, hbm, hmax, hfst, rfl⟩
    obtain ⟨hj, rfl⟩ := rngL_get' hd
    have hk : j + 1 < m := by omega
    obtain ⟨p1, s1⟩ := hp b hbm
    obtain ⟨p2, s2⟩ := hp (j + 1) hk
    have ek : (1 : Int) + (j : Int) = ((j + 1 : Nat) : Int) := by omega
    rw [ek, w_i p1 p2 (m_is_less_eq s1 s2)]
    refine ⟨rfl, ?_⟩
    by_cases c : v b < v (j + 1)
    · refine ⟨j + 1, _, by omega, hk, fun k h1 h2 => ?_, fun k h1 => ?_, by simp only [c, decide_true, if_true]; rfl⟩
      · by_cases e : k = j + 1
        · rw [e]; exact Rat.lt_irrefl
        · exact fun z => hmax k (by omega) h2 (rlt_trans c z)
      · exact rlt_of_le (Rat.not_lt.mp (hmax k (by omega) (by omega))) c
    · refine ⟨b, _, by omega, hbm, fun k h1 h2 => ?_, hfst, by simp only [c, decide_false]; rfl⟩
      by_cases e : k = j + 1
      · rw [e]; exact c
      · exact hmax k (by omega) h2
  · rintro t M' ⟨rfl, b, o, hb, hbm, hmax, hfst, rfl⟩
    refine he b o hbm (fun k hk => hmax k ?_ hk) hfst
    simp only [rngL, List.length_map, List.length_range]
    omega
/-! the outer turns -/
section
variable (fl : Str → Int) (fr : Str → Rat)
def gc (s : Str) (b : Bool) : D := .int (if b = true then fl s + 1 else fl s)
def gp (s : Str) (b : Bool) : D := .tup [frq (if b = true then -1 else fr s), .str s]
/-- the two cells while coins are given -/
def Mo (M : Store) (ss : List Str) (bs : List Bool) : Store := M ++ [.dct false (kz (gc fl) ss bs), .lst (qz (gp fr) ss bs)]
end
def bodyO : T := .scons (.asg (.v 6) (.c (.int 0))) (.scons (.for_ (.v 7) (.rng2 (.c (.int 1)) (.b1 .len false (.v 4))) bodyI) (.scons put1 (.scons put2 .snil)))
theorem minus1 : frq (-1) = .tup [.int (-1), .int 1] := rfl
theorem cnt_set : ∀ {bs : List Bool} {i : Nat}, bs[i]? = some false → (bs.set i true).countP id = bs.countP id + 1
  | [], _, h => by simp at h
  | b :: bs, 0, h => by simp at h; subst h; simp
  | b :: bs, i + 1, h => by
    have ih := cnt_set (bs := bs) (i := i) (by simpa using h)
    rw [List.set_cons_succ, List.countP_cons, List.countP_cons, ih]
    omega
theorem cnt_lt : ∀ {bs : List Bool}, bs.countP id < bs.length → ∃ k : Nat, bs[k]? = some false
  | [], h => by simp at h
  | false :: bs, _ => ⟨0, rfl⟩
  | true :: bs, h => by
    obtain ⟨k, hk⟩ := cnt_lt (bs := bs) (by simpa using h)
    exact ⟨k + 1, by simpa using hk⟩
section
variable {M : Store} {fl : Str → Int} {fr : Str → Rat} {ss : List Str} {bs : List Bool} {o1 o3 o5 o6 o7 o8 : Option D}
theorem Mo_p {k : Nat} {s : Str} {b : Bool} (h1 : ss[k]? = some s) (h2 : bs[k]? = some b) : ixD (Mo fl fr M ss bs) (.ref (M.length + 1)) (.int k) = some (gp fr s b) := by
  have e : (Mo fl fr M ss bs)[M.length + 1]? = some (.lst (qz (gp fr) ss bs)) := by unfold Mo; rw [List.getElem?_append_right (by omega)]; simp
  have e1 : dictOf (Mo fl fr M ss bs) (.ref (M.length + 1)) = none := by simp [dictOf, e]
  have e2 : seqL (Mo fl fr M ss bs) (.ref (M.length + 1)) = some (qz (gp fr) ss bs) := by simp [seqL, e]
  simp only [ixD, e1, e2]
  exact L2.atI_nat (qz_get h1 h2)
theorem Mo_c {k : Nat} {s : Str} {b : Bool} (hn : ss.Nodup) (h1 : ss[k]? = some s) (h2 : bs[k]? = some b) : ixD (Mo fl fr M ss bs) (.ref M.length) (.str s) = some (gc fl s b) := by
  have e : (Mo fl fr M ss bs)[M.length]? = some (.dct false (kz (gc fl) ss bs)) := by unfold Mo; rw [List.getElem?_append_right (by omega)]; simp
  rw [ix_dict (dictOf_ref e)]
  exact kz_look hn h1 h2
theorem Mo_len (hl : bs.length = ss.length) : b1D .len false (.ref (M.length + 1)) (Mo fl fr M ss bs) = .ok (.int ss.length, Mo fl fr M ss bs) := by
  have e : (Mo fl fr M ss bs)[M.length + 1]? = some (.lst (qz (gp fr) ss bs)) := by unfold Mo; rw [List.getElem?_append_right (by omega)]; simp
  have e1 : dictOf (Mo fl fr M ss bs) (.ref (M.length + 1)) = none := by simp [dictOf, e]
  have e2 : seqL (Mo fl fr M ss bs) (.ref (M.length + 1)) = some (qz (gp fr) ss bs) := by simp [seqL, e]
  have e3 : (qz (gp fr) ss bs).length = ss.length := by simp [qz, hl]
  simp [b1D, walkD, e1, e2, e3]
theorem Mo_put1 {k : Nat} {s : Str} {b : Bool} (hn : ss.Nodup) (hb : ss.length < big) (hl : bs.length = ss.length) (h1 : ss[k]? = some s) (h2 : bs[k]? = some b) :
    putIx (Mo fl fr M ss bs) (.ref M.length) (.str s) (gc fl s true) = some (M ++ [.dct false (kz (gc fl) ss (bs.set k true)), .lst (qz (gp fr) ss bs)]) := by
  have e : (Mo fl fr M ss bs)[M.length]? = some (.dct false (kz (gc fl) ss bs)) := by unfold Mo; rw [List.getElem?_append_right (by omega)]; simp
  have e3 : (kz (gc fl) ss bs).length < big := by simp [kz, hl]; exact hb
  simp only [putIx, e, isKey, Bool.not_false, true_and, e3, if_true, kz_put hn h1 h2]
  unfold Mo
  simp
theorem Mo_put2 {k : Nat} {s : Str} (hl : bs.length = ss.length) (h1 : ss[k]? = some s) :
    putIx (M ++ [.dct false (kz (gc fl) ss (bs.set k true)), .lst (qz (gp fr) ss bs)]) (.ref (M.length + 1)) (.int k) (gp fr s true) = some (Mo fl fr M ss (bs.set k true)) := by
  have e : (M ++ [Cell.dct false (kz (gc fl) ss (bs.set k true)), .lst (qz (gp fr) ss bs)])[M.length + 1]? = some (.lst (qz (gp fr) ss bs)) := by rw [List.getElem?_append_right (by omega)]; simp
  have e3 : (qz (gp fr) ss bs).length = ss.length := by simp [qz, hl]
  have hk := (List.getElem?_eq_some_iff.mp h1).1
  have e4 : L2.ixN (qz (gp fr) ss bs).length (k : Int) = some k := by
    unfold L2.ixN
    rw [if_pos (Int.natCast_nonneg _), if_pos (by rw [e3]; omega)]
    rfl
  simp only [putIx, e, e4, Option.map_some, qz_set h1]
  unfold Mo
  simp
theorem Mo_p2 {k k' : Nat} {s : Str} {b : Bool} (h1 : ss[k]? = some s) (h2 : bs[k]? = some b) : ixD (M ++ [.dct false (kz (gc fl) ss (bs.set k' true)), .lst (qz (gp fr) ss bs)]) (.ref (M.length + 1)) (.int k) = some (gp fr s b) := by
  have e : (M ++ [Cell.dct false (kz (gc fl) ss (bs.set k' true)), .lst (qz (gp fr) ss bs)])[M.length + 1]? = some (.lst (qz (gp fr) ss bs)) := by rw [List.getElem?_append_right (by omega)]; simp
  have e1 : dictOf (M ++ [Cell.dct false (kz (gc fl) ss (bs.set k' true)), .lst (qz (gp fr) ss bs)]) (.ref (M.length + 1)) = none := by simp [dictOf, e]
  have e2 : seqL (M ++ [Cell.dct false (kz (gc fl) ss (bs.set k' true)), .lst (qz (gp fr) ss bs)]) (.ref (M.length + 1)) = some (qz (gp fr) ss bs) := by simp [seqL, e]
  simp only [ixD, e1, e2]
  exact L2.atI_nat (qz_get h1 h2)
end
/-- who has one more has no lesser remainder, and at equal ones a lesser key -/
def Ord (fr : Str → Rat) (ss : List Str) (bs : List Bool) : Prop := ∀ (i k : Nat) (s u : Str), ss[i]? = some s → ss[k]? = some u → bs[i]? = some true → bs[k]? = some false → fr u < fr s ∨ (fr u = fr s ∧ i < k)
theorem rng1_ev {G : Gam} {t : Tau} {M : Store} {n : Int} (ht : t[3]? = some (some (.int n))) (h : rngOk n = true) : evI G (.rng1 (.v 3)) t M = .ok ((rngL 0 n, none), M) := by
  simp only [evI, evE, ht, R.bind_ok, h, if_true]
theorem outer {M : Store} {fl : Str → Int} {fr : Str → Rat} {ss : List Str} {left : Nat} {o1 o3 o5 o6 o7 o8 : Option D} {P : Tau → Store → Prop} {Q : D → Store → Prop} (hn : ss.Nodup) (hb : ss.length < big) (hleft : left ≤ ss.length)
    (hsd : ∀ s ∈ ss, sd (fr s)) (hpos : ∀ s ∈ ss, 0 ≤ fr s)
    (he : ∀ (bs : List Bool) (o5 o6 o7 : Option D), bs.length = ss.length → bs.countP id = left → Ord fr ss bs → P [o1, some (.ref M.length), o3, some (.int left), some (.ref (M.length + 1)), o5, o6, o7, o8] (Mo fl fr M ss bs)) :
    Wp (evS g_in_coins (.for_ (.v 5) (.rng1 (.v 3)) bodyO) [o1, some (.ref M.length), o3, some (.int left), some (.ref (M.length + 1)), o5, o6, o7, o8] (Mo fl fr M ss (List.replicate ss.length false))) P Q := by
  have hb60 : ss.length < 2 ^ 60 := Nat.lt_trans hb (by decide)
  refine wp_for (fun j t M' => ∃ (bs : List Bool) (o5 o6 o7 : Option D), bs.length = ss.length ∧ bs.countP id = j ∧ Ord fr ss bs ∧ M' = Mo fl fr M ss bs ∧ t = [o1, some (.ref M.length), o3, some (.int left), some (.ref (M.length + 1)), o5, o6, o7, o8])
    (rng1_ev rfl (rngOk_lo (by omega) (by omega))) ⟨_, o5, o6, o7, by simp, by simp [List.countP_replicate], fun i k s u _ _ h _ => ?_, rfl, rfl⟩ ?_ ?_
  · rw [List.getElem?_replicate] at h
    split at h <;> cases h
  · rintro j d t M' hd ⟨bs, o5, o6, o7, hl, hc, hord, rfl, rfl⟩
    obtain ⟨hj, rfl⟩ := rngL_get' hd
    obtain ⟨w, hw⟩ := cnt_lt (bs := bs) (by omega)
    have getS : ∀ k, k < ss.length → ∃ s b, ss[k]? = some s ∧ bs[k]? = some b := fun k hk => ⟨ss[k], bs[k]'(by omega), List.getElem?_eq_getElem hk, List.getElem?_eq_getElem (by omega)⟩
    have hwl : w < ss.length := by have := (List.getElem?_eq_some_iff.mp hw).1; omega
    obtain ⟨v, hv⟩ : ∃ v : Nat → Rat, ∀ k s b, ss[k]? = some s → bs[k]? = some b → v k = if b = true then -1 else fr s := ⟨fun k => match ss[k]?, bs[k]? with
      | some s, some b => if b = true then -1 else fr s
      | _, _ => 0, fun k s b h1 h2 => by simp only [h1, h2]⟩
    obtain ⟨nm, hnm⟩ : ∃ nm : Nat → D, ∀ (k : Nat) (s : Str), ss[k]? = some s → nm k = .str s := ⟨fun k => match ss[k]? with
      | some s => .str s
      | none => .non, fun k s h1 => by simp only [h1]⟩
    have st : stF g_in_coins (.v 5) bodyO (.int (0 + (j : Int))) [o1, some (.ref M.length), o3, some (.int left), some (.ref (M.length + 1)), o5, o6, o7, o8] (Mo fl fr M ss bs) =
        evS g_in_coins bodyO [o1, some (.ref M.length), o3, some (.int left), some (.ref (M.length + 1)), some (.int (0 + (j : Int))), o6, o7, o8] (Mo fl fr M ss bs) := by simp [stF, asgT]
    rw [st]
    unfold bodyO
    refine wp_scons ?_
    rw [show evS g_in_coins (.asg (.v 6) (.c (.int 0))) [o1, some (.ref M.length), o3, some (.int left), some (.ref (M.length + 1)), some (.int (0 + (j : Int))), o6, o7, o8] (Mo fl fr M ss bs) =
      .nx [o1, some (.ref M.length), o3, some (.int left), some (.ref (M.length + 1)), some (.int (0 + (j : Int))), some (.int 0), o7, o8] (Mo fl fr M ss bs) from by simp [evS_asg, evE, asgT], wp_nx]
    refine wp_scons (inner (m := ss.length) (v := v) (nm := nm) (by omega) hb60 (Mo_len hl) (fun k hk => ?_) fun b o hbm hmax hfst => ?_)
    · obtain ⟨s, b, h1, h2⟩ := getS k hk
      rw [Mo_p h1 h2, hv k s b h1 h2, hnm k s h1]
      refine ⟨rfl, ?_⟩
      cases b
      · exact hsd s (List.mem_of_getElem? h1)
      · exact (by decide : (-1 : Rat).den < 2 ^ 64)
    · obtain ⟨s, bb, h1, h2⟩ := getS b hbm
      have hbb : bb = false := by
        cases bb with
        | false => rfl
        | true =>
          exfalso
          obtain ⟨u, hu⟩ : ∃ u, ss[w]? = some u := ⟨ss[w], List.getElem?_eq_getElem hwl⟩
          refine hmax w hwl ?_
          rw [hv b s true h1 h2, hv w u false hu hw]
          simp only [if_true, Bool.false_eq_true, if_false]
          exact Rat.not_le.mp fun h => absurd (Rat.le_trans (hpos u (List.mem_of_getElem? hu)) h) (by decide)
      subst hbb
      refine wp_scons ?_
      rw [w_p1 (nm := .str s) (pb := frq (fr s)) (c := fl s) (Mo_p h1 h2) (Mo_c hn h1 h2) (Mo_put1 hn hb hl h1 h2), wp_nx]
      refine wp_scons ?_
      rw [w_p2 (nm := .str s) (pb := frq (fr s)) (Mo_p2 h1 h2) (Mo_put2 hl h1), wp_nx, evS_snil, wp_nx]
      refine ⟨bs.set b true, _, _, _, by rw [List.length_set]; exact hl, by rw [cnt_set h2, hc], fun i k si sk g1 g2 g3 g4 => ?_, rfl, rfl⟩
      have hkb : k ≠ b := fun e => by
        subst e
        rw [List.getElem?_set_self (by omega)] at g4
        cases g4
      rw [List.getElem?_set_ne (Ne.symm hkb)] at g4
      by_cases hib : i = b
      · subst hib
        rw [h1] at g1
        cases g1
        have hk : k < ss.length := (List.getElem?_eq_some_iff.mp g2).1
        have hm := hmax k hk
        rw [hv _ _ _ h1 h2, hv _ _ _ g2 g4] at hm
        simp only [Bool.false_eq_true, if_false] at hm
        by_cases e : fr sk = fr s
        · refine .inr ⟨e, ?_⟩
          rcases Nat.lt_trichotomy i k with h | h | h
          · exact h
          · exact absurd h.symm hkb
          · have := hfst k h
            rw [hv _ _ _ h1 h2, hv _ _ _ g2 g4] at this
            simp only [Bool.false_eq_true, if_false] at this
            rw [e] at this
            exact absurd this Rat.lt_irrefl
        · left
          have := Rat.not_lt.mp hm
          exact Rat.not_le.mp fun z => e (Rat.le_antisymm this z)
      · rw [List.getElem?_set_ne (Ne.symm hib)] at g3
        exact hord i k si sk g1 g2 g3 g4
  · rintro t M' ⟨bs, o5, o6, o7, hl, hc, hord, rfl, rfl⟩
    refine he bs o5 o6 o7 hl ?_ hord
    rw [hc, rngL_len]
end P0
end
section
set_option maxRecDepth 100000
namespace P0
open PySem PyD PyM
/-! ### sums -/
theorem foldl_add (l : List Rat) : ∀ x : Rat, l.foldl (· + ·) x = x + tot l := by
  unfold tot
  induction l with
  | nil => intro x; simp [Rat.add_zero]
  | cons a l ih =>
    intro x
    rw [List.foldl_cons, List.foldl_cons, ih (x + a), ih (0 + a), Rat.zero_add, Rat.add_assoc]
theorem tot_cons (a : Rat) (l : List Rat) : tot (a :: l) = a + tot l := by
  have := foldl_add l (0 + a)
  rw [Rat.zero_add] at this
  unfold tot
  rw [List.foldl_cons, Rat.zero_add]
  exact this
theorem tot_perm {l l' : List Rat} (h : l.Perm l') : tot l = tot l' := by
  induction h with
  | nil => rfl
  | cons a _ ih => rw [tot_cons, tot_cons, ih]
  | swap a b l => rw [tot_cons, tot_cons, tot_cons, tot_cons, ← Rat.add_assoc, ← Rat.add_assoc, Rat.add_comm b a]
  | trans _ _ h1 h2 => rw [h1, h2]
theorem floor_le' (q : Rat) : (q.floor : Rat) ≤ q := Rat.le_floor_iff.mp (Int.le_refl _)
/-- the sum is the floors' sum and the remainders' -/
theorem tot_split (f : Str → Rat) : ∀ ss : List Str, ∃ x : Rat, tot (ss.map f) = ((ss.map fun s => (f s).floor).sum : Int) + x ∧ 0 ≤ x ∧ x ≤ ((ss.length : Int) : Rat)
  | [] => ⟨0, by simp [tot, Rat.add_zero], Rat.le_refl, by simp⟩
  | s :: ss => by
    obtain ⟨x, h1, h2, h3⟩ := tot_split f ss
    refine ⟨(f s - (f s).floor) + x, ?_, ?_, ?_⟩
    · rw [List.map_cons, tot_cons, h1, List.map_cons, List.sum_cons, Rat.intCast_add]
      grind
    · have := floor_le' (f s)
      grind
    · have := Rat.lt_floor_add_one (f s)
      rw [List.length_cons]
      have e : (((ss.length + 1 : Nat) : Int) : Rat) = ((ss.length : Int) : Rat) + 1 := by
        rw [show ((ss.length + 1 : Nat) : Int) = (ss.length : Int) + 1 by omega, Rat.intCast_add]; rfl
      rw [e]
      rw [Rat.intCast_add] at this
      have e1 : ((1 : Int) : Rat) = 1 := rfl
      rw [e1] at this
      grind
theorem den_sub (q : Rat) (n : Int) : (q - (n : Rat)).den ≤ q.den := by
  have e : q - (n : Rat) = Rat.divInt (q.num - n * q.den) q.den := by
    have h := Rat.divInt_sub_divInt q.num n (d₁ := q.den) (d₂ := 1) den_ne (by decide)
    rw [divInt_nd] at h
    have e1 : Rat.divInt n 1 = (n : Rat) := by
      have := divInt_nd (q := (n : Rat))
      exact this
    rw [e1, Int.mul_one, Int.mul_one] at h
    exact h
  rw [e, Rat.den_divInt, if_neg den_ne, Int.natAbs_natCast]
  exact Nat.div_le_self _ _
theorem sd_sub {q : Rat} {n : Int} (h : sd q) : sd (q - (n : Rat)) := Nat.lt_of_le_of_lt (den_sub q n) h
theorem sd_int {n : Int} : sd (n : Rat) := by
  show (n : Rat).den < 2 ^ 64
  have : (n : Rat).den = 1 := rfl
  omega
theorem frq_int {n : Int} : frq (n : Rat) = .tup [.int n, .int 1] := rfl
/-! ### in_coins as a whole -/
theorem get_app {M C : Store} {n : Nat} {c : Cell} (h : M[n]? = some c) : (M ++ C)[n]? = some c := by
  rw [List.getElem?_append_left (List.getElem?_eq_some_iff.mp h).1]; exact h
theorem get_set {M C : Store} {n k : Nat} {c c' : Cell} (h : M[n]? = some c) (hk : k ≠ n) : (M.set k c' ++ C)[n]? = some c := by
  rw [List.getElem?_append_left (by rw [List.length_set]; exact (List.getElem?_eq_some_iff.mp h).1), List.getElem?_set_ne hk]; exact h
theorem get_lk {M C : Store} {n : Nat} {c c' : Cell} (h : M[n]? = some c) : (M.set n c' ++ C)[n]? = some c' := by
  rw [List.getElem?_append_left (by rw [List.length_set]; exact (List.getElem?_eq_some_iff.mp h).1), List.getElem?_set_self (List.getElem?_eq_some_iff.mp h).1]
theorem fm_map {α : Type} {l : List α} {g : α → D} {f : D → Option D} {h : α → D} (e : ∀ a ∈ l, f (g a) = some (h a)) : (l.map g).filterMap f = l.map h := by
  induction l with
  | nil => rfl
  | cons a l ih => rw [List.map_cons, List.filterMap_cons_some (e a List.mem_cons_self), List.map_cons, ih fun b hb => e b (List.mem_cons_of_mem _ hb)]
theorem kz_rep {g : Str → Bool → D} : ∀ {ss : List Str}, kz g ss (List.replicate ss.length false) = ss.map fun s => (D.str s, g s false)
  | [] => rfl
  | s :: ss => by
    have ih := kz_rep (g := g) (ss := ss)
    unfold kz at ih ⊢
    rw [List.length_cons, List.replicate_succ, List.zipWith_cons_cons, List.map_cons, ih]
theorem qz_rep {g : Str → Bool → D} : ∀ {ss : List Str}, qz g ss (List.replicate ss.length false) = ss.map fun s => g s false
  | [] => rfl
  | s :: ss => by
    have ih := qz_rep (g := g) (ss := ss)
    unfold qz at ih ⊢
    rw [List.length_cons, List.replicate_succ, List.zipWith_cons_cons, List.map_cons, ih]
theorem bd_ints {n : Nat} {l : List D} (h : ∀ d ∈ l, d.pl = true) : D.bdL n l = true := D.bdL_all.mpr fun d hd => pl_bd (h d hd)
theorem evE_call {G : Gam} {f : Nat} {a : T} {t : Tau} {M : Store} : evE G (.call f a) t M = (evA G a t M).bind fun xs => match G.fn[f]? with
    | some m => m xs.1 xs.2
    | none => .stuck := by
  simp only [evE] <;> (cases evA G a t M <;> rfl)
theorem evA_one {G : Gam} {a : T} {t : Tau} {M M' : Store} {d : D} (h : evE G a t M = .ok (d, M')) : evA G (.acons a .anil) t M = .ok ([d], M') := by simp [evA, h]
theorem evE_call1 {G : Gam} {f : Nat} {a : T} {t : Tau} {M M' M2 : Store} {d r : D} {m : Mir} (h : evE G a t M = .ok (d, M')) (hf : G.fn[f]? = some m) (hm : m [d] M' = .ok (r, M2)) : evE G (.call f (.acons a .anil)) t M = .ok (r, M2) := by
  rw [evE_call, evA_one h, R.bind_ok, hf]; exact hm
theorem evE_bin {G : Gam} {op : BOp} {cell : Bool} {a b : T} {t : Tau} {M M1 M2 : Store} {x y : D} (h1 : evE G a t M = .ok (x, M1)) (h2 : evE G b t M1 = .ok (y, M2)) : evE G (.bin op cell a b) t M = binD op cell x y M2 := by simp [evE, h1, h2]
theorem evE_b1 {G : Gam} {f : B1} {cell : Bool} {a : T} {t : Tau} {M M1 : Store} {x : D} (h1 : evE G a t M = .ok (x, M1)) : evE G (.b1 f cell a) t M = b1D f cell x M1 := by simp [evE, h1]
theorem asg_v {G : Gam} {i : Nat} {a : T} {t : Tau} {M M1 : Store} {x : D} (h1 : evE G a t M = .ok (x, M1)) (hi : i < t.length) : evS G (.asg (.v i) a) t M = .nx (t.set i (some x)) M1 := by
  rw [evS_asg, h1, R.out_ok]
  simp [asgT, hi]
theorem evE_v {G : Gam} {i : Nat} {t : Tau} {M : Store} {x : D} (h : t[i]? = some (some x)) : evE G (.v i) t M = .ok (x, M) := by simp [evE, h]
def flo (ps : List (Str × Rat)) (s : Str) : Int := (val ps s).floor
def fra (ps : List (Str × Rat)) (s : Str) : Rat := val ps s - (flo ps s : Rat)
theorem m_in_coins_eq {M : Store} {n : Nat} {ps : List (Str × Rat)} {tt : Int} (hM : M[n]? = some (.dct false (shK ps))) (hn : (nms ps).Nodup) (hb : ps.length < big) (hsd : ∀ p ∈ ps, sd p.2)
    (hpart : ∀ i, sd (tot ((ps.map (·.2)).take i))) (hT : tot (ps.map (·.2)) = (tt : Rat)) :
    ∃ bs : List Bool, bs.length = (srt ps).length ∧ Ord (fra ps) (srt ps) bs ∧ (((srt ps).map (flo ps)).sum + bs.countP id = tt) ∧ m_in_coins [.ref n] M = .ok (.ref M.length, M ++ [.dct false (kz (gc (flo ps)) (srt ps) bs)]) := by
  have hss : ∀ s ∈ srt ps, s ∈ nms ps := fun s hs => srt_mem.mp hs
  have hvsd : ∀ s ∈ srt ps, sd (val ps s) := fun s hs => by
    obtain ⟨p, hp, rfl⟩ := List.mem_map.mp (hss s hs)
    rw [val_mem hn hp]; exact hsd p hp
  have hlen : (srt ps).length = ps.length := by rw [srt, (sortS_perm _).length_eq, nms, List.length_map]
  have hnd := srt_nodup hn
  have hLn : M.length ≠ n := fun e => by have := (List.getElem?_eq_some_iff.mp hM).1; omega
  -- how many more coins
  have hval : tot ((srt ps).map (val ps)) = (tt : Rat) := by
    rw [show srt ps = sortS (nms ps) from rfl, tot_perm ((sortS_perm (nms ps)).map (val ps)), ← hT, nms, List.map_map]
    congr 1
    exact List.map_congr_left fun p hp => val_mem hn hp
  obtain ⟨x, x1, x2, x3⟩ := tot_split (val ps) (srt ps)
  rw [hval] at x1
  have hx : x = ((tt - ((srt ps).map (flo ps)).sum : Int) : Rat) := by
    rw [Rat.intCast_sub]
    have : ((srt ps).map (flo ps)) = ((srt ps).map fun s => (val ps s).floor) := rfl
    rw [this]
    grind
  obtain ⟨left, hleft⟩ : ∃ left : Nat, tt - ((srt ps).map (flo ps)).sum = (left : Int) := by
    refine ⟨(tt - ((srt ps).map (flo ps)).sum).toNat, (Int.toNat_of_nonneg ?_).symm⟩
    rw [hx] at x2
    exact Rat.intCast_le_intCast.mp x2
  have hle : left ≤ (srt ps).length := by
    rw [hx, hleft] at x3
    have := Rat.intCast_le_intCast.mp x3
    omega
  refine mk_wpP (P := fun r => ∃ bs : List Bool, bs.length = (srt ps).length ∧ Ord (fra ps) (srt ps) bs ∧ (((srt ps).map (flo ps)).sum + bs.countP id = tt) ∧ r = .ok (.ref M.length, M ++ [.dct false (kz (gc (flo ps)) (srt ps) bs)])) rfl ?_
  show Wp (evS g_in_coins T_in_coins [some (.ref n), none, none, none, none, none, none, none, none] M) _ _
  unfold T_in_coins
  -- coins
  refine wp_scons ?_
  have c1 : ∀ o1 o2 o3 o4 o5 o6 o7 o8, evE g_in_coins (.dcomp [8] (.v 8) (.wd (.b1 .sorted false (.v 0))) .pass (.v 8) (.call 2 (.acons (.ix (.v 0) (.v 8)) .anil))) [some (.ref n), o1, o2, o3, o4, o5, o6, o7, o8] M = .ok (.ref M.length, M ++ [.dct false (kz (gc (flo ps)) (srt ps) (List.replicate (srt ps).length false))]) := fun o1 o2 o3 o4 o5 o6 o7 o8 => by
    have h := ev_dcomp (G := g_in_coins) (own := [8]) (tg := .v 8) (it := .wd (.b1 .sorted false (.v 0))) (k := .v 8) (e := .call 2 (.acons (.ix (.v 0) (.v 8)) .anil)) (t := [some (.ref n), o1, o2, o3, o4, o5, o6, o7, o8]) (M := M) (M1 := M) (ds := (srt ps).map D.str)
      (f := fun d => match d with
        | .str s => .int (flo ps s)
        | _ => .non) (evI_lst (by simp [evE, sorted_dict (dictOf_ref hM) shK_keys]; rfl)) (List.pairwise_map.mpr (hnd.imp fun h e => h (by cases e; rfl))) (fun d hd => by obtain ⟨s, _, rfl⟩ := List.mem_map.mp hd; rfl)
      (fun d hd acc => by
        obtain ⟨s, hs, rfl⟩ := List.mem_map.mp hd
        exact w_c1 (by rw [ix_dict (dictOf_ref (get_app hM))]; exact look_sh hn (hss s hs)) (m_whole_part_eq (hvsd s hs))) (by rw [List.length_map, hlen]; omega)
    rw [h, List.map_map, kz_rep]
    rfl
  rw [asg_v (c1 _ _ _ _ _ _ _ _) (by simp), wp_nx]
  simp only [List.set_cons_zero, List.set_cons_succ]
  generalize hC : kz (gc (flo ps)) (srt ps) (List.replicate (srt ps).length false) = C at *
  have hkC : C = (srt ps).map fun s => (D.str s, D.int (flo ps s)) := by rw [← hC, kz_rep]; rfl
  have keyC : C.map (·.1) = (srt ps).map D.str := by rw [hkC, List.map_map]; rfl
  have lookC : ∀ s ∈ srt ps, lookD C (.str s) = some (.int (flo ps s)) := fun s hs => by
    rw [hkC]
    have := look_map (f := fun s : Str => s) (g := fun s => D.int (flo ps s)) hs (by simpa using hnd)
    exact this
  have hM1 : (M ++ [Cell.dct false C])[n]? = some (.dct false (shK ps)) := get_app hM
  have hL1 : (M ++ [Cell.dct false C])[M.length]? = some (.dct false C) := by simp
  have hl1 : (M ++ [Cell.dct false C]).length = M.length + 1 := by simp
  -- rest
  refine wp_scons ?_
  have c2 : ∀ o1 o2 o3 o4 o5 o6 o7 o8, evE g_in_coins (.comp false [8] (.v 8) (.wd (.v 0)) .pass (.ix (.v 0) (.v 8))) [some (.ref n), o1, o2, o3, o4, o5, o6, o7, o8] (M ++ [.dct false C]) = .ok (.lst ((ps.map (·.2)).map frq), M ++ [.dct false C]) := fun o1 o2 o3 o4 o5 o6 o7 o8 => by
    have e : ((shK ps).map (·.1)).filterMap (fun d => lookD (shK ps) d) = (ps.map (·.2)).map frq := by
      rw [shK_keys, nms, List.map_map, List.map_map]
      exact fm_map fun p hp => by
        have := look_sh hn (List.mem_map_of_mem (f := fun p : Str × Rat => p.1) hp)
        rw [val_mem hn hp] at this
        exact this
    rw [← e]
    refine ev_comp_lk (evI_dct rfl hM1) hM1 (fun d hd acc => ?_) (by simp [shK]; omega) (by rw [e]; exact bd_ints fun d hd => by obtain ⟨q, _, rfl⟩ := List.mem_map.mp hd; rfl)
    rw [shK_keys] at hd
    obtain ⟨s, hs, rfl⟩ := List.mem_map.mp hd
    rw [look_sh hn hs]
    exact w_c2 (by rw [ix_dict (dictOf_lk (get_lk hM1))]; exact look_sh hn hs)
  have hps : ∀ (i : Nat) (q : Rat), (ps.map (·.2))[i]? = some q → sd q ∧ sd (tot ((ps.map (·.2)).take i)) := fun i q h => ⟨by
    obtain ⟨p, hp, rfl⟩ := List.mem_map.mp (List.mem_of_getElem? h); exact hsd p hp, hpart i⟩
  rw [asg_v (evE_call1 (c2 _ _ _ _ _ _ _ _) rfl (m_total_eq hps)) (by simp), wp_nx]
  simp only [List.set_cons_zero, List.set_cons_succ]
  -- left
  refine wp_scons ?_
  have c3 : ∀ o0 o2 o3 o4 o5 o6 o7 o8, evE g_in_coins (.comp false [8] (.v 8) (.wd (.v 1)) .pass (.ix (.v 1) (.v 8))) [o0, some (.ref M.length), o2, o3, o4, o5, o6, o7, o8] (M ++ [.dct false C]) = .ok (.lst (((srt ps).map (flo ps)).map D.int), M ++ [.dct false C]) := fun o0 o2 o3 o4 o5 o6 o7 o8 => by
    have e : (C.map (·.1)).filterMap (fun d => lookD C d) = ((srt ps).map (flo ps)).map D.int := by
      rw [keyC, List.map_map]
      exact fm_map fun s hs => lookC s hs
    rw [← e]
    refine ev_comp_lk (evI_dct rfl hL1) hL1 (fun d hd acc => ?_) (by rw [keyC, List.length_map, hlen]; omega) (by rw [e]; exact bd_ints fun d hd => by obtain ⟨q, _, rfl⟩ := List.mem_map.mp hd; rfl)
    rw [keyC] at hd
    obtain ⟨s, hs, rfl⟩ := List.mem_map.mp hd
    rw [lookC s hs]
    exact w_c3 (by rw [ix_dict (dictOf_lk (get_lk hL1))]; exact lookC s hs)
  have sumE : b1D .sum false (.lst (((srt ps).map (flo ps)).map D.int)) (M ++ [.dct false C]) = .ok (.int ((srt ps).map (flo ps)).sum, M ++ [.dct false C]) := by
    unfold b1D
    simp only [seqL, Option.bind_some, allI_map]
  have wT : m_whole_part [frq (tot (ps.map (·.2)))] (M ++ [.dct false C]) = .ok (.int tt, M ++ [.dct false C]) := by
    rw [m_whole_part_eq (by rw [hT]; exact sd_int), hT, Rat.floor_intCast]
  have e3 : ∀ o0 o2 o3 o4 o5 o6 o7 o8, evE g_in_coins (.b1 .sum false (.comp false [8] (.v 8) (.wd (.v 1)) .pass (.ix (.v 1) (.v 8)))) [o0, some (.ref M.length), o2, o3, o4, o5, o6, o7, o8] (M ++ [.dct false C]) = .ok (.int ((srt ps).map (flo ps)).sum, M ++ [.dct false C]) := fun o0 o2 o3 o4 o5 o6 o7 o8 => by
    rw [evE_b1 (c3 _ _ _ _ _ _ _ _)]; exact sumE
  have eL : ∀ o0 q o3 o4 o5 o6 o7 o8, q = frq (tot (ps.map (·.2))) → evE g_in_coins (.bin .sub false (.call 2 (.acons (.v 2) .anil)) (.b1 .sum false (.comp false [8] (.v 8) (.wd (.v 1)) .pass (.ix (.v 1) (.v 8))))) [o0, some (.ref M.length), some q, o3, o4, o5, o6, o7, o8] (M ++ [.dct false C]) = .ok (.int left, M ++ [.dct false C]) := fun o0 q o3 o4 o5 o6 o7 o8 hq => by
    rw [evE_bin (evE_call1 (evE_v rfl) rfl (by rw [hq]; exact wT)) (e3 _ _ _ _ _ _ _ _), bin_subI, hleft]
  rw [asg_v (eL _ _ _ _ _ _ _ _ rfl) (by simp), wp_nx]
  simp only [List.set_cons_zero, List.set_cons_succ]
  -- parts
  refine wp_scons ?_
  have c4 : ∀ o2 o3 o4 o5 o6 o7 o8, evE g_in_coins (.comp true [8] (.v 8) (.wd (.v 1)) .pass (.tup (.acons (.call 1 (.acons (.ix (.v 0) (.v 8)) (.acons (.tup (.acons (.ix (.v 1) (.v 8)) (.acons (.c (.int 1)) .anil))) .anil))) (.acons (.v 8) .anil)))) [some (.ref n), some (.ref M.length), o2, o3, o4, o5, o6, o7, o8] (M ++ [.dct false C]) =
      .ok (.ref (M.length + 1), Mo (flo ps) (fra ps) M (srt ps) (List.replicate (srt ps).length false)) := fun o2 o3 o4 o5 o6 o7 o8 => by
    have h := ev_comp_lkc (G := g_in_coins) (own := [8]) (tg := .v 8) (it := .wd (.v 1)) (tt := .pass) (e := .tup (.acons (.call 1 (.acons (.ix (.v 0) (.v 8)) (.acons (.tup (.acons (.ix (.v 1) (.v 8)) (.acons (.c (.int 1)) .anil))) .anil))) (.acons (.v 8) .anil))) (t := [some (.ref n), some (.ref M.length), o2, o3, o4, o5, o6, o7, o8]) (M := M ++ [.dct false C]) (ds := C.map (·.1)) (n := M.length)
      (f := fun d => match d with
        | .str s => some (.tup [frq (fra ps s), .str s])
        | _ => none) (evI_dct rfl hL1) hL1 (fun d hd acc => by
          rw [keyC] at hd
          obtain ⟨s, hs, rfl⟩ := List.mem_map.mp hd
          have hmn := m_minus_eq (p := val ps s) (q := (flo ps s : Rat)) (M := (M ++ [Cell.dct false C]).set M.length (.lkd false C) ++ [.lst acc]) (hvsd s hs) sd_int
          rw [frq_int] at hmn
          exact w_c4 (y := frq (val ps s)) (z := .int (flo ps s)) (by rw [ix_dict (dictOf_ref (get_set hM1 hLn))]; exact look_sh hn (hss s hs)) (by rw [ix_dict (dictOf_lk (get_lk hL1))]; exact lookC s hs) hmn) (by rw [keyC, List.length_map, hlen]; omega)
    have e4 : (C.map (·.1)).filterMap (fun d => match d with
        | .str s => some (.tup [frq (fra ps s), .str s])
        | _ => none) = qz (gp (fra ps)) (srt ps) (List.replicate (srt ps).length false) := by
      rw [keyC]
      exact (fm_map (g := D.str) (h := fun s => .tup [frq (fra ps s), .str s]) fun s hs => rfl).trans (by rw [qz_rep]; rfl)
    rw [h, hl1, e4]
    unfold Mo
    rw [hC, List.append_assoc]
    rfl
  rw [asg_v (c4 _ _ _ _ _ _ _) (by simp), wp_nx]
  simp only [List.set_cons_zero, List.set_cons_succ]
  refine wp_scons (outer hnd (by omega) hle (fun s hs => sd_sub (hvsd s hs)) (fun s hs => by have := floor_le' (val ps s); unfold fra flo; grind) fun bs o5 o6 o7 hl hc hord => ?_)
  refine wp_scons ?_
  rw [evS_ret, evE_v rfl, R.out_ok, wp_rt]
  refine ⟨bs, hl, hord, by rw [hc]; omega, ?_⟩
  unfold trim Mo
  have e1 : (M ++ [Cell.dct false (kz (gc (flo ps)) (srt ps) bs), .lst (qz (gp (fra ps)) (srt ps) bs)]).take (M.length + 1) = M ++ [.dct false (kz (gc (flo ps)) (srt ps) bs)] := by
    rw [List.take_append]
    simp [List.take_of_length_le]
  rw [e1]
  have e2 : ∀ M : Store, ∀ c : Cell, ∀ n, c.bd n = true → okC n M (M ++ [c]) = true := fun M c n h => by
    induction M with
    | nil => simp [okC, h]
    | cons c' M ih => simp [okC, ih]
  have e3 : (Cell.dct false (kz (gc (flo ps)) (srt ps) bs)).bd (M.length + 1) = true := by
    simp only [Cell.bd, List.all_eq_true, Bool.and_eq_true]
    intro p hp
    obtain ⟨j, hj⟩ := List.getElem?_of_mem hp
    unfold kz at hj
    rw [List.getElem?_zipWith] at hj
    split at hj
    · cases hj; exact ⟨rfl, rfl⟩
    · cases hj
  rw [e2 _ _ _ e3]
  simp [D.bd]
end P0
end
section
set_option maxRecDepth 100000
namespace P0
open PySem PyD PyM
/-! ### while -/
theorem evS_whil {G : Gam} {fuel : Nat} {c b : T} {t : Tau} {M : Store} : evS G (.whil fuel c b) t M = runWhile (fun t M => evT G c t M) (fun t M => evS G b t M) fuel t M := by simp only [evS]
theorem wp_runW {test : Tau → Store → R (Bool × Store)} {step : Tau → Store → Out} {P : Tau → Store → Prop} {Q : D → Store → Prop} (I : Nat → Tau → Store → Prop)
    (hs : ∀ n t M, I n t M → ∃ k M', test t M = .ok (k, M') ∧ if k = true then Wp (step t M') (fun t' M'' => ∃ m, m < n ∧ I m t' M'') Q else P t M') : ∀ (fuel n : Nat) (t : Tau) (M : Store), n < fuel → I n t M → Wp (runWhile test step fuel t M) P Q
  | 0, n, _, _, hn, _ => by omega
  | fuel + 1, n, t, M, hn, h => by
    obtain ⟨k, M', e, h2⟩ := hs n t M h
    unfold runWhile
    rw [e, R.out_ok]
    cases k with
    | false => simpa using h2
    | true =>
      simp only [if_true] at h2 ⊢
      cases he : step t M' with
      | nx t' M'' =>
        rw [he] at h2
        obtain ⟨m, hm, h3⟩ := h2
        exact wp_runW I hs fuel m t' M'' (by omega) h3
      | rt d M'' => rw [he] at h2; exact h2
      | _ => rw [he] at h2; exact h2.elim
theorem wp_while {G : Gam} {fuel : Nat} {c b : T} {t : Tau} {M : Store} {P : Tau → Store → Prop} {Q : D → Store → Prop} (I : Nat → Tau → Store → Prop) (n : Nat) (hn : n < fuel) (h0 : I n t M)
    (hs : ∀ n t M, I n t M → ∃ k M', evT G c t M = .ok (k, M') ∧ if k = true then Wp (evS G b t M') (fun t' M'' => ∃ m, m < n ∧ I m t' M'') Q else P t M') : Wp (evS G (.whil fuel c b) t M) P Q := by
  rw [evS_whil]
  exact wp_runW I hs fuel n t M hn h0
/-! ### texts in lists -/
theorem strs_pl {ss : List Str} : D.plL (ss.map D.str) = true := by
  induction ss with
  | nil => rfl
  | cons s ss ih => simp [D.plL, D.pl, ih]
theorem strs_dep {ss : List Str} : D.depL (ss.map D.str) = 0 := by
  induction ss with
  | nil => rfl
  | cons s ss ih => simp [D.depL, D.dep, ih]
theorem any_strs {s : Str} {ss : List Str} : (ss.map D.str).any (fun z => eqv z (.str s)) = decide (s ∈ ss) := by
  induction ss with
  | nil => simp
  | cons u ss ih =>
    rw [List.map_cons, List.any_cons, ih]
    simp only [eqv, List.mem_cons]
    by_cases h : u = s
    · simp [h]
    · have h' : ¬ s = u := fun e => h e.symm
      simp [h, h']
theorem isIn_strs {M : Store} {s : Str} {ss : List Str} : isInD M (.str s) (.lst (ss.map D.str)) = some (decide (s ∈ ss)) := by
  simp only [isInD, dictOf, seqL, plOk, D.pl, D.dep, strs_pl, strs_dep, any_strs]
  simp
/-- the texts that are kept -/
def onS (p : Str → Bool) : D → Option D
  | .str s => if p s = true then some (.str s) else none
  | _ => none
theorem fm_onS {p : Str → Bool} {l : List Str} : (l.map D.str).filterMap (onS p) = (l.filter p).map D.str := by
  induction l with
  | nil => rfl
  | cons s l ih =>
    by_cases h : p s = true
    · rw [List.map_cons, List.filterMap_cons_some (b := .str s) (by simp [onS, h]), ih, List.filter_cons_of_pos h, List.map_cons]
    · rw [List.map_cons, List.filterMap_cons_none (by simp [onS, h]), ih, List.filter_cons_of_neg h]
theorem okC_app : ∀ {M : Store} {c : Cell} {n : Nat}, c.bd n = true → okC n M (M ++ [c]) = true
  | [], c, n, h => by simp [okC, h]
  | d :: M, c, n, h => by simp [okC, okC_app h]
theorem trim1 {M : Store} {c : Cell} {d : D} (hd : d.bd (M.length + 1) = true) (hc : c.bd (M.length + 1) = true) : trim 1 M d (M ++ [c]) = .ok (d, M ++ [c]) := by
  unfold trim
  have e : (M ++ [c]).take (M.length + 1) = M ++ [c] := by
    apply List.take_of_length_le
    simp
  rw [e, hd, okC_app hc]
  simp
/-! ### advances -/
def advK (ads : List (Str × Int)) : List (D × D) := ads.map fun p => (.str p.1, .int p.2)
def nmA (ads : List (Str × Int)) : List Str := ads.map (·.1)
def av (ads : List (Str × Int)) (s : Str) : Int := ((ads.find? fun p => decide (p.1 = s)).map (·.2)).getD 0
theorem av_mem {ads : List (Str × Int)} (hn : (nmA ads).Nodup) {p : Str × Int} (h : p ∈ ads) : av ads p.1 = p.2 := by
  unfold av
  induction ads with
  | nil => cases h
  | cons q ads ih =>
    rw [nmA, List.map_cons, List.nodup_cons] at hn
    rcases List.mem_cons.mp h with rfl | h
    · simp
    · have hne : q.1 ≠ p.1 := fun e => hn.1 (by rw [e]; exact List.mem_map_of_mem h)
      rw [List.find?_cons]
      simp only [hne, decide_false]
      exact ih hn.2 h
theorem look_av {ads : List (Str × Int)} (hn : (nmA ads).Nodup) {s : Str} (h : s ∈ nmA ads) : lookD (advK ads) (.str s) = some (.int (av ads s)) := by
  obtain ⟨p, hp, rfl⟩ := List.mem_map.mp h
  rw [av_mem hn hp]
  exact look_map (f := fun p : Str × Int => p.1) (g := fun p => D.int p.2) hp hn
theorem advK_keys {ads : List (Str × Int)} : (advK ads).map (·.1) = (nmA ads).map D.str := by simp [advK, nmA]
/-! ### levels, the mathematics -/
theorem tot_nil : tot [] = 0 := rfl
theorem tot_le {L : Rat} {f : Str → Rat} : ∀ {ss : List Str}, (∀ s ∈ ss, L ≤ f s) → L * (ss.length : Int) ≤ tot (ss.map f)
  | [], _ => by simp [tot_nil]
  | s :: ss, h => by
    have ih := tot_le (ss := ss) fun u hu => h u (List.mem_cons_of_mem _ hu)
    have h1 := h s List.mem_cons_self
    rw [List.map_cons, tot_cons, List.length_cons]
    have e : (((ss.length + 1 : Nat) : Int) : Rat) = ((ss.length : Int) : Rat) + 1 := by push_cast; rfl
    rw [e, Rat.mul_add, Rat.mul_one]
    grind
theorem tot_lt {L : Rat} {f : Str → Rat} {ss : List Str} (hne : ss ≠ []) (h : ∀ s ∈ ss, L < f s) : L * (ss.length : Int) < tot (ss.map f) := by
  obtain ⟨s, ss, rfl⟩ := List.exists_cons_of_ne_nil hne
  have ih := tot_le (L := L) (f := f) (ss := ss) fun u hu => Rat.le_of_lt (h u (List.mem_cons_of_mem _ hu))
  have h1 := h s List.mem_cons_self
  rw [List.map_cons, tot_cons, List.length_cons]
  have e : (((ss.length + 1 : Nat) : Int) : Rat) = ((ss.length : Int) : Rat) + 1 := by push_cast; rfl
  rw [e, Rat.mul_add, Rat.mul_one]
  grind
theorem tot_split2 {f : Str → Rat} {p : Str → Bool} : ∀ {ss : List Str}, tot (ss.map f) = tot ((ss.filter p).map f) + tot ((ss.filter fun s => !p s).map f)
  | [] => by simp [tot_nil, Rat.add_zero]
  | s :: ss => by
    have ih := tot_split2 (f := f) (p := p) (ss := ss)
    by_cases h : p s = true
    · have h2 : ¬ ((!p s) = true) := by simp [h]
      rw [List.filter_cons_of_pos h, List.filter_cons_of_neg (by simpa using h2), List.map_cons, List.map_cons, tot_cons, tot_cons, ih, Rat.add_assoc]
    · have h2 : (!p s) = true := by simp [h]
      rw [List.filter_cons_of_neg h, List.filter_cons_of_pos (by simpa using h2), List.map_cons, List.map_cons, tot_cons, tot_cons, ih]
      grind
theorem len_split2 {p : Str → Bool} : ∀ {ss : List Str}, ss.length = (ss.filter p).length + (ss.filter fun s => !p s).length
  | [] => rfl
  | s :: ss => by
    have ih := len_split2 (p := p) (ss := ss)
    by_cases h : p s = true
    · have h2 : ¬ ((!p s) = true) := by simp [h]
      rw [List.filter_cons_of_pos h, List.filter_cons_of_neg (by simpa using h2), List.length_cons, List.length_cons]; omega
    · have h2 : (!p s) = true := by simp [h]
      rw [List.filter_cons_of_neg h, List.filter_cons_of_pos (by simpa using h2), List.length_cons, List.length_cons]; omega
theorem tot_congr {f g : Str → Rat} : ∀ {ss : List Str}, (∀ s ∈ ss, f s = g s) → tot (ss.map f) = tot (ss.map g)
  | [], _ => rfl
  | s :: ss, h => by
    rw [List.map_cons, List.map_cons, tot_cons, tot_cons, h s List.mem_cons_self, tot_congr fun u hu => h u (List.mem_cons_of_mem _ hu)]
theorem tot_zero : ∀ {ss : List Str}, tot (ss.map fun _ => (0 : Rat)) = 0
  | [] => rfl
  | s :: ss => by rw [List.map_cons, tot_cons, tot_zero, Rat.add_zero]
theorem tot_subc {L : Rat} {f : Str → Rat} : ∀ {ss : List Str}, tot (ss.map fun s => L - f s) = L * (ss.length : Int) - tot (ss.map f)
  | [] => by simp [tot_nil]; grind
  | s :: ss => by
    rw [List.map_cons, List.map_cons, tot_cons, tot_cons, tot_subc, List.length_cons]
    have e : (((ss.length + 1 : Nat) : Int) : Rat) = ((ss.length : Int) : Rat) + 1 := by push_cast; rfl
    rw [e, Rat.mul_add, Rat.mul_one]
    grind
/-- the positive part -/
def pos (x : Rat) : Rat := if x < 0 then 0 else x
section
variable (q : Rat) (f : Str → Rat)
/-- the level of some -/
def lv (ins : List Str) : Rat := (q + tot (ins.map f)) / ((ins.length : Int) : Rat)
variable {q f}
theorem len_pos {ins : List Str} (h : ins ≠ []) : (0 : Rat) < ((ins.length : Int) : Rat) := by
  have : 0 < ins.length := List.length_pos_iff.mpr h
  exact_mod_cast (by omega : (0 : Int) < (ins.length : Int))
theorem lv_mul {ins : List Str} (h : ins ≠ []) : lv q f ins * ((ins.length : Int) : Rat) = q + tot (ins.map f) := by
  unfold lv
  exact Rat.div_mul_cancel (by have := len_pos h; grind)
/-- not all lie above -/
theorem lv_some (hq : 0 ≤ q) {ins : List Str} (h : ins ≠ []) : ∃ s ∈ ins, ¬ lv q f ins < f s := by
  refine Classical.byContradiction fun hc => ?_
  have h1 : ∀ s ∈ ins, lv q f ins < f s := fun s hs => Classical.byContradiction fun h2 => hc ⟨s, hs, h2⟩
  have h2 := tot_lt h h1
  rw [lv_mul h] at h2
  grind
theorem mul_le_cancel {a b c : Rat} (hc : 0 < c) (h : a * c ≤ b * c) : a ≤ b := by
  refine Rat.not_lt.mp fun hl => ?_
  have := Rat.mul_lt_mul_of_pos_right hl hc
  grind
/-- those below have a lower level -/
theorem lv_le {ins : List Str} (h : ins ≠ []) (h2 : (ins.filter fun s => !decide (lv q f ins < f s)) ≠ []) : lv q f (ins.filter fun s => !decide (lv q f ins < f s)) ≤ lv q f ins := by
  have e1 := lv_mul (q := q) (f := f) h
  have e2 := lv_mul (q := q) (f := f) h2
  have e3 := tot_split2 (f := f) (p := fun s => decide (lv q f ins < f s)) (ss := ins)
  have e4 := len_split2 (p := fun s => decide (lv q f ins < f s)) (ss := ins)
  have e5 := tot_le (L := lv q f ins) (f := f) (ss := ins.filter fun s => decide (lv q f ins < f s)) fun s hs => by
    have := (List.mem_filter.mp hs).2
    exact Rat.le_of_lt (by simpa using this)
  refine mul_le_cancel (len_pos h2) ?_
  rw [e2]
  have e6 : ((ins.length : Int) : Rat) = (((ins.filter fun s => decide (lv q f ins < f s)).length : Int) : Rat) + (((ins.filter fun s => !decide (lv q f ins < f s)).length : Int) : Rat) := by exact_mod_cast e4
  rw [e6, Rat.mul_add] at e1
  grind
/-- what is given comes to the whole -/
theorem lv_whole {ss : List Str} {p : Str → Bool} (h : ss.filter p ≠ []) (h1 : ∀ s ∈ ss, p s = false → lv q f (ss.filter p) ≤ f s) (h2 : ∀ s ∈ ss, p s = true → f s ≤ lv q f (ss.filter p)) :
    tot (ss.map fun s => pos (lv q f (ss.filter p) - f s)) = q := by
  rw [tot_split2 (p := p)]
  have e1 : tot ((ss.filter p).map fun s => pos (lv q f (ss.filter p) - f s)) = tot ((ss.filter p).map fun s => lv q f (ss.filter p) - f s) := tot_congr fun s hs => by
    have := h2 s (List.mem_filter.mp hs).1 (List.mem_filter.mp hs).2
    unfold pos
    rw [if_neg]
    grind
  have e2 : tot ((ss.filter fun s => !p s).map fun s => pos (lv q f (ss.filter p) - f s)) = tot ((ss.filter fun s => !p s).map fun _ => (0 : Rat)) := tot_congr fun s hs => by
    have hp : p s = false := by have := (List.mem_filter.mp hs).2; simpa using this
    have := h1 s (List.mem_filter.mp hs).1 hp
    unfold pos
    split
    · rfl
    · grind
  rw [e1, e2, tot_zero, tot_subc, lv_mul h]
  grind
end
theorem add_int_den (q : Rat) (n : Int) : (q + (n : Rat)).den ≤ q.den := by
  have := den_sub q (-n)
  rw [show q + (n : Rat) = q - ((-n : Int) : Rat) by push_cast; grind]
  exact this
theorem div_nat {p : Rat} {k : Nat} : Rat.divInt p.num (p.den * (k : Int)) = p / ((k : Int) : Rat) := by
  rw [Rat.div_def, show (((k : Int) : Rat))⁻¹ = Rat.divInt 1 (k : Int) by rw [Rat.inv_def]; rfl]
  conv => rhs; rw [← divInt_nd (q := p)]
  rw [Rat.divInt_mul_divInt, Int.mul_one]
theorem divInt_den_le {a b : Int} (hb : b ≠ 0) : (Rat.divInt a b).den ≤ b.natAbs := by
  rw [Rat.den_divInt, if_neg hb]
  exact Nat.div_le_self _ _
/-! ### the walk -/
theorem w_share {L : Rat} {a : Int} {b : Bool} {M : Store} (h : sd L) : m_share_of [frq L, .int a, .bl b] M = .ok (frq (if b = true then L - (a : Rat) else 0), M) := by
  cases b with
  | false =>
    simp [evS_snil, evS_scons, evS_expr, evS_asg, evS_par, evS_put, evS_ret, evS_retN, evS_iff, evS_pass, evS_brk, evS_cnt, evT, evE, evA, asgT, asgT.asgTs, cmpD, b2D, mkM, m_share_of, T_share_of, g_share_of]
    exact trim_same rfl
  | true =>
    have h2 := m_minus_eq (M := M) h (sd_int (n := a))
    rw [frq_int] at h2
    simp [evS_snil, evS_scons, evS_expr, evS_asg, evS_par, evS_put, evS_ret, evS_retN, evS_iff, evS_pass, evS_brk, evS_cnt, evT, evE, evA, asgT, asgT.asgTs, cmpD, b2D, mkM, m_share_of, T_share_of, g_share_of, h2, big]
    exact trim_same rfl
section
variable {q : Rat} {ads : List (Str × Int)} {n : Nat} {M : Store}
theorem ix_av {M : Store} {n : Nat} (hM : M[n]? = some (.dct false (advK ads))) (hn : (nmA ads).Nodup) {s : Str} (h : s ∈ nmA ads) : ixD M (.ref n) (.str s) = some (.int (av ads s)) := by
  rw [ix_dict (dictOf_ref hM), look_av hn h]
abbrev fA (ads : List (Str × Int)) (s : Str) : Rat := ((av ads s : Int) : Rat)
theorem tot_fA {ss : List Str} : ∃ z : Int, tot (ss.map (fA ads)) = (z : Rat) := by
  induction ss with
  | nil => exact ⟨0, rfl⟩
  | cons s ss ih =>
    obtain ⟨z, hz⟩ := ih
    exact ⟨av ads s + z, by rw [List.map_cons, tot_cons, hz]; push_cast; rfl⟩
theorem sd_pool {ss : List Str} (h : sd q) : sd (q + tot (ss.map (fA ads))) := by
  obtain ⟨z, hz⟩ := tot_fA (ads := ads) (ss := ss)
  rw [hz]
  exact Nat.lt_of_le_of_lt (add_int_den q z) h
theorem lv_den {ss : List Str} (h : ss ≠ []) : (lv q (fA ads) ss).den ≤ q.den * ss.length := by
  obtain ⟨z, hz⟩ := tot_fA (ads := ads) (ss := ss)
  unfold lv
  rw [hz, ← div_nat]
  have hl : 0 < ss.length := List.length_pos_iff.mpr h
  refine Nat.le_trans (divInt_den_le (Int.mul_ne_zero den_ne (by omega))) ?_
  rw [← Int.natCast_mul, Int.natAbs_natCast]
  exact Nat.mul_le_mul_right _ (add_int_den q z)
theorem m_levels_eq (hM : M[n]? = some (.dct false (advK ads))) (hn : (nmA ads).Nodup) (hq : 0 ≤ q) (hne : ads ≠ []) (hb : ads.length < 10000) (hsz : q.den * ads.length < 2 ^ 64) :
    ∃ L : Rat, L.den ≤ q.den * ads.length ∧ tot ((nmA ads).map fun s => pos (L - fA ads s)) = q ∧ m_levels [frq q, .ref n] M = .ok (.ref M.length, M ++ [.dct false ((sortS (nmA ads)).map fun s => (.str s, frq (pos (L - fA ads s))))]) := by
  obtain ⟨ss, hss⟩ : ∃ ss, ss = sortS (nmA ads) := ⟨_, rfl⟩
  have hperm : ss.Perm (nmA ads) := by rw [hss]; exact sortS_perm _
  have hmem : ∀ s, s ∈ ss → s ∈ nmA ads := fun s hs => hperm.mem_iff.mp hs
  have hnd : ss.Nodup := hperm.nodup_iff.mpr hn
  have hlen : ss.length = ads.length := by rw [hperm.length_eq, nmA, List.length_map]
  have hsne : ss ≠ [] := fun e => hne (by rw [e] at hlen; exact List.length_eq_zero_iff.mp hlen.symm)
  have hsq : sd q := by
    unfold sd
    have : 1 ≤ ads.length := List.length_pos_iff.mpr hne
    exact Nat.lt_of_le_of_lt (Nat.le_mul_of_pos_right _ this) hsz
  refine mk_wpP (P := fun r => ∃ L : Rat, L.den ≤ q.den * ads.length ∧ tot ((nmA ads).map fun s => pos (L - fA ads s)) = q ∧ r = .ok (.ref M.length, M ++ [.dct false ((sortS (nmA ads)).map fun s => (.str s, frq (pos (L - fA ads s))))])) rfl ?_
  rw [← hss]
  show Wp (evS g_levels T_levels [some (frq q), some (.ref n), none, none, none, none, none] M) _ _
  unfold T_levels
  refine wp_scons ?_
  rw [asg_v (x := .lst (ss.map D.str)) (M1 := M) ((evE_b1 (evE_v (x := .ref n) rfl)).trans (by rw [sorted_dict (dictOf_ref hM) advK_keys, hss])) (by simp), wp_nx]
  have hft : ss.filter (fun _ => true) = ss := by simp
  refine wp_scons (wp_while (fun k t M' => M' = M ∧ ∃ p o3 o4 o5 o6, t = [some (frq q), some (.ref n), some (.lst ((ss.filter p).map D.str)), o3, o4, o5, o6] ∧ ss.filter p ≠ [] ∧ k = (ss.filter p).length ∧ ∀ s ∈ ss, p s = false → lv q (fA ads) (ss.filter p) ≤ fA ads s) ss.length (by omega) ?_ ?_)
  · exact ⟨rfl, fun _ => true, none, none, none, none, by rw [hft]; rfl, by rw [hft]; exact hsne, by rw [hft], fun s _ h => by cases h⟩
  rintro k t M' ⟨rfl, p, o3, o4, o5, o6, rfl, hine, hk, hinv⟩
  obtain ⟨ins, hins⟩ : ∃ ins, ins = ss.filter p := ⟨_, rfl⟩
  have hinm : ∀ s ∈ ins, s ∈ ss := fun s hs => by rw [hins] at hs; exact (List.mem_filter.mp hs).1
  have hil : ins.length ≤ ads.length := by rw [hins, ← hlen]; exact List.length_filter_le _ _
  rw [← hins] at hine hk hinv ⊢
  have hi0 : 0 < ins.length := List.length_pos_iff.mpr hine
  refine ⟨true, M', ?_, ?_⟩
  · simp [evT, evE, truD, hine]
  rw [if_pos rfl]
  refine wp_scons ?_
  rw [asg_v (evE_v (x := frq q) rfl) (by simp), wp_nx]
  simp only [List.set_cons_zero, List.set_cons_succ]
  refine wp_scons (wp_for (fun j t M2 => M2 = M' ∧ ∃ o4, t = [some (frq q), some (.ref n), some (.lst (ins.map D.str)), some (frq (q + tot ((ins.take j).map (fA ads)))), o4, o5, o6]) (evI_lst (xs := ins.map D.str) (evE_v rfl)) ⟨rfl, o4, by simp [tot_nil, Rat.add_zero]⟩ ?_ ?_)
  · rintro j d t M2 hd ⟨rfl, o4', rfl⟩
    rw [List.getElem?_map] at hd
    obtain ⟨s, hs, rfl⟩ := Option.map_eq_some_iff.mp hd
    have hsm : s ∈ ins := List.mem_of_getElem? hs
    have hp := m_plus_eq (M := M2) (sd_pool (ads := ads) (ss := ins.take j) hsq) (sd_int (n := av ads s))
    rw [frq_int] at hp
    have e : tot ((ins.take (j + 1)).map (fA ads)) = tot ((ins.take j).map (fA ads)) + (av ads s : Rat) := by
      rw [List.map_take, List.map_take]
      exact tot_take (by rw [List.getElem?_map, hs]; rfl)
    rw [e, ← Rat.add_assoc]
    generalize q + tot ((ins.take j).map (fA ads)) = x at hp ⊢
    simp [evS_snil, evS_scons, evS_expr, evS_asg, evS_par, evS_put, evS_ret, evS_retN, evS_iff, evS_pass, evS_brk, evS_cnt, evT, evE, evA, asgT, asgT.asgTs, cmpD, b2D, mkM, stF, ix_av hM hn (hmem s (hinm s hsm)), g_levels, hp, big]
  rintro t M2 ⟨rfl, o4', rfl⟩
  rw [List.length_map, List.take_length]
  obtain ⟨pool, hpool⟩ : ∃ pool, pool = q + tot (ins.map (fA ads)) := ⟨_, rfl⟩
  have sdp : sd pool := by rw [hpool]; exact sd_pool hsq
  have hL : lv q (fA ads) ins = pool / ((ins.length : Int) : Rat) := by rw [lv, hpool]
  obtain ⟨L, hLd⟩ : ∃ L, L = lv q (fA ads) ins := ⟨_, rfl⟩
  have hLden : L.den ≤ q.den * ads.length := by rw [hLd]; exact Nat.le_trans (lv_den hine) (Nat.mul_le_mul_left _ hil)
  have sdL : sd L := Nat.lt_of_le_of_lt hLden hsz
  rw [← hpool]
  have hf := m_fraction_eq (t := pool.num) (b := pool.den * (ins.length : Int)) (M := M2) (Int.mul_ne_zero den_ne (by omega)) (by
    rw [← Int.natCast_mul, Int.natAbs_natCast]
    have : pool.den ≤ q.den := by
      obtain ⟨z, hz⟩ := tot_fA (ads := ads) (ss := ins)
      rw [hpool, hz]; exact add_int_den q z
    have h2 : pool.den * ins.length < 2 ^ 64 := Nat.lt_of_le_of_lt (Nat.mul_le_mul this hil) hsz
    exact Nat.lt_of_lt_of_le h2 (Nat.pow_le_pow_right (by decide) (by decide)))
  rw [div_nat, ← hL, ← hLd] at hf
  have hmul : mulOk (pool.den : Int) (ins.length : Int) = true := mulOk_l (sd_sm sdp)
  have hln : b1D .len false (.lst (ins.map D.str)) M2 = .ok (.int (ins.length : Int), M2) := by simp [b1D, walkD, dictOf, seqL]
  refine wp_scons ?_
  rw [asg_v (x := frq L) (M1 := M2) (by simp [evE, evA, g_levels, hln, bin_mulI hmul, hf]) (by simp), wp_nx]
  simp only [List.set_cons_zero, List.set_cons_succ]
  have hless : ∀ s ∈ ins, ∀ C : Store, m_is_less [frq L, .tup [.int (av ads s), .int 1]] (M2 ++ C) = .ok (.bl (decide (L < fA ads s)), M2 ++ C) := fun s hs C => by
    have := m_is_less_eq (M := M2 ++ C) sdL (sd_int (n := av ads s))
    rw [frq_int] at this
    exact this
  refine wp_scons ?_
  rw [asg_v (x := .lst ((ins.filter fun s => decide (L < fA ads s)).map D.str)) (M1 := M2) (by
    rw [ev_comp (f := onS fun s => decide (L < fA ads s)) (evI_lst (xs := ins.map D.str) (evE_v rfl)) ?_ (by simp only [List.length_map, big]; omega) (by rw [fm_onS]; exact plL_bd strs_pl), fm_onS]
    intro d hd acc
    obtain ⟨s, hs, rfl⟩ := List.mem_map.mp hd
    have hix := ix_av (get_app (C := [.lst acc]) hM) hn (hmem s (hinm s hs))
    simp [stepL, evS_snil, evS_scons, evS_expr, evS_asg, evS_par, evS_put, evS_ret, evS_retN, evS_iff, evS_pass, evS_brk, evS_cnt, evT, evE, evA, asgT, asgT.asgTs, cmpD, b2D, mkM, wipeT, hix, g_levels, hless s hs, onS, big]
    by_cases c : L < fA ads s <;> simp [c]) (by simp), wp_nx]
  simp only [List.set_cons_zero, List.set_cons_succ]
  refine wp_scons ?_
  by_cases hab : (ins.filter fun s => decide (L < fA ads s)) = []
  · -- all of them below
    have hle : ∀ s ∈ ins, fA ads s ≤ L := fun s hs => Rat.not_lt.mp fun c => by
      have : s ∈ ins.filter fun s => decide (L < fA ads s) := List.mem_filter.mpr ⟨hs, by simpa using c⟩
      rw [hab] at this
      cases this
    rw [hab, evS_iff]
    simp only [evT, evE, truD, List.map_nil, List.isEmpty_nil, List.getElem?_cons_succ, List.getElem?_cons_zero, R.bind_ok, R.ofO_some, R.out_ok, Bool.not_true, Bool.not_false, if_true]
    refine wp_scons ?_
    rw [evS_ret]
    have hix : ∀ s ∈ ss, ∀ C : Store, ixD (M2 ++ C) (.ref n) (.str s) = some (.int (av ads s)) := fun s hs C => ix_av (get_app hM) hn (hmem s hs)
    have hd := ev_dcomp (G := g_levels) (own := [4]) (tg := .v 4) (it := .wd (.b1 .sorted false (.v 1))) (k := .v 4) (e := .call 0 (.acons (.v 5) (.acons (.ix (.v 1) (.v 4)) (.acons (.cmp .isIn (.v 4) (.v 2)) .anil)))) (t := [some (frq q), some (.ref n), some (.lst (ins.map D.str)), some (frq pool), o4', some (frq L), some (.lst [])]) (M := M2) (M1 := M2) (ds := ss.map D.str)
      (f := fun d => match d with
        | .str s => frq (if decide (s ∈ ins) = true then L - fA ads s else 0)
        | _ => .non) (evI_lst ((evE_b1 (evE_v (x := .ref n) rfl)).trans (by rw [sorted_dict (dictOf_ref hM) advK_keys, hss]))) (by
          exact List.pairwise_map.mpr (hnd.imp fun h e => h (by cases e; rfl))) (fun d hd => by obtain ⟨s, _, rfl⟩ := List.mem_map.mp hd; rfl) (fun d hd acc => by
          obtain ⟨s, hs, rfl⟩ := List.mem_map.mp hd
          simp [stepD, evS_snil, evS_scons, evS_expr, evS_asg, evS_par, evS_put, evS_ret, evS_retN, evS_iff, evS_pass, evS_brk, evS_cnt, evT, evE, evA, asgT, asgT.asgTs, cmpD, b2D, mkM, wipeT, hix s hs, g_levels, isIn_strs, w_share sdL]) (by simp only [List.length_map, big]; omega)
    rw [hd, R.out_ok, wp_rt]
    have hpos : ∀ s ∈ ss, (if decide (s ∈ ins) = true then L - fA ads s else 0) = pos (L - fA ads s) := fun s hs => by
      unfold pos
      by_cases c : s ∈ ins
      · have := hle s c
        rw [if_pos (by simpa using c), if_neg]
        grind
      · rw [if_neg (by simpa using c)]
        split
        · rfl
        · have hpf : p s = false := by
            cases e : p s with
            | false => rfl
            | true => exact absurd (by rw [hins]; exact List.mem_filter.mpr ⟨hs, e⟩) c
          have := hinv s hs hpf
          rw [← hLd] at this
          grind
    refine ⟨L, hLden, ?_, ?_⟩
    · rw [← tot_perm (hperm.map _), hLd, hins]
      rw [hins] at hine hinv
      refine lv_whole hine hinv fun s hs hp => ?_
      have := hle s (by rw [hins]; exact List.mem_filter.mpr ⟨hs, hp⟩)
      rw [hLd, hins] at this
      exact this
    · have hm : ((ss.map D.str).map fun d => (d, (match d with
        | .str s => frq (if decide (s ∈ ins) = true then L - fA ads s else 0)
        | _ => D.non))) = ss.map fun s => (D.str s, frq (pos (L - fA ads s))) := by
        rw [List.map_map]
        refine List.map_congr_left fun s hs => ?_
        show (D.str s, frq (if decide (s ∈ ins) = true then L - fA ads s else 0)) = _
        rw [hpos s hs]
      rw [hm]
      refine trim1 (by simp [D.bd]) ?_
      simp only [Cell.bd, List.all_map, List.all_eq_true]
      intro s _
      simp [D.bd]
  · -- some lie above
    rw [evS_iff]
    simp only [evT, evE, truD, List.getElem?_cons_succ, List.getElem?_cons_zero, R.bind_ok, R.ofO_some, R.out_ok]
    have hab2 : ((ins.filter fun s => decide (L < fA ads s)).map D.str).isEmpty = false := by simpa using hab
    rw [hab2]
    simp only [Bool.not_false, Bool.not_true, Bool.false_eq_true, if_false, evS_snil, wp_nx]
    refine wp_scons ?_
    have hfil : (ins.filter fun s => !decide (s ∈ ins.filter fun s => decide (L < fA ads s))) = ins.filter fun s => !decide (L < fA ads s) := List.filter_congr fun s hs => by
      simp [List.mem_filter, hs]
    rw [asg_v (x := .lst ((ins.filter fun s => !decide (L < fA ads s)).map D.str)) (M1 := M2) (by
      rw [ev_comp (f := onS fun s => !decide (s ∈ ins.filter fun s => decide (L < fA ads s))) (evI_lst (xs := ins.map D.str) (evE_v rfl)) ?_ (by simp only [List.length_map, big]; omega) (by rw [fm_onS]; exact plL_bd strs_pl), fm_onS, hfil]
      intro d hd acc
      obtain ⟨s, hs, rfl⟩ := List.mem_map.mp hd
      simp only [onS]
      generalize (ins.filter fun s => decide (L < fA ads s)) = ab
      simp [stepL, evS_snil, evS_scons, evS_expr, evS_asg, evS_par, evS_put, evS_ret, evS_retN, evS_iff, evS_pass, evS_brk, evS_cnt, evT, evE, evA, asgT, asgT.asgTs, cmpD, b2D, mkM, wipeT, isIn_strs]
      by_cases c : s ∈ ab <;> simp [c]) (by simp), wp_nx]
    simp only [List.set_cons_zero, List.set_cons_succ, evS_snil, wp_nx]
    have hnew : (ins.filter fun s => !decide (L < fA ads s)) = ss.filter fun s => p s && !decide (L < fA ads s) := by
      rw [hins, List.filter_filter]
      exact List.filter_congr fun s _ => by rw [Bool.and_comm]
    have hnne : (ins.filter fun s => !decide (L < fA ads s)) ≠ [] := by
      obtain ⟨s, hs, h2⟩ := lv_some (f := fA ads) hq hine
      intro e
      have : s ∈ ins.filter fun s => !decide (L < fA ads s) := List.mem_filter.mpr ⟨hs, by rw [hLd]; simpa using h2⟩
      rw [e] at this
      cases this
    have hlle : lv q (fA ads) (ins.filter fun s => !decide (L < fA ads s)) ≤ L := by
      have := lv_le (q := q) (f := fA ads) hine (by rw [← hLd]; exact hnne)
      rw [← hLd] at this
      exact this
    refine ⟨(ins.filter fun s => !decide (L < fA ads s)).length, ?_, trivial, fun s => p s && !decide (L < fA ads s), _, _, _, _, by rw [hnew], by rw [← hnew]; exact hnne, by rw [hnew], fun s hs hp => ?_⟩
    · rw [hk]
      have := len_split2 (p := fun s => decide (L < fA ads s)) (ss := ins)
      have h0 : 0 < (ins.filter fun s => decide (L < fA ads s)).length := List.length_pos_iff.mpr hab
      omega
    · rw [← hnew]
      refine Rat.le_trans hlle ?_
      simp only [Bool.and_eq_false_iff, Bool.not_eq_false', decide_eq_true_eq] at hp
      rcases hp with hp | hp
      · have := hinv s hs hp
        rw [← hLd] at this
        exact this
      · exact Rat.le_of_lt hp
end
end P0
end
section
set_option maxRecDepth 100000
namespace P0
open PySem PyD PyM
/-! ### dicts -/
theorem look_mem : ∀ {kvs : List (D × D)} {k v : D}, (kvs.map (·.1)).Nodup → (k, v) ∈ kvs → lookD kvs k = some v
  | p :: kvs, k, v, hn, h => by
    rw [List.map_cons, List.nodup_cons] at hn
    rcases List.mem_cons.mp h with rfl | h
    · simp [lookD]
    · have hne : p.1 ≠ k := fun e => hn.1 (by rw [e]; exact List.mem_map_of_mem (f := fun p : D × D => p.1) h)
      have ih := look_mem hn.2 h
      unfold lookD at ih ⊢
      rw [List.find?_cons]
      simp only [hne, decide_false]
      exact ih
theorem eqD_dct {M : Store} {x y : D} {kvs : List (D × D)} (hx : dictOf M x = some (false, kvs)) (hy : dictOf M y = some (false, kvs)) (hn : (kvs.map (·.1)).Nodup) (hv : ∀ p ∈ kvs, p.2.nb = true ∧ p.2.dep ≤ 30) : eqD M x y = some true := by
  have pl : kvs.all (fun p => plOk p.2) = true := by
    rw [List.all_eq_true]
    intro p hp
    simp only [plOk, Bool.and_eq_true, decide_eq_true_eq]
    exact ⟨nb_pl (hv p hp).1, (hv p hp).2⟩
  simp only [eqD, hx, hy, pl, Bool.not_false, Bool.and_self, if_true, Option.some.injEq]
  unfold eqDct
  simp only [beq_self_eq_true, Bool.true_and, List.all_eq_true]
  intro p hp
  rw [look_mem hn (v := p.2) hp]
  simp only
  rw [eqv_nb (hv p hp).1 (hv p hp).1]
  simp
theorem strs_nb {ss : List Str} : D.nbL (ss.map D.str) = true := by
  induction ss with
  | nil => rfl
  | cons s ss ih => simp [D.nbL, D.nb, ih]
theorem eqD_strs2 {M : Store} {ss us : List Str} : eqD M (.lst (ss.map D.str)) (.lst (us.map D.str)) = some (decide (ss = us)) := by
  rw [eqD_nb (by simpa [D.nb] using strs_nb) (by simpa [D.nb] using strs_nb) (by simp [D.dep, strs_dep]) (by simp [D.dep, strs_dep])]
  have hi : ∀ {ss us : List Str}, ss.map D.str = us.map D.str → ss = us := by
    intro ss
    induction ss with
    | nil => intro us h; cases us with
      | nil => rfl
      | cons u us => cases h
    | cons s ss ih => intro us h; cases us with
      | nil => cases h
      | cons u us =>
        rw [List.map_cons, List.map_cons, List.cons.injEq, D.str.injEq] at h
        rw [h.1, ih h.2]
  by_cases h : ss = us
  · simp [h]
  · have : ¬ ss.map D.str = us.map D.str := fun e => h (hi e)
    simp [h, this]
/-! ### ranges, numbers in lists -/
def rngI (lo hi : Int) : List Int := (List.range (hi - lo).toNat).map fun i => lo + (i : Nat)
theorem rngL_eq {lo hi : Int} : rngL lo hi = (rngI lo hi).map D.int := by simp [rngL, rngI]
theorem rngI_mem {lo hi i : Int} : i ∈ rngI lo hi ↔ lo ≤ i ∧ i < hi := by
  unfold rngI
  rw [List.mem_map]
  constructor
  · rintro ⟨a, ha, rfl⟩
    rw [List.mem_range] at ha
    omega
  · intro h
    exact ⟨(i - lo).toNat, List.mem_range.mpr (by omega), by omega⟩
theorem rngI_len {lo hi : Int} : (rngI lo hi).length = (hi - lo).toNat := by simp [rngI]
/-- the numbers that are kept -/
def onI (p : Int → Bool) : D → Option D
  | .int s => if p s = true then some (.int s) else none
  | _ => none
theorem fm_onI {p : Int → Bool} {l : List Int} : (l.map D.int).filterMap (onI p) = (l.filter p).map D.int := by
  induction l with
  | nil => rfl
  | cons s l ih =>
    by_cases h : p s = true
    · rw [List.map_cons, List.filterMap_cons_some (b := .int s) (by simp [onI, h]), ih, List.filter_cons_of_pos h, List.map_cons]
    · rw [List.map_cons, List.filterMap_cons_none (by simp [onI, h]), ih, List.filter_cons_of_neg h]
theorem ints_pl {ss : List Int} : D.plL (ss.map D.int) = true := by
  induction ss with
  | nil => rfl
  | cons s ss ih => simp [D.plL, D.pl, ih]
theorem maxF : ∀ (l : List Int) (i : Int), (l.foldl (fun a b => if b > a then b else a) i = i ∨ l.foldl (fun a b => if b > a then b else a) i ∈ l) ∧ i ≤ l.foldl (fun a b => if b > a then b else a) i ∧ ∀ x ∈ l, x ≤ l.foldl (fun a b => if b > a then b else a) i
  | [], i => ⟨.inl rfl, Int.le_refl _, by simp⟩
  | b :: l, i => by
    rw [List.foldl_cons]
    obtain ⟨m, hm⟩ : ∃ m, m = if b > i then b else i := ⟨_, rfl⟩
    rw [← hm]
    have hmi : i ≤ m ∧ b ≤ m ∧ (m = b ∨ m = i) := by rw [hm]; split <;> omega
    obtain ⟨h1, h2, h3⟩ := maxF l m
    refine ⟨?_, Int.le_trans hmi.1 h2, fun x hx => ?_⟩
    · rcases h1 with h1 | h1
      · rw [h1]
        rcases hmi.2.2 with e | e
        · exact .inr (by rw [e]; exact List.mem_cons_self)
        · exact .inl e
      · exact .inr (List.mem_cons_of_mem _ h1)
    · rcases List.mem_cons.mp hx with rfl | hx
      · exact Int.le_trans hmi.2.1 h2
      · exact h3 x hx
theorem max_is {l : List Int} {m : Int} (hm : m ∈ l) (h : ∀ x ∈ l, x ≤ m) : maxI l = some m := by
  cases l with
  | nil => cases hm
  | cons i l =>
    obtain ⟨h1, h2, h3⟩ := maxF l i
    unfold maxI
    refine congrArg some (Int.le_antisymm ?_ ?_)
    · rcases h1 with h1 | h1
      · rw [h1]; exact h i List.mem_cons_self
      · exact h _ (List.mem_cons_of_mem _ h1)
    · rcases List.mem_cons.mp hm with rfl | hm
      · exact h2
      · exact h3 m hm
theorem v_max {l : List Int} {m : Int} {M : Store} {cell : Bool} (hm : m ∈ l) (h : ∀ x ∈ l, x ≤ m) : b1D .max cell (.lst (l.map D.int)) M = .ok (.int m, M) := by
  simp [b1D, seqL, allI_map, max_is hm h]
theorem v_sum {l : List Int} {M : Store} {cell : Bool} : b1D .sum cell (.lst (l.map D.int)) M = .ok (.int l.sum, M) := by
  simp [b1D, seqL, allI_map]
/-! ### loops over a dict that the body leaves alone -/
theorem wp_for_dk {G : Gam} {tg it b : T} {t : Tau} {M : Store} {ds : List D} {kvs : List (D × D)} {n : Nat} {P : Tau → Store → Prop} {Q : D → Store → Prop} (I : Nat → Tau → Prop) (hi : evI G it t M = .ok ((ds, some n), M)) (hn : M[n]? = some (.dct false kvs)) (h0 : I 0 t)
    (hs : ∀ j d t, ds[j]? = some d → I j t → Wp (stF G tg b d t (M.set n (.lkd false kvs))) (fun t' M' => M' = M.set n (.lkd false kvs) ∧ I (j + 1) t') (fun _ _ => False)) (he : ∀ t, I ds.length t → P t M) : Wp (evS G (.for_ tg it b) t M) P Q := by
  rw [evS_for, hi, R.out_ok]
  have hl : lockN (some n) M = M.set n (.lkd false kvs) := by simp only [lockN, hn]
  have := wp_run (f := stF G tg b) (P := fun t' M' => M' = M.set n (.lkd false kvs) ∧ I ds.length t') (Q := fun _ _ => False) (fun j t' M' => M' = M.set n (.lkd false kvs) ∧ I j t') ds 0 t (M.set n (.lkd false kvs)) ⟨rfl, h0⟩
    (fun j d t M' e h => by
      obtain ⟨rfl, h⟩ := h
      rw [Nat.zero_add] at h ⊢
      exact hs j d t e h) (fun t M' h => by rwa [Nat.zero_add] at h)
  dsimp only
  rw [hl]
  cases hr : runFor (stF G tg b) ds t (M.set n (.lkd false kvs)) with
  | nx t' M' =>
    rw [hr] at this
    obtain ⟨rfl, h⟩ := this
    have hlt := (List.getElem?_eq_some_iff.mp hn).1
    have e2 : unlockN (some n) (M.set n (.lkd false kvs)) = some M := by
      simp only [unlockN, List.getElem?_set_self hlt, List.set_set]
      rw [show M.set n (.dct false kvs) = M from by rw [← (List.getElem?_eq_some_iff.mp hn).2]; exact List.set_getElem_self hlt]
    simp only [Out.unlock, e2]
    exact he t' h
  | rt d M' => rw [hr] at this; exact this.elim
  | bk t' M' => rw [hr] at this; exact this.elim
  | ct t' M' => rw [hr] at this; exact this.elim
  | exc c fs t' M' => rw [hr] at this; exact this.elim
  | stuck => rw [hr] at this; exact this.elim
theorem set_get {M : Store} {n : Nat} {c c' : Cell} (h : M[n]? = some c) : (M.set n c')[n]? = some c' := List.getElem?_set_self (List.getElem?_eq_some_iff.mp h).1
theorem set_ne {M : Store} {n k : Nat} {c c' : Cell} (h : M[n]? = some c) (hk : k ≠ n) : (M.set k c')[n]? = some c := by rw [List.getElem?_set_ne hk]; exact h
theorem evI_lkd {G : Gam} {t : Tau} {M : Store} {i n : Nat} {kvs : List (D × D)} (ht : t[i]? = some (some (.ref n))) (hn : M[n]? = some (.lkd false kvs)) : evI G (.wd (.v i)) t M = .ok ((kvs.map (·.1), none), M) := by
  simp [evI, evE, ht, hn]
/-! ### small numbers -/
theorem modN {i n : Int} (hn : 0 < n) : 0 ≤ i.fmod n ∧ i.fmod n < n := ⟨Int.fmod_nonneg_of_pos _ hn, Int.fmod_lt_of_pos _ hn⟩
theorem sm_of {i : Int} {k : Nat} (h : i.natAbs ≤ k) (hk : k < 2 ^ 60 := by decide) : sm i := by unfold sm; exact Nat.lt_of_le_of_lt h (Nat.lt_trans hk (by decide))
theorem sm_nn {i k : Int} (h0 : 0 ≤ i) (h : i ≤ k) (hk : k < 2 ^ 60 := by decide) : sm i := by unfold sm; omega
theorem num_ix {ys : List Int} {M : Store} {j : Nat} (h : j < ys.length) : ixD M (.lst (ys.map D.int)) (.int (j : Int)) = some (.int (ys[j])) := by
  simp only [ix_lst]
  refine L2.atI_nat ?_
  rw [List.getElem?_map, List.getElem?_eq_getElem h]
  rfl
theorem trim_any {M M' : Store} {d : D} {k : Nat} : ∃ M2, trim k M d M' = .ok (d, M2) := by
  unfold trim
  split
  · exact ⟨_, rfl⟩
  · exact ⟨_, rfl⟩
/-! ### numbers as texts -/
def its (i : Int) : Str := Str.ofString (toString i)
theorem bin_addS {a b : Str} {M : Store} {cell : Bool} (h : a.length + b.length ≤ big) : binD .add cell (.str a) (.str b) M = .ok (.str (a ++ b), M) := by simp [binD, h]
theorem v_str {i : Int} {M : Store} {cell : Bool} (h : strOkI i = true) : b1D .str cell (.int i) M = .ok (.str (its i), M) := by
  unfold b1D
  simp only [h, if_true]
  rfl
theorem its_len {n : Nat} (h : n < 100) : (its (n : Int)).length ≤ 2 := by
  unfold its
  have := TL.numL_len (k := 2) (by decide) h
  rw [TL.len_tl, TL.tl_num]
  exact this
theorem str_ok {n : Nat} (h : n < 100) : strOkI (n : Int) = true := by
  rw [strOkI_eq, decide_eq_true_eq, Int.natAbs_natCast]
  exact Nat.lt_of_lt_of_le h (Nat.le_trans (by decide : 100 ≤ 2 ^ 7) (Nat.pow_le_pow_right (by decide) (by decide)))
theorem len_app {a b : Str} : (a ++ b).length = a.length + b.length := by
  show (a ++ b).cps.size = a.cps.size + b.cps.size
  rw [Str.cps_append, Array.size_append]
end P0
end
section
set_option maxRecDepth 100000
set_option autoImplicit false
/-! the terms and mirrors of law_k05_levels_of_advances (printed by gen.py) -/
namespace P0
end P0
namespace K05
open PySem PyD L2 P0
def T_law : T := (.scons (.for_ (.v 1) (.rng1 (.b2 .max (.c (.int 1)) (.b2 .min (.b1 .len false (.v 0)) (.c (.int 6))))) (.scons (.asg (.v 2) (.call 2 (.acons (.call 1 (.acons (.v 0) (.acons (.v 1) .anil))) (.acons (.c (.int 16)) .anil))))
 (.scons (.asg (.v 3) (.bin .mod false (.b1 .int false (.ix (.v 2) (.c (.int 0)))) (.ix (.lst false (.acons (.c (.int 1)) (.acons (.c (.int 50)) (.acons (.c (.int 5000)) .anil)))) (.bin .mod false (.b1 .int false (.ix (.v 2) (.c (.int 1)))) (.c (.int 3))))))
 (.scons (.asg (.v 4) (.bin .add false (.c (.int 1)) (.bin .mod false (.b1 .int false (.bin .fdiv false (.ix (.v 2) (.c (.int 1))) (.c (.int 3)))) (.c (.int 5)))))
 (.scons (.asg (.v 5) (.dnew false))
 (.scons (.for_ (.v 6) (.rng1 (.bin .add false (.c (.int 1)) (.bin .mod false (.b1 .int false (.ix (.v 2) (.c (.int 2)))) (.c (.int 12))))) (.scons (.put (.v 5) (.bin .add false (.c (.str "n")) (.b1 .str false (.bin .mod false (.b1 .int false (.bin .fdiv false (.ix (.v 2) (.bin .add false (.c (.int 3)) (.v 6))) (.c (.int 9)))) (.c (.int 40))))) (.bin .mod false (.b1 .int false (.ix (.v 2) (.bin .add false (.c (.int 3)) (.v 6)))) (.ix (.lst false (.acons (.c (.int 1)) (.acons (.c (.int 9)) (.acons (.c (.int 400)) (.acons (.c (.int 4000)) .anil))))) (.bin .mod false (.b1 .int false (.bin .fdiv false (.ix (.v 2) (.c (.int 2))) (.c (.int 12)))) (.c (.int 4))))))
 .snil))
 (.scons (.asg (.v 7) (.b1 .dict false (.v 5)))
 (.scons (.asg (.v 8) (.v 3))
 (.scons (.for_ (.v 6) (.rng1 (.c (.int 6))) (.scons (.iff (.and_ (.tst (.cmp .gt (.v 8) (.c (.int 0)))) (.and_ (.tst (.cmp .gt (.v 4) (.c (.int 1)))) (.last (.tst (.cmp .eq (.bin .mod false (.b1 .int false (.v 8)) (.v 4)) (.c (.int 0))))))) (.scons (.asg (.v 8) (.bin .fdiv false (.v 8) (.v 4)))
 (.scons (.asg (.v 4) (.c (.int 1)))
 .snil)) .snil)
 .snil))
 (.scons (.asg (.v 9) (.comp false [18] (.v 18) (.rng2 (.c (.int 1)) (.bin .add false (.v 4) (.c (.int 1)))) (.and_ (.tst (.cmp .eq (.bin .mod false (.b1 .int false (.v 8)) (.v 18)) (.c (.int 0)))) (.last (.tst (.cmp .eq (.bin .mod false (.b1 .int false (.v 4)) (.v 18)) (.c (.int 0)))))) (.v 18)))
 (.scons (.asg (.v 10) (.call 0 (.acons (.tup (.acons (.bin .fdiv false (.v 8) (.b1 .max false (.v 9))) (.acons (.bin .fdiv false (.v 4) (.b1 .max false (.v 9))) .anil))) (.acons (.v 5) .anil))))
 (.scons (.iff (.or_ (.tst (.cmp .ne (.b1 .list false (.v 10)) (.b1 .sorted false (.v 5)))) (.last (.tst (.cmp .ne (.v 5) (.v 7))))) (.scons (.ret (.c (.bl false)))
 .snil) .snil)
 (.scons (.asg (.v 11) (.c (.int 1)))
 (.scons (.for_ (.v 12) (.wd (.v 10)) (.scons (.asg (.v 11) (.bin .mul false (.v 11) (.ix (.ix (.v 10) (.v 12)) (.c (.int 1)))))
 .snil))
 (.scons (.asg (.v 11) (.bin .mul false (.v 11) (.v 4)))
 (.scons (.iff (.tst (.cmp .ne (.bin .mul false (.b1 .sum false (.comp false [12] (.v 12) (.wd (.v 10)) .pass (.bin .fdiv false (.bin .mul false (.ix (.ix (.v 10) (.v 12)) (.c (.int 0))) (.v 11)) (.ix (.ix (.v 10) (.v 12)) (.c (.int 1)))))) (.v 4)) (.bin .mul false (.v 8) (.v 11)))) (.scons (.ret (.c (.bl false)))
 .snil) .snil)
 (.scons (.for_ (.v 12) (.wd (.v 10)) (.scons (.asg (.v 13) (.ix (.v 10) (.v 12)))
 (.scons (.iff (.or_ (.tst (.cmp .lt (.ix (.v 13) (.c (.int 0))) (.c (.int 0)))) (.last (.tst (.cmp .lt (.ix (.v 13) (.c (.int 1))) (.c (.int 1)))))) (.scons (.ret (.c (.bl false)))
 .snil) .snil)
 (.scons (.for_ (.v 14) (.wd (.v 10)) (.scons (.asg (.v 15) (.ix (.v 10) (.v 14)))
 (.scons (.asg (.v 16) (.bin .add false (.bin .mul false (.ix (.v 13) (.c (.int 0))) (.ix (.v 15) (.c (.int 1)))) (.bin .mul false (.bin .mul false (.ix (.v 5) (.v 12)) (.ix (.v 13) (.c (.int 1)))) (.ix (.v 15) (.c (.int 1))))))
 (.scons (.asg (.v 17) (.bin .add false (.bin .mul false (.ix (.v 15) (.c (.int 0))) (.ix (.v 13) (.c (.int 1)))) (.bin .mul false (.bin .mul false (.ix (.v 5) (.v 14)) (.ix (.v 13) (.c (.int 1)))) (.ix (.v 15) (.c (.int 1))))))
 (.scons (.iff (.and_ (.tst (.cmp .gt (.ix (.v 13) (.c (.int 0))) (.c (.int 0)))) (.and_ (.tst (.cmp .gt (.ix (.v 15) (.c (.int 0))) (.c (.int 0)))) (.last (.tst (.cmp .ne (.v 16) (.v 17)))))) (.scons (.ret (.c (.bl false)))
 .snil) .snil)
 (.scons (.iff (.and_ (.tst (.cmp .gt (.ix (.v 13) (.c (.int 0))) (.c (.int 0)))) (.and_ (.tst (.cmp .eq (.ix (.v 15) (.c (.int 0))) (.c (.int 0)))) (.last (.tst (.cmp .lt (.v 17) (.v 16)))))) (.scons (.ret (.c (.bl false)))
 .snil) .snil)
 .snil))))))
 .snil))))
 .snil)))))))))))))))))
 (.scons (.ret (.c (.bl true)))
 .snil))
def B_law_1 : T := (.scons (.asg (.v 2) (.call 2 (.acons (.call 1 (.acons (.v 0) (.acons (.v 1) .anil))) (.acons (.c (.int 16)) .anil))))
 (.scons (.asg (.v 3) (.bin .mod false (.b1 .int false (.ix (.v 2) (.c (.int 0)))) (.ix (.lst false (.acons (.c (.int 1)) (.acons (.c (.int 50)) (.acons (.c (.int 5000)) .anil)))) (.bin .mod false (.b1 .int false (.ix (.v 2) (.c (.int 1)))) (.c (.int 3))))))
 (.scons (.asg (.v 4) (.bin .add false (.c (.int 1)) (.bin .mod false (.b1 .int false (.bin .fdiv false (.ix (.v 2) (.c (.int 1))) (.c (.int 3)))) (.c (.int 5)))))
 (.scons (.asg (.v 5) (.dnew false))
 (.scons (.for_ (.v 6) (.rng1 (.bin .add false (.c (.int 1)) (.bin .mod false (.b1 .int false (.ix (.v 2) (.c (.int 2)))) (.c (.int 12))))) (.scons (.put (.v 5) (.bin .add false (.c (.str "n")) (.b1 .str false (.bin .mod false (.b1 .int false (.bin .fdiv false (.ix (.v 2) (.bin .add false (.c (.int 3)) (.v 6))) (.c (.int 9)))) (.c (.int 40))))) (.bin .mod false (.b1 .int false (.ix (.v 2) (.bin .add false (.c (.int 3)) (.v 6)))) (.ix (.lst false (.acons (.c (.int 1)) (.acons (.c (.int 9)) (.acons (.c (.int 400)) (.acons (.c (.int 4000)) .anil))))) (.bin .mod false (.b1 .int false (.bin .fdiv false (.ix (.v 2) (.c (.int 2))) (.c (.int 12)))) (.c (.int 4))))))
 .snil))
 (.scons (.asg (.v 7) (.b1 .dict false (.v 5)))
 (.scons (.asg (.v 8) (.v 3))
 (.scons (.for_ (.v 6) (.rng1 (.c (.int 6))) (.scons (.iff (.and_ (.tst (.cmp .gt (.v 8) (.c (.int 0)))) (.and_ (.tst (.cmp .gt (.v 4) (.c (.int 1)))) (.last (.tst (.cmp .eq (.bin .mod false (.b1 .int false (.v 8)) (.v 4)) (.c (.int 0))))))) (.scons (.asg (.v 8) (.bin .fdiv false (.v 8) (.v 4)))
 (.scons (.asg (.v 4) (.c (.int 1)))
 .snil)) .snil)
 .snil))
 (.scons (.asg (.v 9) (.comp false [18] (.v 18) (.rng2 (.c (.int 1)) (.bin .add false (.v 4) (.c (.int 1)))) (.and_ (.tst (.cmp .eq (.bin .mod false (.b1 .int false (.v 8)) (.v 18)) (.c (.int 0)))) (.last (.tst (.cmp .eq (.bin .mod false (.b1 .int false (.v 4)) (.v 18)) (.c (.int 0)))))) (.v 18)))
 (.scons (.asg (.v 10) (.call 0 (.acons (.tup (.acons (.bin .fdiv false (.v 8) (.b1 .max false (.v 9))) (.acons (.bin .fdiv false (.v 4) (.b1 .max false (.v 9))) .anil))) (.acons (.v 5) .anil))))
 (.scons (.iff (.or_ (.tst (.cmp .ne (.b1 .list false (.v 10)) (.b1 .sorted false (.v 5)))) (.last (.tst (.cmp .ne (.v 5) (.v 7))))) (.scons (.ret (.c (.bl false)))
 .snil) .snil)
 (.scons (.asg (.v 11) (.c (.int 1)))
 (.scons (.for_ (.v 12) (.wd (.v 10)) (.scons (.asg (.v 11) (.bin .mul false (.v 11) (.ix (.ix (.v 10) (.v 12)) (.c (.int 1)))))
 .snil))
 (.scons (.asg (.v 11) (.bin .mul false (.v 11) (.v 4)))
 (.scons (.iff (.tst (.cmp .ne (.bin .mul false (.b1 .sum false (.comp false [12] (.v 12) (.wd (.v 10)) .pass (.bin .fdiv false (.bin .mul false (.ix (.ix (.v 10) (.v 12)) (.c (.int 0))) (.v 11)) (.ix (.ix (.v 10) (.v 12)) (.c (.int 1)))))) (.v 4)) (.bin .mul false (.v 8) (.v 11)))) (.scons (.ret (.c (.bl false)))
 .snil) .snil)
 (.scons (.for_ (.v 12) (.wd (.v 10)) (.scons (.asg (.v 13) (.ix (.v 10) (.v 12)))
 (.scons (.iff (.or_ (.tst (.cmp .lt (.ix (.v 13) (.c (.int 0))) (.c (.int 0)))) (.last (.tst (.cmp .lt (.ix (.v 13) (.c (.int 1))) (.c (.int 1)))))) (.scons (.ret (.c (.bl false)))
 .snil) .snil)
 (.scons (.for_ (.v 14) (.wd (.v 10)) (.scons (.asg (.v 15) (.ix (.v 10) (.v 14)))
 (.scons (.asg (.v 16) (.bin .add false (.bin .mul false (.ix (.v 13) (.c (.int 0))) (.ix (.v 15) (.c (.int 1)))) (.bin .mul false (.bin .mul false (.ix (.v 5) (.v 12)) (.ix (.v 13) (.c (.int 1)))) (.ix (.v 15) (.c (.int 1))))))
 (.scons (.asg (.v 17) (.bin .add false (.bin .mul false (.ix (.v 15) (.c (.int 0))) (.ix (.v 13) (.c (.int 1)))) (.bin .mul false (.bin .mul false (.ix (.v 5) (.v 14)) (.ix (.v 13) (.c (.int 1)))) (.ix (.v 15) (.c (.int 1))))))
 (.scons (.iff (.and_ (.tst (.cmp .gt (.ix (.v 13) (.c (.int 0))) (.c (.int 0)))) (.and_ (.tst (.cmp .gt (.ix (.v 15) (.c (.int 0))) (.c (.int 0)))) (.last (.tst (.cmp .ne (.v 16) (.v 17)))))) (.scons (.ret (.c (.bl false)))
 .snil) .snil)
 (.scons (.iff (.and_ (.tst (.cmp .gt (.ix (.v 13) (.c (.int 0))) (.c (.int 0)))) (.and_ (.tst (.cmp .eq (.ix (.v 15) (.c (.int 0))) (.c (.int 0)))) (.last (.tst (.cmp .lt (.v 17) (.v 16)))))) (.scons (.ret (.c (.bl false)))
 .snil) .snil)
 .snil))))))
 .snil))))
 .snil))))))))))))))))
def B_law_2 : T := (.scons (.asg (.v 13) (.ix (.v 10) (.v 12)))
 (.scons (.iff (.or_ (.tst (.cmp .lt (.ix (.v 13) (.c (.int 0))) (.c (.int 0)))) (.last (.tst (.cmp .lt (.ix (.v 13) (.c (.int 1))) (.c (.int 1)))))) (.scons (.ret (.c (.bl false)))
 .snil) .snil)
 (.scons (.for_ (.v 14) (.wd (.v 10)) (.scons (.asg (.v 15) (.ix (.v 10) (.v 14)))
 (.scons (.asg (.v 16) (.bin .add false (.bin .mul false (.ix (.v 13) (.c (.int 0))) (.ix (.v 15) (.c (.int 1)))) (.bin .mul false (.bin .mul false (.ix (.v 5) (.v 12)) (.ix (.v 13) (.c (.int 1)))) (.ix (.v 15) (.c (.int 1))))))
 (.scons (.asg (.v 17) (.bin .add false (.bin .mul false (.ix (.v 15) (.c (.int 0))) (.ix (.v 13) (.c (.int 1)))) (.bin .mul false (.bin .mul false (.ix (.v 5) (.v 14)) (.ix (.v 13) (.c (.int 1)))) (.ix (.v 15) (.c (.int 1))))))
 (.scons (.iff (.and_ (.tst (.cmp .gt (.ix (.v 13) (.c (.int 0))) (.c (.int 0)))) (.and_ (.tst (.cmp .gt (.ix (.v 15) (.c (.int 0))) (.c (.int 0)))) (.last (.tst (.cmp .ne (.v 16) (.v 17)))))) (.scons (.ret (.c (.bl false)))
 .snil) .snil)
 (.scons (.iff (.and_ (.tst (.cmp .gt (.ix (.v 13) (.c (.int 0))) (.c (.int 0)))) (.and_ (.tst (.cmp .eq (.ix (.v 15) (.c (.int 0))) (.c (.int 0)))) (.last (.tst (.cmp .lt (.v 17) (.v 16)))))) (.scons (.ret (.c (.bl false)))
 .snil) .snil)
 .snil))))))
 .snil)))
def B_law_3 : T := (.scons (.asg (.v 15) (.ix (.v 10) (.v 14)))
 (.scons (.asg (.v 16) (.bin .add false (.bin .mul false (.ix (.v 13) (.c (.int 0))) (.ix (.v 15) (.c (.int 1)))) (.bin .mul false (.bin .mul false (.ix (.v 5) (.v 12)) (.ix (.v 13) (.c (.int 1)))) (.ix (.v 15) (.c (.int 1))))))
 (.scons (.asg (.v 17) (.bin .add false (.bin .mul false (.ix (.v 15) (.c (.int 0))) (.ix (.v 13) (.c (.int 1)))) (.bin .mul false (.bin .mul false (.ix (.v 5) (.v 14)) (.ix (.v 13) (.c (.int 1)))) (.ix (.v 15) (.c (.int 1))))))
 (.scons (.iff (.and_ (.tst (.cmp .gt (.ix (.v 13) (.c (.int 0))) (.c (.int 0)))) (.and_ (.tst (.cmp .gt (.ix (.v 15) (.c (.int 0))) (.c (.int 0)))) (.last (.tst (.cmp .ne (.v 16) (.v 17)))))) (.scons (.ret (.c (.bl false)))
 .snil) .snil)
 (.scons (.iff (.and_ (.tst (.cmp .gt (.ix (.v 13) (.c (.int 0))) (.c (.int 0)))) (.and_ (.tst (.cmp .eq (.ix (.v 15) (.c (.int 0))) (.c (.int 0)))) (.last (.tst (.cmp .lt (.v 17) (.v 16)))))) (.scons (.ret (.c (.bl false)))
 .snil) .snil)
 .snil)))))
def B_law_4 : T := (.scons (.asg (.v 11) (.bin .mul false (.v 11) (.ix (.ix (.v 10) (.v 12)) (.c (.int 1)))))
 .snil)
def B_law_5 : T := (.scons (.iff (.and_ (.tst (.cmp .gt (.v 8) (.c (.int 0)))) (.and_ (.tst (.cmp .gt (.v 4) (.c (.int 1)))) (.last (.tst (.cmp .eq (.bin .mod false (.b1 .int false (.v 8)) (.v 4)) (.c (.int 0))))))) (.scons (.asg (.v 8) (.bin .fdiv false (.v 8) (.v 4)))
 (.scons (.asg (.v 4) (.c (.int 1)))
 .snil)) .snil)
 .snil)
def B_law_6 : T := (.scons (.put (.v 5) (.bin .add false (.c (.str "n")) (.b1 .str false (.bin .mod false (.b1 .int false (.bin .fdiv false (.ix (.v 2) (.bin .add false (.c (.int 3)) (.v 6))) (.c (.int 9)))) (.c (.int 40))))) (.bin .mod false (.b1 .int false (.ix (.v 2) (.bin .add false (.c (.int 3)) (.v 6)))) (.ix (.lst false (.acons (.c (.int 1)) (.acons (.c (.int 9)) (.acons (.c (.int 400)) (.acons (.c (.int 4000)) .anil))))) (.bin .mod false (.b1 .int false (.bin .fdiv false (.ix (.v 2) (.c (.int 2))) (.c (.int 12)))) (.c (.int 4))))))
 .snil)
noncomputable def g_law : Gam := ⟨[m_levels, m__law_cell, m__law_numbers], []⟩
noncomputable def m_law : Mir := mkM 19 1 0 T_law g_law
end K05
end
section
set_option maxRecDepth 100000
set_option maxHeartbeats 0
/-! the defs of law_k05_levels_of_advances keep their mirrors (printed by gen.py) -/
namespace P0
end P0
namespace K05
open PySem PySem.Spec L2 PyD P0
def top (i : Nat) : Stmt := PySem.Challenge.pw_parcener_k05_levels_of_advances.main.body.getD i (.Pass ⟨0, 0, 0, 0⟩)
structure Tp (K : PySem.W.Frag) (mg : Str → Option Value) : Prop where
  f_fraction : ∃ fa fd, FunD K "fraction" "fraction" (defArgs (top 3)) (defBody (top 3)) (defScope (top 3)) [] [] fa fd ∧ mg "fraction" = some (.ref fa)
  f_plus : ∃ fa fd, FunD K "plus" "plus" (defArgs (top 4)) (defBody (top 4)) (defScope (top 4)) [] [] fa fd ∧ mg "plus" = some (.ref fa)
  f_minus : ∃ fa fd, FunD K "minus" "minus" (defArgs (top 5)) (defBody (top 5)) (defScope (top 5)) [] [] fa fd ∧ mg "minus" = some (.ref fa)
  f_is_less : ∃ fa fd, FunD K "is_less" "is_less" (defArgs (top 6)) (defBody (top 6)) (defScope (top 6)) [] [] fa fd ∧ mg "is_less" = some (.ref fa)
  f_share_of : ∃ fa fd, FunD K "share_of" "share_of" (defArgs (top 9)) (defBody (top 9)) (defScope (top 9)) [] [] fa fd ∧ mg "share_of" = some (.ref fa)
  f_levels : ∃ fa fd, FunD K "levels" "levels" (defArgs (top 8)) (defBody (top 8)) (defScope (top 8)) [] [] fa fd ∧ mg "levels" = some (.ref fa)
  f__law_cell : ∃ fa fd, FunD K "_law_cell" "_law_cell" (defArgs (top 11)) (defBody (top 11)) (defScope (top 11)) [] [] fa fd ∧ mg "_law_cell" = some (.ref fa)
  f__law_numbers : ∃ fa fd, FunD K "_law_numbers" "_law_numbers" (defArgs (top 12)) (defBody (top 12)) (defScope (top 12)) [] [] fa fd ∧ mg "_law_numbers" = some (.ref fa)
  f_law : ∃ fa fd, FunD K "law" "law" (defArgs (top 13)) (defBody (top 13)) (defScope (top 13)) [] [] fa fd ∧ mg "law" = some (.ref fa)
  b_abs : mg "abs" = none
  b_dict : mg "dict" = none
  b_gcd : mg "gcd" = some (.builtin "math.gcd")
  b_int : mg "int" = none
  b_len : mg "len" = none
  b_list : mg "list" = none
  b_max : mg "max" = none
  b_min : mg "min" = none
  b_range : mg "range" = none
  b_sorted : mg "sorted" = none
  b_str : mg "str" = none
  b_sum : mg "sum" = none
  c_ZERO : GC K mg "ZERO" c_ZERO
section
variable {P : Program} {w : World} {K : PySem.W.Frag} {mg : Str → Option Value} {base : Heap} {cl : Nat → Addr}
theorem sc_fraction : FnScope ["top", "bottom", "common"] ["top", "bottom"] (defScope (top 3)) := ⟨rfl, rfl, rfl, by decide +kernel, rfl, by decide +kernel, by decide +kernel⟩
theorem ok_fraction (t : Tp K mg) : FnI P w K mg base CX0 1 cl "fraction" m_fraction := by
  obtain ⟨fa, fd, F, hm⟩ := t.f_fraction
  have scNd := sc_fraction.nd
  exact ⟨fa, fd, _, fn_ok (k := 0) F sc_fraction rfl rfl (fun cdv A outer s H E hr => have hu := room_hu hr; (ss_cons (ss_if (st_cmp hu (se_v rfl rfl) se_int)
 (ss_cons (ss_set (se_neg (se_v rfl rfl)) scNd rfl (locOf rfl))
 (ss_cons (ss_set (se_neg (se_v rfl rfl)) scNd rfl (locOf rfl))
 ss_nil))
 ss_nil)
 (ss_cons (ss_set (se_gcd rfl rfl t.b_gcd (se_v rfl rfl) (se_v rfl rfl)) scNd rfl (locOf rfl))
 (ss_cons (ss_ret (se_tup (sa_cons (se_bin (se_v rfl rfl) (se_v rfl rfl)) (sa_cons (se_bin (se_v rfl rfl) (se_v rfl rfl)) sa_nil))))
 ss_nil)))), hm, F.kp, F.bindsN fun _ _ _ _ _ _ us hl => match us, hl with | [_, _], _ => rfl⟩
theorem sc_plus : FnScope ["one", "two"] ["one", "two"] (defScope (top 4)) := ⟨rfl, rfl, rfl, by decide +kernel, rfl, by decide +kernel, by decide +kernel⟩
theorem ok_plus (t : Tp K mg) : FnI P w K mg base CX0 2 cl "plus" m_plus := by
  obtain ⟨fa, fd, F, hm⟩ := t.f_plus
  have h_fraction := ok_fraction (P := P) (w := w) (base := base) (cl := cl) t
  have scNd := sc_plus.nd
  exact ⟨fa, fd, _, fn_ok (k := 1) F sc_plus rfl rfl (fun cdv A outer s H E hr => have hu := room_hu hr; (ss_cons (ss_ret (se_call (h_fraction.at_ (by decide)) hr pass0 rfl rfl (sa_cons (se_bin (se_bin (se_ix hu (se_v rfl rfl) se_int) (se_ix hu (se_v rfl rfl) se_int)) (se_bin (se_ix hu (se_v rfl rfl) se_int) (se_ix hu (se_v rfl rfl) se_int))) (sa_cons (se_bin (se_ix hu (se_v rfl rfl) se_int) (se_ix hu (se_v rfl rfl) se_int)) sa_nil))))
 ss_nil)), hm, F.kp, F.bindsN fun _ _ _ _ _ _ us hl => match us, hl with | [_, _], _ => rfl⟩
theorem sc_minus : FnScope ["one", "two"] ["one", "two"] (defScope (top 5)) := ⟨rfl, rfl, rfl, by decide +kernel, rfl, by decide +kernel, by decide +kernel⟩
theorem ok_minus (t : Tp K mg) : FnI P w K mg base CX0 2 cl "minus" m_minus := by
  obtain ⟨fa, fd, F, hm⟩ := t.f_minus
  have h_fraction := ok_fraction (P := P) (w := w) (base := base) (cl := cl) t
  have scNd := sc_minus.nd
  exact ⟨fa, fd, _, fn_ok (k := 1) F sc_minus rfl rfl (fun cdv A outer s H E hr => have hu := room_hu hr; (ss_cons (ss_ret (se_call (h_fraction.at_ (by decide)) hr pass0 rfl rfl (sa_cons (se_bin (se_bin (se_ix hu (se_v rfl rfl) se_int) (se_ix hu (se_v rfl rfl) se_int)) (se_bin (se_ix hu (se_v rfl rfl) se_int) (se_ix hu (se_v rfl rfl) se_int))) (sa_cons (se_bin (se_ix hu (se_v rfl rfl) se_int) (se_ix hu (se_v rfl rfl) se_int)) sa_nil))))
 ss_nil)), hm, F.kp, F.bindsN fun _ _ _ _ _ _ us hl => match us, hl with | [_, _], _ => rfl⟩
theorem sc_is_less : FnScope ["one", "two"] ["one", "two"] (defScope (top 6)) := ⟨rfl, rfl, rfl, by decide +kernel, rfl, by decide +kernel, by decide +kernel⟩
theorem ok_is_less (t : Tp K mg) : FnI P w K mg base CX0 1 cl "is_less" m_is_less := by
  obtain ⟨fa, fd, F, hm⟩ := t.f_is_less
  have scNd := sc_is_less.nd
  exact ⟨fa, fd, _, fn_ok (k := 0) F sc_is_less rfl rfl (fun cdv A outer s H E hr => have hu := room_hu hr; (ss_cons (ss_ret (se_cmp hu (se_bin (se_ix hu (se_v rfl rfl) se_int) (se_ix hu (se_v rfl rfl) se_int)) (se_bin (se_ix hu (se_v rfl rfl) se_int) (se_ix hu (se_v rfl rfl) se_int))))
 ss_nil)), hm, F.kp, F.bindsN fun _ _ _ _ _ _ us hl => match us, hl with | [_, _], _ => rfl⟩
theorem sc_share_of : FnScope ["level", "advance", "inside"] ["level", "advance", "inside"] (defScope (top 9)) := ⟨rfl, rfl, rfl, by decide +kernel, rfl, by decide +kernel, by decide +kernel⟩
theorem ok_share_of (t : Tp K mg) : FnI P w K mg base CX0 3 cl "share_of" m_share_of := by
  obtain ⟨fa, fd, F, hm⟩ := t.f_share_of
  have h_minus := ok_minus (P := P) (w := w) (base := base) (cl := cl) t
  have scNd := sc_share_of.nd
  exact ⟨fa, fd, _, fn_ok (k := 2) F sc_share_of rfl rfl (fun cdv A outer s H E hr => have hu := room_hu hr; (ss_cons (ss_if (st_not (st_tst (se_v rfl rfl)))
 (ss_cons (ss_ret (se_gx t.c_ZERO rfl rfl))
 ss_nil)
 ss_nil)
 (ss_cons (ss_ret (se_call (h_minus.at_ (by decide)) hr pass0 rfl rfl (sa_cons (se_v rfl rfl) (sa_cons (se_tup (sa_cons (se_v rfl rfl) (sa_cons se_int sa_nil))) sa_nil))))
 ss_nil))), hm, F.kp, F.bindsN fun _ _ _ _ _ _ us hl => match us, hl with | [_, _, _], _ => rfl⟩
theorem sc_levels : FnScope ["amount", "advances", "inside", "pool", "name", "level", "above"] ["amount", "advances"] (defScope (top 8)) := ⟨rfl, rfl, rfl, by decide +kernel, rfl, by decide +kernel, by decide +kernel⟩
theorem ok_levels (t : Tp K mg) : FnI P w K mg base CX0 4 cl "levels" m_levels := by
  obtain ⟨fa, fd, F, hm⟩ := t.f_levels
  have h_share_of := ok_share_of (P := P) (w := w) (base := base) (cl := cl) t
  have h_is_less := ok_is_less (P := P) (w := w) (base := base) (cl := cl) t
  have h_fraction := ok_fraction (P := P) (w := w) (base := base) (cl := cl) t
  have h_plus := ok_plus (P := P) (w := w) (base := base) (cl := cl) t
  have scNd := sc_levels.nd
  exact ⟨fa, fd, _, fn_ok (k := 3) F sc_levels rfl rfl (fun cdv A outer s H E hr => have hu := room_hu hr; (ss_cons (ss_set (se_b1 (f := .sorted) rfl rfl t.b_sorted (se_v rfl rfl)) scNd rfl (locOf rfl))
 (ss_cons (ss_while PassesOwn.never (st_tst (se_v rfl rfl))
 (ss_cons (ss_set (se_v rfl rfl) scNd rfl (locOf rfl))
 (ss_cons (ss_for PassesOwn.never rfl (si_wd (se_v rfl rfl)) (sg_name scNd rfl (locOf rfl))
 (ss_cons (ss_set (se_call (h_plus.at_ (by decide)) hr pass0 rfl rfl (sa_cons (se_v rfl rfl) (sa_cons (se_tup (sa_cons (se_ix hu (se_v rfl rfl) (se_v rfl rfl)) (sa_cons se_int sa_nil))) sa_nil))) scNd rfl (locOf rfl))
 ss_nil))
 (ss_cons (ss_set (se_call (h_fraction.at_ (by decide)) hr pass0 rfl rfl (sa_cons (se_ix hu (se_v rfl rfl) se_int) (sa_cons (se_bin (se_ix hu (se_v rfl rfl) se_int) (se_b1 (f := .len) rfl rfl t.b_len (se_v rfl rfl))) sa_nil))) scNd rfl (locOf rfl))
 (ss_cons (ss_set (se_lc (own := [("name", 4)]) rfl scNd (si_wd (se_v rfl rfl)) (by kernel_rfl) (fun _ _ _ _ _ => (sg_name scNd rfl (locOf rfl))) (fun _ _ _ _ _ => (sp_one (st_tst (se_call (h_is_less.at_ (by decide)) hr pass0 rfl rfl (sa_cons (se_v rfl rfl) (sa_cons (se_tup (sa_cons (se_ix hu (se_v rfl rfl) (se_v rfl rfl)) (sa_cons se_int sa_nil))) sa_nil)))))) (fun _ _ _ _ _ => (se_v rfl rfl))) scNd rfl (locOf rfl))
 (ss_cons (ss_if (st_not (st_tst (se_v rfl rfl)))
 (ss_cons (ss_ret (se_dc (own := [("name", 4)]) rfl scNd (si_wd (se_b1 (f := .sorted) rfl rfl t.b_sorted (se_v rfl rfl))) (by kernel_rfl) (fun _ _ _ _ _ => (sg_name scNd rfl (locOf rfl))) (fun _ _ _ _ _ => sp_nil) (fun _ _ _ _ _ => (se_v rfl rfl)) (fun _ _ _ _ _ => (se_call (h_share_of.at_ (by decide)) hr pass0 rfl rfl (sa_cons (se_v rfl rfl) (sa_cons (se_ix hu (se_v rfl rfl) (se_v rfl rfl)) (sa_cons (se_cmp hu (se_v rfl rfl) (se_v rfl rfl)) sa_nil)))))))
 ss_nil)
 ss_nil)
 (ss_cons (ss_set (se_lc (own := [("name", 4)]) rfl scNd (si_wd (se_v rfl rfl)) (by kernel_rfl) (fun _ _ _ _ _ => (sg_name scNd rfl (locOf rfl))) (fun _ _ _ _ _ => (sp_one (st_cmp hu (se_v rfl rfl) (se_v rfl rfl)))) (fun _ _ _ _ _ => (se_v rfl rfl))) scNd rfl (locOf rfl))
 ss_nil)))))))
 (ss_cons (ss_ret (se_dc (own := [("name", 4)]) rfl scNd (si_wd (se_v rfl rfl)) (by kernel_rfl) (fun _ _ _ _ _ => (sg_name scNd rfl (locOf rfl))) (fun _ _ _ _ _ => sp_nil) (fun _ _ _ _ _ => (se_v rfl rfl)) (fun _ _ _ _ _ => (se_gx t.c_ZERO rfl rfl))))
 ss_nil)))), hm, F.kp, F.bindsN fun _ _ _ _ _ _ us hl => match us, hl with | [_, _], _ => rfl⟩
theorem sc__law_cell : FnScope ["script", "k"] ["script", "k"] (defScope (top 11)) := ⟨rfl, rfl, rfl, by decide +kernel, rfl, by decide +kernel, by decide +kernel⟩
theorem ok__law_cell (t : Tp K mg) : FnI P w K mg base CX0 1 cl "_law_cell" m__law_cell := by
  obtain ⟨fa, fd, F, hm⟩ := t.f__law_cell
  have scNd := sc__law_cell.nd
  exact ⟨fa, fd, _, fn_ok (k := 0) F sc__law_cell rfl rfl (fun cdv A outer s H E hr => have hu := room_hu hr; (ss_cons (ss_if (st_cmp hu (se_v rfl rfl) (se_b1 (f := .len) rfl rfl t.b_len (se_v rfl rfl)))
 (ss_cons (ss_ret (se_b1 (f := .int) rfl rfl t.b_int (se_ix hu (se_v rfl rfl) (se_v rfl rfl))))
 ss_nil)
 ss_nil)
 (ss_cons (ss_ret se_int)
 ss_nil))), hm, F.kp, F.bindsN fun _ _ _ _ _ _ us hl => match us, hl with | [_, _], _ => rfl⟩
theorem sc__law_numbers : FnScope ["cell", "many", "found", "rest", "k"] ["cell", "many"] (defScope (top 12)) := ⟨rfl, rfl, rfl, by decide +kernel, rfl, by decide +kernel, by decide +kernel⟩
theorem ok__law_numbers (t : Tp K mg) : FnI P w K mg base CX0 1 cl "_law_numbers" m__law_numbers := by
  obtain ⟨fa, fd, F, hm⟩ := t.f__law_numbers
  have scNd := sc__law_numbers.nd
  exact ⟨fa, fd, _, fn_ok (k := 0) F sc__law_numbers rfl rfl (fun cdv A outer s H E hr => have hu := room_hu hr; (ss_cons (ss_set (se_lst sa_nil) scNd rfl (locOf rfl))
 (ss_cons (ss_set (se_b1 (f := .abs) rfl rfl t.b_abs (se_v rfl rfl)) scNd rfl (locOf rfl))
 (ss_cons (ss_if (st_cmp hu (se_v rfl rfl) se_int)
 (ss_cons (ss_for PassesOwn.never rfl (si_rng1 rfl t.b_range (se_v rfl rfl)) (sg_name scNd rfl (locOf rfl))
 (ss_cons (ss_expr (se_append (se_v rfl rfl) (se_bin (se_b1 (f := .int) rfl rfl t.b_int (se_v rfl rfl)) se_int)))
 (ss_cons (ss_set (se_bin (se_v rfl rfl) se_int) scNd rfl (locOf rfl))
 ss_nil)))
 (ss_cons (ss_ret (se_frz (se_v rfl rfl)))
 ss_nil))
 ss_nil)
 (ss_cons (ss_for PassesOwn.never rfl (si_rng1 rfl t.b_range (se_v rfl rfl)) (sg_name scNd rfl (locOf rfl))
 (ss_cons (ss_set (se_bin (se_b1 (f := .int) rfl rfl t.b_int (se_bin (se_bin (se_bin (se_v rfl rfl) se_int) (se_bin (se_v rfl rfl) se_int)) se_int)) se_int) scNd rfl (locOf rfl))
 (ss_cons (ss_expr (se_append (se_v rfl rfl) (se_bin (se_bin (se_b1 (f := .int) rfl rfl t.b_int (se_bin (se_v rfl rfl) se_int)) se_int) se_int)))
 ss_nil)))
 (ss_cons (ss_ret (se_frz (se_v rfl rfl)))
 ss_nil)))))), hm, F.kp, F.bindsN fun _ _ _ _ _ _ us hl => match us, hl with | [_, _], _ => rfl⟩
theorem sc_law : FnScope ["script", "k", "numbers", "amount", "bottom", "advances", "j", "kept", "top", "common", "shares", "scale", "name", "one", "other", "two", "first", "second", "d"] ["script"] (defScope (top 13)) := ⟨rfl, rfl, rfl, by decide +kernel, rfl, by decide +kernel, by decide +kernel⟩
theorem ok_law (t : Tp K mg) {fa : Addr} (hfa : mg "law" = some (.ref fa)) : ∃ fd : FuncData, (∀ (s : Shared) (v : Value), BindsTo s fd ⟨[v], []⟩ [("script", v)]) ∧ ∀ base : Heap, FnOk P w K mg base CX0 5 fa fd ["script"] (spM K cl m_law) := by
  obtain ⟨fa2, fd, F, hm⟩ := t.f_law
  rw [hfa] at hm
  cases hm
  have bi := FunD.bindsA (ps := ["script"]) F fun _ _ _ _ _ _ us hl => match us, hl with | [_], _ => rfl
  refine ⟨fd, fun s v => bi s [v] rfl, fun base => ?_⟩
  have h_levels := ok_levels (P := P) (w := w) (base := base) (cl := cl) t
  have h__law_cell := ok__law_cell (P := P) (w := w) (base := base) (cl := cl) t
  have h__law_numbers := ok__law_numbers (P := P) (w := w) (base := base) (cl := cl) t
  have scNd := sc_law.nd
  exact fn_ok (k := 4) F sc_law rfl rfl (fun cdv A outer s H E hr => have hu := room_hu hr; (ss_cons (ss_for PassesOwn.never rfl (si_rng1 rfl t.b_range (se_b2 (f := .max) rfl (by decide) rfl t.b_max se_int (se_b2 (f := .min) rfl (by decide) rfl t.b_min (se_b1 (f := .len) rfl rfl t.b_len (se_v rfl rfl)) se_int))) (sg_name scNd rfl (locOf rfl))
 (ss_cons (ss_set (se_call (h__law_numbers.at_ (by decide)) hr pass0 rfl rfl (sa_cons (se_call (h__law_cell.at_ (by decide)) hr pass0 rfl rfl (sa_cons (se_v rfl rfl) (sa_cons (se_v rfl rfl) sa_nil))) (sa_cons se_int sa_nil))) scNd rfl (locOf rfl))
 (ss_cons (ss_set (se_bin (se_b1 (f := .int) rfl rfl t.b_int (se_ix hu (se_v rfl rfl) se_int)) (se_ix hu (se_lst (sa_cons se_int (sa_cons se_int (sa_cons se_int sa_nil)))) (se_bin (se_b1 (f := .int) rfl rfl t.b_int (se_ix hu (se_v rfl rfl) se_int)) se_int))) scNd rfl (locOf rfl))
 (ss_cons (ss_set (se_bin se_int (se_bin (se_b1 (f := .int) rfl rfl t.b_int (se_bin (se_ix hu (se_v rfl rfl) se_int) se_int)) se_int)) scNd rfl (locOf rfl))
 (ss_cons (ss_set se_dnew scNd rfl (locOf rfl))
 (ss_cons (ss_for PassesOwn.never rfl (si_rng1 rfl t.b_range (se_bin se_int (se_bin (se_b1 (f := .int) rfl rfl t.b_int (se_ix hu (se_v rfl rfl) se_int)) se_int))) (sg_name scNd rfl (locOf rfl))
 (ss_cons (ss_put hu (se_bin (se_b1 (f := .int) rfl rfl t.b_int (se_ix hu (se_v rfl rfl) (se_bin se_int (se_v rfl rfl)))) (se_ix hu (se_lst (sa_cons se_int (sa_cons se_int (sa_cons se_int (sa_cons se_int sa_nil))))) (se_bin (se_b1 (f := .int) rfl rfl t.b_int (se_bin (se_ix hu (se_v rfl rfl) se_int) se_int)) se_int))) (se_v rfl rfl) (se_bin (se_str (by decide +kernel)) (se_b1 (f := .str) rfl rfl t.b_str (se_bin (se_b1 (f := .int) rfl rfl t.b_int (se_bin (se_ix hu (se_v rfl rfl) (se_bin se_int (se_v rfl rfl))) se_int)) se_int))))
 ss_nil))
 (ss_cons (ss_set (se_b1 (f := .dict) rfl rfl t.b_dict (se_v rfl rfl)) scNd rfl (locOf rfl))
 (ss_cons (ss_set (se_v rfl rfl) scNd rfl (locOf rfl))
 (ss_cons (ss_for PassesOwn.never rfl (si_rng1 rfl t.b_range se_int) (sg_name scNd rfl (locOf rfl))
 (ss_cons (ss_if (sw_pt (sw_and (st_cmp hu (se_v rfl rfl) se_int) (sw_and (st_cmp hu (se_v rfl rfl) se_int) (sw_and1 (st_cmp hu (se_bin (se_b1 (f := .int) rfl rfl t.b_int (se_v rfl rfl)) (se_v rfl rfl)) se_int)))))
 (ss_cons (ss_set (se_bin (se_v rfl rfl) (se_v rfl rfl)) scNd rfl (locOf rfl))
 (ss_cons (ss_set se_int scNd rfl (locOf rfl))
 ss_nil))
 ss_nil)
 ss_nil))
 (ss_cons (ss_setLc (own := [("d", 18)]) rfl scNd rfl rfl (si_rng2 rfl t.b_range se_int (se_bin (se_v rfl rfl) se_int)) (by kernel_rfl) (fun _ _ _ _ _ => (sg_name scNd rfl (locOf rfl))) (fun _ _ _ _ _ => (sp_one (sw_pt (sw_and (st_cmp hu (se_bin (se_b1 (f := .int) rfl rfl t.b_int (se_v rfl rfl)) (se_v rfl rfl)) se_int) (sw_and1 (st_cmp hu (se_bin (se_b1 (f := .int) rfl rfl t.b_int (se_v rfl rfl)) (se_v rfl rfl)) se_int)))))) (fun _ _ _ _ _ => (se_v rfl rfl)))
 (ss_cons (ss_set (se_call (h_levels.at_ (by decide)) hr pass0 rfl rfl (sa_cons (se_tup (sa_cons (se_bin (se_v rfl rfl) (se_b1 (f := .max) rfl rfl t.b_max (se_v rfl rfl))) (sa_cons (se_bin (se_v rfl rfl) (se_b1 (f := .max) rfl rfl t.b_max (se_v rfl rfl))) sa_nil))) (sa_cons (se_v rfl rfl) sa_nil))) scNd rfl (locOf rfl))
 (ss_cons (ss_if (sw_pt (sw_or (st_cmp hu (se_b1 (f := .list) rfl rfl t.b_list (se_v rfl rfl)) (se_b1 (f := .sorted) rfl rfl t.b_sorted (se_v rfl rfl))) (sw_or1 (st_cmp hu (se_v rfl rfl) (se_v rfl rfl)))))
 (ss_cons (ss_ret se_bl)
 ss_nil)
 ss_nil)
 (ss_cons (ss_set se_int scNd rfl (locOf rfl))
 (ss_cons (ss_for PassesOwn.never rfl (si_wd (se_v rfl rfl)) (sg_name scNd rfl (locOf rfl))
 (ss_cons (ss_set (se_bin (se_v rfl rfl) (se_ix hu (se_ix hu (se_v rfl rfl) (se_v rfl rfl)) se_int)) scNd rfl (locOf rfl))
 ss_nil))
 (ss_cons (ss_set (se_bin (se_v rfl rfl) (se_v rfl rfl)) scNd rfl (locOf rfl))
 (ss_cons (ss_if (st_cmp hu (se_bin (se_b1 (f := .sum) rfl rfl t.b_sum (se_lc (own := [("name", 12)]) rfl scNd (si_wd (se_v rfl rfl)) (by kernel_rfl) (fun _ _ _ _ _ => (sg_name scNd rfl (locOf rfl))) (fun _ _ _ _ _ => sp_nil) (fun _ _ _ _ _ => (se_bin (se_bin (se_ix hu (se_ix hu (se_v rfl rfl) (se_v rfl rfl)) se_int) (se_v rfl rfl)) (se_ix hu (se_ix hu (se_v rfl rfl) (se_v rfl rfl)) se_int))))) (se_v rfl rfl)) (se_bin (se_v rfl rfl) (se_v rfl rfl)))
 (ss_cons (ss_ret se_bl)
 ss_nil)
 ss_nil)
 (ss_cons (ss_for PassesOwn.never rfl (si_wd (se_v rfl rfl)) (sg_name scNd rfl (locOf rfl))
 (ss_cons (ss_set (se_ix hu (se_v rfl rfl) (se_v rfl rfl)) scNd rfl (locOf rfl))
 (ss_cons (ss_if (sw_pt (sw_or (st_cmp hu (se_ix hu (se_v rfl rfl) se_int) se_int) (sw_or1 (st_cmp hu (se_ix hu (se_v rfl rfl) se_int) se_int))))
 (ss_cons (ss_ret se_bl)
 ss_nil)
 ss_nil)
 (ss_cons (ss_for PassesOwn.never rfl (si_wd (se_v rfl rfl)) (sg_name scNd rfl (locOf rfl))
 (ss_cons (ss_set (se_ix hu (se_v rfl rfl) (se_v rfl rfl)) scNd rfl (locOf rfl))
 (ss_cons (ss_set (se_bin (se_bin (se_ix hu (se_v rfl rfl) se_int) (se_ix hu (se_v rfl rfl) se_int)) (se_bin (se_bin (se_ix hu (se_v rfl rfl) (se_v rfl rfl)) (se_ix hu (se_v rfl rfl) se_int)) (se_ix hu (se_v rfl rfl) se_int))) scNd rfl (locOf rfl))
 (ss_cons (ss_set (se_bin (se_bin (se_ix hu (se_v rfl rfl) se_int) (se_ix hu (se_v rfl rfl) se_int)) (se_bin (se_bin (se_ix hu (se_v rfl rfl) (se_v rfl rfl)) (se_ix hu (se_v rfl rfl) se_int)) (se_ix hu (se_v rfl rfl) se_int))) scNd rfl (locOf rfl))
 (ss_cons (ss_if (sw_pt (sw_and (st_cmp hu (se_ix hu (se_v rfl rfl) se_int) se_int) (sw_and (st_cmp hu (se_ix hu (se_v rfl rfl) se_int) se_int) (sw_and1 (st_cmp hu (se_v rfl rfl) (se_v rfl rfl))))))
 (ss_cons (ss_ret se_bl)
 ss_nil)
 ss_nil)
 (ss_cons (ss_if (sw_pt (sw_and (st_cmp hu (se_ix hu (se_v rfl rfl) se_int) se_int) (sw_and (st_cmp hu (se_ix hu (se_v rfl rfl) se_int) se_int) (sw_and1 (st_cmp hu (se_v rfl rfl) (se_v rfl rfl))))))
 (ss_cons (ss_ret se_bl)
 ss_nil)
 ss_nil)
 ss_nil))))))
 ss_nil))))
 ss_nil)))))))))))))))))
 (ss_cons (ss_ret se_bl)
 ss_nil)))
end
end K05
end
section
set_option maxRecDepth 100000
namespace K05
open PySem PyD PyM P0
theorem pickI (l : List Int) {i : Int} (h0 : 0 ≤ i) (h1 : i < l.length) : ∃ b ∈ l, L2.atI (l.map D.int) i = some (.int b) := by
  have hk : i.toNat < l.length := by omega
  refine ⟨l[i.toNat], List.getElem_mem hk, ?_⟩
  have := L2.atI_nat (xs := l.map D.int) (j := i.toNat) (v := .int l[i.toNat]) (by rw [List.getElem?_map, List.getElem?_eq_getElem hk]; rfl)
  rw [show ((i.toNat : Nat) : Int) = i by omega] at this
  exact this
theorem numbers_fun {x : Int} {n : Nat} {M : Store} (hn : n < 1000) : ∃ (nums : D) (y : Int → Int), (∀ i : Int, low20 (y i)) ∧ (∀ (i : Int) (M : Store), 0 ≤ i → i < n → ixD M nums (.int i) = some (.int (y i))) ∧ m__law_numbers [.int x, .int n] M = .ok (nums, M) := by
  obtain ⟨ys, hl, hy, e⟩ := m__law_numbers_eq (x := x) (n := n) (M := M) hn
  refine ⟨_, fun i : Int => ys.getD i.toNat 0, fun i => ?_, fun i M h0 h1 => ?_, e⟩
  · by_cases h : i.toNat < ys.length
    · simp only [List.getD_eq_getElem?_getD, List.getElem?_eq_getElem h, Option.getD_some]
      exact hy _ (List.getElem_mem h)
    · simp only [List.getD_eq_getElem?_getD, List.getElem?_eq_none (Nat.le_of_not_lt h), Option.getD_none]
      exact ⟨by decide, by decide⟩
  · have h : i.toNat < ys.length := by omega
    have := num_ix (M := M) h
    rw [show ((i.toNat : Nat) : Int) = i by omega] at this
    rw [this]
    simp [List.getD_eq_getElem?_getD, List.getElem?_eq_getElem h]
/-! ### the dict of advances -/
def setA (ads : List (Str × Int)) (s : Str) (v : Int) : List (Str × Int) := if s ∈ nmA ads then ads.map (fun p => if p.1 = s then (p.1, v) else p) else ads ++ [(s, v)]
theorem put_adv {ads : List (Str × Int)} {s : Str} {v : Int} : putD (advK ads) (.str s) (.int v) = advK (setA ads s v) := by
  unfold setA
  by_cases h : s ∈ nmA ads
  · rw [if_pos h]
    unfold putD
    rw [if_pos (by
      obtain ⟨p, hp, rfl⟩ := List.mem_map.mp h
      rw [List.any_eq_true]
      exact ⟨(.str p.1, .int p.2), List.mem_map.mpr ⟨p, hp, rfl⟩, by simp⟩)]
    unfold advK
    rw [List.map_map, List.map_map]
    refine List.map_congr_left fun p _ => ?_
    by_cases e : p.1 = s <;> simp [e]
  · rw [if_neg h, putD_new (fun p hp => by
      obtain ⟨q, hq, rfl⟩ := List.mem_map.mp hp
      intro e
      simp at e
      exact h (by rw [← e]; exact List.mem_map_of_mem (f := fun p : Str × Int => p.1) hq))]
    simp [advK]
theorem setA_nm {ads : List (Str × Int)} {s : Str} {v : Int} : nmA (setA ads s v) = if s ∈ nmA ads then nmA ads else nmA ads ++ [s] := by
  unfold setA
  split
  · unfold nmA
    rw [List.map_map]
    refine List.map_congr_left fun p _ => ?_
    simp only [Function.comp]
    split <;> rfl
  · simp [nmA]
/-- advances under way -/
def AdI (j : Nat) (ads : List (Str × Int)) : Prop := (nmA ads).Nodup ∧ ads.length ≤ j ∧ (0 < j → ads ≠ []) ∧ ∀ p ∈ ads, 0 ≤ p.2 ∧ p.2 < 4000
theorem AdI.put {j : Nat} {ads : List (Str × Int)} (h : AdI j ads) {s : Str} {v : Int} (h0 : 0 ≤ v) (h1 : v < 4000) : AdI (j + 1) (setA ads s v) := by
  obtain ⟨a, b, c, d⟩ := h
  refine ⟨?_, ?_, fun _ e => ?_, fun p hp => ?_⟩
  · rw [setA_nm]
    split
    · exact a
    · rename_i hs
      rw [List.nodup_append]
      exact ⟨a, by simp, fun x hx y hy e => hs (by rw [List.mem_singleton.mp hy] at e; rw [← e]; exact hx)⟩
  · unfold setA
    split
    · rw [List.length_map]; omega
    · rw [List.length_append]; simp; omega
  · have := setA_nm (ads := ads) (s := s) (v := v)
    rw [e] at this
    split at this
    · rename_i hs
      have : nmA ads = [] := this.symm
      rw [this] at hs
      cases hs
    · have := congrArg List.length this
      simp [nmA] at this
  · unfold setA at hp
    split at hp
    · obtain ⟨q, hq, rfl⟩ := List.mem_map.mp hp
      split
      · exact ⟨h0, h1⟩
      · exact d q hq
    · rcases List.mem_append.mp hp with hp | hp
      · exact d p hp
      · rw [List.mem_singleton.mp hp]; exact ⟨h0, h1⟩
section
variable {M M1 M' : Store} {o0 o1 o2 o3 o4 o5 o6 k7 k8 k9 k10 k11 k12 k13 k14 k15 k16 k17 k18 : Option D} {s nums x y z sh kp cn due : D}
theorem w_A {G : Gam} {j y2 yj m : Int} {ad : D} (h2 : ∀ M, ixD M nums (.int 2) = some (.int y2)) (hj : ∀ M, ixD M nums (.int (3 + j)) = some (.int yj)) (hp : L2.atI [D.int 1, D.int 9, D.int 400, D.int 4000] ((y2.fdiv 12).fmod 4) = some (.int m)) (hm : m ≠ 0)
    (d12 : divOk 12 = true) (d9 : divOk 9 = true) (hs : strOkI ((yj.fdiv 9).fmod 40) = true) (hl : ("n" : Str).length + (its ((yj.fdiv 9).fmod 40)).length ≤ big) (hput : putIx M ad (.str (("n" : Str) ++ its ((yj.fdiv 9).fmod 40))) (.int (yj.fmod m)) = some M') :
    stF G (.v 6) B_law_6 (.int j) [o0, o1, some nums, o3, o4, some ad, o6, k7, k8, k9, k10, k11, k12, k13, k14, k15, k16, k17, k18] M = .nx [o0, o1, some nums, o3, o4, some ad, some (.int j), k7, k8, k9, k10, k11, k12, k13, k14, k15, k16, k17, k18] M' := by
  simp [evS_snil, evS_scons, evS_expr, evS_asg, evS_par, evS_put, evS_ret, evS_retN, evS_iff, evS_pass, evS_brk, evS_cnt, evT, evE, evA, asgT, asgT.asgTs, cmpD, b2D, mkM, stF, B_law_6, h2, hj, hp, bin_modI hm, bin_divI d12, bin_divI d9, bin_modI (show (40 : Int) ≠ 0 by decide), bin_modI (show (4 : Int) ≠ 0 by decide), v_str hs, bin_addS hl, newL, big, hput]
theorem w_top1 {G : Gam} {j b t : Int} (h : 0 < t ∧ 1 < b ∧ t.fmod b = 0) (hb : b ≠ 0) (hd : divOk b = true) :
    stF G (.v 6) B_law_5 (.int j) [o0, o1, o2, o3, some (.int b), o5, o6, k7, some (.int t), k9, k10, k11, k12, k13, k14, k15, k16, k17, k18] M = .nx [o0, o1, o2, o3, some (.int 1), o5, some (.int j), k7, some (.int (t.fdiv b)), k9, k10, k11, k12, k13, k14, k15, k16, k17, k18] M := by
  simp [evS_snil, evS_scons, evS_expr, evS_asg, evS_par, evS_put, evS_ret, evS_retN, evS_iff, evS_pass, evS_brk, evS_cnt, evT, evE, evA, asgT, asgT.asgTs, cmpD, b2D, mkM, stF, B_law_5, h.1, h.2.1, h.2.2, bin_modI hb, bin_divI hd]
theorem w_top0 {G : Gam} {j b t : Int} (h : ¬ (0 < t ∧ 1 < b ∧ t.fmod b = 0)) (hb : b ≠ 0) :
    stF G (.v 6) B_law_5 (.int j) [o0, o1, o2, o3, some (.int b), o5, o6, k7, some (.int t), k9, k10, k11, k12, k13, k14, k15, k16, k17, k18] M = .nx [o0, o1, o2, o3, some (.int b), o5, some (.int j), k7, some (.int t), k9, k10, k11, k12, k13, k14, k15, k16, k17, k18] M := by
  by_cases h1 : 0 < t
  · by_cases h2 : 1 < b
    · have h3 : ¬ t.fmod b = 0 := fun e => h ⟨h1, h2, e⟩
      simp [evS_snil, evS_scons, evS_expr, evS_asg, evS_par, evS_put, evS_ret, evS_retN, evS_iff, evS_pass, evS_brk, evS_cnt, evT, evE, evA, asgT, asgT.asgTs, cmpD, b2D, mkM, stF, B_law_5, h1, h2, h3, bin_modI hb]
    · simp [evS_snil, evS_scons, evS_expr, evS_asg, evS_par, evS_put, evS_ret, evS_retN, evS_iff, evS_pass, evS_brk, evS_cnt, evT, evE, evA, asgT, asgT.asgTs, cmpD, b2D, mkM, stF, B_law_5, h1, h2]
  · simp [evS_snil, evS_scons, evS_expr, evS_asg, evS_par, evS_put, evS_ret, evS_retN, evS_iff, evS_pass, evS_brk, evS_cnt, evT, evE, evA, asgT, asgT.asgTs, cmpD, b2D, mkM, stF, B_law_5, h1]
theorem w_sc {G : Gam} {sc n d : Int} {nm : D} (h : ixD M sh nm = some (.tup [.int n, .int d])) (hm : mulOk sc d = true) :
    stF G (.v 12) B_law_4 nm [o0, o1, o2, o3, o4, o5, o6, k7, k8, k9, some sh, some (.int sc), k12, k13, k14, k15, k16, k17, k18] M = .nx [o0, o1, o2, o3, o4, o5, o6, k7, k8, k9, some sh, some (.int (sc * d)), some nm, k13, k14, k15, k16, k17, k18] M := by
  simp [evS_snil, evS_scons, evS_expr, evS_asg, evS_par, evS_put, evS_ret, evS_retN, evS_iff, evS_pass, evS_brk, evS_cnt, evT, evE, evA, asgT, asgT.asgTs, cmpD, b2D, mkM, stF, B_law_4, h, bin_mulI hm]
theorem w_in {G : Gam} {n1 d1 n2 d2 a1 a2 : Int} {nm nu ad : D} (h2 : ixD M sh nu = some (.tup [.int n2, .int d2])) (ha1 : ixD M ad nm = some (.int a1)) (ha2 : ixD M ad nu = some (.int a2))
    (m1 : mulOk n1 d2 = true) (m2 : mulOk a1 d1 = true) (m3 : mulOk (a1 * d1) d2 = true) (m4 : mulOk n2 d1 = true) (m5 : mulOk a2 d1 = true) (m6 : mulOk (a2 * d1) d2 = true)
    (c1 : 0 < n1 → 0 < n2 → n1 * d2 + a1 * d1 * d2 = n2 * d1 + a2 * d1 * d2) (c2 : 0 < n1 → n2 = 0 → ¬ n2 * d1 + a2 * d1 * d2 < n1 * d2 + a1 * d1 * d2) :
    ∃ f s, stF G (.v 14) B_law_3 nu [o0, o1, o2, o3, o4, some ad, o6, k7, k8, k9, some sh, k11, some nm, some (.tup [.int n1, .int d1]), k14, k15, k16, k17, k18] M = .nx [o0, o1, o2, o3, o4, some ad, o6, k7, k8, k9, some sh, k11, some nm, some (.tup [.int n1, .int d1]), some nu, some (.tup [.int n2, .int d2]), f, s, k18] M := by
  refine ⟨some (.int (n1 * d2 + a1 * d1 * d2)), some (.int (n2 * d1 + a2 * d1 * d2)), ?_⟩
  generalize e1 : n1 * d2 + a1 * d1 * d2 = f at c1 c2
  generalize e2 : n2 * d1 + a2 * d1 * d2 = s at c1 c2
  by_cases h1 : 0 < n1
  · by_cases h3 : 0 < n2
    · have hz : ¬ n2 = 0 := by omega
      simp [evS_snil, evS_scons, evS_expr, evS_asg, evS_par, evS_put, evS_ret, evS_retN, evS_iff, evS_pass, evS_brk, evS_cnt, evT, evE, evA, asgT, asgT.asgTs, cmpD, b2D, mkM, stF, B_law_3, h2, ha1, ha2, bin_mulI m1, bin_mulI m2, bin_mulI m3, bin_mulI m4, bin_mulI m5, bin_mulI m6, e1, e2, h1, h3, hz, c1 h1 h3]
    · by_cases hz : n2 = 0
      · have := c2 h1 hz
        subst hz
        have e3 : a2 * d1 * d2 = s := by rw [← e2, Int.zero_mul, Int.zero_add]
        simp [evS_snil, evS_scons, evS_expr, evS_asg, evS_par, evS_put, evS_ret, evS_retN, evS_iff, evS_pass, evS_brk, evS_cnt, evT, evE, evA, asgT, asgT.asgTs, cmpD, b2D, mkM, stF, B_law_3, h2, ha1, ha2, bin_mulI m1, bin_mulI m2, bin_mulI m3, bin_mulI m4, bin_mulI m5, bin_mulI m6, e1, e3, h1, this]
      · simp [evS_snil, evS_scons, evS_expr, evS_asg, evS_par, evS_put, evS_ret, evS_retN, evS_iff, evS_pass, evS_brk, evS_cnt, evT, evE, evA, asgT, asgT.asgTs, cmpD, b2D, mkM, stF, B_law_3, h2, ha1, ha2, bin_mulI m1, bin_mulI m2, bin_mulI m3, bin_mulI m4, bin_mulI m5, bin_mulI m6, e1, e2, h1, h3, hz]
  · simp [evS_snil, evS_scons, evS_expr, evS_asg, evS_par, evS_put, evS_ret, evS_retN, evS_iff, evS_pass, evS_brk, evS_cnt, evT, evE, evA, asgT, asgT.asgTs, cmpD, b2D, mkM, stF, B_law_3, h2, ha1, ha2, bin_mulI m1, bin_mulI m2, bin_mulI m3, bin_mulI m4, bin_mulI m5, bin_mulI m6, e1, e2, h1]
/-! ### the greatest common divisor -/
theorem common_max {t b : Int} (ht : 0 ≤ t) (hb : 1 ≤ b) : ((Nat.gcd t.natAbs b.natAbs : Nat) : Int) ∈ (rngI 1 (b + 1)).filter (fun d => decide (t.fmod d = 0) && decide (b.fmod d = 0)) ∧ ∀ x ∈ (rngI 1 (b + 1)).filter (fun d => decide (t.fmod d = 0) && decide (b.fmod d = 0)), x ≤ ((Nat.gcd t.natAbs b.natAbs : Nat) : Int) := by
  have hg : 0 < Nat.gcd t.natAbs b.natAbs := Nat.gcd_pos_of_pos_right _ (by omega)
  have hl : Nat.gcd t.natAbs b.natAbs ≤ b.natAbs := Nat.gcd_le_right _ (by omega)
  have h1 : ((Nat.gcd t.natAbs b.natAbs : Nat) : Int) ∣ t := Int.ofNat_dvd_left.mpr (Nat.gcd_dvd_left _ _)
  have h2 : ((Nat.gcd t.natAbs b.natAbs : Nat) : Int) ∣ b := Int.ofNat_dvd_left.mpr (Nat.gcd_dvd_right _ _)
  constructor
  · rw [List.mem_filter, rngI_mem]
    refine ⟨by omega, ?_⟩
    rw [Bool.and_eq_true, decide_eq_true_eq, decide_eq_true_eq]
    exact ⟨Int.fmod_eq_zero_of_dvd h1, Int.fmod_eq_zero_of_dvd h2⟩
  · intro x hx
    rw [List.mem_filter, rngI_mem, Bool.and_eq_true, decide_eq_true_eq, decide_eq_true_eq] at hx
    obtain ⟨⟨x1, x2⟩, x3, x4⟩ := hx
    have y1 := Int.dvd_of_fmod_eq_zero x3
    have y2 := Int.dvd_of_fmod_eq_zero x4
    have z : x.natAbs ∣ Nat.gcd t.natAbs b.natAbs := Nat.dvd_gcd (Int.natAbs_dvd_natAbs.mpr y1) (Int.natAbs_dvd_natAbs.mpr y2)
    have := Nat.le_of_dvd hg z
    omega
theorem frq_low {t b : Int} (hb : 1 ≤ b) : D.tup [.int (t.fdiv ((Nat.gcd t.natAbs b.natAbs : Nat) : Int)), .int (b.fdiv ((Nat.gcd t.natAbs b.natAbs : Nat) : Int))] = frq (Rat.divInt t b) := by
  obtain ⟨h1, h2⟩ := num_den_dvd (t := t) (b := b) (by omega)
  unfold frq
  rw [h1, h2, if_neg (by omega), if_neg (by omega)]
/-! ### the sum of the shares -/
theorem mul_den_num {q : Rat} : q * ((q.den : Int) : Rat) = (q.num : Rat) := by
  have e := div_nat (p := ((q.num : Int) : Rat)) (k := q.den)
  rw [show (((q.num : Int) : Rat)).num = q.num from rfl, show ((((q.num : Int) : Rat)).den : Int) = 1 from rfl, Int.one_mul, divInt_nd] at e
  conv => lhs; lhs; rw [e]
  refine Rat.div_mul_cancel ?_
  have : (q.den : Int) ≠ 0 := den_ne
  exact_mod_cast this
theorem sum_scaled {x : Str → Rat} {sc : Int} : ∀ {ss : List Str}, (∀ s ∈ ss, ((x s).den : Int) ∣ sc) → (((ss.map fun s => ((x s).num * sc).fdiv (x s).den).sum : Int) : Rat) = tot (ss.map x) * (sc : Rat)
  | [], _ => by simp [tot_nil, Rat.zero_mul]
  | s :: ss, h => by
    have ih := sum_scaled (x := x) (sc := sc) (ss := ss) fun u hu => h u (List.mem_cons_of_mem _ hu)
    obtain ⟨k, hk⟩ := h s List.mem_cons_self
    have hd : ((x s).den : Int) ≠ 0 := den_ne
    rw [List.map_cons, List.sum_cons, List.map_cons, tot_cons, Rat.intCast_add, ih, Rat.add_mul]
    congr 1
    have e : ((x s).num * sc).fdiv (x s).den = (x s).num * k := by
      rw [hk, show (x s).num * (((x s).den : Int) * k) = ((x s).den : Int) * ((x s).num * k) by rw [Int.mul_left_comm], Int.mul_fdiv_cancel_left _ hd]
    rw [e]
    have hx : x s * (((x s).den : Int) : Rat) = ((x s).num : Rat) := by
      exact mul_den_num
    rw [hk, Rat.intCast_mul, Rat.intCast_mul, ← Rat.mul_assoc, hx]
theorem le_tot {x : Str → Rat} : ∀ {ss : List Str} {s : Str}, s ∈ ss → (∀ s ∈ ss, 0 ≤ x s) → x s ≤ tot (ss.map x)
  | u :: ss, s, hs, h => by
    rw [List.map_cons, tot_cons]
    have h0 : 0 ≤ tot (ss.map x) := by
      have := tot_le (L := 0) (f := x) (ss := ss) fun s hs => h s (List.mem_cons_of_mem _ hs)
      rw [Rat.zero_mul] at this
      exact this
    rcases List.mem_cons.mp hs with rfl | hs
    · grind
    · have := le_tot hs fun s hs => h s (List.mem_cons_of_mem _ hs)
      have := h u List.mem_cons_self
      grind
theorem pos_nn {x : Rat} : 0 ≤ pos x := by
  unfold pos
  split
  · exact Rat.le_refl
  · grind
end
end K05
end
section
set_option maxRecDepth 100000
namespace K05
open PySem PyD PyM P0
def Tq (c : Cell) (t : Tau) (M : Store) : Prop := ∃ l C, t = some (.ref 0) :: l ∧ l.length = 18 ∧ M = c :: C
theorem len18 {l : List (Option D)} (h : l.length = 18) : ∃ o1 o2 o3 o4 o5 o6 o7 o8 o9 o10 o11 o12 o13 o14 o15 o16 o17 o18, l = [o1, o2, o3, o4, o5, o6, o7, o8, o9, o10, o11, o12, o13, o14, o15, o16, o17, o18] := by
  match l, h with
  | [o1, o2, o3, o4, o5, o6, o7, o8, o9, o10, o11, o12, o13, o14, o15, o16, o17, o18], _ => exact ⟨_, _, _, _, _, _, _, _, _, _, _, _, _, _, _, _, _, _, rfl⟩
theorem len_one {l : List (Option D)} {n : Nat} (h : l.length = n + 1) : ∃ a l', l = a :: l' ∧ l'.length = n := by
  cases l with
  | nil => cases h
  | cons a l => exact ⟨a, l, rfl, by simpa using h⟩
theorem if_f {G : Gam} {c a : T} {t : Tau} {M M' : Store} (h : evT G c t M = .ok (false, M')) : evS G (.iff c a .snil) t M = .nx t M' := by
  rw [evS_iff, h, R.out_ok]
  simp [evS_snil]
section
variable {M M1 M' : Store} {o0 o1 o2 o3 o4 o5 o6 k7 k8 k9 k10 k11 k12 k13 k14 k15 k16 k17 k18 : Option D} {s nums x y z sh kp ls ad : D}
theorem e_num {k xi : Int} (h1 : m__law_cell [.ref 0, .int k] M = .ok (.int xi, M)) (h2 : m__law_numbers [.int xi, .int 16] M = .ok (nums, M)) :
    evE g_law (.call 2 (.acons (.call 1 (.acons (.v 0) (.acons (.v 1) .anil))) (.acons (.c (.int 16)) .anil))) [some (.ref 0), some (.int k), o2, o3, o4, o5, o6, k7, k8, k9, k10, k11, k12, k13, k14, k15, k16, k17, k18] M = .ok (nums, M) := by
  simp [evE, evA, g_law, h1, h2]
theorem e_amount {G : Gam} {y0 y1 m : Int} (h0 : ixD M nums (.int 0) = some (.int y0)) (h1 : ixD M nums (.int 1) = some (.int y1)) (hp : L2.atI [D.int 1, D.int 50, D.int 5000] (y1.fmod 3) = some (.int m)) (hm : m ≠ 0) :
    evE G (.bin .mod false (.b1 .int false (.ix (.v 2) (.c (.int 0)))) (.ix (.lst false (.acons (.c (.int 1)) (.acons (.c (.int 50)) (.acons (.c (.int 5000)) .anil)))) (.bin .mod false (.b1 .int false (.ix (.v 2) (.c (.int 1)))) (.c (.int 3))))) [o0, o1, some nums, o3, o4, o5, o6, k7, k8, k9, k10, k11, k12, k13, k14, k15, k16, k17, k18] M = .ok (.int (y0.fmod m), M) := by
  simp [evE, evA, h0, h1, newL, big, bin_modI (show (3 : Int) ≠ 0 by decide), hp, bin_modI hm]
theorem e_bottom {G : Gam} {y1 : Int} (h1 : ixD M nums (.int 1) = some (.int y1)) (d3 : divOk 3 = true) :
    evE G (.bin .add false (.c (.int 1)) (.bin .mod false (.b1 .int false (.bin .fdiv false (.ix (.v 2) (.c (.int 1))) (.c (.int 3)))) (.c (.int 5)))) [o0, o1, some nums, o3, o4, o5, o6, k7, k8, k9, k10, k11, k12, k13, k14, k15, k16, k17, k18] M = .ok (.int (1 + (y1.fdiv 3).fmod 5), M) := by
  simp [evE, h1, bin_modI (show (5 : Int) ≠ 0 by decide), bin_divI d3]
theorem e_rngA {G : Gam} {y2 : Int} (h1 : ixD M nums (.int 2) = some (.int y2)) (hr : rngOk (1 + y2.fmod 12) = true) :
    evI G (.rng1 (.bin .add false (.c (.int 1)) (.bin .mod false (.b1 .int false (.ix (.v 2) (.c (.int 2)))) (.c (.int 12))))) [o0, o1, some nums, o3, o4, o5, o6, k7, k8, k9, k10, k11, k12, k13, k14, k15, k16, k17, k18] M = .ok ((rngL 0 (1 + y2.fmod 12), none), M) := by
  simp [evI, evE, h1, bin_modI (show (12 : Int) ≠ 0 by decide), hr]
theorem e_step {G : Gam} {t b : Int} {d : Int} (hd : d ≠ 0) :
    stepL G [18] (.v 18) (.and_ (.tst (.cmp .eq (.bin .mod false (.b1 .int false (.v 8)) (.v 18)) (.c (.int 0)))) (.last (.tst (.cmp .eq (.bin .mod false (.b1 .int false (.v 4)) (.v 18)) (.c (.int 0)))))) (.v 18) [o0, o1, o2, o3, some (.int b), o5, o6, k7, some (.int t), k9, k10, k11, k12, k13, k14, k15, k16, k17, k18] (.int d) M = .ok (onI (fun d => decide (t.fmod d = 0) && decide (b.fmod d = 0)) (.int d), M) := by
  by_cases h1 : t.fmod d = 0
  · by_cases h2 : b.fmod d = 0 <;> simp [stepL, evS_snil, evS_scons, evS_expr, evS_asg, evS_par, evS_put, evS_ret, evS_retN, evS_iff, evS_pass, evS_brk, evS_cnt, evT, evE, evA, asgT, asgT.asgTs, cmpD, b2D, mkM, wipeT, bin_modI hd, onI, h1, h2]
  · simp [stepL, evS_snil, evS_scons, evS_expr, evS_asg, evS_par, evS_put, evS_ret, evS_retN, evS_iff, evS_pass, evS_brk, evS_cnt, evT, evE, evA, asgT, asgT.asgTs, cmpD, b2D, mkM, wipeT, bin_modI hd, onI, h1]
theorem e_levels {t b g : Int} {cm : D} (hg : b1D .max false cm M = .ok (.int g, M)) (d : divOk g = true) (h : m_levels [.tup [.int (t.fdiv g), .int (b.fdiv g)], ad] M = .ok (sh, M')) :
    evE g_law (.call 0 (.acons (.tup (.acons (.bin .fdiv false (.v 8) (.b1 .max false (.v 9))) (.acons (.bin .fdiv false (.v 4) (.b1 .max false (.v 9))) .anil))) (.acons (.v 5) .anil))) [o0, o1, o2, o3, some (.int b), some ad, o6, k7, some (.int t), some cm, k10, k11, k12, k13, k14, k15, k16, k17, k18] M = .ok (sh, M') := by
  simp [evE, evA, g_law, hg, bin_divI d, big, h]
theorem e_if1 {G : Gam} (h1 : b1D .list false sh M = .ok (ls, M)) (h2 : b1D .sorted false ad M = .ok (ls, M)) (h3 : eqD M ls ls = some true) (h4 : eqD M ad kp = some true) :
    evT G (.or_ (.tst (.cmp .ne (.b1 .list false (.v 10)) (.b1 .sorted false (.v 5)))) (.last (.tst (.cmp .ne (.v 5) (.v 7))))) [o0, o1, o2, o3, o4, some ad, o6, some kp, k8, k9, some sh, k11, k12, k13, k14, k15, k16, k17, k18] M = .ok (false, M) := by
  simp [evT, evE, cmpD, h1, h2, h3, h4]
theorem e_term {G : Gam} {nm : D} {n d sc : Int} (h : ixD M sh nm = some (.tup [.int n, .int d])) (hm : mulOk n sc = true) (hd : divOk d = true) :
    stepL G [12] (.v 12) .pass (.bin .fdiv false (.bin .mul false (.ix (.ix (.v 10) (.v 12)) (.c (.int 0))) (.v 11)) (.ix (.ix (.v 10) (.v 12)) (.c (.int 1)))) [o0, o1, o2, o3, o4, o5, o6, k7, k8, k9, some sh, some (.int sc), k12, k13, k14, k15, k16, k17, k18] nm M = .ok (some (.int ((n * sc).fdiv d)), M) := by
  simp [stepL, evS_snil, evS_scons, evS_expr, evS_asg, evS_par, evS_put, evS_ret, evS_retN, evS_iff, evS_pass, evS_brk, evS_cnt, evT, evE, evA, asgT, asgT.asgTs, cmpD, b2D, mkM, wipeT, h, bin_mulI hm, bin_divI hd]
theorem e_if2 {G : Gam} {l : List Int} {t b sc : Int} {tau : Tau} (h4 : tau[4]? = some (some (.int b))) (h8 : tau[8]? = some (some (.int t))) (h11 : tau[11]? = some (some (.int sc))) {cm : T} (h : evE G cm tau M = .ok (.lst (l.map D.int), M)) (m1 : mulOk l.sum b = true) (m2 : mulOk t sc = true) (e : l.sum * b = t * sc) :
    evT G (.tst (.cmp .ne (.bin .mul false (.b1 .sum false cm) (.v 4)) (.bin .mul false (.v 8) (.v 11)))) tau M = .ok (false, M) := by
  simp [evT, evE, cmpD, h, h4, h8, h11, v_sum, bin_mulI m1, bin_mulI m2, e]
theorem e_if3 {G : Gam} {n d : Int} (h1 : ¬ n < 0) (h2 : ¬ d < 1) :
    evT G (.or_ (.tst (.cmp .lt (.ix (.v 13) (.c (.int 0))) (.c (.int 0)))) (.last (.tst (.cmp .lt (.ix (.v 13) (.c (.int 1))) (.c (.int 1)))))) [o0, o1, o2, o3, o4, o5, o6, k7, k8, k9, k10, k11, k12, some (.tup [.int n, .int d]), k14, k15, k16, k17, k18] M = .ok (false, M) := by
  simp [evT, evE, cmpD, h1, h2]
end
/-! ### one turn -/
theorem fx_of {i k : Int} (h0 : 0 ≤ i) (h1 : i < k) (hk : k < 2 ^ 60 := by decide) : rngOk i = true := rngOk_lo h0 (by omega)
theorem turn {ns : List Int} {c : Cell} {C : Store} {k : Nat} (hs : scrC ns c) {o1 o2 o3 o4 o5 o6 k7 k8 k9 k10 k11 k12 k13 k14 k15 k16 k17 k18 : Option D} :
    Wp (evS g_law B_law_1 [some (.ref 0), some (.int k), o2, o3, o4, o5, o6, k7, k8, k9, k10, k11, k12, k13, k14, k15, k16, k17, k18] (c :: C)) (Tq c) (fun _ _ => False) := by
  obtain ⟨M, hM⟩ : ∃ M, M = c :: C := ⟨_, rfl⟩
  obtain ⟨kk, hkk⟩ : ∃ kk : Int, kk = (k : Int) := ⟨_, rfl⟩
  have hcell := m__law_cell_eq (C := C) (k := k) hs
  rw [← hM, ← hkk] at hcell
  rw [← hM, ← hkk]
  obtain ⟨nums, y, hlow, hix, hnum⟩ := numbers_fun (x := celI ns k) (n := 16) (M := M) (by decide)
  have i0 : ∀ M, ixD M nums (.int 0) = some (.int (y 0)) := fun M => hix 0 M (by decide) (by decide)
  have i1 : ∀ M, ixD M nums (.int 1) = some (.int (y 1)) := fun M => hix 1 M (by decide) (by decide)
  have i2 : ∀ M, ixD M nums (.int 2) = some (.int (y 2)) := fun M => hix 2 M (by decide) (by decide)
  unfold B_law_1
  refine wp_scons ?_
  rw [asg_v (e_num hcell hnum) (by simp), wp_nx]
  simp only [List.set_cons_zero, List.set_cons_succ]
  obtain ⟨m, hm, hp⟩ := pickI [1, 50, 5000] (modN (i := y 1) (n := 3) (by decide)).1 (modN (i := y 1) (n := 3) (by decide)).2
  have hm1 : 1 ≤ m ∧ m ≤ 5000 := by simp at hm; omega
  refine wp_scons ?_
  rw [asg_v (e_amount (i0 M) (i1 M) hp (by omega)) (by simp), wp_nx]
  simp only [List.set_cons_zero, List.set_cons_succ]
  obtain ⟨am, ham⟩ : ∃ am, am = (y 0).fmod m := ⟨_, rfl⟩
  have ham1 : 0 ≤ am ∧ am < 5000 := by have := modN (i := y 0) (n := m) (by omega); omega
  rw [← ham]
  refine wp_scons ?_
  rw [asg_v (e_bottom (i1 M) (divOk_lit (by decide) (by decide))) (by simp), wp_nx]
  simp only [List.set_cons_zero, List.set_cons_succ]
  obtain ⟨bo, hbo⟩ : ∃ bo, bo = 1 + ((y 1).fdiv 3).fmod 5 := ⟨_, rfl⟩
  have hbo1 : 1 ≤ bo ∧ bo ≤ 5 := by have := modN (i := (y 1).fdiv 3) (n := 5) (by decide); omega
  rw [← hbo]
  refine wp_scons ?_
  rw [asg_v (x := .ref M.length) (M1 := M ++ [.dct false []]) (by simp [evE]) (by simp), wp_nx]
  simp only [List.set_cons_zero, List.set_cons_succ]
  -- the advances
  obtain ⟨w, hw⟩ : ∃ w, w = (y 2).fmod 12 := ⟨_, rfl⟩
  have hw1 : 0 ≤ w ∧ w < 12 := by have := modN (i := y 2) (n := 12) (by decide); omega
  refine wp_scons (wp_for (b := B_law_6) (fun j t M' => ∃ ads o6, AdI j ads ∧ t = [some (.ref 0), some (.int kk), some nums, some (.int am), some (.int bo), some (.ref M.length), o6, k7, k8, k9, k10, k11, k12, k13, k14, k15, k16, k17, k18] ∧ M' = M ++ [.dct false (advK ads)])
    (e_rngA (i2 _) (by rw [← hw]; exact fx_of (by omega) (by omega : 1 + w < 100))) ⟨[], o6, ⟨List.nodup_nil, Nat.le_refl _, fun h => absurd h (by decide), by simp⟩, rfl, rfl⟩ ?_ ?_)
  · rintro j d t M' hd ⟨ads, o6, hA, rfl, rfl⟩
    obtain ⟨hj, rfl⟩ := rngL_get' hd
    rw [← hw] at hj
    obtain ⟨m2, hm2, hp2⟩ := pickI [1, 9, 400, 4000] (modN (i := (y 2).fdiv 12) (n := 4) (by decide)).1 (modN (i := (y 2).fdiv 12) (n := 4) (by decide)).2
    have hm3 : 1 ≤ m2 ∧ m2 ≤ 4000 := by simp at hm2; omega
    obtain ⟨yj, hyj⟩ : ∃ yj, yj = y (3 + (0 + (j : Int))) := ⟨_, rfl⟩
    obtain ⟨z, hz⟩ : ∃ z : Nat, (yj.fdiv 9).fmod 40 = z ∧ z < 40 := ⟨((yj.fdiv 9).fmod 40).toNat, by have := modN (i := yj.fdiv 9) (n := 40) (by decide); omega⟩
    have hv := modN (i := yj) (n := m2) (by omega)
    have hl : ("n" : Str).length + (its ((yj.fdiv 9).fmod 40)).length ≤ big := by
      rw [hz.1]
      have h1 := its_len (n := z) (by omega)
      have h2 : ("n" : Str).length = 1 := by rfl
      rw [h2]
      simp only [big]
      omega
    have hput : putIx (M ++ [.dct false (advK ads)]) (.ref M.length) (.str (("n" : Str) ++ its ((yj.fdiv 9).fmod 40))) (.int (yj.fmod m2)) = some (M ++ [.dct false (advK (setA ads (("n" : Str) ++ its ((yj.fdiv 9).fmod 40)) (yj.fmod m2)))]) := by
      have hb : (advK ads).length < big := by
        have := hA.2.1
        rw [advK, List.length_map]
        simp only [big]
        omega
      simp only [putIx, get_last, isKey, Bool.not_false, true_and, hb, if_true, put_adv, set_last]
    rw [w_A (i2 · ) (fun M => by rw [hyj]; exact hix _ M (by omega) (by omega)) hp2 (by omega) (divOk_lit (by decide) (by decide)) (divOk_lit (by decide) (by decide)) (by rw [hz.1]; exact str_ok (by omega)) hl hput, wp_nx]
    exact ⟨_, _, hA.put hv.1 (by omega), rfl, rfl⟩
  rintro t M' ⟨ads, o6, hA, rfl, rfl⟩
  have hlen : (rngL 0 (1 + (y 2).fmod 12)).length = (1 + w).toNat := by rw [← hw]; simp [rngL]
  rw [hlen] at hA
  obtain ⟨hnd, hal, hne, hav⟩ := hA
  replace hne := hne (by omega)
  have hal2 : ads.length ≤ 12 := by omega
  obtain ⟨M1, hM1⟩ : ∃ M1, M1 = M ++ [.dct false (advK ads)] := ⟨_, rfl⟩
  have hg1 : M1[M.length]? = some (.dct false (advK ads)) := by rw [hM1]; exact get_last
  rw [← hM1]
  -- a copy
  refine wp_scons ?_
  obtain ⟨M2, hM2⟩ : ∃ M2, M2 = M1 ++ [.dct false (advK ads)] := ⟨_, rfl⟩
  have hg2 : M2[M.length]? = some (.dct false (advK ads)) := by rw [hM2]; exact get_app hg1
  have hk2 : M2[M1.length]? = some (.dct false (advK ads)) := by rw [hM2]; exact get_last
  rw [asg_v (x := .ref M1.length) (M1 := M2) ((evE_b1 (evE_v (x := .ref M.length) rfl)).trans (by simp only [b1D, dictOf_ref hg1]; rw [hM2])) (by simp), wp_nx]
  simp only [List.set_cons_zero, List.set_cons_succ]
  refine wp_scons ?_
  rw [asg_v (x := .int am) (M1 := M2) (evE_v rfl) (by simp), wp_nx]
  simp only [List.set_cons_zero, List.set_cons_succ]
  -- lowest terms, half
  refine wp_scons (wp_for (b := B_law_5) (fun j t M' => M' = M2 ∧ ∃ o6 b t0, 0 ≤ t0 ∧ t0 < 5000 ∧ 1 ≤ b ∧ b ≤ 5 ∧ t = [some (.ref 0), some (.int kk), some nums, some (.int am), some (.int b), some (.ref M.length), o6, some (.ref M1.length), some (.int t0), k9, k10, k11, k12, k13, k14, k15, k16, k17, k18])
    (ds := rngL 0 6) (M1 := M2) (by simp [evI, evE, fx_of (i := 6) (k := 7) (by decide) (by decide)]) ⟨rfl, o6, bo, am, ham1.1, ham1.2, hbo1.1, hbo1.2, rfl⟩ ?_ ?_)
  · rintro j d t M' hd ⟨rfl, o6, b, t0, h1, h2, h3, h4, rfl⟩
    obtain ⟨_, rfl⟩ := rngL_get' hd
    by_cases hc : 0 < t0 ∧ 1 < b ∧ t0.fmod b = 0
    · rw [w_top1 hc (by omega) (divOk_lit (by omega) (by omega)), wp_nx]
      refine ⟨rfl, _, 1, t0.fdiv b, Int.fdiv_nonneg h1 (by omega), ?_, by decide, by decide, rfl⟩
      have e := Int.fdiv_eq_ediv_of_nonneg t0 (by omega : 0 ≤ b)
      have : t0 / b ≤ t0 := Int.ediv_le_self _ h1
      omega
    · rw [w_top0 hc (by omega), wp_nx]
      exact ⟨rfl, _, b, t0, h1, h2, h3, h4, rfl⟩
  rintro t M' ⟨rfl, o6, b, t0, ht0, ht1, hb0, hb1, rfl⟩
  -- the common divisors
  refine wp_scons ?_
  obtain ⟨cs, hcs⟩ : ∃ cs, cs = (rngI 1 (b + 1)).filter (fun d => decide (t0.fmod d = 0) && decide (b.fmod d = 0)) := ⟨_, rfl⟩
  rw [asg_v (x := .lst (cs.map D.int)) (M1 := M') (by
    rw [ev_comp (f := onI (fun d => decide (t0.fmod d = 0) && decide (b.fmod d = 0))) (ds := (rngI 1 (b + 1)).map D.int) (M1 := M') (by
      rw [← rngL_eq]
      simp [evI, evE, fx_of (i := 1) (k := 7) (by decide) (by decide), fx_of (i := b + 1) (k := 7) (by omega) (by omega)]) (fun d hd acc => by
        obtain ⟨i, hi, rfl⟩ := List.mem_map.mp hd
        rw [rngI_mem] at hi
        exact e_step (by omega)) (by rw [List.length_map, rngI_len]; simp only [big]; omega) (by rw [fm_onI]; exact plL_bd ints_pl), fm_onI, hcs]) (by simp), wp_nx]
  simp only [List.set_cons_zero, List.set_cons_succ]
  obtain ⟨g, hg⟩ : ∃ g, g = ((Nat.gcd t0.natAbs b.natAbs : Nat) : Int) := ⟨_, rfl⟩
  obtain ⟨c1, c2⟩ := common_max ht0 hb0
  rw [← hcs, ← hg] at c1
  rw [← hcs, ← hg] at c2
  have hg0 : 0 < g ∧ g ≤ b := by
    rw [hcs, List.mem_filter, rngI_mem] at c1
    omega
  have hmax : b1D .max false (.lst (cs.map D.int)) M' = .ok (.int g, M') := v_max c1 c2
  -- the shares
  obtain ⟨q, hq⟩ : ∃ q, q = Rat.divInt t0 b := ⟨_, rfl⟩
  have hq0 : 0 ≤ q := by rw [hq]; exact Rat.divInt_nonneg ht0 (by omega)
  have hqd : q.den ≤ 5 := by rw [hq]; exact Nat.le_trans (divInt_den_le (by omega)) (by omega)
  have hlow2 : D.tup [.int (t0.fdiv g), .int (b.fdiv g)] = frq q := by rw [hg, hq]; exact frq_low hb0
  have hsz : q.den * ads.length ≤ 60 := Nat.mul_le_mul hqd hal2
  obtain ⟨L, hLd, hLt, hlev⟩ := m_levels_eq (q := q) hg2 hnd hq0 hne (by omega) (by omega)
  obtain ⟨ss, hss⟩ : ∃ ss, ss = sortS (nmA ads) := ⟨_, rfl⟩
  have hperm : ss.Perm (nmA ads) := by rw [hss]; exact sortS_perm _
  have hsn : ss.Nodup := hperm.nodup_iff.mpr hnd
  obtain ⟨x, hx⟩ : ∃ x : Str → Rat, x = fun s => pos (L - fA ads s) := ⟨_, rfl⟩
  rw [← hss] at hlev
  have hxt : tot (ss.map x) = q := by rw [tot_perm (hperm.map x), hx]; exact hLt
  have hx0 : ∀ s, 0 ≤ x s := fun s => by rw [hx]; exact pos_nn
  have hxd : ∀ s, (x s).den ≤ 60 := fun s => by
    rw [hx]
    show (pos (L - fA ads s)).den ≤ 60
    unfold pos
    split
    · decide
    · exact Nat.le_trans (den_sub L (av ads s)) (Nat.le_trans hLd hsz)
  have hb' : (b : Rat) ≠ 0 := by
    have : b ≠ 0 := by omega
    exact_mod_cast this
  have hqb : q * (b : Rat) = (t0 : Rat) := by
    obtain ⟨bn, rfl⟩ : ∃ bn : Nat, b = bn := ⟨b.toNat, by omega⟩
    have e := div_nat (p := ((t0 : Int) : Rat)) (k := bn)
    rw [show (((t0 : Int) : Rat)).num = t0 from rfl, show ((((t0 : Int) : Rat)).den : Int) = 1 from rfl, Int.one_mul] at e
    rw [hq, e]
    exact Rat.div_mul_cancel hb'
  have hqle : q ≤ 5000 := by
    have h1 : (t0 : Rat) ≤ 5000 := by exact_mod_cast (by omega : t0 ≤ 5000)
    have h2 : (1 : Rat) ≤ (b : Rat) := by exact_mod_cast hb0
    have h3 : q * 1 ≤ q * (b : Rat) := Rat.mul_le_mul_of_nonneg_left h2 hq0
    grind
  have hxn : ∀ s ∈ ss, 0 ≤ (x s).num ∧ (x s).num ≤ 300000 := fun s hs => by
    refine ⟨Rat.num_nonneg.mpr (hx0 s), ?_⟩
    have h1 : x s ≤ 5000 := Rat.le_trans (by rw [← hxt]; exact le_tot hs fun s _ => hx0 s) hqle
    have h2 := mul_den_num (q := x s)
    have h3 : (0 : Rat) ≤ (((x s).den : Int) : Rat) := by exact_mod_cast (Int.natCast_nonneg (x s).den)
    have h4 : x s * (((x s).den : Int) : Rat) ≤ 5000 * (((x s).den : Int) : Rat) := Rat.mul_le_mul_of_nonneg_right h1 h3
    rw [h2] at h4
    have h5 : (x s).num ≤ 5000 * ((x s).den : Int) := by exact_mod_cast h4
    have := hxd s
    omega
  have hsx : (ss.map fun s => (D.str s, frq (pos (L - fA ads s)))) = ss.map fun s => (D.str s, frq (x s)) := by rw [hx]
  rw [hsx] at hlev
  obtain ⟨kv, hkv⟩ : ∃ kv, kv = ss.map fun s => (D.str s, frq (x s)) := ⟨_, rfl⟩
  rw [← hkv] at hlev
  obtain ⟨M3, hM3⟩ : ∃ M3, M3 = M' ++ [.dct false kv] := ⟨_, rfl⟩
  rw [← hM3] at hlev
  have hs3 : M3[M'.length]? = some (.dct false kv) := by rw [hM3]; exact get_last
  have hg3 : M3[M.length]? = some (.dct false (advK ads)) := by rw [hM3]; exact get_app hg2
  have hk3 : M3[M1.length]? = some (.dct false (advK ads)) := by rw [hM3]; exact get_app hk2
  have hne1 : M'.length ≠ M.length := by
    have := (List.getElem?_eq_some_iff.mp hg2).1
    omega
  rw [← hlow2] at hlev
  refine wp_scons ?_
  rw [asg_v (e_levels hmax (divOk_lit hg0.1 (by omega)) hlev) (by simp), wp_nx]
  simp only [List.set_cons_zero, List.set_cons_succ]
  have kvkeys : kv.map (·.1) = ss.map D.str := by rw [hkv, List.map_map]; rfl
  have advnd : ((advK ads).map (·.1)).Nodup := by rw [advK_keys]; exact List.pairwise_map.mpr (hnd.imp fun h e => h (by cases e; rfl))
  refine wp_scons ?_
  rw [if_f (e_if1 (ls := .lst (ss.map D.str)) (by simp only [b1D, listW, dictOf_ref hs3, kvkeys, newL]; rfl) (by rw [sorted_dict (dictOf_ref hg3) advK_keys, hss]) (by rw [eqD_strs2]; simp) (eqD_dct (dictOf_ref hg3) (dictOf_ref hk3) advnd fun p hp => by
    obtain ⟨p, _, rfl⟩ := List.mem_map.mp hp
    exact ⟨rfl, by simp [D.dep]⟩)), wp_nx]
  refine wp_scons ?_
  rw [asg_v (x := .int 1) (M1 := M3) (by simp only [evE]) (by simp), wp_nx]
  simp only [List.set_cons_zero, List.set_cons_succ]
  -- the scale
  have look : ∀ s ∈ ss, lookD kv (.str s) = some (frq (x s)) := fun s hs => by
    rw [hkv]
    exact look_map (f := fun s : Str => s) (g := fun s => frq (x s)) hs (by simpa using hsn)
  obtain ⟨M4, hM4⟩ : ∃ M4, M4 = M3.set M'.length (.lkd false kv) := ⟨_, rfl⟩
  have hs4 : M4[M'.length]? = some (.lkd false kv) := by rw [hM4]; exact set_get hs3
  have hg4 : M4[M.length]? = some (.dct false (advK ads)) := by rw [hM4]; exact set_ne hg3 hne1
  have ix4 : ∀ s ∈ ss, ∀ C, ixD (M4 ++ C) (.ref M'.length) (.str s) = some (.tup [.int (x s).num, .int (x s).den]) := fun s hs C => by
    rw [ix_dict (dictOf_lk (get_app hs4)), look s hs]; rfl
  have ia4 : ∀ s ∈ ss, ixD M4 (.ref M.length) (.str s) = some (.int (av ads s)) := fun s hs => ix_av hg4 hnd (hperm.mem_iff.mp hs)
  have hslen : ss.length ≤ 12 := by rw [hperm.length_eq, nmA, List.length_map]; exact hal2
  refine wp_scons (wp_for_dk (b := B_law_4) (fun j t => ∃ sc k12, 0 < sc ∧ (∀ s ∈ ss.take j, ((x s).den : Int) ∣ sc) ∧ t = [some (.ref 0), some (.int kk), some nums, some (.int am), some (.int b), some (.ref M.length), o6, some (.ref M1.length), some (.int t0), some (.lst (cs.map D.int)), some (.ref M'.length), some (.int sc), k12, k13, k14, k15, k16, k17, k18])
    (evI_dct rfl hs3) hs3 ⟨1, k12, by decide, by simp, rfl⟩ ?_ ?_)
  · rintro j d t hd ⟨sc, k12, hsc, hdv, rfl⟩
    rw [kvkeys, List.getElem?_map] at hd
    obtain ⟨s, hs, rfl⟩ := Option.map_eq_some_iff.mp hd
    have hsm : s ∈ ss := List.mem_of_getElem? hs
    rw [← hM4]
    have e := ix4 s hsm []
    rw [List.append_nil] at e
    have hdp := (x s).den_pos
    rw [w_sc e (mulOk_r (sm_nn (k := 60) (by omega) (by have := hxd s; omega))), wp_nx]
    refine ⟨rfl, sc * (x s).den, _, Int.mul_pos hsc (by omega), fun u hu => ?_, rfl⟩
    rw [List.take_succ, hs] at hu
    rcases List.mem_append.mp hu with hu | hu
    · exact Int.dvd_trans (hdv u hu) (Int.dvd_mul_right _ _)
    · have : u = s := by simpa using hu
      rw [this]
      exact Int.dvd_mul_left _ _
  rintro t ⟨sc, k12, hsc, hdv, rfl⟩
  have hkl : (kv.map (·.1)).length = ss.length := by rw [kvkeys, List.length_map]
  rw [hkl, List.take_length] at hdv
  refine wp_scons ?_
  rw [asg_v (x := .int (sc * b)) (M1 := M3) (by simp [evE, bin_mulI (mulOk_r (i := sc) (sm_nn (i := b) (k := 5) (by omega) hb1))]) (by simp), wp_nx]
  simp only [List.set_cons_zero, List.set_cons_succ]
  obtain ⟨sc2, hsc2⟩ : ∃ sc2, sc2 = sc * b := ⟨_, rfl⟩
  rw [← hsc2]
  have hdv2 : ∀ s ∈ ss, ((x s).den : Int) ∣ sc2 := fun s hs => by rw [hsc2]; exact Int.dvd_trans (hdv s hs) (Int.dvd_mul_right _ _)
  -- the sum
  have hsum := sum_scaled hdv2
  rw [hxt] at hsum
  obtain ⟨f, hf⟩ : ∃ f : D → Option D, f = fun d => match d with
    | .str s => some (.int (((x s).num * sc2).fdiv (x s).den))
    | _ => none := ⟨_, rfl⟩
  have hfm : (ss.map D.str).filterMap f = (ss.map fun s => ((x s).num * sc2).fdiv (x s).den).map D.int := by
    rw [List.map_map]
    exact fm_map fun s _ => by rw [hf]; rfl
  refine wp_scons ?_
  rw [if_f (e_if2 (b := b) (t := t0) (sc := sc2) (l := ss.map fun s => ((x s).num * sc2).fdiv (x s).den) rfl rfl rfl (by
    rw [ev_comp_lk (f := f) (n := M'.length) (ds := ss.map D.str) (kvs := kv) (by rw [evI_dct rfl hs3, kvkeys]) hs3 (fun d hd acc => by
      obtain ⟨s, hs, rfl⟩ := List.mem_map.mp hd
      have hdp := (x s).den_pos
      rw [← hM4, hf]
      exact e_term (ix4 s hs _) (mulOk_l (sm_nn (k := 300000) (hxn s hs).1 (hxn s hs).2)) (divOk_lit (by omega) (by have := hxd s; omega))) (by rw [List.length_map]; simp only [big]; omega) (by rw [hfm]; exact plL_bd ints_pl), hfm]) (mulOk_r (sm_nn (k := 5) (by omega) hb1)) (mulOk_l (sm_nn (k := 5000) ht0 (by omega))) (by
      have e : (((ss.map fun s => ((x s).num * sc2).fdiv (x s).den).sum * b : Int) : Rat) = ((t0 * sc2 : Int) : Rat) := by
        rw [Rat.intCast_mul, Rat.intCast_mul, hsum, ← hqb]
        grind
      exact_mod_cast e)), wp_nx]
  -- all pairs
  obtain ⟨nn, hnn⟩ : ∃ nn : Str → Int, nn = fun s => (x s).num := ⟨_, rfl⟩
  obtain ⟨dd, hdd⟩ : ∃ dd : Str → Int, dd = fun s => ((x s).den : Int) := ⟨_, rfl⟩
  have ddb : ∀ s, 1 ≤ dd s ∧ dd s ≤ 60 := fun s => by
    have h1 := (x s).den_pos
    have h2 := hxd s
    rw [hdd]
    show (1 : Int) ≤ ((x s).den : Int) ∧ ((x s).den : Int) ≤ 60
    omega
  have nnb : ∀ s ∈ ss, 0 ≤ nn s := fun s hs => by rw [hnn]; exact (hxn s hs).1
  have xnd : ∀ s, x s * ((dd s : Int) : Rat) = ((nn s : Int) : Rat) := fun s => by rw [hnn, hdd]; exact mul_den_num
  have lev : ∀ s u, ((nn s * dd u + av ads s * dd s * dd u : Int) : Rat) = (x s + fA ads s) * (((dd s : Int) : Rat) * ((dd u : Int) : Rat)) := fun s u => by
    rw [Rat.intCast_add, Rat.intCast_mul, Rat.intCast_mul, Rat.intCast_mul, ← xnd s]
    grind
  have lev2 : ∀ s u, ((nn u * dd s + av ads u * dd s * dd u : Int) : Rat) = (x u + fA ads u) * (((dd s : Int) : Rat) * ((dd u : Int) : Rat)) := fun s u => by
    rw [Rat.intCast_add, Rat.intCast_mul, Rat.intCast_mul, Rat.intCast_mul, ← xnd u]
    grind
  have ddn : ∀ s u, (0 : Rat) ≤ ((dd s : Int) : Rat) * ((dd u : Int) : Rat) := fun s u => by
    have h : (0 : Int) ≤ dd s * dd u := Int.mul_nonneg (by have := ddb s; omega) (by have := ddb u; omega)
    exact_mod_cast h
  have up : ∀ s, 0 < nn s → x s + fA ads s = L := fun s h => by
    have hxs : x s = pos (L - fA ads s) := by rw [hx]
    have hp : ¬ (L - fA ads s < 0) := fun hl => by
      have : x s = 0 := by rw [hxs, pos, if_pos hl]
      rw [hnn] at h
      simp only [this] at h
      exact absurd h (by decide)
    rw [hxs, pos, if_neg hp]
    grind
  have ge : ∀ s, L ≤ x s + fA ads s := fun s => by
    have hxs : x s = pos (L - fA ads s) := by rw [hx]
    rw [hxs, pos]
    split <;> grind
  have c1 : ∀ s u, 0 < nn s → 0 < nn u → nn s * dd u + av ads s * dd s * dd u = nn u * dd s + av ads u * dd s * dd u := fun s u h1 h2 => by
    have e : ((nn s * dd u + av ads s * dd s * dd u : Int) : Rat) = ((nn u * dd s + av ads u * dd s * dd u : Int) : Rat) := by rw [lev, lev2, up s h1, up u h2]
    exact_mod_cast e
  have c2 : ∀ s u, 0 < nn s → nn u = 0 → ¬ nn u * dd s + av ads u * dd s * dd u < nn s * dd u + av ads s * dd s * dd u := fun s u h1 _ hlt => by
    have e : ((nn s * dd u + av ads s * dd s * dd u : Int) : Rat) ≤ ((nn u * dd s + av ads u * dd s * dd u : Int) : Rat) := by
      rw [lev, lev2, up s h1]
      exact Rat.mul_le_mul_of_nonneg_right (ge u) (ddn s u)
    have e2 : nn s * dd u + av ads s * dd s * dd u ≤ nn u * dd s + av ads u * dd s * dd u := by exact_mod_cast e
    omega
  have ix5 : ∀ s ∈ ss, ixD M4 (.ref M'.length) (.str s) = some (.tup [.int (nn s), .int (dd s)]) := fun s hs => by
    have e := ix4 s hs []
    rw [List.append_nil] at e
    rw [e, hnn, hdd]
  clear hnn hdd lev lev2 xnd up ge ddn
  have dsm : ∀ s, sm (dd s) := fun s => sm_nn (k := 60) (by have := ddb s; omega) (ddb s).2
  refine wp_scons (wp_for_dk (b := B_law_2) (fun j t => ∃ k12 k13 k14 k15 k16 k17 k18, t = [some (.ref 0), some (.int kk), some nums, some (.int am), some (.int b), some (.ref M.length), o6, some (.ref M1.length), some (.int t0), some (.lst (cs.map D.int)), some (.ref M'.length), some (.int sc2), k12, k13, k14, k15, k16, k17, k18])
    (evI_dct rfl hs3) hs3 ⟨k12, k13, k14, k15, k16, k17, k18, rfl⟩ ?_ ?_)
  · rintro j d t hd ⟨k12, k13, k14, k15, k16, k17, k18, rfl⟩
    rw [kvkeys, List.getElem?_map] at hd
    obtain ⟨s, hs, rfl⟩ := Option.map_eq_some_iff.mp hd
    have hsm : s ∈ ss := List.mem_of_getElem? hs
    rw [← hM4]
    show Wp (evS g_law B_law_2 [some (.ref 0), some (.int kk), some nums, some (.int am), some (.int b), some (.ref M.length), o6, some (.ref M1.length), some (.int t0), some (.lst (cs.map D.int)), some (.ref M'.length), some (.int sc2), some (.str s), k13, k14, k15, k16, k17, k18] M4) _ _
    unfold B_law_2
    refine wp_scons ?_
    rw [asg_v (x := .tup [.int (nn s), .int (dd s)]) (M1 := M4) (by simp [evE, ix5 s hsm]) (by simp), wp_nx]
    simp only [List.set_cons_zero, List.set_cons_succ]
    refine wp_scons ?_
    rw [if_f (e_if3 (by have := nnb s hsm; omega) (by have := ddb s; omega)), wp_nx]
    refine wp_scons (wp_for (b := B_law_3) (fun j t M2 => M2 = M4 ∧ ∃ k14 k15 k16 k17 k18, t = [some (.ref 0), some (.int kk), some nums, some (.int am), some (.int b), some (.ref M.length), o6, some (.ref M1.length), some (.int t0), some (.lst (cs.map D.int)), some (.ref M'.length), some (.int sc2), some (.str s), some (.tup [.int (nn s), .int (dd s)]), k14, k15, k16, k17, k18])
      (evI_lkd rfl hs4) ⟨rfl, k14, k15, k16, k17, k18, rfl⟩ ?_ ?_)
    · rintro i d t M2 hd2 ⟨rfl, k14, k15, k16, k17, k18, rfl⟩
      rw [kvkeys, List.getElem?_map] at hd2
      obtain ⟨u, hu, rfl⟩ := Option.map_eq_some_iff.mp hd2
      have hum : u ∈ ss := List.mem_of_getElem? hu
      obtain ⟨f1, f2, e⟩ := w_in (G := g_law) (k14 := k14) (k15 := k15) (k16 := k16) (k17 := k17) (k18 := k18) (ix5 u hum) (ia4 s hsm) (ia4 u hum) (mulOk_r (dsm u)) (mulOk_r (dsm s)) (mulOk_r (dsm u)) (mulOk_r (dsm s)) (mulOk_r (dsm s)) (mulOk_r (dsm u)) (c1 s u) (c2 s u)
      rw [e, wp_nx]
      exact ⟨rfl, _, _, _, _, _, rfl⟩
    · rintro t M2 ⟨rfl, k14, k15, k16, k17, k18, rfl⟩
      rw [evS_snil, wp_nx]
      exact ⟨rfl, _, _, _, _, _, _, _, rfl⟩
  · rintro t ⟨k12, k13, k14, k15, k16, k17, k18, rfl⟩
    rw [evS_snil, wp_nx]
    refine ⟨_, C ++ [.dct false (advK ads)] ++ [.dct false (advK ads)] ++ [.dct false kv], rfl, rfl, ?_⟩
    rw [hM3, hM2, hM1, hM]
    simp only [List.cons_append]
theorem law_true (ns : List Int) (c : Cell) (hl : ns.length ≤ 63) (hc : c = Cell.scr ns ∨ c = Cell.lkl (ns.map D.int)) : ∃ M', m_law [.ref 0] [c] = .ok (.bl true, M') := by
  have hs : scrC ns c := hc
  refine mk_wpP (P := fun r => ∃ M', r = .ok (.bl true, M')) rfl ?_
  show Wp (evS g_law T_law (some (.ref 0) :: List.replicate 18 none) [c]) _ _
  unfold T_law
  have hlen := scr_len (C := []) hs
  obtain ⟨n, hn, hn2⟩ : ∃ n : Int, n = ns.length ∧ 0 ≤ n := ⟨_, rfl, Int.natCast_nonneg _⟩
  rw [← hn] at hlen
  obtain ⟨r, hr⟩ : ∃ r : Int, r = (if (if 6 < n then 6 else n) > 1 then (if 6 < n then 6 else n) else 1) := ⟨_, rfl⟩
  have hr1 : 0 ≤ r ∧ r < 7 := by rw [hr]; split <;> split <;> omega
  have hev : evI g_law (.rng1 (.b2 .max (.c (.int 1)) (.b2 .min (.b1 .len false (.v 0)) (.c (.int 6))))) (some (.ref 0) :: List.replicate 18 none) [c] = .ok ((rngL 0 r, none), [c]) := by
    have e : b2D .max (.int 1) (.int (if 6 < n then 6 else n)) = some (.int r) := by simp only [b2D, hr]
    have e2 : b2D .min (.int n) (.int 6) = some (.int (if 6 < n then 6 else n)) := by simp only [b2D]
    simp only [evI, evE, List.getElem?_cons_zero, R.bind_ok, hlen, e2, R.ofO_some, e, fx_of hr1.1 hr1.2, if_true]
  refine wp_scons (wp_for (b := B_law_1) (fun j t M' => Tq c t M') hev ⟨_, [], rfl, rfl, rfl⟩ ?_ ?_)
  · rintro j x t M' hx ⟨l, C, rfl, hl, rfl⟩
    obtain ⟨_, rfl⟩ := rngL_get' hx
    obtain ⟨o1, o2, o3, o4, o5, o6, o7, o8, o9, o10, o11, o12, o13, o14, o15, o16, o17, o18, rfl⟩ := len18 hl
    rw [show (0 : Int) + (j : Int) = ((j : Nat) : Int) by omega]
    exact Wp.mono (turn (o1 := none) hs) (fun _ _ h => h) fun _ _ h => h.elim
  · rintro t M' ⟨l, C, rfl, hl, rfl⟩
    refine wp_scons ?_
    rw [evS_ret]
    simp only [evE, R.out_ok, wp_rt]
    exact trim_any
end K05
end
section
set_option maxRecDepth 100000
set_option maxHeartbeats 0
/-! the head of law_k05_levels_of_advances (printed by gen.py) -/
namespace P0
end P0
namespace K05
open PySem PySem.Spec L2 PyD P0
def names0 : List PySem.Str := [("gcd" : PySem.Str), ("ZERO" : PySem.Str), ("fraction" : PySem.Str), ("plus" : PySem.Str), ("minus" : PySem.Str), ("is_less" : PySem.Str), ("levels" : PySem.Str), ("share_of" : PySem.Str), ("_law_cell" : PySem.Str), ("_law_numbers" : PySem.Str)]
def names : List PySem.Str := names0
def d_fraction : He.DefD := ⟨("fraction", none), "fraction", "fraction", defArgs (top 3), defBody (top 3), defScope (top 3), [], []⟩
def d_plus : He.DefD := ⟨("plus", none), "plus", "plus", defArgs (top 4), defBody (top 4), defScope (top 4), [], []⟩
def d_minus : He.DefD := ⟨("minus", none), "minus", "minus", defArgs (top 5), defBody (top 5), defScope (top 5), [], []⟩
def d_is_less : He.DefD := ⟨("is_less", none), "is_less", "is_less", defArgs (top 6), defBody (top 6), defScope (top 6), [], []⟩
def d_share_of : He.DefD := ⟨("share_of", none), "share_of", "share_of", defArgs (top 9), defBody (top 9), defScope (top 9), [], []⟩
def d_levels : He.DefD := ⟨("levels", none), "levels", "levels", defArgs (top 8), defBody (top 8), defScope (top 8), [], []⟩
def d__law_cell : He.DefD := ⟨("_law_cell", none), "_law_cell", "_law_cell", defArgs (top 11), defBody (top 11), defScope (top 11), [], []⟩
def d__law_numbers : He.DefD := ⟨("_law_numbers", none), "_law_numbers", "_law_numbers", defArgs (top 12), defBody (top 12), defScope (top 12), [], []⟩
def d_law : He.DefD := ⟨("law", none), "law", "law", defArgs (top 13), defBody (top 13), defScope (top 13), [], []⟩
def fn : List He.DefD := [d_fraction, d_plus, d_minus, d_is_less, d_share_of, d_levels, d__law_cell, d__law_numbers, d_law]
def fa : List He.Fa := [.glo "fraction", .glo "plus", .glo "minus", .glo "is_less", .glo "share_of", .glo "levels", .glo "_law_cell", .glo "_law_numbers", .glo "law", .free "abs", .free "dict", .free "int", .free "len", .free "list", .free "max", .free "min", .free "range", .free "sorted", .free "str", .free "sum"]
def ex (K : PySem.W.Frag) : Bool := (bltB K "gcd" "math.gcd" && (tupC K "ZERO" [(.int 0), (.int 1)] && true))
abbrev R : PySem.W.OpenRow := PySem.W.OpenLaw.row PySem.Challenge.rw_parcener_k05_levels_of_advances
abbrev hk : PySem.W.Hook := hookX 4 ex fa fn
def ob (s : PySem.W.SharedT) : AlX := obsX 4 ex fa fn (HandSHeadRun.getT s)
theorem ob_eq (s : PySem.W.SharedT) : ob s = hk.obs s.abs := obsX_eq (HandSHeadRun.getT_eq s)
theorem run (w : World) : HandSHeadRun.RunEqI R (PySem.W.view R.prog [13]) hk ob 6000 names w := by
  unfold HandSHeadRun.RunEqI
  kernel_rfl
theorem tp {K : PySem.W.Frag} {h : Heap} {mg : Str → Option Value} (X : K.In h) (G : h.Ns mainGlobals mg) (e : ex K = true) (c : He.SaysD fa fn K) : Tp K mg where
  f_fraction := by
    obtain ⟨fd, F⟩ := c.def_ 0 (d := d_fraction) rfl
    exact ⟨_, fd, F, He.glo_ok X G (c.fact 0 (f := .glo "fraction") rfl)⟩
  f_plus := by
    obtain ⟨fd, F⟩ := c.def_ 1 (d := d_plus) rfl
    exact ⟨_, fd, F, He.glo_ok X G (c.fact 1 (f := .glo "plus") rfl)⟩
  f_minus := by
    obtain ⟨fd, F⟩ := c.def_ 2 (d := d_minus) rfl
    exact ⟨_, fd, F, He.glo_ok X G (c.fact 2 (f := .glo "minus") rfl)⟩
  f_is_less := by
    obtain ⟨fd, F⟩ := c.def_ 3 (d := d_is_less) rfl
    exact ⟨_, fd, F, He.glo_ok X G (c.fact 3 (f := .glo "is_less") rfl)⟩
  f_share_of := by
    obtain ⟨fd, F⟩ := c.def_ 4 (d := d_share_of) rfl
    exact ⟨_, fd, F, He.glo_ok X G (c.fact 4 (f := .glo "share_of") rfl)⟩
  f_levels := by
    obtain ⟨fd, F⟩ := c.def_ 5 (d := d_levels) rfl
    exact ⟨_, fd, F, He.glo_ok X G (c.fact 5 (f := .glo "levels") rfl)⟩
  f__law_cell := by
    obtain ⟨fd, F⟩ := c.def_ 6 (d := d__law_cell) rfl
    exact ⟨_, fd, F, He.glo_ok X G (c.fact 6 (f := .glo "_law_cell") rfl)⟩
  f__law_numbers := by
    obtain ⟨fd, F⟩ := c.def_ 7 (d := d__law_numbers) rfl
    exact ⟨_, fd, F, He.glo_ok X G (c.fact 7 (f := .glo "_law_numbers") rfl)⟩
  f_law := by
    obtain ⟨fd, F⟩ := c.def_ 8 (d := d_law) rfl
    exact ⟨_, fd, F, He.glo_ok X G (c.fact 8 (f := .glo "law") rfl)⟩
  b_abs := He.free_ok X G (c.fact 9 (f := .free "abs") rfl)
  b_dict := He.free_ok X G (c.fact 10 (f := .free "dict") rfl)
  b_int := He.free_ok X G (c.fact 11 (f := .free "int") rfl)
  b_len := He.free_ok X G (c.fact 12 (f := .free "len") rfl)
  b_list := He.free_ok X G (c.fact 13 (f := .free "list") rfl)
  b_max := He.free_ok X G (c.fact 14 (f := .free "max") rfl)
  b_min := He.free_ok X G (c.fact 15 (f := .free "min") rfl)
  b_range := He.free_ok X G (c.fact 16 (f := .free "range") rfl)
  b_sorted := He.free_ok X G (c.fact 17 (f := .free "sorted") rfl)
  b_str := He.free_ok X G (c.fact 18 (f := .free "str") rfl)
  b_sum := He.free_ok X G (c.fact 19 (f := .free "sum") rfl)
  b_gcd := bltB_ok X G (He.ba e).1
  c_ZERO := tupC_ok X G (He.ba (He.ba e).2).1
end K05
open PySem PySem.W PySem.Calls PyProof.Rows
theorem PySem.Challenge.cw_parcener_k05_levels_of_advances_holds : PySem.Challenge.rw_parcener_k05_levels_of_advances.Holds := by
  w_on; o_law
  refine HandSHeadRun.head_imp (r := OpenLaw.row PySem.Challenge.rw_parcener_k05_levels_of_advances) (q := view (OpenLaw.row PySem.Challenge.rw_parcener_k05_levels_of_advances).prog [13]) (H := K05.hk) (ob := K05.ob) (M := 6000) (loose := K05.names) (d := HandSHeadRun.topDef (OpenLaw.row PySem.Challenge.rw_parcener_k05_levels_of_advances).prog 13) (kwd := []) K05.ob_eq
    K05.run (by kernel_rfl) (by kernel_rfl) (by kernel_rfl) (by rfl) (by first | assumption | decide +kernel) (by decide +kernel) ⟨rfl, rfl, rfl, rfl, rfl, by decide +kernel⟩ ?hw ?hc
  case hw => w_witness2
  case hc =>
    refine L2.walk_ofE (l := PySem.Challenge.rw_parcener_k05_levels_of_advances) (n := 63) (k := 5) (x := "script") (CX := L2.CX0) rfl (by decide) (by kernel_rfl) ⟨rfl, by decide, by decide⟩ ?F (fun _ _ _ _ z => z)
    intro w mg fa h Y G hmg0
    obtain ⟨K, KX, ex, c⟩ := Y
    have hmg : mg ("law" : PySem.Str) = some (.ref fa) := by
      have e : (HandSHeadRun.topDef (OpenLaw.row PySem.Challenge.rw_parcener_k05_levels_of_advances).prog 13).name = ("law" : PySem.Str) := by kernel_rfl
      rw [← e]
      exact hmg0
    obtain ⟨fd, hb, hF⟩ := K05.ok_law (P := (PySem.Challenge.rw_parcener_k05_levels_of_advances).prog) (w := w) (cl := fun _ => 0) (K05.tp KX G ex c) hmg
    exact ⟨K, fd, PyD.spM K (fun _ => 0) K05.m_law, KX, hb, fun H a ns hl hO hS => PyD.law_sp hO hS fun c hc => K05.law_true ns c hl hc, fun base _ _ => hF base⟩
end
