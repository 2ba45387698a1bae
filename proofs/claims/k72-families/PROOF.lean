import PyProof.Rows.All
import Wide.All
import OpenK.AllK
import Wide.FinOn
import KE.LtData
import HandS.ForMost
import HandS.ForExc
import HandS.CallSlots
import HandS.Flow
import HandS.TupAny
import HandS.TupMul
import HandS.Deep
import HandS.IsInst
import HandS.Conv
import KE.DataCmp
import KE.SortData
import HandS.TupSets
import KE.KeyNested
import KE.KDictKeyed
import HandS.Style
import HandS.TryOnly
import HandS.Zip
import KE.GoesEnum
import HandS.Iter
import HandS.TryMany
import HandS.Ends
import HandS.ExcValue
import PySem.Challenge.RW_keykinds_k72_whole_families_of_closed_se
set_option Elab.async false
set_option linter.all false
set_option Elab.async false
set_option autoImplicit false
set_option linter.all false
set_option maxRecDepth 100000
/-! Zv: a core syntax of the programs at hand and its evaluator over plain data. -/
namespace Zv
open PySem

abbrev D := PyData

/-- what an owned slot holds -/
inductive Ob where
  | lst (xs : List D)
  | dct (kvs : List (D × D))
/-- a slot: frozen data; an object of the slot's own (lent: the caller's); a lent one that was frozen; what is lost -/
inductive SV where
  | val (d : D)
  | own (lent : Bool) (o : Ob)
  | kept (d : D)
  | dead
abbrev En := List (Option SV)
/-- what an expression gives: frozen data, data just made, the object of a slot -/
inductive EV where
  | v (d : D)
  | fr (d : D)
  | sl (i : Nat)
/-- an exception: its class by number, what it bears -/
structure Xn where
  cls : Nat
  arg : D
inductive R (α : Type) where
  | ok (a : α) (e : En)
  | ex (x : Xn) (e : En)
  | no

@[simp] def Ob.d : Ob → D
  | .lst xs => .list xs
  | .dct kvs => .dict kvs
/-- what is read off -/
@[simp] def look (e : En) : EV → Option D
  | .v d => some d
  | .fr d => some d
  | .sl i => match e[i]? with
    | some (some (.val d)) => some d
    | some (some (.own _ o)) => some o.d
    | some (some (.kept d)) => some d
    | _ => none
/-- .. and kept for good -/
@[simp] def frz (e : En) : EV → Option (D × En)
  | .v d => some (d, e)
  | .fr d => some (d, e)
  | .sl i => match e[i]? with
    | some (some (.val d)) => some (d, e)
    | some (some (.own false o)) => some (o.d, e.set i (some (.val o.d)))
    | some (some (.own true o)) => some (o.d, e.set i (some (.kept o.d)))
    | some (some (.kept d)) => some (d, e)
    | _ => none

abbrev M (α : Type) := En → R α
@[simp] def M.bind {α β : Type} (x : M α) (f : α → M β) : M β := fun e => match x e with
  | .ok a e' => f a e'
  | .ex x e' => .ex x e'
  | .no => .no
@[simp] def M.pure {α : Type} (a : α) : M α := fun e => .ok a e
@[simp] def M.lift {α : Type} (o : Option α) : M α := fun e => match o with
  | some a => .ok a e
  | none => .no
/-- an expression's value, read -/
@[simp] def rd (r : EV) : M D := fun e => match look e r with
  | some d => .ok d e
  | none => .no
@[simp] def fz (r : EV) : M D := fun e => match frz e r with
  | some (d, e') => .ok d e'
  | none => .no

/-! ### operations on data -/
def line : Nat := 16777216
inductive Bop where
  | add | sub | mul | fdiv | mod | shl | shr | band | bor | pow
  deriving DecidableEq
inductive Cop where
  | eq | ne | lt | le | gt | ge | is | isNot | inn | notIn
  deriving DecidableEq
inductive P1 where
  | len | tuple | list | all | any | abs | int | sum | max | min | sorted | repr | str | lset | sset
  deriving DecidableEq
inductive Ty where
  | int | bool | str | tuple | list
  deriving DecidableEq

@[simp] def truth : D → Option Bool
  | .none => some false
  | .bool b => some b
  | .int i => some (i != 0)
  | .str x => if x.length ≤ line then some (x.length != 0) else none
  | .list xs => some !xs.isEmpty
  | .tuple xs => some !xs.isEmpty
  | .dict kvs => some !kvs.isEmpty
@[simp] def b2i (b : Bool) : Int := if b then 1 else 0
/-- small enough for a product, a shift -/
def wide : Int := 2 ^ 2000
@[simp] def intBop : Bop → Int → Int → Option Int
  | .add, i, j => some (i + j)
  | .sub, i, j => some (i - j)
  | .mul, i, j => if (-(2 ^ 64) < i ∧ i < 2 ^ 64) ∨ (-(2 ^ 64) < j ∧ j < 2 ^ 64) then some (i * j) else none
  | .fdiv, i, j => if 0 < j ∧ j < 1073741824 then some (i / j) else none
  | .mod, i, j => if 0 < j then some (i % j) else none
  | .shl, i, j => if 0 ≤ j ∧ j ≤ 1000000 ∧ i.natAbs < 2 ^ 64 then some (i * 2 ^ j.toNat) else none
  | .shr, i, j => if 0 ≤ j then some (i / 2 ^ j.toNat) else none
  | .band, i, j => some (Builtin.bitAnd i j)
  | .bor, i, j => some (Builtin.bitOr i j)
  | .pow, i, j => if 0 ≤ j ∧ j ≤ 1000000 ∧ i.natAbs < 2 ^ 64 then some (i ^ j.toNat) else none
@[simp] def seqBop : Bop → D → D → Option EV
  | .add, .tuple xs, .tuple ys => if xs.length + ys.length ≤ line then some (.v (.tuple (xs ++ ys))) else none
  | .add, .list xs, .list ys => if xs.length + ys.length ≤ line then some (.fr (.list (xs ++ ys))) else none
  | .mul, .tuple xs, .int k => if xs.isEmpty = false ∧ -1000 ≤ k ∧ k ≤ 1000 ∧ xs.length ≤ 1000 then some (.v (.tuple (List.replicate k.toNat xs).flatten)) else none
  | .mul, .list xs, .int k => if -(2 ^ 63) ≤ k ∧ k < 2 ^ 63 ∧ xs.length * k.toNat ≤ line then some (.fr (.list (List.replicate k.toNat xs).flatten)) else none
  | .add, .str x, .str y => if x.length + y.length ≤ line then some (.v (.str (x ++ y))) else none
  | _, _, _ => none
@[simp] def bop (o : Bop) : D → D → Option EV
  | .int i, .int j => (intBop o i j).map fun k => .v (.int k)
  | a, b => seqBop o a b
/-- data that may be compared -/
def fit (d : D) : Bool := d.canLay0 && decide (d.depth ≤ 64)
@[simp] def eqD (a b : D) : Option Bool := if fit a && fit b then some (a.eqv b) else none
@[simp] def inD (x : D) : D → Option Bool
  | .list ys => if fit x && fit (.list ys) then some (ys.any fun y => y.eqv x) else none
  | .tuple ys => if fit x && fit (.tuple ys) then some (ys.any fun y => y.eqv x) else none
  | _ => none
@[simp] def isNone : D → Bool
  | .none => true
  | _ => false
/-- may be ordered -/
def ltOk (a b : D) : Bool := PySem.W.alike a b && !isNone a && decide (a.depth ≤ 64)
@[simp] def cop : Cop → D → D → Option Bool
  | .eq, a, b => eqD a b
  | .ne, a, b => (eqD a b).map (!·)
  | .lt, .int i, .int j => some (decide (i < j))
  | .le, .int i, .int j => some (decide (i ≤ j))
  | .gt, .int i, .int j => some (decide (j < i))
  | .ge, .int i, .int j => some (decide (j ≤ i))
  | .is, a, .none => some (isNone a)
  | .isNot, a, .none => some (!isNone a)
  | .inn, a, b => inD a b
  | .notIn, a, b => (inD a b).map (!·)
  | .lt, a, b => if ltOk a b then some (PySem.W.dataLt a b) else none
  | .gt, a, b => if ltOk a b then some (PySem.W.dataLt b a) else none
  | .le, a, b => if ltOk a b then some (!PySem.W.dataLt b a) else none
  | .ge, a, b => if ltOk a b then some (!PySem.W.dataLt a b) else none
  | _, _, _ => none
@[simp] def ixOf (n : Nat) (i : Int) : Option Nat := if 0 ≤ i then (if i < n then some i.toNat else none) else if -(n : Int) ≤ i then some (i + n).toNat else none
@[simp] def idxD : D → D → Option D
  | .list xs, .int i => (ixOf xs.length i).bind fun j => xs[j]?
  | .tuple xs, .int i => (ixOf xs.length i).bind fun j => xs[j]?
  | _, _ => none
def cutIx (n d : Nat) : Option Int → Nat
  | none => d
  | some v => if v < 0 then (max (v + (n : Int)) 0).toNat else min v.toNat n
def cutL {α : Type} (xs : List α) (lo hi : Option Int) : List α := (xs.drop (cutIx xs.length 0 lo)).take (cutIx xs.length xs.length hi - cutIx xs.length 0 lo)
@[simp] def cutD (lo hi : Option Int) : D → Option EV
  | .list xs => some (.fr (.list (cutL xs lo hi)))
  | .tuple xs => some (.v (.tuple (cutL xs lo hi)))
  | _ => none
@[simp] def boolsOf : List D → Option (List Bool)
  | [] => some []
  | .bool b :: r => (boolsOf r).map (b :: ·)
  | _ => none
@[simp] def intsOf : List D → Option (List Int)
  | [] => some []
  | .int b :: r => (intsOf r).map (b :: ·)
  | _ => none
@[simp] def isTy : Ty → D → Bool
  | .int, .int _ => true
  | .int, .bool _ => true
  | .bool, .bool _ => true
  | .str, .str _ => true
  | .tuple, .tuple _ => true
  | .list, .list _ => true
  | _, _ => false

/-! ### core -/
mutual
inductive E where
  | nev
  | k (d : D)
  | g (j : Nat)
  | v (i : Nat)
  | bin (o : Bop) (a b : E)
  | neg (a : E)
  | inv (a : E)
  | cmp (o : Cop) (a b : E)
  | chain (o p : Cop) (a b c : E)
  | nt (a : E)
  | an (es : Es)
  | orr (es : Es)
  | ife (c a b : E)
  | tup (es : Es)
  | lst (es : Es)
  | idx (a i : E)
  | cut (a : E) (lo hi : Eo)
  | call (f : Nat) (as : Es)
  | rev (a : E)
  | p1 (p : P1) (a : E)
  | pit (p : P1) (it : It)
  | isi (t : Ty) (a : E)
  | splt (a b : E)
  | lc (own : List Nat) (el : E) (t : Tg) (it : It) (ifs : Es)
  | lc2 (own own1 : List Nat) (el : E) (t : Tg) (it : It) (ifs : Es) (t1 : Tg) (it1 : It) (ifs1 : Es)
inductive Eo where
  | none
  | some (a : E)
inductive Es where
  | nil
  | cons (e : E) (r : Es)
inductive It where
  | sq (a : E)
  | rg (a : E)
  | rg2 (a b : E)
  | zip (a b : E)
  | enm (a : E)
inductive Tg where
  | nm (i : Nat)
  | ow (i : Nat)
  | tup (ts : Tgs)
inductive Tgs where
  | nil
  | cons (t : Tg) (r : Tgs)
end
mutual
inductive S where
  | nev
  | doc
  | asg (t : Tg) (e : E)
  | par (ts : Tgs) (es : Es)
  | setI (i : Nat) (ix : E) (e : E)
  | aug (i : Nat) (o : Bop) (e : E)
  | app (i : Nat) (e : E)
  | ext (i : Nat) (e : E)
  | ex (e : E)
  | iff (c : E) (a b : Ss)
  | whl (c : E) (b : Ss)
  | for (t : Tg) (it : It) (b : Ss)
  | ret (e : E)
  | retN
  | brk
  | cnt
  | pass
  | raise (c : Nat) (e : Option E)
  | try (b : Ss) (hs : Hs)
inductive Ss where
  | nil
  | cons (s : S) (r : Ss)
/-- clauses: a class, what the suite returns -/
inductive Hs where
  | nil
  | cons (c : Nat) (h : Hx) (r : Hs)
inductive Hx where
  | k (d : D)
end
end Zv

set_option Elab.async false
set_option autoImplicit false
set_option linter.all false
set_option maxRecDepth 100000
namespace Zv
open PySem

/-! ### the same data -/
mutual
def sm : D → D → Bool
  | .none, .none => true
  | .bool a, .bool b => a == b
  | .int a, .int b => decide (a = b)
  | .str a, .str b => decide (a = b)
  | .list a, .list b => smL a b
  | .tuple a, .tuple b => smL a b
  | .dict a, .dict b => smK a b
  | _, _ => false
def smL : List D → List D → Bool
  | [], [] => true
  | a :: r, b :: t => sm a b && smL r t
  | _, _ => false
def smK : List (D × D) → List (D × D) → Bool
  | [], [] => true
  | (a, c) :: r, (b, d) :: t => sm a b && sm c d && smK r t
  | _, _ => false
end
mutual
@[simp] theorem sm_self : ∀ a : D, sm a a = true
  | .none => by simp [sm]
  | .bool a => by simp [sm]
  | .int a => by simp [sm]
  | .str a => by simp [sm]
  | .list a => by simp only [sm]; exact smL_self a
  | .tuple a => by simp only [sm]; exact smL_self a
  | .dict a => by simp only [sm]; exact smK_self a
@[simp] theorem smL_self : ∀ a : List D, smL a a = true
  | [] => by simp [smL]
  | a :: r => by simp only [smL, sm_self a, smL_self r, Bool.and_self]
theorem smK_self : ∀ a : List (D × D), smK a a = true
  | [] => by simp [smK]
  | (a, c) :: r => by simp only [smK, sm_self a, sm_self c, smK_self r, Bool.and_self]
end
mutual
theorem sm_eq : ∀ a b : D, sm a b = true → a = b
  | .none, b, h => by cases b <;> simp [sm] at h ⊢
  | .bool a, b, h => by cases b <;> simp [sm] at h ⊢; exact h
  | .int a, b, h => by cases b <;> simp [sm] at h ⊢; exact h
  | .str a, b, h => by cases b <;> simp [sm] at h ⊢; exact h
  | .list a, b, h => by cases b <;> simp [sm] at h ⊢; exact smL_eq a _ h
  | .tuple a, b, h => by cases b <;> simp [sm] at h ⊢; exact smL_eq a _ h
  | .dict a, b, h => by cases b <;> simp [sm] at h ⊢; exact smK_eq a _ h
theorem smL_eq : ∀ a b : List D, smL a b = true → a = b
  | [], b, h => by cases b <;> simp [smL] at h ⊢
  | a :: r, b, h => by
    cases b with
    | nil => simp [smL] at h
    | cons b t => simp only [smL, Bool.and_eq_true] at h; rw [sm_eq a b h.1, smL_eq r t h.2]
theorem smK_eq : ∀ a b : List (D × D), smK a b = true → a = b
  | [], b, h => by cases b <;> simp [smK] at h ⊢
  | (a, c) :: r, b, h => by
    cases b with
    | nil => simp [smK] at h
    | cons b t =>
      obtain ⟨b, d⟩ := b
      simp only [smK, Bool.and_eq_true] at h
      rw [sm_eq a b h.1.1, sm_eq c d h.1.2, smK_eq r t h.2]
end

/-! ### order, sorting -/
/-- x < y of alike data, y not below x -/
def ltD (a b : D) : Bool := PySem.W.dataLt a b
/-- put x behind those that are not above it -/
def putIn {α : Type} (le : α → α → Bool) (x : α) : List α → List α
  | [] => [x]
  | y :: r => if le x y then x :: y :: r else y :: putIn le x r
def isort {α : Type} (le : α → α → Bool) : List α → List α
  | [] => []
  | x :: r => putIn le x (isort le r)
def leD (a b : D) : Bool := !ltD b a
def sortD (xs : List D) : List D := isort leD xs
def alikeAll (xs : List D) : Bool := xs.all fun a => xs.all fun b => PySem.W.alike a b
def isTup1 : D → Bool
  | .tuple (_ :: _) => true
  | _ => false
def isTup : D → Bool
  | .tuple _ => true
  | _ => false
/-- may be sorted -/
def srt (xs : List D) : Bool := alikeAll xs && (xs.all isTup || xs.all fun d => !isNone d && !isTup d) && xs.all (fun d => decide (d.depth ≤ 64)) && decide (xs.length ≤ line)
/-- each once, where it is met first -/
def onceD : List D → List D
  | [] => []
  | x :: r => x :: (onceD r).filter fun y => !sm x y

mutual
/-- may be hashed: whole numbers, texts, None, tuples of such -/
def keyed : D → Bool
  | .none => true
  | .int _ => true
  | .str _ => true
  | .tuple xs => keyedL xs
  | _ => false
def keyedL : List D → Bool
  | [] => true
  | x :: r => keyed x && keyedL r
end

def isInt : D → Bool
  | .int _ => true
  | _ => false
/-- a set of such can be made: whole numbers, or tuples that may be hashed -/
def setOk (xs : List D) : Bool := (xs.all isInt && decide (xs.length ≤ 1000)) || (xs.all (fun d => isTup d && keyed d && decide (d.depth ≤ 8)) && decide (xs.length < 70))
def lsetOf (xs : List D) : Option EV := if setOk xs then some (.v (.int (onceD xs).length)) else none
def ssetOf (xs : List D) : Option EV := if setOk xs && srt (onceD xs) then some (.fr (.list (sortD (onceD xs)))) else none
def maxOf : List Int → Int
  | [] => 0
  | x :: r => r.foldl max x
def minOf : List Int → Int
  | [] => 0
  | x :: r => r.foldl min x
def maxD (xs : List D) : Option EV := (intsOf xs).bind fun ns => if ns.isEmpty then none else some (.v (.int (maxOf ns)))
def minD (xs : List D) : Option EV := (intsOf xs).bind fun ns => if ns.isEmpty then none else some (.v (.int (minOf ns)))
@[simp] def p1 : P1 → D → Option EV
  | .lset, .list xs => lsetOf xs
  | .lset, .tuple xs => lsetOf xs
  | .sset, .list xs => ssetOf xs
  | .sset, .tuple xs => ssetOf xs
  | .max, .list xs => maxD xs
  | .max, .tuple xs => maxD xs
  | .min, .list xs => minD xs
  | .min, .tuple xs => minD xs
  | .len, .list xs => some (.v (.int xs.length))
  | .len, .tuple xs => some (.v (.int xs.length))
  | .len, .str x => if x.length ≤ line then some (.v (.int x.length)) else none
  | .tuple, .list xs => some (.v (.tuple xs))
  | .tuple, .tuple xs => some (.v (.tuple xs))
  | .list, .list xs => some (.fr (.list xs))
  | .list, .tuple xs => some (.fr (.list xs))
  | .all, .list xs => (boolsOf xs).map fun bs => .v (.bool (bs.all id))
  | .any, .list xs => (boolsOf xs).map fun bs => .v (.bool (bs.any id))
  | .abs, .int i => some (.v (.int (if i < 0 then -i else i)))
  | .int, .int i => some (.v (.int i))
  | .int, .bool b => some (.v (.int (b2i b)))
  | .sorted, .list xs => if srt xs then some (.fr (.list (sortD xs))) else none
  | .sorted, .tuple xs => if srt xs then some (.fr (.list (sortD xs))) else none
  | .repr, .list xs => if (PyData.list xs).showable && !(PyData.list xs).hasDict && decide ((PyData.list xs).depth ≤ 64) && decide ((PyData.list xs).shown.length ≤ line) then some (.v (.str (PyData.list xs).shown)) else none
  | .repr, .tuple xs => if (PyData.tuple xs).showable && !(PyData.tuple xs).hasDict && decide ((PyData.tuple xs).depth ≤ 64) && decide ((PyData.tuple xs).shown.length ≤ line) then some (.v (.str (PyData.tuple xs).shown)) else none
  | .sum, .list xs => (intsOf xs).map fun ns => .v (.int ns.sum)
  | _, _ => none

/-- x[::-1] -/
@[simp] def revD : D → Option EV
  | .list xs => some (.fr (.list xs.reverse))
  | .tuple xs => some (.v (.tuple xs.reverse))
  | _ => none
/-- text.split(sign) -/
@[simp] def splD : D → D → Option EV
  | .str x, .str y => if (y.length == 0) = false ∧ x.length + 2 ≤ line then some (.fr (.list ((Txt.split x y).map PyData.str))) else none
  | _, _ => none

/-! ### the callee -/
inductive Cres where
  | ok (d : D) (fr : Bool) (outs : En)
  | ex (x : Xn)
  | no
abbrev Cl := Nat → List SV → Cres
/-- an argument, at the call: an owned object is lent -/
@[simp] def argOf (e : En) : EV → Option SV
  | .v d => some (.val d)
  | .fr d => some (.val d)
  | .sl i => match e[i]? with
    | some (some (.val d)) => some (.val d)
    | some (some (.kept d)) => some (.val d)
    | some (some (.own _ o)) => some (.own true o)
    | _ => none
@[simp] def argsOf (e : En) : List EV → Option (List SV)
  | [] => some []
  | x :: r => (argOf e x).bind fun a => (argsOf e r).map (a :: ·)
@[simp] def slotsOf : List EV → List Nat
  | [] => []
  | .sl i :: r => i :: slotsOf r
  | .v _ :: r => slotsOf r
  | .fr _ :: r => slotsOf r
@[simp] def onceN : List Nat → Bool
  | [] => true
  | i :: r => !r.contains i && onceN r
/-- a lent object comes back -/
@[simp] def backSlot (b : Bool) : Option SV → SV
  | some (.own _ o) => .own b o
  | some (.kept d) => if b then .kept d else .val d
  | _ => .dead
@[simp] def backOf (e : En) : List EV → En → En
  | .sl i :: r, o :: os => match e[i]? with
    | some (some (.own b _)) => (backOf e r os).set i (some (backSlot b o))
    | _ => backOf e r os
  | .v _ :: r, _ :: os => backOf e r os
  | .fr _ :: r, _ :: os => backOf e r os
  | _, _ => e
@[simp] def loseOf (e : En) : List EV → En
  | [] => e
  | .sl i :: r => match e[i]? with
    | some (some (.own _ _)) => (loseOf e r).set i (some .dead)
    | _ => loseOf e r
  | .v _ :: r => loseOf e r
  | .fr _ :: r => loseOf e r
@[simp] def callM (cl : Cl) (f : Nat) (xs : List EV) : M EV := fun e =>
  if onceN (slotsOf xs) then match argsOf e xs with
    | none => .no
    | some as => match cl f as with
      | .ok d fr outs => .ok (if fr then .fr d else .v d) (backOf e xs outs)
      | .ex x => .ex x (loseOf e xs)
      | .no => .no
  else .no

/-! ### targets, comprehensions -/
@[simp] def putS (i : Nat) (a : SV) (e : En) : Option En := match e[i]? with
  | some none => some (e.set i (some a))
  | some (some (.val _)) => some (e.set i (some a))
  | some (some (.own false _)) => some (e.set i (some a))
  | _ => none
mutual
@[simp] def bindT : Tg → D → En → Option En
  | .nm i, d, e => putS i (.val d) e
  | .ow _, _, _ => none
  | .tup ts, .tuple ds, e => bindTs ts ds e
  | .tup ts, .list ds, e => bindTs ts ds e
  | .tup _, _, _ => none
@[simp] def bindTs : Tgs → List D → En → Option En
  | .nil, [], e => some e
  | .cons t r, d :: ds, e => (bindT t d e).bind (bindTs r ds)
  | _, _, _ => none
end
/-- a value that is just stored -/
@[simp] def asgT : Tg → EV → M Unit
  | .nm i, r => M.bind (fz r) fun d e => match putS i (.val d) e with
    | some e' => .ok () e'
    | none => .no
  | .ow i, .fr (.list xs) => fun e => match putS i (.own false (.lst xs)) e with
    | some e' => .ok () e'
    | none => .no
  | .ow i, .fr (.dict xs) => fun e => match putS i (.own false (.dct xs)) e with
    | some e' => .ok () e'
    | none => .no
  | .ow _, _ => fun _ => .no
  | .tup ts, r => M.bind (fz r) fun d e => match bindT (.tup ts) d e with
    | some e' => .ok () e'
    | none => .no
@[simp] def asgTs : Tgs → List EV → M Unit
  | .nil, [] => M.pure ()
  | .cons t r, x :: xs => M.bind (asgT t x) fun _ => asgTs r xs
  | _, _ => fun _ => .no
/-- slots' objects are frozen, what is just made stays so -/
@[simp] def frzAll : List EV → M (List EV)
  | [] => M.pure []
  | .fr d :: r => M.bind (frzAll r) fun ds => M.pure (.fr d :: ds)
  | x :: r => M.bind (fz x) fun d => M.bind (frzAll r) fun ds => M.pure (.v d :: ds)
@[simp] def fzAll : List EV → M (List D)
  | [] => M.pure []
  | x :: r => M.bind (fz x) fun d => M.bind (fzAll r) fun ds => M.pure (d :: ds)
@[simp] def wipeE (e : En) : List Nat → En
  | [] => e
  | v :: vs => (wipeE e vs).set v none
/-- the block's own slots as they were -/
@[simp] def mergeE (e0 e : En) : List Nat → En
  | [] => e
  | v :: vs => (mergeE e0 e vs).set v (e0.getD v none)
/-- what a loop walks, and whether it still stands so -/
structure Src where
  items : List D
  rs : List EV
  ok : En → Bool
@[simp] def stands (r : EV) (d : D) : En → Bool := match r with
  | .sl i => fun e => match look e (.sl i) with
    | some d' => sm d d'
    | none => false
  | _ => fun _ => true
@[simp] def itemsOf : D → Option (List D)
  | .list xs => some xs
  | .tuple xs => some xs
  | _ => none
def rangeD (lo : Int) (n : Nat) : List D := (List.range n).map fun (i : Nat) => .int (lo + i)
def enumD (xs : List D) : List D := (List.range xs.length).zipWith (fun (i : Nat) x => .tuple [.int i, x]) xs
def zipD (xs ys : List D) : List D := xs.zipWith (fun x y => .tuple [x, y]) ys
@[simp] def zipsOf : D → D → Option (List D)
  | .list xs, .list ys => some (zipD xs ys)
  | .tuple xs, .tuple ys => some (zipD xs ys)
  | _, _ => none
@[simp] def enumOf : D → Option (List D)
  | .list xs => some (enumD xs)
  | .tuple xs => some (enumD xs)
  | _ => none
@[simp] def inR (i : Int) : Bool := decide (-(2 ^ 62) ≤ i ∧ i < 2 ^ 62)
@[simp] def lcL (own : List Nat) (bind : D → En → Option En) (tests : M Bool) (more : M (List D)) (ok : En → Bool) : List D → M (List D)
  | [] => fun e => if ok (wipeE e own) then .ok [] e else .no
  | x :: xs => fun e => if ok (wipeE e own) then match bind x (wipeE e own) with
      | none => .no
      | some e1 => M.bind tests (fun b => if b then M.bind more fun ds => M.bind (lcL own bind tests more ok xs) fun r => M.pure (ds ++ r) else lcL own bind tests more ok xs) e1
    else .no
/-- no exception leaves a comprehension -/
@[simp] def M.tight {α : Type} (x : M α) : M α := fun e => match x e with
  | .ok a e' => .ok a e'
  | _ => .no
@[simp] def lstM (own : List Nat) (x : M (List D)) : M EV := fun e => match x e with
  | .ok ds e' => if ds.length ≤ line then .ok (.fr (.list ds)) (mergeE e e' own) else .no
  | _ => .no

@[simp] def Es.none : Es → Bool
  | .nil => true
  | _ => false

set_option maxRecDepth 100000 in
mutual
def ev (G : List D) (cl : Cl) : E → M EV
  | .nev => fun _ => .no
  | .k d => M.pure (.v d)
  | .g j => M.lift ((G[j]?).map .v)
  | .v i => fun e => match e[i]? with
    | some (some (.val d)) => .ok (.v d) e
    | some (some (.kept d)) => .ok (.v d) e
    | some (some (.own _ _)) => .ok (.sl i) e
    | _ => .no
  | .bin o a b => M.bind (ev G cl a) fun x => M.bind (ev G cl b) fun y => M.bind (rd x) fun d => M.bind (rd y) fun d' => M.lift (bop o d d')
  | .neg a => M.bind (ev G cl a) fun x => M.bind (rd x) fun d => match d with
    | .int i => M.pure (.v (.int (-i)))
    | _ => fun _ => .no
  | .inv a => M.bind (ev G cl a) fun x => M.bind (rd x) fun d => match d with
    | .int i => M.pure (.v (.int (Builtin.bitNot i)))
    | _ => fun _ => .no
  | .cmp o a b => M.bind (ev G cl a) fun x => M.bind (ev G cl b) fun y => M.bind (rd x) fun d => M.bind (rd y) fun d' => M.lift ((cop o d d').map fun b => .v (.bool b))
  | .chain o p a b c => M.bind (ev G cl a) fun x => M.bind (ev G cl b) fun y => M.bind (rd x) fun d => M.bind (rd y) fun d' => M.bind (M.lift (cop o d d')) fun t =>
      if t then M.bind (ev G cl c) fun z => M.bind (rd y) fun d' => M.bind (rd z) fun d'' => M.lift ((cop p d' d'').map fun b => .v (.bool b)) else M.pure (.v (.bool false))
  | .nt a => M.bind (ev G cl a) fun x => M.bind (rd x) fun d => M.bind (M.lift (truth d)) fun t => M.pure (.v (.bool (!t)))
  | .an es => evAn G cl es
  | .orr es => evOr G cl es
  | .ife c a b => M.bind (ev G cl c) fun x => M.bind (rd x) fun d => M.bind (M.lift (truth d)) fun t => if t then ev G cl a else ev G cl b
  | .tup es => M.bind (evs G cl es) fun xs => M.bind (fzAll xs) fun ds => M.pure (.v (.tuple ds))
  | .lst es => M.bind (evs G cl es) fun xs => M.bind (fzAll xs) fun ds => M.pure (.fr (.list ds))
  | .idx a i => M.bind (ev G cl a) fun x => M.bind (ev G cl i) fun y => M.bind (rd x) fun d => M.bind (rd y) fun d' => M.lift ((idxD d d').map .v)
  | .cut a lo hi => M.bind (ev G cl a) fun x => M.bind (evO G cl lo) fun l => M.bind (evO G cl hi) fun h => M.bind (rd x) fun d => M.lift (cutD l h d)
  | .call f as => M.bind (evs G cl as) fun xs => callM cl f xs
  | .rev a => M.bind (ev G cl a) fun x => M.bind (rd x) fun d => M.lift (revD d)
  | .p1 p a => M.bind (ev G cl a) fun x => M.bind (rd x) fun d => M.lift (p1 p d)
  | .pit p it => M.bind (evIt G cl it) fun s => if s.items.length ≤ line then M.lift (p1 p (.list s.items)) else fun _ => .no
  | .splt a b => M.bind (ev G cl a) fun x => M.bind (rd x) fun d => match d with
    | .str z => M.bind (ev G cl b) fun y => M.bind (rd y) fun d' => M.lift (splD (.str z) d')
    | _ => fun _ => .no
  | .isi t a => M.bind (ev G cl a) fun x => M.bind (rd x) fun d => M.pure (.v (.bool (isTy t d)))
  | .lc own el t it ifs => M.bind (evIt G cl it) fun s => lstM own (lcL own (bindT t) (evIf G cl ifs) (M.bind (ev G cl el) fun r => M.bind (fz r) fun d => M.pure [d]) s.ok s.items)
  | .lc2 own own1 el t it ifs t1 it1 ifs1 => M.bind (evIt G cl it) fun s => lstM own (lcL own (bindT t) (evIf G cl ifs)
      (M.bind (evIt G cl it1) fun s1 => lcL own1 (bindT t1) (evIf G cl ifs1) (M.bind (ev G cl el) fun r => M.bind (fz r) fun d => M.pure [d]) s1.ok s1.items) s.ok s.items)
/-- a bound of a slice: None, or a whole number -/
def evO (G : List D) (cl : Cl) : Eo → M (Option Int)
  | .none => M.pure none
  | .some a => M.bind (ev G cl a) fun x => M.bind (rd x) fun d => match d with
    | .int i => M.pure (some i)
    | _ => fun _ => .no
def evs (G : List D) (cl : Cl) : Es → M (List EV)
  | .nil => M.pure []
  | .cons a r => M.bind (ev G cl a) fun x => M.bind (evs G cl r) fun xs => M.pure (x :: xs)
def evAn (G : List D) (cl : Cl) : Es → M EV
  | .nil => fun _ => .no
  | .cons a r => M.bind (ev G cl a) fun x => if r.none then M.pure x else M.bind (rd x) fun d => M.bind (M.lift (truth d)) fun t => if t then evAn G cl r else M.pure x
def evOr (G : List D) (cl : Cl) : Es → M EV
  | .nil => fun _ => .no
  | .cons a r => M.bind (ev G cl a) fun x => if r.none then M.pure x else M.bind (rd x) fun d => M.bind (M.lift (truth d)) fun t => if t then M.pure x else evOr G cl r
def evIf (G : List D) (cl : Cl) : Es → M Bool
  | .nil => M.pure true
  | .cons a r => M.bind (ev G cl a) fun x => M.bind (rd x) fun d => M.bind (M.lift (truth d)) fun t => if t then evIf G cl r else M.pure false
def evIt (G : List D) (cl : Cl) : It → M Src
  | .sq a => M.bind (ev G cl a) fun x => M.bind (rd x) fun d => M.bind (M.lift (itemsOf d)) fun xs => M.pure ⟨xs, [x], stands x d⟩
  | .rg a => M.bind (ev G cl a) fun x => M.bind (rd x) fun d => match d with
    | .int n => if inR n then M.pure ⟨rangeD 0 n.toNat, [], fun _ => true⟩ else fun _ => .no
    | _ => fun _ => .no
  | .rg2 a b => M.bind (ev G cl a) fun x => M.bind (ev G cl b) fun y => M.bind (rd x) fun d => M.bind (rd y) fun d' => match d, d' with
    | .int m, .int n => if inR m && inR n then M.pure ⟨rangeD m (n - m).toNat, [], fun _ => true⟩ else fun _ => .no
    | _, _ => fun _ => .no
  | .zip a b => M.bind (ev G cl a) fun x => M.bind (ev G cl b) fun y => M.bind (rd x) fun d => M.bind (rd y) fun d' => M.bind (M.lift (zipsOf d d')) fun xs =>
      M.pure ⟨xs, [x, y], fun e => stands x d e && stands y d' e⟩
  | .enm a => M.bind (ev G cl a) fun x => M.bind (rd x) fun d => M.bind (M.lift (enumOf d)) fun xs => M.pure ⟨xs, [x], stands x d⟩
end

/-! ### statements -/
inductive SR where
  | nx (e : En)
  | rt (d : D) (fr : Bool) (e : En)
  | bk (e : En)
  | ct (e : En)
  | ex (x : Xn) (e : En)
  | no
@[simp] def SR.of {α : Type} (x : R α) (f : α → En → SR) : SR := match x with
  | .ok a e => f a e
  | .ex x e => .ex x e
  | .no => .no
@[simp] def SR.then (x : SR) (f : En → SR) : SR := match x with
  | .nx e => f e
  | r => r
@[simp] def whL (test : M Bool) (body : En → SR) : Nat → En → SR
  | 0, _ => .no
  | n + 1, e => SR.of (test e) fun b e1 => if b then match body e1 with
      | .nx e2 => whL test body n e2
      | .ct e2 => whL test body n e2
      | .bk e2 => .nx e2
      | r => r
    else .nx e1
@[simp] def forL (bind : D → En → Option En) (body : En → SR) (ok : En → Bool) : List D → En → SR
  | [], e => if ok e then .nx e else .no
  | x :: xs, e => if ok e then match bind x e with
      | none => .no
      | some e1 => match body e1 with
        | .nx e2 => forL bind body ok xs e2
        | .ct e2 => forL bind body ok xs e2
        | .bk e2 => .nx e2
        | r => r
    else .no
/-- what a loop walks is not stored anew -/
@[simp] def lockE (e : En) : List EV → En
  | .sl i :: r => match (lockE e r)[i]? with
    | some (some (.own _ o)) => (lockE e r).set i (some (.own true o))
    | _ => lockE e r
  | .v _ :: r => lockE e r
  | .fr _ :: r => lockE e r
  | [] => e
@[simp] def openE (e0 e : En) : List EV → En
  | .sl i :: r => match e0[i]?, (openE e0 e r)[i]? with
    | some (some (.own false _)), some (some (.own true o)) => (openE e0 e r).set i (some (.own false o))
    | some (some (.own false _)), some (some (.kept d)) => (openE e0 e r).set i (some (.val d))
    | _, _ => openE e0 e r
  | .v _ :: r => openE e0 e r
  | .fr _ :: r => openE e0 e r
  | [] => e
@[simp] def isOwn (e : En) (i : Nat) : Bool := match e[i]? with
  | some (some (.own _ _)) => true
  | _ => false
@[simp] def lockOk (e : En) : List EV → Bool
  | [] => true
  | .sl i :: r => isOwn e i && lockOk e r
  | .v _ :: r => lockOk e r
  | .fr _ :: r => lockOk e r
@[simp] def SR.map (f : En → En) : SR → SR
  | .nx e => .nx (f e)
  | .rt d b e => .rt d b (f e)
  | .bk e => .bk (f e)
  | .ct e => .ct (f e)
  | .ex x e => .ex x (f e)
  | .no => .no
@[simp] def testOf (x : M EV) : M Bool := M.bind x fun r => M.bind (rd r) fun d => M.lift (truth d)
def turns : Nat := 2 ^ 60
@[simp] def retOf (r : EV) : En → SR := match r with
  | .v d => fun e => .rt d false e
  | .fr d => fun e => .rt d true e
  | .sl i => fun e => match e[i]? with
    | some (some (.val d)) => .rt d false e
    | some (some (.kept d)) => .rt d false e
    | some (some (.own false o)) => .rt o.d true (e.set i none)
    | some (some (.own true o)) => .rt o.d false (e.set i (some (.kept o.d)))
    | _ => .no
/-- does a clause of class c take an exception: 3 is the base class -/
@[simp] def takesX (c : Nat) (x : Xn) : Bool := c == 3 || c == x.cls
@[simp] def evHx (x : Xn) : Hx → Option D
  | .k d => some d
@[simp] def evHs (x : Xn) (e : En) : Hs → SR
  | .nil => .ex x e
  | .cons c h r => if takesX c x then match evHx x h with
      | some d => .rt d false e
      | none => .no
    else evHs x e r
@[simp] def setOb : Ob → D → D → Option Ob
  | .lst xs, .int i, d => (ixOf xs.length i).map fun j => .lst (xs.set j d)
  | _, _, _ => none
mutual
def evS (G : List D) (cl : Cl) : S → En → SR
  | .nev => fun _ => .no
  | .doc => .nx
  | .asg t a => fun e => SR.of (M.bind (ev G cl a) (asgT t) e) fun _ => .nx
  | .par ts es => fun e => SR.of (M.bind (evs G cl es) (fun xs => M.bind (frzAll xs) (asgTs ts)) e) fun _ => .nx
  | .setI i ix a => fun e => if isOwn e i then SR.of (M.bind (ev G cl a) (fun r => M.bind (ev G cl ix) fun y => M.bind (fz r) fun d => M.bind (rd y) fun d' e => match e[i]? with
      | some (some (.own b o)) => match setOb o d' d with
        | some o' => .ok () (e.set i (some (.own b o')))
        | none => .no
      | _ => .no) e) (fun _ => .nx) else .no
  | .aug i o a => fun e => match e[i]? with
      | some (some (.val (.int m))) => SR.of (M.bind (ev G cl a) (fun r => M.bind (rd r) fun d => match d with
          | .int n => M.bind (M.lift (intBop o m n)) fun k => asgT (.nm i) (.v (.int k))
          | _ => fun _ => .no) e) fun _ => .nx
      | _ => .no
  | .app i a => fun e => if isOwn e i then SR.of (M.bind (ev G cl a) (fun r => M.bind (fz r) fun d e => match e[i]? with
      | some (some (.own b (.lst xs))) => if xs.length < line then .ok () (e.set i (some (.own b (.lst (xs ++ [d]))))) else .no
      | _ => .no) e) (fun _ => .nx) else .no
  | .ext i a => fun e => if isOwn e i then SR.of (M.bind (ev G cl a) (fun r => M.bind (rd r) fun d e => match e[i]?, d with
      | some (some (.own b (.lst xs))), .list ys => if xs.length + ys.length ≤ line then .ok () (e.set i (some (.own b (.lst (xs ++ ys))))) else .no
      | _, _ => .no) e) (fun _ => .nx) else .no
  | .ex a => fun e => SR.of (ev G cl a e) fun _ => .nx
  | .iff c a b => fun e => SR.of (testOf (ev G cl c) e) fun t e => if t then evSs G cl a e else evSs G cl b e
  | .whl c b => whL (testOf (ev G cl c)) (evSs G cl b) turns
  | .for t it b => fun e => SR.of (evIt G cl it e) fun s e1 => if lockOk e1 s.rs then SR.map (fun e2 => openE e1 e2 s.rs) (forL (bindT t) (evSs G cl b) s.ok s.items (lockE e1 s.rs)) else .no
  | .ret a => fun e => SR.of (ev G cl a e) retOf
  | .retN => fun e => .rt .none false e
  | .brk => .bk
  | .cnt => .ct
  | .pass => .nx
  | .raise c a => match a with
    | none => fun e => .ex ⟨c, .none⟩ e
    | some a => fun e => SR.of (M.bind (ev G cl a) rd e) fun d e => .ex ⟨c, d⟩ e
  | .try b hs => fun e => match evSs G cl b e with
    | .ex x e1 => evHs x e1 hs
    | r => r
def evSs (G : List D) (cl : Cl) : Ss → En → SR
  | .nil => .nx
  | .cons s r => fun e => SR.then (evS G cl s e) (evSs G cl r)
end

structure Fn where
  np : Nat
  ns : Nat
  body : Ss
/-- lent objects as they stand at the end, the rest as it was -/
@[simp] def outsOf : List SV → En → En
  | [], _ => []
  | .own _ _ :: r, x :: e => x :: outsOf r e
  | .own _ _ :: r, [] => some .dead :: outsOf r []
  | .val d :: r, e => some (.val d) :: outsOf r (e.drop 1)
  | .kept d :: r, e => some (.kept d) :: outsOf r (e.drop 1)
  | .dead :: r, e => some .dead :: outsOf r (e.drop 1)
@[simp] def fnEnd (as : List SV) : SR → Cres
  | .nx e => .ok .none false (outsOf as e)
  | .rt d fr e => .ok d fr (outsOf as e)
  | .ex x _ => .ex x
  | _ => .no
@[simp] def noMine : List SV → Bool
  | [] => true
  | .own false _ :: _ => false
  | _ :: r => noMine r
def callAt (G : List D) (T : List Fn) : Nat → Cl
  | 0, _, _ => .no
  | k + 1, f, as => match T[f]? with
    | none => .no
    | some fn => if as.length = fn.np ∧ noMine as = true then fnEnd as (evSs G (callAt G T k) fn.body (as.map some ++ List.replicate (fn.ns - fn.np) none)) else .no
end Zv
example : Zv.callAt [] [⟨1, 1, .cons (.ret (.bin .add (.v 0) (.k (.int 1)))) .nil⟩] 3 0 [.val (.int 4)] = .ok (.int 5) false [some (.val (.int 4))] := by rfl

set_option Elab.async false
set_option autoImplicit false
set_option linter.all false
set_option maxRecDepth 100000
namespace Zv
open PySem PySem.Spec L2
open PyProof.Rows hiding St

/-- a tuple of the module's own -/
def KTup (K : PySem.W.Frag) (a : Addr) (xs : List V) : Prop :=
  ∃ (o : Obj) (its : Array Value) (n : Nat), K.lookup a = some o ∧ o.cls = .type "tuple" ∧ o.data = .seq its n ∧ its.size ≤ sizeLine ∧ Vals xs its.toList
/-- a list of the module's own -/
def KLst (K : PySem.W.Frag) (a : Addr) (xs : List V) : Prop :=
  ∃ (its : List Value) (n : Nat), K.lookup a = some { cls := .type "list", data := .seq its.toArray n } ∧ xs.length ≤ sizeLine ∧ Vals xs its
/-- a list that is read -/
def RdK (K : PySem.W.Frag) (H : Hp) (a : Addr) (xs : List V) : Prop := Rd H a (.lst xs) ∨ KLst K a xs
theorem RdK.sq {K : PySem.W.Frag} {H : Hp} {a : Addr} {xs : List V} (h : RdK K H a xs) : SqL K H a xs := by
  rcases h with h | ⟨its, n, h, hz, r⟩
  · exact .inl h
  · exact .inr ⟨_, its.toArray, n, h, rfl, rfl, rfl, by rw [List.size_toArray, ← r.length]; exact hz, by simpa using r⟩
mutual
/-- v is the data d; F: the addresses that nobody writes any more -/
inductive Rp (K : PySem.W.Frag) (F : Addr → Prop) (H : Hp) : V → D → Prop
  | non : Rp K F H .non .none
  | bl (b : Bool) : Rp K F H (.bl b) (.bool b)
  | int (i : Int) : Rp K F H (.int i) (.int i)
  | str (x : Str) : Rp K F H (.str x) (.str x)
  | tup {a : Addr} {xs : List V} {ds : List D} : (F a ∧ H a = some (.tup xs)) ∨ KTup K a xs → RpL K F H xs ds → Rp K F H (.ref a) (.tuple ds)
  | lst {a : Addr} {xs : List V} {ds : List D} : (F a ∧ Rd H a (.lst xs)) ∨ KLst K a xs → RpL K F H xs ds → Rp K F H (.ref a) (.list ds)
inductive RpL (K : PySem.W.Frag) (F : Addr → Prop) (H : Hp) : List V → List D → Prop
  | nil : RpL K F H [] []
  | cons {v : V} {vs : List V} {d : D} {ds : List D} : Rp K F H v d → RpL K F H vs ds → RpL K F H (v :: vs) (d :: ds)
end
/-- an owned object -/
inductive RpO (K : PySem.W.Frag) (F : Addr → Prop) (H : Hp) : Addr → Ob → Prop
  | lst {a : Addr} {xs : List V} {ds : List D} : H a = some (.lst xs) → RpL K F H xs ds → RpO K F H a (.lst ds)

section
variable {K : PySem.W.Frag} {F F' : Addr → Prop} {H H' : Hp}
theorem Rd.keep {a : Addr} {u : HO} (h : Rd H a u) (k : ∀ o, H a = some o → H' a = some o) : Rd H' a u := by
  rcases h with h | ⟨o, h⟩
  · exact .inl (k _ h)
  · exact .inr ⟨o, k _ h⟩
mutual
theorem Rp.mono (hF : ∀ a, F a → F' a) (hH : ∀ a o, F a → H a = some o → H' a = some o) : ∀ {v : V} {d : D}, Rp K F H v d → Rp K F' H' v d
  | _, _, .non => .non
  | _, _, .bl b => .bl b
  | _, _, .int i => .int i
  | _, _, .str x => .str x
  | _, _, .tup (.inl ⟨f, h⟩) r => .tup (.inl ⟨hF _ f, hH _ _ f h⟩) (RpL.mono hF hH r)
  | _, _, .tup (.inr h) r => .tup (.inr h) (RpL.mono hF hH r)
  | _, _, .lst (.inl ⟨f, h⟩) r => .lst (.inl ⟨hF _ f, Rd.keep h fun o e => hH _ o f e⟩) (RpL.mono hF hH r)
  | _, _, .lst (.inr h) r => .lst (.inr h) (RpL.mono hF hH r)
theorem RpL.mono (hF : ∀ a, F a → F' a) (hH : ∀ a o, F a → H a = some o → H' a = some o) : ∀ {vs : List V} {ds : List D}, RpL K F H vs ds → RpL K F' H' vs ds
  | _, _, .nil => .nil
  | _, _, .cons h r => .cons (Rp.mono hF hH h) (RpL.mono hF hH r)
end
theorem RpO.mono (hF : ∀ a, F a → F' a) (hH : ∀ a o, F a → H a = some o → H' a = some o) {a : Addr} {o : Ob} (h : RpO K F H a o) (ha : ∀ o, H a = some o → H' a = some o) : RpO K F' H' a o := by
  cases h with
  | lst h r => exact .lst (ha _ h) (r.mono hF hH)
theorem RpL.length {vs : List V} {ds : List D} (h : RpL K F H vs ds) : vs.length = ds.length := by
  induction vs generalizing ds with
  | nil => cases h; rfl
  | cons v vs ih =>
    cases h with
    | cons _ t => simp [ih t]
theorem RpL.get {vs : List V} {ds : List D} (h : RpL K F H vs ds) : ∀ {i : Nat} {d : D}, ds[i]? = some d → ∃ v, vs[i]? = some v ∧ Rp K F H v d := by
  induction vs generalizing ds with
  | nil => cases h; intro i d e; simp at e
  | cons v vs ih =>
    cases h with
    | cons h t =>
      intro i d e
      cases i with
      | zero => simp at e; subst e; exact ⟨v, rfl, h⟩
      | succ i => simp at e; obtain ⟨w, e1, r⟩ := ih t e; exact ⟨w, by simpa using e1, r⟩
theorem RpL.append {vs ws : List V} {ds es : List D} (h : RpL K F H vs ds) (h' : RpL K F H ws es) : RpL K F H (vs ++ ws) (ds ++ es) := by
  induction vs generalizing ds with
  | nil => cases h; exact h'
  | cons v vs ih =>
    cases h with
    | cons h t => exact .cons h (ih t)
theorem RpL.take {vs : List V} {ds : List D} (h : RpL K F H vs ds) : ∀ n : Nat, RpL K F H (vs.take n) (ds.take n) := by
  induction vs generalizing ds with
  | nil => cases h; intro n; simp; exact .nil
  | cons v vs ih =>
    cases h with
    | cons h t =>
      intro n
      cases n with
      | zero => exact .nil
      | succ n => exact .cons h (ih t n)
theorem RpL.drop {vs : List V} {ds : List D} (h : RpL K F H vs ds) : ∀ n : Nat, RpL K F H (vs.drop n) (ds.drop n) := by
  induction vs generalizing ds with
  | nil => cases h; intro n; simp; exact .nil
  | cons v vs ih =>
    cases h with
    | cons h t =>
      intro n
      cases n with
      | zero => exact .cons h t
      | succ n => exact ih t n
theorem RpL.set {vs : List V} {ds : List D} (h : RpL K F H vs ds) {v : V} {d : D} (r : Rp K F H v d) : ∀ n : Nat, RpL K F H (vs.set n v) (ds.set n d) := by
  induction vs generalizing ds with
  | nil => cases h; intro n; exact .nil
  | cons w vs ih =>
    cases h with
    | cons h t =>
      intro n
      cases n with
      | zero => exact .cons r t
      | succ n => exact .cons h (ih t n)

theorem RpL.rev {vs : List V} {ds : List D} (h : RpL K F H vs ds) : RpL K F H vs.reverse ds.reverse := by
  induction vs generalizing ds with
  | nil => cases h; exact .nil
  | cons v vs ih =>
    cases h with
    | cons h t => rw [List.reverse_cons, List.reverse_cons]; exact (ih t).append (.cons h .nil)
theorem RpL.rep {vs : List V} {ds : List D} (h : RpL K F H vs ds) : ∀ n : Nat, RpL K F H (List.replicate n vs).flatten (List.replicate n ds).flatten
  | 0 => .nil
  | n + 1 => by rw [List.replicate_succ, List.replicate_succ, List.flatten_cons, List.flatten_cons]; exact h.append (RpL.rep h n)
/-- slot i holds a -/
abbrev Sl (e : En) (i : Nat) (a : SV) : Prop := e[i]? = some (some a)
abbrev Vl (σ : St) (i : Nat) (v : V) : Prop := σ[i]? = some (some v)
/-- the address of an owned slot -/
def Own (σ : St) (e : En) (a : Addr) : Prop := ∃ i b o, Sl e i (.own b o) ∧ Vl σ i (.ref a)
/-- slots and heap are as the evaluator's -/
structure Er (K : PySem.W.Frag) (F : Addr → Prop) (H : Hp) (σ : St) (e : En) : Prop where
  len : e.length = σ.length
  fok : ∀ a, F a → H a ≠ none
  val : ∀ i d, Sl e i (.val d) → ∃ v, Vl σ i v ∧ Rp K F H v d
  kept : ∀ i d, Sl e i (.kept d) → ∃ v, Vl σ i v ∧ Rp K F H v d
  own : ∀ i b o, Sl e i (.own b o) → ∃ a, Vl σ i (.ref a) ∧ ¬ F a ∧ RpO K F H a o
  apart : ∀ i j b c o p a, Sl e i (.own b o) → Sl e j (.own c p) → Vl σ i (.ref a) → Vl σ j (.ref a) → i = j
/-- what a value is; N: the addresses that were free ahead of it -/
inductive Rv (K : PySem.W.Frag) (N F : Addr → Prop) (H : Hp) (σ : St) (e : En) : V → EV → Prop
  | v {v : V} {d : D} : Rp K F H v d → Rv K N F H σ e v (.v d)
  | fr {a : Addr} {o : Ob} : N a → ¬ F a → ¬ Own σ e a → RpO K F H a o → Rv K N F H σ e (.ref a) (.fr o.d)
  | sl {v : V} {i : Nat} : Vl σ i v → Rv K N F H σ e v (.sl i)
/-- from here to there; x: no slot is stored; B: what may be frozen besides -/
structure Po (K : PySem.W.Frag) (x : Bool) (B F : Addr → Prop) (H : Hp) (σ : St) (e : En) (F' : Addr → Prop) (H' : Hp) (σ' : St) (e' : En) : Prop where
  rel : Er K F' H' σ' e'
  inc : ∀ a, F a → F' a
  keep : ∀ a o, H a = some o → ¬ Own σ e a → H' a = some o
  dom : ∀ a, H a ≠ none → H' a ≠ none
  new : ∀ a, F' a → F a ∨ H a = none ∨ Own σ e a ∨ B a
  own : ∀ i b o, Sl e' i (.own b o) → (∃ o', Sl e i (.own b o') ∧ σ'[i]? = σ[i]?) ∨ (x = false ∧ b = false ∧ ∃ a, Vl σ' i (.ref a) ∧ H a = none)
  lent : ∀ i o, Sl e i (.own true o) → σ'[i]? = σ[i]? ∧ ((∃ o', Sl e' i (.own true o')) ∨ (∃ d, Sl e' i (.kept d)) ∨ Sl e' i .dead)
  kept : ∀ i d, Sl e i (.kept d) → σ'[i]? = σ[i]? ∧ Sl e' i (.kept d)
  dead : ∀ i, Sl e i .dead → σ'[i]? = σ[i]? ∧ Sl e' i .dead

/-- free places -/
abbrev Fre (H : Hp) : Addr → Prop := fun a => H a = none
abbrev Non : Addr → Prop := fun _ => False
/-- .. and what was there to be frozen already -/
abbrev More (B : Addr → Prop) (H : Hp) : Addr → Prop := fun a => B a ∨ H a = none
variable {x : Bool} {B B' : Addr → Prop} {σ σ' σ'' : St} {e e' e'' : En} {F'' : Addr → Prop} {H'' : Hp}
theorem Er.nf (r : Er K F H σ e) {a : Addr} (h : Own σ e a) : ¬ F a := by
  obtain ⟨i, b, o, e1, e2⟩ := h
  obtain ⟨a', e3, nf, _⟩ := r.own i b o e1
  cases e2.symm.trans e3
  exact nf
theorem Er.od (r : Er K F H σ e) {a : Addr} (h : Own σ e a) : H a ≠ none := by
  obtain ⟨i, b, o, e1, e2⟩ := h
  obtain ⟨a', e3, nf, q⟩ := r.own i b o e1
  cases e2.symm.trans e3
  cases q with
  | lst h _ => rw [h]; simp
theorem Po.refl (r : Er K F H σ e) : Po K x B F H σ e F H σ e :=
  ⟨r, fun _ h => h, fun _ _ h _ => h, fun _ h => h, fun _ h => .inl h, fun i b o h => .inl ⟨o, h, rfl⟩, fun i o h => ⟨rfl, .inl ⟨o, h⟩⟩, fun i d h => ⟨rfl, h⟩, fun i h => ⟨rfl, h⟩⟩
theorem Po.own' (p : Po K x B F H σ e F' H' σ' e') {a : Addr} (h : Own σ' e' a) : Own σ e a ∨ H a = none := by
  obtain ⟨i, b, o, e1, e2⟩ := h
  rcases p.own i b o e1 with ⟨o', e3, e4⟩ | ⟨_, _, a', e3, e4⟩
  · exact .inl ⟨i, b, o', e3, e4.symm.trans e2⟩
  · cases e2.symm.trans e3; exact .inr e4
theorem Po.keepF (p : Po K x B F H σ e F' H' σ' e') (r : Er K F H σ e) : ∀ a o, F a → H a = some o → H' a = some o := fun a o f h => p.keep a o h fun q => r.nf q f
theorem Po.rp (p : Po K x B F H σ e F' H' σ' e') (r : Er K F H σ e) {v : V} {d : D} (h : Rp K F H v d) : Rp K F' H' v d := h.mono p.inc (p.keepF r)
theorem Po.rpL (p : Po K x B F H σ e F' H' σ' e') (r : Er K F H σ e) {v : List V} {d : List D} (h : RpL K F H v d) : RpL K F' H' v d := h.mono p.inc (p.keepF r)
theorem Po.wide (p : Po K x B F H σ e F' H' σ' e') (h : ∀ a, B a → B' a) : Po K x B' F H σ e F' H' σ' e' :=
  ⟨p.rel, p.inc, p.keep, p.dom, fun a q => (p.new a q).imp id (Or.imp id (Or.imp id (h a))), p.own, p.lent, p.kept, p.dead⟩
theorem Po.loose (p : Po K true B F H σ e F' H' σ' e') : Po K x B F H σ e F' H' σ' e' :=
  ⟨p.rel, p.inc, p.keep, p.dom, p.new, fun i b o q => (p.own i b o q).imp id fun z => absurd z.1 (by simp), p.lent, p.kept, p.dead⟩
theorem Po.trans (p : Po K x B F H σ e F' H' σ' e') (r : Er K F H σ e) (q : Po K x (More B H) F' H' σ' e' F'' H'' σ'' e'') : Po K x B F H σ e F'' H'' σ'' e'' where
  rel := q.rel
  inc := fun a h => q.inc a (p.inc a h)
  keep := fun a o h n => q.keep a o (p.keep a o h n) fun z => by
    rcases p.own' z with z | z
    · exact n z
    · rw [h] at z; cases z
  dom := fun a h => q.dom a (p.dom a h)
  new := fun a h => by
    rcases q.new a h with z | z | z | z | z
    · exact p.new a z
    · by_cases c : H a = none
      · exact .inr (.inl c)
      · exact absurd z (p.dom a c)
    · rcases p.own' z with z | z
      · exact .inr (.inr (.inl z))
      · exact .inr (.inl z)
    · exact .inr (.inr (.inr z))
    · exact .inr (.inl z)
  own := fun i b o h => by
    rcases q.own i b o h with ⟨o', e3, e4⟩ | ⟨hx, hb, a, e3, e4⟩
    · rcases p.own i b o' e3 with ⟨o2, e5, e6⟩ | ⟨hx, hb, a, e5, e6⟩
      · exact .inl ⟨o2, e5, e4.trans e6⟩
      · exact .inr ⟨hx, hb, a, e4.trans e5, e6⟩
    · refine .inr ⟨hx, hb, a, e3, ?_⟩
      by_cases c : H a = none
      · exact c
      · exact absurd e4 (p.dom a c)
  lent := fun i o h => by
    obtain ⟨e1, h1⟩ := p.lent i o h
    rcases h1 with ⟨o', h1⟩ | ⟨d, h1⟩ | h1
    · obtain ⟨e2, h2⟩ := q.lent i o' h1
      exact ⟨e2.trans e1, h2⟩
    · obtain ⟨e2, h2⟩ := q.kept i d h1
      exact ⟨e2.trans e1, .inr (.inl ⟨d, h2⟩)⟩
    · obtain ⟨e2, h2⟩ := q.dead i h1
      exact ⟨e2.trans e1, .inr (.inr h2)⟩
  kept := fun i d h => by
    obtain ⟨e1, h1⟩ := p.kept i d h
    obtain ⟨e2, h2⟩ := q.kept i d h1
    exact ⟨e2.trans e1, h2⟩
  dead := fun i h => by
    obtain ⟨e1, h1⟩ := p.dead i h
    obtain ⟨e2, h2⟩ := q.dead i h1
    exact ⟨e2.trans e1, h2⟩
end
end Zv

set_option Elab.async false
set_option autoImplicit false
set_option linter.all false
set_option maxRecDepth 100000
namespace Zv
open PySem PySem.Spec L2
open PyProof.Rows hiding St

/-- a def that keeps its promise where nothing is being shown (guards) -/
structure Fk (P : Program) (w : World) (K : PySem.W.Frag) (mg : Str → Option Value) (base : Heap) (k : Nat) (f : Addr) (fd : FuncData) (ps : List Str) (sp : Sp) : Prop where
  size : ∀ vs H Q E, sp vs H Q E → vs.length = ps.length
  goes : ∀ (A : Around) (outer : List Env) (s : Shared) (H : Hp) (args : Args) (us : List Value) (vs : List V) (Q : VK) (E : XK), Room k A → A.guards = some [] → Env0 P w K mg base A outer s H → BindsTo s fd args (ps.zip us) → Vals vs us → sp vs H Q E →
    codeAny (model P w) A (.call (.ref f) args) (CR (L2.CX P w) outer P w H s Q E) s
section
variable {P : Program} {w : World} {K : PySem.W.Frag} {mg : Str → Option Value} {base : Heap}
theorem Fk.mono {j k : Nat} {f : Addr} {fd : FuncData} {ps : List Str} {sp : Sp} (F : Fk P w K mg base j f fd ps sp) (h : j ≤ k) : Fk P w K mg base k f fd ps sp :=
  ⟨F.size, fun A outer s H args us vs Q E hr => F.goes A outer s H args us vs Q E (hr.mono h)⟩

theorem fk_of {k : Nat} {f : Addr} {name qual : Str} {params : Arguments} {body : List Stmt} {scope : Scope} {dV kV doc pm cdv ct oc : Value} {an od : Option Addr}
    {osl : Array (Option Value)} {N ps : List Str} {sp : Sp} (lk : K.lookup f = some ⟨oc, od, .func (PySem.W.fnOf name qual params body scope dV kV doc pm an cdv ct), osl⟩) (hcd : PySem.W.codeIn K cdv qual = true) (S : FnScope N ps scope)
    (size : ∀ vs H Q E, sp vs H Q E → vs.length = ps.length)
    (inner : ∀ (A : Around) (outer : List Env) (s : Shared) (H : Hp) (vs : List V) (Q : VK) (E : XK), Room k (A.deeper (envOfC qual scope s.heap.objs.size f cdv)) → (A.deeper (envOfC qual scope s.heap.objs.size f cdv)).guards = some [] → sp vs H Q E →
      ∃ t, PSs (cxOf (L2.CX P w) P w K mg base N qual scope f cdv A outer s H E) body t ∧ t { nx := fun _ H' => Q .non H', rt := Q } (start N vs) H) :
    Fk P w K mg base (k + 1) f (PySem.W.fnOf name qual params body scope dV kV doc pm an cdv ct) ps sp := by
  refine ⟨size, fun A outer s H args us vs Q E hr hg e0 hb r hsp => ?_⟩
  have kin : K.In s.heap := e0.mod.kin.keeps fun b o q => (e0.bs b o q).1
  have nol : s.heap.NoLimit := e0.mod.nolimit.keeps fun b o q => (e0.bs b o q).1
  have kinds : ∀ y ∈ ps.zip us, scope.names.lookup y.1 = some .local ∨ (scope.names.lookup y.1 = some .cell ∧ ((cellsFrom (s.heap.objs.size + 1) scope.names []).lookup y.1).isSome = true) := by
    rintro ⟨n, v⟩ hy
    have hn := S.par n (List.of_mem_zip hy).1
    exact hn.elim .inl fun q => .inr ⟨q, PySem.W.cellsFrom_some _ _ _ (.inl q)⟩
  refine codeAny_call_function hr.depth (kin _ _ lk) rfl S.co S.gen rfl (PySem.W.codeRec_of kin hcd) (hb _ _ _ _ (wpAny_newFunctionEnv_cells S.kind kinds ?_))
  rintro env rfl s1 x
  refine ⟨nol.keeps x.toInCall.keep, codeAny_func ?_⟩
  obtain ⟨t, ht, hq⟩ := inner A outer s H vs Q E (hr.deeper _) hg hsp
  have I0 : Inv (cxOf (L2.CX P w) P w K mg base N qual scope f cdv A outer s H E) [] (start N vs) H s1 := inv_start S hr.hd e0 (size _ _ _ _ hsp) r x
  have back : ∀ {s' : Shared} {σ' : St} {H' : Hp} {v : V} {u : Value}, Inv (cxOf (L2.CX P w) P w K mg base N qual scope f cdv A outer s H E) [] σ' H' s' → RelV v u → Q v H' → CE outer P w H s Q u s' :=
    fun {_ _ H' v u} J rv q => ⟨v, H', J.os, J.bare, J.base, J.hok, rv, q⟩
  refine wpAny_mono (ht.run [] s1 (start N vs) H _ I0 hq) (fun fl s' hs => ?_) fun _ _ hs => hs
  cases fl with
  | next => obtain ⟨_, _, J, q⟩ := hs; exact back (v := V.non) (u := Value.none) J rfl q
  | ret u => obtain ⟨_, _, _, J, rv, q⟩ := hs; exact back J rv q
  | brk => obtain ⟨_, _, _, q⟩ := hs; exact q.elim
  | cont => obtain ⟨_, _, _, q⟩ := hs; exact q.elim
end

/-- what a def asks of the place that calls it -/
structure Gx (X : Cx) (k : Nat) : Prop where
  calm : X.calm = true
  room : Room k X.A
  gd : X.A.guards = some []
section
variable {X : Cx} {k : Nat} {f : Addr} {fd : FuncData} {ps : List Str} {sp : Sp} {x : Str} {p pos : Pos} {e : Expr} {es : List Expr} {t : TA} {W : WX}
theorem fk_run {pins : List (Addr × Obj)} {σ : St} {H : Hp} {s : Shared} {Q : VK} {us : List Value} {vs : List V} (F : Fk X.prog X.w X.K X.mg X.base k f fd ps sp) (g : Gx X k) (hb : Binds X.K fd ps []) (tk : Takes X W)
    (I : Inv X pins σ H s) (r : Vals vs us) (h : sp vs H Q (WE W σ)) : wpAny (model X.prog X.w) X.A (call (.ref f) us) (EP X pins σ Q) X.xe s := by
  have hl : us.length = ps.length := r.length.symm.trans (F.size _ _ _ _ h)
  have hb' : BindsTo s fd ⟨us, []⟩ (ps.zip us) := by
    have z := hb s us I.kIn (by rw [List.append_nil]; exact hl)
    rwa [List.append_nil] at z
  refine wpAny_call (codeAny_mono (F.goes X.A X.stack s H ⟨us, []⟩ us vs Q (WE W σ) g.room g.gd I.env0 hb' r h) ?_)
  rintro (e | fl) s' hq
  · exact passAt tk σ pins H s e s' I hq
  · cases fl with
    | ret u => exact I.after hq
    | next => exact hq.elim
    | brk => exact hq.elim
    | cont => exact hq.elim
/-- f(e, ..) -/
def tFk (sp : Sp) (W : WX) (t : TA) : TE := fun σ H Q => t σ H fun vs H1 => sp vs H1 Q (WE W σ)
theorem pe_fk (F : Fk X.prog X.w X.K X.mg X.base k f fd ps sp) (g : Gx X k) (hg : Gl X x) (hm : X.mg x = some (.ref f)) (hk : PySem.W.keepIn X.K (.ref f) = true) (hb : Binds X.K fd ps []) (tk : Takes X W)
    (ha : PA X (e :: es) t) (hdb : (x == ("__debug__" : Str)) = false) (he : starEach (e :: es) X.env = (false, eval e X.env) :: starEach es X.env) (hpl : (backTo pos (starEach es X.env)).any (·.1) = false) :
    PE X (.Call (.Name x p) (e :: es) [] pos) (tFk sp W t) := by
  refine ⟨fun pins s σ H Q I h => wpAny_Call_Name_kw (ld_glob I hg hm ?_ hdb)⟩
  refine PySem.W.callWith_K (h₀ := X.base) I.ok.mod.kin hk (thn (ha.run pos pins s σ H _ I h) ?_) he hpl
  rintro us s1 ⟨vs, H1, I1, r, q⟩
  exact ⟨I1.kIn, fk_run F g hb tk I1 r q⟩
theorem pe_fk0 (F : Fk X.prog X.w X.K X.mg X.base k f fd ps sp) (g : Gx X k) (hg : Gl X x) (hm : X.mg x = some (.ref f)) (hk : PySem.W.keepIn X.K (.ref f) = true) (hb : Binds X.K fd ps []) (tk : Takes X W)
    (hdb : (x == ("__debug__" : Str)) = false) : PE X (.Call (.Name x p) [] [] pos) (tFk sp W tNil) :=
  ⟨fun _ _ _ _ _ I h => wpAny_Call_Name_kw (ld_glob I hg hm (PySem.W.callWith_K0 I.kIn hk (fk_run (us := []) F g hb tk I .nil h)) hdb)⟩
end
end Zv

set_option Elab.async false
set_option autoImplicit false
set_option linter.all false
set_option maxRecDepth 100000
namespace Zv
open PySem PySem.Spec L2
open PyProof.Rows hiding St

/-- the module's part, the constants, the callees, the classes of exceptions -/
structure Lk where
  K : PySem.W.Frag
  G : List D
  cl : Cl
  xt : Nat → Option (Addr × Option Str)
/-- an exception as it lies -/
def Xr (l : Lk) (F : Addr → Prop) (H : Hp) (x : Xn) (cls : Value) (d : Option Addr) : Prop :=
  ∃ C f, l.xt x.cls = some (C, f) ∧ cls = .ref C ∧ ∀ n, f = some n → ∃ dd v, d = some dd ∧ H dd = some (.xd [(n, v)]) ∧ Rp l.K F H v x.arg
section
variable {l : Lk} {W : WX} {σ : St} {B B' N F F' : Addr → Prop} {H H' : Hp} {e e' : En} {α β : Type}
/-- what holds of a run of the evaluator -/
def Wp (l : Lk) (W : WX) (B : Addr → Prop) (σ : St) (F : Addr → Prop) (H : Hp) (e : En) (r : R α) (Q : α → (Addr → Prop) → Hp → En → Prop) : Prop := match r with
  | .ok a e' => ∀ F' H', Po l.K true B F H σ e F' H' σ e' → Q a F' H' e'
  | .ex x e' => ∀ F' H' cls d, Po l.K true B F H σ e F' H' σ e' → Xr l F' H' x cls d → W cls d σ H'
  | .no => False
theorem Wp.mono {r : R α} {Q Q' : α → (Addr → Prop) → Hp → En → Prop} (h : Wp l W B σ F H e r Q) (m : ∀ a F' H' e', Po l.K true B F H σ e F' H' σ e' → Q a F' H' e' → Q' a F' H' e') : Wp l W B σ F H e r Q' := by
  cases r with
  | ok a e' => exact fun F' H' p => m a F' H' e' p (h F' H' p)
  | ex x e' => exact h
  | no => exact h
theorem Wp.less {r : R α} {Q : α → (Addr → Prop) → Hp → En → Prop} (h : Wp l W B σ F H e r Q) (hb : ∀ a, B' a → B a) : Wp l W B' σ F H e r Q := by
  cases r with
  | ok a e' => exact fun F' H' p => h F' H' (p.wide hb)
  | ex x e' => exact fun F' H' cls d p hx => h F' H' cls d (p.wide hb) hx
  | no => exact h
theorem Wp.bind {x : M α} {f : α → M β} {Q : β → (Addr → Prop) → Hp → En → Prop} (er : Er l.K F H σ e) (h : Wp l W B σ F H e (M.bind x f e) Q) : Wp l W B σ F H e (x e) fun a F1 H1 e1 => Wp l W (More B H) σ F1 H1 e1 (f a e1) Q := by
  simp only [M.bind] at h
  cases q : x e with
  | ok a e1 =>
    rw [q] at h
    intro F1 H1 p1
    simp only at h ⊢
    cases q2 : f a e1 with
    | ok b e2 =>
      rw [q2] at h
      exact fun F2 H2 p2 => h F2 H2 (p1.trans er p2)
    | ex y e2 =>
      rw [q2] at h
      exact fun F2 H2 cls d p2 hx => h F2 H2 cls d (p1.trans er p2) hx
    | no => rw [q2] at h; exact h
  | ex y e1 => rw [q] at h; exact h
  | no => rw [q] at h; exact h
theorem Wp.rd {x : EV} {f : D → M β} {Q : β → (Addr → Prop) → Hp → En → Prop} (h : Wp l W B σ F H e (M.bind (rd x) f e) Q) : ∃ d, look e x = some d ∧ Wp l W B σ F H e (f d e) Q := by
  simp only [M.bind, Zv.rd] at h
  cases q : look e x with
  | none => rw [q] at h; exact h.elim
  | some d => rw [q] at h; exact ⟨d, rfl, h⟩
theorem Wp.lift {o : Option α} {Q : α → (Addr → Prop) → Hp → En → Prop} (h : Wp l W B σ F H e (M.lift o e) Q) : ∃ a, o = some a ∧ ∀ F' H', Po l.K true B F H σ e F' H' σ e → Q a F' H' e := by
  simp only [M.lift] at h
  cases o with
  | none => exact h.elim
  | some a => exact ⟨a, rfl, h⟩
theorem Wp.liftB {o : Option α} {f : α → M β} {Q : β → (Addr → Prop) → Hp → En → Prop} (h : Wp l W B σ F H e (M.bind (M.lift o) f e) Q) : ∃ a, o = some a ∧ Wp l W B σ F H e (f a e) Q := by
  simp only [M.bind, M.lift] at h
  cases o with
  | none => exact h.elim
  | some a => exact ⟨a, rfl, h⟩
theorem Wp.pure {a : α} {Q : α → (Addr → Prop) → Hp → En → Prop} (h : Wp l W B σ F H e (M.pure a e) Q) : ∀ F' H', Po l.K true B F H σ e F' H' σ e → Q a F' H' e := h
theorem Wp.no {Q : α → (Addr → Prop) → Hp → En → Prop} (h : Wp l W B σ F H e .no Q) : False := h

/-- what is read: frozen data, or an object as it stands -/
inductive Rt (K : PySem.W.Frag) (F : Addr → Prop) (H : Hp) : V → D → Prop
  | fz {v : V} {d : D} : Rp K F H v d → Rt K F H v d
  | ob {a : Addr} {o : Ob} : RpO K F H a o → Rt K F H (.ref a) o.d
theorem Rv.read {v : V} {r : EV} {d : D} (er : Er l.K F H σ e) (h : Rv l.K N F H σ e v r) (q : look e r = some d) : Rt l.K F H v d := by
  cases h with
  | v h => cases q; exact .fz h
  | fr _ _ _ h => cases q; exact .ob h
  | sl hv =>
    simp only [look] at q
    split at q
    · next d' e1 =>
      cases q
      obtain ⟨w, e2, r⟩ := er.val _ _ e1
      cases hv.symm.trans e2
      exact .fz r
    · next b o e1 =>
      cases q
      obtain ⟨a, e2, _, r⟩ := er.own _ _ _ e1
      cases hv.symm.trans e2
      exact .ob r
    · next d' e1 =>
      cases q
      obtain ⟨w, e2, r⟩ := er.kept _ _ e1
      cases hv.symm.trans e2
      exact .fz r
    · cases q
theorem Rv.mono {v : V} {r : EV} (h : Rv l.K N F H σ e v r) (er : Er l.K F H σ e) (p : Po l.K true Non F H σ e F' H' σ e') : Rv l.K N F' H' σ e' v r := by
  cases h with
  | v h => exact .v (p.rp er h)
  | fr nn nf no h =>
    rename_i a o
    have hd : H a ≠ none := by cases h with | lst h _ => rw [h]; simp
    refine .fr nn (fun z => ?_) (fun z => ?_) (h.mono p.inc (p.keepF er) fun o q => p.keep a o q no)
    · rcases p.new a z with z | z | z | z
      · exact nf z
      · exact hd z
      · exact no z
      · exact z
    · rcases p.own' z with z | z
      · exact no z
      · exact hd z
  | sl hv => exact .sl hv
end
end Zv

set_option Elab.async false
set_option autoImplicit false
set_option linter.all false
set_option maxRecDepth 100000
namespace Zv
open PySem PySem.Spec L2
open PyProof.Rows hiding St
section
variable {K : PySem.W.Frag} {σ : St} {x : Bool} {B N F F' : Addr → Prop} {H H' : Hp} {e e' : En}
theorem upd_keep {p : Addr} {o : HO} (hp : H p = none) : ∀ a u, H a = some u → upd H p o a = some u := fun a u h => by
  rw [upd_ne (ne_of_none h hp)]; exact h
/-- F with one more -/
def ins (F : Addr → Prop) (p : Addr) : Addr → Prop := fun a => F a ∨ a = p
theorem RpO.has {a : Addr} {o : Ob} (h : RpO K F H a o) : H a ≠ none := by cases h with | lst h _ => rw [h]; simp
theorem Rp.ins {v : V} {d : D} (h : Rp K F H v d) (p : Addr) : Rp K (ins F p) H v d := h.mono (fun _ q => .inl q) fun _ _ _ q => q
theorem RpL.ins {v : List V} {d : List D} (h : RpL K F H v d) (p : Addr) : RpL K (Zv.ins F p) H v d := h.mono (fun _ q => .inl q) fun _ _ _ q => q
/-- a new object, ours alone -/
theorem Po.made {p : Addr} {o : HO} (er : Er K F H σ e) (hp : H p = none) : Po K x B F H σ e F (upd H p o) σ e := by
  have k := upd_keep (o := o) hp
  refine ⟨⟨er.len, fun a f z => ?_, fun i d h => ?_, fun i d h => ?_, fun i b u h => ?_, er.apart⟩, fun _ h => h, fun a u h _ => k a u h, fun a h => ?_, fun _ h => .inl h, fun i b o h => .inl ⟨o, h, rfl⟩, fun i o h => ⟨rfl, .inl ⟨o, h⟩⟩, fun i d h => ⟨rfl, h⟩, fun i h => ⟨rfl, h⟩⟩
  · cases q : H a with
    | none => exact er.fok a f q
    | some u => rw [k a u q] at z; cases z
  · obtain ⟨v, a1, a2⟩ := er.val i d h
    exact ⟨v, a1, a2.mono (fun _ q => q) fun a u _ q => k a u q⟩
  · obtain ⟨v, a1, a2⟩ := er.kept i d h
    exact ⟨v, a1, a2.mono (fun _ q => q) fun a u _ q => k a u q⟩
  · obtain ⟨a, a1, a2, a3⟩ := er.own i b u h
    exact ⟨a, a1, a2, a3.mono (fun _ q => q) (fun a u _ q => k a u q) fun u q => k a u q⟩
  · cases q : H a with
    | none => exact absurd q h
    | some u => rw [k a u q]; simp
theorem Er.ins {p : Addr} (er : Er K F H σ e) (hp : H p ≠ none) (no : ¬ Own σ e p) : Er K (ins F p) H σ e := by
  refine ⟨er.len, fun a f => ?_, fun i d h => ?_, fun i d h => ?_, fun i b u h => ?_, er.apart⟩
  · rcases f with f | f
    · exact er.fok a f
    · rw [f]; exact hp
  · obtain ⟨v, a1, a2⟩ := er.val i d h
    exact ⟨v, a1, a2.ins p⟩
  · obtain ⟨v, a1, a2⟩ := er.kept i d h
    exact ⟨v, a1, a2.ins p⟩
  · obtain ⟨a, a1, a2, a3⟩ := er.own i b u h
    refine ⟨a, a1, fun z => ?_, a3.mono (fun _ q => .inl q) (fun _ _ _ q => q) fun _ q => q⟩
    rcases z with z | z
    · exact a2 z
    · exact no ⟨i, b, u, h, by rw [← z]; exact a1⟩
/-- a new object, for good -/
theorem Po.laid {p : Addr} {o : HO} (er : Er K F H σ e) (hp : H p = none) : Po K x B F H σ e (ins F p) (upd H p o) σ e := by
  have P : Po K x B F H σ e F (upd H p o) σ e := Po.made (o := o) er hp
  have no : ¬ Own σ e p := fun z => er.od z hp
  exact ⟨P.rel.ins (by rw [upd_same]; simp) no, fun _ h => .inl h, P.keep, P.dom, fun a h => h.elim .inl fun z => .inr (.inl (by rw [z]; exact hp)), P.own, P.lent, P.kept, P.dead⟩
theorem RpO.fz {a : Addr} {o : Ob} (h : RpO K F H a o) : Rp K (ins F a) H (.ref a) o.d := by
  cases h with
  | lst h r => exact .lst (.inl ⟨.inr rfl, .inl h⟩) (r.ins a)
theorem Vl.lt {σ : St} {i : Nat} {v : V} (h : Vl σ i v) : i < σ.length := (List.getElem?_eq_some_iff.mp h).1
theorem Sl.lt {e : En} {i : Nat} {a : SV} (h : Sl e i a) : i < e.length := (List.getElem?_eq_some_iff.mp h).1
theorem sl_set {e : En} {i j : Nat} {a b : SV} (h : Sl (e.set i (some a)) j b) : (i = j ∧ a = b ∧ i < e.length) ∨ (i ≠ j ∧ Sl e j b) := by
  by_cases c : i = j
  · subst c
    by_cases hl : i < e.length
    · have : Sl (e.set i (some a)) i a := List.getElem?_set_self hl
      cases this.symm.trans h
      exact .inl ⟨rfl, rfl, hl⟩
    · have z := h.lt
      rw [List.length_set] at z
      exact absurd z hl
  · exact .inr ⟨c, by have z : (e.set i (some a))[j]? = some (some b) := h; rwa [List.getElem?_set_ne c] at z⟩
theorem sl_ne {e : En} {i j : Nat} {a b : SV} (h : Sl e j b) (c : i ≠ j) : Sl (e.set i (some a)) j b := by
  show (e.set i (some a))[j]? = _
  rw [List.getElem?_set_ne c]; exact h
theorem sl_self {e : En} {i : Nat} {a b : SV} (h : Sl e i b) : Sl (e.set i (some a)) i a := List.getElem?_set_self h.lt
/-- the object of a slot is frozen -/
theorem Po.frzSlot {i : Nat} {b : Bool} {o : Ob} {a : Addr} {sv : SV} (er : Er K F H σ e) (h : Sl e i (.own b o)) (hv : Vl σ i (.ref a)) (hs : (b = false ∧ sv = .val o.d) ∨ (b = true ∧ sv = .kept o.d)) :
    Po K x B F H σ e (ins F a) H σ (e.set i (some sv)) := by
  obtain ⟨a', e1, nf, ro⟩ := er.own i b o h
  cases hv.symm.trans e1
  have hO : Own σ e a := ⟨i, b, o, h, hv⟩
  have ns : ∀ b' o', sv ≠ .own b' o' := fun b' o' z => by rcases hs with ⟨_, q⟩ | ⟨_, q⟩ <;> rw [q] at z <;> cases z
  have rf : Rp K (ins F a) H (.ref a) o.d := ro.fz
  refine ⟨⟨by rw [List.length_set]; exact er.len, fun a' f => ?_, fun j d q => ?_, fun j d q => ?_, fun j c u q => ?_, fun j k c1 u1 c2 u2 y q1 q2 w1 w2 => ?_⟩, fun _ f => .inl f, fun _ _ q _ => q, fun _ q => q, fun a' f => ?_, fun j c u q => ?_, fun j u q => ?_, fun j d q => ?_, fun j q => ?_⟩
  · rcases f with f | f
    · exact er.fok a' f
    · rw [f]; exact ro.has
  · rcases sl_set q with ⟨z, w, _⟩ | ⟨_, z⟩
    · subst z
      rcases hs with ⟨_, q⟩ | ⟨_, q⟩
      · rw [q] at w; cases w; exact ⟨_, hv, rf⟩
      · rw [q] at w; cases w
    · obtain ⟨v, a1, a2⟩ := er.val j d z
      exact ⟨v, a1, a2.ins a⟩
  · rcases sl_set q with ⟨z, w, _⟩ | ⟨_, z⟩
    · subst z
      rcases hs with ⟨_, q⟩ | ⟨_, q⟩
      · rw [q] at w; cases w
      · rw [q] at w; cases w; exact ⟨_, hv, rf⟩
    · obtain ⟨v, a1, a2⟩ := er.kept j d z
      exact ⟨v, a1, a2.ins a⟩
  · rcases sl_set q with ⟨_, w, _⟩ | ⟨n, z⟩
    · exact absurd w (ns _ _)
    · obtain ⟨x', a1, a2, a3⟩ := er.own j c u z
      refine ⟨x', a1, fun f => ?_, a3.mono (fun _ q => .inl q) (fun _ _ _ q => q) fun _ q => q⟩
      rcases f with f | f
      · exact a2 f
      · exact n (er.apart _ _ _ _ _ _ _ h z hv (by rw [← f]; exact a1))
  · rcases sl_set q1 with ⟨_, w, _⟩ | ⟨_, z1⟩
    · exact absurd w (ns _ _)
    · rcases sl_set q2 with ⟨_, w, _⟩ | ⟨_, z2⟩
      · exact absurd w (ns _ _)
      · exact er.apart _ _ _ _ _ _ _ z1 z2 w1 w2
  · exact f.elim .inl fun f => .inr (.inr (.inl (by rw [f]; exact hO)))
  · rcases sl_set q with ⟨_, w, _⟩ | ⟨_, z⟩
    · exact absurd w (ns _ _)
    · exact .inl ⟨u, z, rfl⟩
  · by_cases n : i = j
    · subst n
      cases h.symm.trans q
      rcases hs with ⟨z, _⟩ | ⟨_, z⟩
      · cases z
      · exact ⟨rfl, .inr (.inl ⟨o.d, by rw [z]; exact sl_self h⟩)⟩
    · exact ⟨rfl, .inl ⟨u, sl_ne q n⟩⟩
  · by_cases n : i = j
    · subst n; cases h.symm.trans q
    · exact ⟨rfl, sl_ne q n⟩
  · by_cases n : i = j
    · subst n; cases h.symm.trans q
    · exact ⟨rfl, sl_ne q n⟩
/-- the address of what was just made -/
def frA : V → EV → Option Addr
  | .ref a, .fr _ => some a
  | _, _ => none
theorem Po.frzNew {a : Addr} (er : Er K F H σ e) (hd : H a ≠ none) (no : ¬ Own σ e a) (hb : B a) : Po K x B F H σ e (ins F a) H σ e :=
  ⟨er.ins hd no, fun _ f => .inl f, fun _ _ q _ => q, fun _ q => q, fun y f => f.elim .inl fun z => .inr (.inr (.inr (by rw [z]; exact hb))), fun i b o h => .inl ⟨o, h, rfl⟩, fun i o h => ⟨rfl, .inl ⟨o, h⟩⟩, fun i d h => ⟨rfl, h⟩, fun i h => ⟨rfl, h⟩⟩
/-- kept for good; what is frozen anew: the object itself -/
theorem Rv.fz {v : V} {r : EV} {d : D} (er : Er K F H σ e) (h : Rv K N F H σ e v r) (hN : ∀ a, N a → B a) (q : frz e r = some (d, e')) :
    ∃ F', Po K x B F H σ e F' H σ e' ∧ Rp K F' H v d ∧ ∀ a, F' a → F a ∨ Own σ e a ∨ frA v r = some a := by
  cases h with
  | v h => cases q; exact ⟨F, Po.refl er, h, fun _ f => .inl f⟩
  | fr nn nf no h =>
    cases q
    exact ⟨ins F _, Po.frzNew er h.has no (hN _ nn), h.fz, fun y f => f.elim .inl fun z => .inr (.inr (by rw [z]; rfl))⟩
  | sl hv =>
    rename_i i
    simp only [frz] at q
    split at q
    · next d' e1 =>
      cases q
      obtain ⟨w, e2, r⟩ := er.val _ _ e1
      cases hv.symm.trans e2
      exact ⟨F, Po.refl er, r, fun _ f => .inl f⟩
    · next o e1 =>
      cases q
      obtain ⟨a, e2, _, r⟩ := er.own _ _ _ e1
      cases hv.symm.trans e2
      exact ⟨ins F a, Po.frzSlot er e1 hv (.inl ⟨rfl, rfl⟩), r.fz, fun y f => f.elim .inl fun z => .inr (.inl ⟨i, _, _, e1, by rw [z]; exact hv⟩)⟩
    · next o e1 =>
      cases q
      obtain ⟨a, e2, _, r⟩ := er.own _ _ _ e1
      cases hv.symm.trans e2
      exact ⟨ins F a, Po.frzSlot er e1 hv (.inr ⟨rfl, rfl⟩), r.fz, fun y f => f.elim .inl fun z => .inr (.inl ⟨i, _, _, e1, by rw [z]; exact hv⟩)⟩
    · next d' e1 =>
      cases q
      obtain ⟨w, e2, r⟩ := er.kept _ _ e1
      cases hv.symm.trans e2
      exact ⟨F, Po.refl er, r, fun _ f => .inl f⟩
    · cases q
end
end Zv

set_option Elab.async false
set_option autoImplicit false
set_option linter.all false
set_option maxRecDepth 100000
namespace Zv
open PySem PySem.Spec L2
open PyProof.Rows hiding St

theorem pe_imp {X : Cx} {e : Expr} {t t' : TE} (h : PE X e t) (m : ∀ σ H Q, t' σ H Q → t σ H Q) : PE X e t' := ⟨fun pins s σ H Q I q => h.run pins s σ H Q I (m σ H Q q)⟩
theorem pt_imp {X : Cx} {e : Expr} {t t' : TT} (h : PT X e t) (m : ∀ σ H Q, t' σ H Q → t σ H Q) : PT X e t' := ⟨fun pins s σ H Q I q => h.run pins s σ H Q I (m σ H Q q)⟩
theorem pa_imp {X : Cx} {e : List Expr} {t t' : TA} (h : PA X e t) (m : ∀ σ H Q, t' σ H Q → t σ H Q) : PA X e t' := ⟨fun pos pins s σ H Q I q => h.run pos pins s σ H Q I (m σ H Q q)⟩
theorem ps_imp {X : Cx} {e : Stmt} {t t' : TS} (h : PS X e t) (m : ∀ D σ H, t' D σ H → t D σ H) : PS X e t' := ⟨fun pins s σ H D I q => h.run pins s σ H D I (m D σ H q)⟩
theorem pss_imp {X : Cx} {e : List Stmt} {t t' : TS} (h : PSs X e t) (m : ∀ D σ H, t' D σ H → t D σ H) : PSs X e t' := ⟨fun pins s σ H D I q => h.run pins s σ H D I (m D σ H q)⟩

/-- values in a row; what was just made stands apart -/
inductive RvL (K : PySem.W.Frag) (N F : Addr → Prop) (H : Hp) (σ : St) (e : En) : List V → List EV → Prop
  | nil : RvL K N F H σ e [] []
  | cons {v : V} {r : EV} {vs : List V} {rs : List EV} : Rv K N F H σ e v r → (∀ a, frA v r = some a → ∀ p ∈ vs.zip rs, frA p.1 p.2 ≠ some a) → RvL K N F H σ e vs rs → RvL K N F H σ e (v :: vs) (r :: rs)
/-- the readings of the core -/
def Tx (l : Lk) (W : WX) (c : E) : TE := fun σ H Q => ∃ e F, Er l.K F H σ e ∧ Wp l W Non σ F H e (ev l.G l.cl c e) fun r F' H' e' => ∀ v, Rv l.K (Fre H) F' H' σ e' v r → Q v H'
def Tt (l : Lk) (W : WX) (c : E) : TT := fun σ H Q => ∃ e F, Er l.K F H σ e ∧ Wp l W Non σ F H e (testOf (ev l.G l.cl c) e) fun b F' H' e' => Q b H'
def Ta (l : Lk) (W : WX) (cs : Es) : TA := fun σ H Q => ∃ e F, Er l.K F H σ e ∧ Wp l W Non σ F H e (evs l.G l.cl cs e) fun rs F' H' e' => ∀ vs, RvL l.K (Fre H) F' H' σ e' vs rs → Q vs H'
def Tn (l : Lk) (W : WX) (cs : Es) : TE := fun σ H Q => ∃ e F, Er l.K F H σ e ∧ Wp l W Non σ F H e (evAn l.G l.cl cs e) fun r F' H' e' => ∀ v, Rv l.K (Fre H) F' H' σ e' v r → Q v H'
def To (l : Lk) (W : WX) (cs : Es) : TE := fun σ H Q => ∃ e F, Er l.K F H σ e ∧ Wp l W Non σ F H e (evOr l.G l.cl cs e) fun r F' H' e' => ∀ v, Rv l.K (Fre H) F' H' σ e' v r → Q v H'

section
variable {l : Lk} {W : WX} {σ : St} {B N N' F F' : Addr → Prop} {H H0 H' : Hp} {e e' : En} {α β : Type} {Q : VK}
theorem Rv.less {v : V} {r : EV} (h : Rv l.K N F H σ e v r) (hn : ∀ a, N a → N' a) : Rv l.K N' F H σ e v r := by
  cases h with
  | v h => exact .v h
  | fr a b c d => exact .fr (hn _ a) b c d
  | sl h => exact .sl h
theorem RvL.less {vs : List V} {rs : List EV} (h : RvL l.K N F H σ e vs rs) (hn : ∀ a, N a → N' a) : RvL l.K N' F H σ e vs rs := by
  induction h with
  | nil => exact .nil
  | cons a b _ ih => exact .cons (a.less hn) b ih
theorem Po.free {σ' : St} {x : Bool} (p : Po l.K x B F H σ e F' H' σ' e') : ∀ a, Fre H' a → Fre H a := fun a h => Classical.byContradiction fun z => p.dom a z h
/-- where a value's run stands near its end -/
structure Ls (l : Lk) (W : WX) (σ : St) (H0 : Hp) (Q : VK) (F : Addr → Prop) (H : Hp) (e : En) (m : R EV) : Prop where
  er : Er l.K F H σ e
  free : ∀ a, Fre H a → Fre H0 a
  run : ∃ B, (∀ a, Fre H0 a → B a) ∧ Wp l W B σ F H e m fun r F' H' e' => ∀ v, Rv l.K (Fre H0) F' H' σ e' v r → Q v H'
theorem Ls.val {v : V} {d : D} (h : Ls l W σ H0 Q F H e (.ok (.v d) e)) (r : Rp l.K F H v d) : Q v H := by
  obtain ⟨er, _, B, _, h⟩ := h
  exact h F H (Po.refl er) v (.v r)
theorem Ls.tup {vs : List V} {ds : List D} {p : Addr} (h : Ls l W σ H0 Q F H e (.ok (.v (.tuple ds)) e)) (r : RpL l.K F H vs ds) (hp : H p = none) : Q (.ref p) (upd H p (.tup vs)) := by
  obtain ⟨er, _, B, _, h⟩ := h
  refine h (ins F p) _ (Po.laid er hp) _ (.v (.tup (.inl ⟨.inr rfl, upd_same⟩) ?_))
  exact r.mono (fun _ q => .inl q) fun a u _ q => upd_keep hp a u q
theorem Ls.lst {vs : List V} {ds : List D} {p : Addr} (h : Ls l W σ H0 Q F H e (.ok (.fr (.list ds)) e)) (r : RpL l.K F H vs ds) (hp : H p = none) : Q (.ref p) (upd H p (.lst vs)) := by
  obtain ⟨er, fr, B, _, h⟩ := h
  refine h F _ (Po.made er hp) _ (Rv.fr (o := .lst ds) (fr _ hp) (fun z => er.fok _ z hp) (fun z => er.od z hp) (.lst upd_same ?_))
  exact r.mono (fun _ q => q) fun a u _ q => upd_keep hp a u q
/-- one operand, read -/
theorem one {a : E} {g : D → M EV} (er : Er l.K F H σ e) (h : Wp l W Non σ F H e (M.bind (ev l.G l.cl a) (fun x => M.bind (rd x) g) e) fun r F' H' e' => ∀ v, Rv l.K (Fre H) F' H' σ e' v r → Q v H') :
    Tx l W a σ H fun v H1 => ∃ e1 F1 d, Rt l.K F1 H1 v d ∧ Ls l W σ H Q F1 H1 e1 (g d e1) := by
  refine ⟨e, F, er, (h.bind er).mono fun x F1 H1 e1 p1 h1 v rv => ?_⟩
  obtain ⟨d, q, h2⟩ := h1.rd
  exact ⟨e1, F1, d, rv.read p1.rel q, p1.rel, p1.free, _, fun a z => .inr z, h2⟩
/-- two operands, read -/
theorem two {a b : E} {g : D → D → M EV} (er : Er l.K F H σ e)
    (h : Wp l W Non σ F H e (M.bind (ev l.G l.cl a) (fun x => M.bind (ev l.G l.cl b) fun y => M.bind (rd x) fun d => M.bind (rd y) (g d)) e) fun r F' H' e' => ∀ v, Rv l.K (Fre H) F' H' σ e' v r → Q v H') :
    Tx l W a σ H fun v H1 => Tx l W b σ H1 fun w H2 => ∃ e2 F2 d d', Rt l.K F2 H2 v d ∧ Rt l.K F2 H2 w d' ∧ Ls l W σ H Q F2 H2 e2 (g d d' e2) := by
  refine ⟨e, F, er, (h.bind er).mono fun x F1 H1 e1 p1 h1 v rv => ⟨e1, F1, p1.rel, ((h1.bind p1.rel).less fun _ z => z.elim).mono fun y F2 H2 e2 p2 h2 w rw => ?_⟩⟩
  obtain ⟨d, q, h3⟩ := h2.rd
  obtain ⟨d', q', h4⟩ := h3.rd
  exact ⟨e2, F2, d, d', (rv.mono p1.rel p2).read p2.rel q, rw.read p2.rel q', p2.rel, fun a z => p1.free a (p2.free a z), _, fun a z => .inl (.inr z), h4⟩
theorem Ls.lift {o : Option EV} (h : Ls l W σ H0 Q F H e (M.lift o e)) : ∃ r, o = some r ∧ Ls l W σ H0 Q F H e (.ok r e) := by
  obtain ⟨er, fr, B, hB, h⟩ := h
  cases o with
  | none => exact h.elim
  | some r => exact ⟨r, rfl, er, fr, B, hB, h⟩

/-- how a run that ends with r goes on -/
structure Fin (K : PySem.W.Frag) (F : Addr → Prop) (H : Hp) (Q : VK) (r : EV) : Prop where
  v : ∀ v d, r = .v d → Rp K F H v d → Q v H
  tup : ∀ p vs ds, r = .v (.tuple ds) → RpL K F H vs ds → H p = none → Q (.ref p) (upd H p (.tup vs))
  lst : ∀ p vs ds, r = .fr (.list ds) → RpL K F H vs ds → H p = none → Q (.ref p) (upd H p (.lst vs))
theorem Ls.fin {r : EV} (h : Ls l W σ H0 Q F H e (.ok r e)) : Fin l.K F H Q r :=
  ⟨fun v d q rp => by subst q; exact h.val rp, fun p vs ds q rp hp => by subst q; exact h.tup rp hp, fun p vs ds q rp hp => by subst q; exact h.lst rp hp⟩

/-! ### what is read -/
variable {K : PySem.W.Frag}
theorem Rt.int {v : V} {i : Int} (h : Rt K F H v (.int i)) : v = .int i := by
  generalize hd : (PyData.int i : D) = d at h
  cases h with
  | fz h => subst hd; cases h; rfl
  | ob h => cases h; cases hd
theorem Rt.bool {v : V} {b : Bool} (h : Rt K F H v (.bool b)) : v = .bl b := by
  generalize hd : (PyData.bool b : D) = d at h
  cases h with
  | fz h => subst hd; cases h; rfl
  | ob h => cases h; cases hd
theorem Rt.none {v : V} (h : Rt K F H v .none) : v = .non := by
  generalize hd : (PyData.none : D) = d at h
  cases h with
  | fz h => subst hd; cases h; rfl
  | ob h => cases h; cases hd
theorem Rt.str {v : V} {x : Str} (h : Rt K F H v (.str x)) : v = .str x := by
  generalize hd : (PyData.str x : D) = d at h
  cases h with
  | fz h => subst hd; cases h; rfl
  | ob h => cases h; cases hd
theorem sqt_of {a : Addr} {xs : List V} (h : (F a ∧ H a = some (.tup xs)) ∨ KTup K a xs) : SqT K H a xs := h.elim (fun h => .inl (.inl h.2)) .inr
theorem Rt.tup {v : V} {ds : List D} (h : Rt K F H v (.tuple ds)) : ∃ a xs, v = .ref a ∧ SqT K H a xs ∧ RpL K F H xs ds := by
  generalize hd : (PyData.tuple ds : D) = d at h
  cases h with
  | fz h => subst hd; cases h with | tup h r => exact ⟨_, _, rfl, sqt_of h, r⟩
  | ob h => cases h; cases hd
theorem rdk_of {a : Addr} {xs : List V} (h : (F a ∧ Rd H a (.lst xs)) ∨ KLst K a xs) : RdK K H a xs := h.imp (fun h => h.2) id
theorem Rt.lst {v : V} {ds : List D} (h : Rt K F H v (.list ds)) : ∃ a xs, v = .ref a ∧ RdK K H a xs ∧ RpL K F H xs ds := by
  generalize hd : (PyData.list ds : D) = d at h
  cases h with
  | fz h => subst hd; cases h with | lst h r => exact ⟨_, _, rfl, rdk_of h, r⟩
  | ob h => cases h with | lst h r => cases hd; exact ⟨_, _, rfl, .inl (.inl h), r⟩
theorem Rt.dict {v : V} {ds : List (D × D)} (h : Rt K F H v (.dict ds)) : False := by
  generalize hd : (PyData.dict ds : D) = d at h
  cases h with
  | fz h => subst hd; cases h
  | ob h => cases h; cases hd
mutual
theorem Rp.dp : ∀ {v : V} {d : D}, Rp K F H v d → Dp K H v d
  | _, _, .non => .non
  | _, _, .bl b => .bl b
  | _, _, .int i => .int i
  | _, _, .str x => .str x
  | _, _, .tup h r => .tup (sqt_of h) (RpL.dpa r)
  | _, _, .lst h r => .lst (RdK.sq (rdk_of h)) (RpL.dpa r)
theorem RpL.dpa : ∀ {vs : List V} {ds : List D}, RpL K F H vs ds → DpAll K H vs ds
  | _, _, .nil => .nil
  | _, _, .cons h r => .cons (Rp.dp h) (RpL.dpa r)
end
theorem Rt.dp {v : V} {d : D} (h : Rt K F H v d) : Dp K H v d := by
  cases h with
  | fz h => exact h.dp
  | ob h => cases h with | lst h r => exact .lst (.inl (.inl h)) r.dpa
theorem line_eq : line = sizeLine := by decide
theorem Rt.tru {v : V} {d : D} {t : Bool} (h : Rt K F H v d) (hs : truth d = some t) : TruV K v H t := by
  cases d with
  | none => cases hs; rw [h.none]; rfl
  | bool b => cases hs; rw [h.bool]; rfl
  | int i => cases hs; rw [h.int]; rfl
  | str x =>
    simp only [truth] at hs
    split at hs
    · next hl =>
      cases hs
      rw [h.str]
      refine ⟨by rw [← line_eq]; exact hl, ?_⟩
      cases x.length with
      | zero => rfl
      | succ n => simp; omega
    · cases hs
  | list ds =>
    cases hs
    obtain ⟨a, xs, rfl, s, r⟩ := h.lst
    refine .inl ⟨xs, s.sq, ?_⟩
    have := r.length
    cases xs <;> cases ds <;> simp_all
  | tuple ds =>
    cases hs
    obtain ⟨a, xs, rfl, s, r⟩ := h.tup
    refine .inr (.inl ⟨xs, s, ?_⟩)
    have := r.length
    cases xs <;> cases ds <;> simp_all
  | dict ds => exact h.dict.elim
end
end Zv

set_option Elab.async false
set_option autoImplicit false
set_option linter.all false
set_option maxRecDepth 100000
/-! ZTm: tuple * 1, tuple * 0 -/
namespace Zv
open PySem PySem.Spec L2
open PyProof.Rows hiding St
theorem tuple_mul1 (l : Addr) (items : Array Value) (n : Nat) (dd : Option Addr) (sl : Array (Option Value)) (u : Tok) :
    Meets (Builtin.«tuple.__mul__» ⟨[.ref l, .int 1 u], []⟩) (fun _ R s => s.heap.get? l = some { cls := .type "tuple", dict := dd, data := .seq items n, slots := sl } ∧
      R (.ok (.ret (Value.ref l))) s) :=
  .of_wp fun prog w A R s h => by
    obtain ⟨hp, g, d, tk, os⟩ := s
    obtain ⟨hl, h⟩ := h
    have f1 := AutoSeq1.idx_int
    have c1 : (items.isEmpty || (1 : Int) == 1) = true := by simp
    wp_walk using wpAny_loadPart' hl
    repeat (first
      | (refine wpAny_ite_true (decide_eq_true c1) ?_; wp_walk using wpAny_loadPart' hl)
      | (refine wpAny_ite_false (by decide) ?_; wp_walk using wpAny_loadPart' hl))
    exact ⟨_, rfl, h⟩
theorem tuple_mul0 (l : Addr) (items : Array Value) (n : Nat) (dd : Option Addr) (sl : Array (Option Value)) (x : Int) (u : Tok) (c0 : (decide (x < -(2 ^ 63)) || decide (x ≥ 2 ^ 63)) = false) (c1 : (items.isEmpty || x == 1) = false) (c2 : (decide (x ≤ 0) || items.isEmpty) = true) :
    Meets (Builtin.«tuple.__mul__» ⟨[.ref l, .int x u], []⟩) (fun _ R s => s.heap.get? l = some { cls := .type "tuple", dict := dd, data := .seq items n, slots := sl } ∧
      R (.ok (.ret (Value.ref s.heap.objs.size))) { s with heap := s.heap.push { cls := Value.type "tuple", data := Data.seq #[] }, toks := s.toks }) :=
  .of_wp fun prog w A R s h => by
    obtain ⟨hp, g, d, tk, os⟩ := s
    obtain ⟨hl, h⟩ := h
    have f1 := AutoSeq1.idx_int
    wp_walk using wpAny_loadPart' hl
    repeat (first
      | (refine wpAny_ite_false (decide_eq_false (by rw [c0]; exact Bool.false_ne_true)) ?_; wp_walk using wpAny_loadPart' hl)
      | (refine wpAny_ite_false (decide_eq_false (by rw [c1]; exact Bool.false_ne_true)) ?_; wp_walk using wpAny_loadPart' hl)
      | (refine wpAny_ite_true (decide_eq_true c2) ?_; wp_walk using wpAny_loadPart' hl))
    exact ⟨_, rfl, h⟩
section
variable {X : Cx}
theorem op_rep1 {pins : List (Addr × Obj)} {s : Shared} {σ : St} {H : Hp} {a : Addr} {xs : List V} {t : Tok} {Q : VK} (I : Inv X pins σ H s) (hT : SqT X.K H a xs)
    (q : Q (.ref a) H) : wpAny (model X.prog X.w) X.A (binaryOp .Mult (.ref a) (.int 1 t)) (EP X pins σ Q) X.xe s := by
  obtain ⟨its, r, ⟨⟨cls, dd, data, sl⟩, ho, hc, n, hd⟩, hs⟩ := I.tuple hT
  simp only at hc hd
  subst hc hd
  refine wpAny_binaryOp_repeat_ref (T := "tuple") (U := "int") (by decide) ⟨_, ho, rfl⟩ (fun s' => typeIs_int s' 1 t) noFill_tuple_mul F.fills_int_mul F.slot_int_rmul repeat_tuple F.slot_int_index.lookup
    (call_meets F.slot_int_rmul (typeIs_int s 1 t) F.entry_int_rmul (F.args_int_rmul_2 _ _) (int_rmul_tuple 1 t a its.toArray n dd sl)
      ⟨ho, rfl, ⟨_, ho, rfl⟩, call_meets F.slot_tuple_mul ⟨_, ho, rfl⟩ F.entry_tuple_mul (F.args_tuple_mul_2 _ _) (tuple_mul1 a its.toArray n dd sl t) ⟨ho, ?_⟩⟩)
  exact ⟨.ref a, H, I, rfl, q⟩
theorem op_rep0 {pins : List (Addr × Obj)} {s : Shared} {σ : St} {H : Hp} {a : Addr} {xs : List V} {k : Int} {t : Tok} {Q : VK} (I : Inv X pins σ H s) (hT : SqT X.K H a xs) (hne : xs ≠ []) (h1 : -1000 ≤ k) (h2 : k ≤ 0)
    (q : ∀ p, H p = none → Q (.ref p) (upd H p (.tup []))) : wpAny (model X.prog X.w) X.A (binaryOp .Mult (.ref a) (.int k t)) (EP X pins σ Q) X.xe s := by
  obtain ⟨its, r, ⟨⟨cls, dd, data, sl⟩, ho, hc, n, hd⟩, hs⟩ := I.tuple hT
  simp only at hc hd
  subst hc hd
  have hle : its.length = xs.length := r.length.symm
  have hn : its ≠ [] := fun e => hne (by
    rw [e] at hle
    exact List.eq_nil_of_length_eq_zero hle.symm)
  have hi : its.toArray.isEmpty = false := by
    cases its with
    | nil => exact absurd rfl hn
    | cons a b => rfl
  have c0 : (decide (k < -(2 ^ 63)) || decide (k ≥ 2 ^ 63)) = false := by
    rw [decide_eq_false (by omega), decide_eq_false (by omega)] <;> rfl
  have c1 : (its.toArray.isEmpty || k == 1) = false := by
    rw [hi, Bool.false_or]
    exact beq_eq_false_iff_ne.mpr (by omega)
  have c2 : (decide (k ≤ 0) || its.toArray.isEmpty) = true := by
    rw [decide_eq_true h2]; rfl
  refine wpAny_binaryOp_repeat_ref (T := "tuple") (U := "int") (by decide) ⟨_, ho, rfl⟩ (fun s' => typeIs_int s' k t) noFill_tuple_mul F.fills_int_mul F.slot_int_rmul repeat_tuple F.slot_int_index.lookup
    (call_meets F.slot_int_rmul (typeIs_int s k t) F.entry_int_rmul (F.args_int_rmul_2 _ _) (int_rmul_tuple k t a its.toArray n dd sl)
      ⟨ho, rfl, ⟨_, ho, rfl⟩, call_meets F.slot_tuple_mul ⟨_, ho, rfl⟩ F.entry_tuple_mul (F.args_tuple_mul_2 _ _) (tuple_mul0 a its.toArray n dd sl k t c0 c1 c2) ⟨ho, ?_⟩⟩)
  refine ⟨.ref s.heap.objs.size, _, I.laid (t' := s.toks) (o := .tup []) (fun b ob q => Heap.get?_push_of_some _ q) (Nat.le_refl _) ?_, rfl, q _ (I.hok.fresh (Nat.le_refl _))⟩
  exact ⟨Nat.zero_le _, [], .nil, IsTup.new _ _⟩
end
end Zv

set_option Elab.async false
set_option autoImplicit false
set_option linter.all false
set_option maxRecDepth 100000
namespace Zv
open PySem PySem.Spec L2
open PyProof.Rows hiding St

def Bop.op : Bop → Operator
  | .add => .Add | .sub => .Sub | .mul => .Mult | .fdiv => .FloorDiv | .mod => .Mod | .shl => .LShift | .shr => .RShift | .band => .BitAnd | .bor => .BitOr | .pow => .Pow
def Cop.op : Cop → CmpOp
  | .eq => .Eq | .ne => .NotEq | .lt => .Lt | .le => .LtE | .gt => .Gt | .ge => .GtE | .is => .Is | .isNot => .IsNot | .inn => .In | .notIn => .NotIn
theorem Rt.rp {K : PySem.W.Frag} {F : Addr → Prop} {H : Hp} {v : V} {ds : List D} (h : Rt K F H v (.tuple ds)) : Rp K F H v (.tuple ds) := by
  generalize hd : (PyData.tuple ds : D) = d at h ⊢
  cases h with
  | fz h => exact h
  | ob h => cases h; cases hd

theorem Rt.isn {K : PySem.W.Frag} {F : Addr → Prop} {H : Hp} {v : V} {d : D} (h : Rt K F H v d) : isNone d = decide (v = .non) := by
  cases h with
  | fz h => cases h <;> simp [isNone]
  | ob h => cases h; simp [isNone]

def rBop (K : PySem.W.Frag) (o : Bop) : R2 := fun x y H Q => ∃ F d d' r, Rt K F H x d ∧ Rt K F H y d' ∧ bop o d d' = some r ∧ Fin K F H Q r
section
variable {X : Cx}
theorem Inv.rd {pins : List (Addr × Obj)} {σ : St} {H : Hp} {s : Shared} {a : Addr} {xs : List V} (I : Inv X pins σ H s) (h : RdK X.K H a xs) :
    xs.length ≤ sizeLine ∧ ∃ (its : List Value) (n : Nat), Vals xs its ∧ s.heap.get? a = some { cls := .type "list", data := .seq its.toArray n } := by
  rcases h with h | ⟨its, n, h, hz, r⟩
  · exact h.ok I.hok
  · exact ⟨hz, its, n, r, I.kIn a _ h⟩
theorem op_catR {pins : List (Addr × Obj)} {s : Shared} {σ : St} {H : Hp} {a b : Addr} {xs ys : List V} {Q : VK} (I : Inv X pins σ H s) (ha : RdK X.K H a xs) (hb : RdK X.K H b ys) (hz : xs.length + ys.length ≤ sizeLine)
    (q : ∀ p, H p = none → Q (.ref p) (upd H p (.lst (xs ++ ys)))) : wpAny (model X.prog X.w) X.A (binaryOp .Add (.ref a) (.ref b)) (EP X pins σ Q) X.xe s := by
  obtain ⟨_, its, n, r, e⟩ := Inv.rd I ha
  obtain ⟨_, its2, n2, r2, e2⟩ := Inv.rd I hb
  have l1 := r.length
  have l2 := r2.length
  refine PySem.P.add_list e e2 ?_ (by simp only [List.size_toArray]; omega)
  rw [List.append_toArray]
  exact ⟨.ref _, _, I.lnew (t' := s.toks) (r.append r2) (by rw [List.length_append]; exact hz), rfl, q _ I.fresh⟩
theorem op_repR {pins : List (Addr × Obj)} {s : Shared} {σ : St} {H : Hp} {a : Addr} {xs : List V} {k : Int} {t : Tok} {Q : VK} (I : Inv X pins σ H s) (ha : RdK X.K H a xs) (k1 : -(2 ^ 63) ≤ k) (k2 : k < 2 ^ 63) (hz : xs.length * k.toNat ≤ sizeLine)
    (q : ∀ p, H p = none → Q (.ref p) (upd H p (.lst (List.replicate k.toNat xs).flatten))) : wpAny (model X.prog X.w) X.A (binaryOp .Mult (.ref a) (.int k t)) (EP X pins σ Q) X.xe s := by
  obtain ⟨_, its, n, r, e⟩ := Inv.rd I ha
  have l1 := r.length
  have cap : its.toArray.size * k.toNat ≤ sizeLine := by rw [List.size_toArray, ← l1]; exact hz
  have big : (sizeLine : Nat) ≤ (2 ^ 63 - 1) / 8 := by decide
  have g1 : ¬ its.toArray.size * k.toNat > (2 ^ 63 - 1) / 8 := by omega
  have g2 : ¬ (!Builtin.List.listFitsIndex k) = true := by rw [fitsIndex_both k1 k2]; decide
  have g3 : ¬ Builtin.List.listTooLong (its.toArray.size * k.toNat) = true := by rw [notLongL cap]; decide
  have fl : ∀ m : Nat, List.foldl (fun x y => x ++ y) #[] (List.replicate m its.toArray) = (List.replicate m its).flatten.toArray := fun m => by
    have z := foldl_rep its m []
    rwa [List.nil_append] at z
  have g4 : List.foldl (fun x y => x ++ y) #[] (List.replicate (if its.toArray.isEmpty = true then 0 else k.toNat) its.toArray) = (List.replicate k.toNat its).flatten.toArray := by
    rw [fl]
    cases its <;> simp
  refine wpAny_binaryOp_repeat_ref (T := "list") (U := "int") (by decide) ⟨_, e, rfl⟩ (fun s' => typeIs_int s' k t) noFill_list_mul F.fills_int_mul F.slot_int_rmul repeat_list F.slot_int_index.lookup
    (call_meets F.slot_int_rmul (typeIs_int s k t) F.entry_int_rmul (F.args_int_rmul_2 _ _) (int___rmul___int_list k t a its.toArray n)
      ⟨e, rfl, ⟨_, e, rfl⟩, call_meets F.slot_list_mul ⟨_, e, rfl⟩ F.entry_list_mul (F.args_list_mul_2 _ _) (AutoListH.list___mul___list_int_3 a its.toArray n k t g2 g1 g3) ⟨e, ?_⟩⟩)
  rw [g4]
  exact ⟨.ref _, _, I.lnew (t' := s.toks) (r.rep k.toNat) (by rw [PyProof.Rows.lm_len_rep_flat, Nat.mul_comm]; exact hz), rfl, q _ I.fresh⟩
theorem op_bop : ∀ o : Bop, OpR X (binaryOp o.op) (rBop X.K o) := by
  intro o pins s σ H x y v u Q I rx ry h
  obtain ⟨F, d, d', r, hx, hy, q, f⟩ := h
  simp only [bop] at q
  split at q
  · next i j =>
    cases hx.int
    cases hy.int
    rw [Option.map_eq_some_iff] at q
    obtain ⟨k, q, rfl⟩ := q
    have g := f.v (.int k) _ rfl (.int k)
    cases o <;> simp only [intBop] at q <;> (try split at q) <;> first | (cases q; done) | cases q
    · exact op_add pins s σ H _ _ v u Q I rx ry ⟨i, j, rfl, rfl, g⟩
    · exact op_sub pins s σ H _ _ v u Q I rx ry ⟨i, j, rfl, rfl, g⟩
    · exact op_mul pins s σ H _ _ v u Q I rx ry ⟨i, j, rfl, rfl, by assumption, g⟩
    · exact op_fdiv pins s σ H _ _ v u Q I rx ry ⟨i, j, rfl, rfl, by assumption, g⟩
    · exact op_mod pins s σ H _ _ v u Q I rx ry ⟨i, j, rfl, rfl, by assumption, g⟩
    · exact op_shl pins s σ H _ _ v u Q I rx ry ⟨i, j, rfl, rfl, by assumption, g⟩
    · exact op_shr pins s σ H _ _ v u Q I rx ry ⟨i, j, rfl, rfl, by assumption, g⟩
    · exact op_and pins s σ H _ _ v u Q I rx ry ⟨i, j, rfl, rfl, g⟩
    · exact op_or pins s σ H _ _ v u Q I rx ry ⟨i, j, rfl, rfl, g⟩
    · exact op_pow pins s σ H _ _ v u Q I rx ry ⟨i, j, rfl, rfl, by assumption, g⟩
  · next a b hn =>
    simp only [seqBop] at q
    split at q
    · next xs ys =>
      split at q
      · next hl =>
        cases q
        obtain ⟨a, vs, rfl, sa, ra⟩ := hx.tup
        obtain ⟨b, ws, rfl, sb, rb⟩ := hy.tup
        have e1 := ra.length
        have e2 := rb.length
        refine op_catA pins s σ H _ _ v u Q I rx ry ⟨a, b, vs, ws, rfl, rfl, sa, sb, by rw [← line_eq]; omega, fun z => ?_, fun _ z => ?_, fun _ _ p hp => f.tup p _ _ rfl (ra.append rb) hp⟩
        · subst z
          have : xs = [] := List.eq_nil_of_length_eq_zero (by simpa using e1.symm)
          subst this
          exact f.v _ _ rfl hy.rp
        · subst z
          have : ys = [] := List.eq_nil_of_length_eq_zero (by simpa using e2.symm)
          subst this
          exact f.v _ _ rfl (by rw [List.append_nil]; exact hx.rp)
      · cases q
    · next xs ys =>
      split at q
      · next hl =>
        cases q
        obtain ⟨a, vs, rfl, sa, ra⟩ := hx.lst
        obtain ⟨b, ws, rfl, sb, rb⟩ := hy.lst
        cases rx
        cases ry
        have e1 := ra.length
        have e2 := rb.length
        exact op_catR I sa sb (by rw [← line_eq]; omega) fun p hp => f.lst p _ _ rfl (ra.append rb) hp
      · cases q
    · next xs k =>
      split at q
      · next hl =>
        cases q
        obtain ⟨a, vs, rfl, sa, ra⟩ := hx.tup
        cases hy.int
        have e1 := ra.length
        have hne : vs ≠ [] := fun z => by
          subst z
          cases xs with
          | nil => exact absurd hl.1 (by decide)
          | cons _ _ => simp at e1
        by_cases k2 : 2 ≤ k
        · exact op_repT pins s σ H _ _ v u Q I rx ry ⟨a, k, vs, rfl, rfl, sa, hne, k2, hl.2.2.1, by omega, fun p hp => f.tup p _ _ rfl (ra.rep _) hp⟩
        · cases rx
          obtain ⟨t, rfl⟩ := ry
          by_cases k1 : k = 1
          · subst k1
            refine op_rep1 I sa (f.v _ _ rfl ?_)
            have e : (List.replicate (1 : Int).toNat xs).flatten = xs := by simp
            rw [e]; exact hx.rp
          · have e : (List.replicate k.toNat xs).flatten = [] := by
              have : k.toNat = 0 := by omega
              rw [this]; rfl
            refine op_rep0 I sa hne hl.2.1 (by omega) fun p hp => f.tup p _ _ rfl ?_ hp
            rw [e]; exact .nil
      · cases q
    · next xs k =>
      split at q
      · next hl =>
        cases q
        obtain ⟨a, vs, rfl, sa, ra⟩ := hx.lst
        cases hy.int
        cases rx
        obtain ⟨t, rfl⟩ := ry
        have e1 := ra.length
        exact op_repR I sa hl.1 hl.2.1 (by rw [e1, ← line_eq]; exact hl.2.2) fun p hp => f.lst p _ _ rfl (ra.rep _) hp
      · cases q
    · next x y =>
      split at q
      · next hl =>
        cases q
        cases hx.str
        cases hy.str
        exact op_add_str pins s σ H _ _ v u Q I rx ry ⟨_, _, rfl, rfl, by rw [← line_eq]; exact hl, f.v _ _ rfl (.str _)⟩
      · cases q
    · cases q
def rCop (K : PySem.W.Frag) (o : Cop) : R2 := fun x y H Q => ∃ F d d' b, Rt K F H x d ∧ Rt K F H y d' ∧ cop o d d' = some b ∧ Q (.bl b) H
theorem fit_shaped {d : D} (h : fit d = true) : SeqAt.shaped d = true := h
theorem in_any {pins : List (Addr × Obj)} {s : Shared} {σ : St} {H : Hp} {F : Addr → Prop} {x y : V} {v u : Value} {d d' : D} {b : Bool} {Q : VK} (hu : X.A.units + 65 < cLine) (I : Inv X pins σ H s) (rx : RelV x v) (ry : RelV y u) (hx : Rt X.K F H x d) (hy : Rt X.K F H y d')
    (q : inD d d' = some b) (neg : Bool) (h : Q (.bl (if neg then !b else b)) H) : wpAny (model X.prog X.w) X.A (compareOp (if neg then .NotIn else .In) v u) (EP X pins σ Q) X.xe s := by
  cases d' with
  | list ys =>
    simp only [inD] at q
    split at q
    · next hf =>
      cases q
      rw [Bool.and_eq_true] at hf
      cases neg with
      | false => exact op_inD hu pins s σ H x y v u Q I rx ry ⟨d, ys, hx.dp, hy.dp, fit_shaped hf.1, fit_shaped hf.2, h⟩
      | true => exact op_notInD hu pins s σ H x y v u Q I rx ry ⟨d, ys, hx.dp, hy.dp, fit_shaped hf.1, fit_shaped hf.2, h⟩
    · cases q
  | tuple ys =>
    simp only [inD] at q
    split at q
    · next hf =>
      cases q
      rw [Bool.and_eq_true] at hf
      obtain ⟨as, r1⟩ := Dp.reads I d x v hx.dp rx
      obtain ⟨bs, r2⟩ := Dp.reads I (.tuple ys) y u hy.dp ry
      have room : X.A.units + 1 + min (PyData.depthAll ys) d.depth < cLine := by
        have := of_decide_eq_true (Bool.and_eq_true_iff.mp hf.1).2
        omega
      have c1 : PyData.canLayAll0 ys = true := (Bool.and_eq_true_iff.mp hf.2).1
      have c2 : d.canLay0 = true := (Bool.and_eq_true_iff.mp hf.1).1
      cases neg with
      | false => exact SeqAt.in_tuple_reads r2 r1 c1 c2 room ⟨.bl _, H, I, rfl, h⟩
      | true => exact SeqAt.notIn_tuple_reads r2 r1 c1 c2 room ⟨.bl _, H, I, rfl, h⟩
    · cases q
  | none => cases q
  | bool _ => cases q
  | int _ => cases q
  | str _ => cases q
  | dict _ => cases q
theorem lt_parts {d d' : D} (h : ltOk d d' = true) : PySem.W.alike d d' = true ∧ d ≠ .none ∧ d.depth ≤ 64 := by
  unfold ltOk at h
  simp only [Bool.and_eq_true, decide_eq_true_eq, Bool.not_eq_true'] at h
  refine ⟨h.1.1, ?_, h.2⟩
  rintro rfl
  have := h.1.2
  simp [isNone] at this
theorem op_cop (hu : X.A.units + 65 < cLine) : ∀ o : Cop, OpR X (compareOp o.op) (rCop X.K o) := by
  intro o pins s σ H x y v u Q I rx ry h
  obtain ⟨F, d, d', b, hx, hy, q, f⟩ := h
  have he : ∀ c, eqD d d' = some c → SeqAt.shaped d = true ∧ SeqAt.shaped d' = true ∧ c = d.eqv d' := fun c z => by
    simp only [eqD] at z
    split at z
    · next hf =>
      cases z
      rw [Bool.and_eq_true] at hf
      exact ⟨hf.1, hf.2, rfl⟩
    · cases z
  simp only [cop] at q
  split at q
  · obtain ⟨s1, s2, e⟩ := he _ q
    exact op_eqD (by omega) pins s σ H x y v u Q I rx ry ⟨d, d', hx.dp, hy.dp, s1, s2, by rw [← e]; exact f⟩
  · rw [Option.map_eq_some_iff] at q
    obtain ⟨c, q, rfl⟩ := q
    obtain ⟨s1, s2, e⟩ := he _ q
    exact op_neD (by omega) pins s σ H x y v u Q I rx ry ⟨d, d', hx.dp, hy.dp, s1, s2, by rw [← e]; exact f⟩
  · cases q; cases hx.int; cases hy.int
    exact op_lt pins s σ H _ _ v u Q I rx ry ⟨_, _, rfl, rfl, f⟩
  · cases q; cases hx.int; cases hy.int
    exact op_le pins s σ H _ _ v u Q I rx ry ⟨_, _, rfl, rfl, f⟩
  · cases q; cases hx.int; cases hy.int
    exact op_gt pins s σ H _ _ v u Q I rx ry ⟨_, _, rfl, rfl, f⟩
  · cases q; cases hx.int; cases hy.int
    exact op_ge pins s σ H _ _ v u Q I rx ry ⟨_, _, rfl, rfl, f⟩
  · cases q; cases hy.none
    exact op_isN pins s σ H _ _ v u Q I rx ry ⟨rfl, by rw [← hx.isn]; exact f⟩
  · cases q; cases hy.none
    exact op_notN pins s σ H _ _ v u Q I rx ry ⟨rfl, by rw [← hx.isn]; exact f⟩
  · exact in_any hu I rx ry hx hy q false f
  · rw [Option.map_eq_some_iff] at q
    obtain ⟨c, q, rfl⟩ := q
    exact in_any hu I rx ry hx hy q true f
  · split at q
    · next hl =>
      cases q
      obtain ⟨h1, h2, h3⟩ := lt_parts hl
      obtain ⟨as, r1⟩ := Dp.reads I _ x v hx.dp rx
      obtain ⟨bs, r2⟩ := Dp.reads I _ y u hy.dp ry
      exact PySem.W.lt_data r1 r2 h1 h2 (by omega) ⟨.bl _, H, I, rfl, f⟩
    · cases q
  · split at q
    · next hl =>
      cases q
      obtain ⟨h1, h2, h3⟩ := lt_parts hl
      obtain ⟨as, r1⟩ := Dp.reads I _ x v hx.dp rx
      obtain ⟨bs, r2⟩ := Dp.reads I _ y u hy.dp ry
      exact PySem.W.gt_data r1 r2 h1 h2 (by omega) ⟨.bl _, H, I, rfl, f⟩
    · cases q
  · split at q
    · next hl =>
      cases q
      obtain ⟨h1, h2, h3⟩ := lt_parts hl
      obtain ⟨as, r1⟩ := Dp.reads I _ x v hx.dp rx
      obtain ⟨bs, r2⟩ := Dp.reads I _ y u hy.dp ry
      exact PySem.W.le_data r1 r2 h1 h2 (by omega) ⟨.bl _, H, I, rfl, f⟩
    · cases q
  · split at q
    · next hl =>
      cases q
      obtain ⟨h1, h2, h3⟩ := lt_parts hl
      obtain ⟨as, r1⟩ := Dp.reads I _ x v hx.dp rx
      obtain ⟨bs, r2⟩ := Dp.reads I _ y u hy.dp ry
      exact PySem.W.ge_data r1 r2 h1 h2 (by omega) ⟨.bl _, H, I, rfl, f⟩
    · cases q
  · cases q
end
end Zv

set_option Elab.async false
set_option autoImplicit false
set_option linter.all false
set_option maxRecDepth 100000
namespace Zv
open PySem PySem.Spec L2
open PyProof.Rows hiding St

def rIxD (K : PySem.W.Frag) : R2 := fun x y H Q => ∃ F d d' r, Rt K F H x d ∧ Rt K F H y d' ∧ idxD d d' = some r ∧ ∀ w, Rp K F H w r → Q w H
def rCut (K : PySem.W.Frag) : V → Option Int → Option Int → Hp → VK → Prop := fun x lo hi H Q => ∃ F d r, Rt K F H x d ∧ cutD lo hi d = some r ∧ Fin K F H Q r
def rP1 (K : PySem.W.Frag) (p : P1) : List V → Hp → VK → Prop := fun xs H Q => ∃ F x d r, xs = [x] ∧ Rt K F H x d ∧ p1 p d = some r ∧ Fin K F H Q r
section
variable {X : Cx} {K : PySem.W.Frag} {F : Addr → Prop} {H : Hp}
theorem ix_ok : IxR X (rIxD X.K) := by
  intro value slice pins s σ H x y v u Q I rx ry h hs
  obtain ⟨F, d, d', r, hx, hy, q, f⟩ := h
  have at_ : ∀ {vs : List V} {ds : List D} {i : Int}, RpL X.K F H vs ds → ((ixOf ds.length i).bind fun j => ds[j]?) = some r → ∃ w, atI vs i = some w ∧ Q w H := by
    intro vs ds i hr hq
    rw [Option.bind_eq_some_iff] at hq
    obtain ⟨j, e1, e2⟩ := hq
    obtain ⟨w, e3, rw'⟩ := hr.get e2
    refine ⟨w, ?_, f w rw'⟩
    show (ixN vs.length i).bind _ = _
    rw [hr.length, show ixN ds.length i = some j from e1]
    exact e3
  cases d with
  | list ds =>
    cases d' with
    | int i =>
      obtain ⟨a, vs, rfl, sa, ra⟩ := hx.lst
      cases hy.int
      obtain ⟨w, e, qw⟩ := at_ ra q
      exact ix_list value slice pins s σ H _ _ v u Q I rx ry ⟨a, vs, i, w, rfl, rfl, sa.sq, e, qw⟩ hs
    | _ => cases q
  | tuple ds =>
    cases d' with
    | int i =>
      obtain ⟨a, vs, rfl, sa, ra⟩ := hx.tup
      cases hy.int
      obtain ⟨w, e, qw⟩ := at_ ra q
      exact ix_tup value slice pins s σ H _ _ v u Q I rx ry ⟨a, vs, i, w, rfl, rfl, sa, e, qw⟩ hs
    | _ => cases q
  | none => cases q
  | bool _ => cases q
  | int _ => cases q
  | str _ => cases q
  | dict _ => cases q
theorem cutIx_eq (n d : Nat) (o : Option Int) : cutIx n d o = HT.sIx n d o := by
  cases o with
  | none => rfl
  | some v =>
    show (if v < 0 then (max (v + (n : Int)) 0).toNat else min v.toNat n) = (if v < 0 then (v + (n : Int)).toNat else min v.toNat n)
    split
    · omega
    · rfl
theorem RpL.cut {vs : List V} {ds : List D} (h : RpL K F H vs ds) (lo hi : Option Int) : RpL K F H (cutV vs lo hi) (cutL ds lo hi) := by
  unfold cutV cutL
  rw [← cutIx_eq, ← cutIx_eq, h.length]
  exact (h.drop _).take _
theorem cut_whole {ds : List D} {lo hi : Option Int} (h : cutIx ds.length 0 lo = 0 ∧ cutIx ds.length ds.length hi = ds.length) : cutL ds lo hi = ds := by
  unfold cutL
  rw [h.1, h.2]
  simp
theorem sl_ok : SlR X (rCut X.K) := by
  intro pins s σ H x v vl vu lo hi sl Q I rx hs pl pu h
  obtain ⟨F, d, r, hx, q, f⟩ := h
  cases d <;> simp only [cutD] at q <;> first | (cases q; done) | skip
  · cases q
    obtain ⟨a, vs, rfl, sa, ra⟩ := hx.lst
    exact sl_list pins s σ H _ v vl vu lo hi sl Q I rx hs pl pu ⟨a, vs, rfl, sa.sq, fun p hp => f.lst p _ _ rfl (ra.cut lo hi) hp⟩
  · cases q
    have rp := hx.rp
    obtain ⟨a, vs, rfl, sa, ra⟩ := hx.tup
    refine sl_tupA pins s σ H _ v vl vu lo hi sl Q I rx hs pl pu ⟨a, vs, rfl, sa, fun z => f.v _ _ rfl ?_, fun _ p hp => f.tup p _ _ rfl (ra.cut lo hi) hp⟩
    rw [← cutIx_eq, ← cutIx_eq, ra.length] at z
    rw [cut_whole z]
    exact rp
theorem vals_bools : ∀ {vs : List V} {ds : List D} {bs : List Bool}, RpL K F H vs ds → boolsOf ds = some bs → vs = bs.map V.bl
  | _, [], _, h, q => by cases h; cases q; rfl
  | _, d :: ds, bs, h, q => by
    cases h with
    | cons h t =>
      cases h with
      | bl b =>
        simp only [boolsOf] at q
        rw [Option.map_eq_some_iff] at q
        obtain ⟨bs', q, rfl⟩ := q
        rw [vals_bools t q]; rfl
      | non => cases q
      | int _ => cases q
      | str _ => cases q
      | tup _ _ => cases q
      | lst _ _ => cases q
theorem vals_intsD : ∀ {vs : List V} {ds : List D} {ns : List Int}, RpL K F H vs ds → intsOf ds = some ns → vs = ns.map V.int
  | _, [], _, h, q => by cases h; cases q; rfl
  | _, d :: ds, ns, h, q => by
    cases h with
    | cons h t =>
      cases h with
      | int b =>
        simp only [intsOf] at q
        rw [Option.map_eq_some_iff] at q
        obtain ⟨bs', q, rfl⟩ := q
        rw [vals_intsD t q]; rfl
      | non => cases q
      | bl _ => cases q
      | str _ => cases q
      | tup _ _ => cases q
      | lst _ _ => cases q
theorem c_len : CallR X (.builtin "len") (rP1 X.K .len) := by
  intro pins s σ H xs us Q I r h
  obtain ⟨F, x, d, ev, rfl, hx, q, f⟩ := h
  cases d <;> simp only [p1] at q <;> first | (cases q; done) | skip
  · split at q
    · next hl =>
      cases q
      cases hx.str
      exact call_len_str pins s σ H _ us Q I r ⟨_, rfl, by rw [← line_eq]; exact hl, f.v _ _ rfl (.int _)⟩
    · cases q
  · cases q
    obtain ⟨a, vs, rfl, sa, ra⟩ := hx.lst
    exact call_len_seq pins s σ H _ us Q I r ⟨a, vs, rfl, .inl sa.sq, f.v _ _ (by rw [ra.length]) (.int _)⟩
  · cases q
    obtain ⟨a, vs, rfl, sa, ra⟩ := hx.tup
    exact call_len_seq pins s σ H _ us Q I r ⟨a, vs, rfl, .inr sa, f.v _ _ (by rw [ra.length]) (.int _)⟩
theorem c_tuple : CallR X (.type "tuple") (rP1 X.K .tuple) := by
  intro pins s σ H xs us Q I r h
  obtain ⟨F, x, d, ev, rfl, hx, q, f⟩ := h
  cases d <;> simp only [p1] at q <;> first | (cases q; done) | skip
  · cases q
    obtain ⟨a, vs, rfl, sa, ra⟩ := hx.lst
    exact call_tuple_of pins s σ H _ us Q I r ⟨a, vs, rfl, .inl ⟨sa.sq, fun p hp => f.tup p _ _ rfl ra hp⟩⟩
  · cases q
    have rp := hx.rp
    obtain ⟨a, vs, rfl, sa, ra⟩ := hx.tup
    exact call_tuple_of pins s σ H _ us Q I r ⟨a, vs, rfl, .inr ⟨sa, f.v _ _ rfl rp⟩⟩
theorem c_list : CallR X (.type "list") (rP1 X.K .list) := by
  intro pins s σ H xs us Q I r h
  obtain ⟨F, x, d, ev, rfl, hx, q, f⟩ := h
  cases d <;> simp only [p1] at q <;> first | (cases q; done) | skip
  · cases q
    obtain ⟨a, vs, rfl, sa, ra⟩ := hx.lst
    exact call_list_of pins s σ H _ us Q I r ⟨a, vs, rfl, .inl sa.sq, fun p hp => f.lst p _ _ rfl ra hp⟩
  · cases q
    obtain ⟨a, vs, rfl, sa, ra⟩ := hx.tup
    exact call_list_of pins s σ H _ us Q I r ⟨a, vs, rfl, .inr sa, fun p hp => f.lst p _ _ rfl ra hp⟩
theorem c_all (hc : X.calm = true) : CallR X (.builtin "all") (rP1 X.K .all) := by
  intro pins s σ H xs us Q I r h
  obtain ⟨F, x, d, ev, rfl, hx, q, f⟩ := h
  cases d <;> simp only [p1] at q <;> first | (cases q; done) | skip
  rw [Option.map_eq_some_iff] at q
  obtain ⟨bs, q, rfl⟩ := q
  obtain ⟨a, vs, rfl, sa, ra⟩ := hx.lst
  exact cr_all hc pins s σ H _ us Q I r ⟨a, bs, rfl, by rw [← vals_bools ra q]; exact sa.sq, f.v _ _ rfl (.bl _)⟩
theorem c_any (hc : X.calm = true) : CallR X (.builtin "any") (rP1 X.K .any) := by
  intro pins s σ H xs us Q I r h
  obtain ⟨F, x, d, ev, rfl, hx, q, f⟩ := h
  cases d <;> simp only [p1] at q <;> first | (cases q; done) | skip
  rw [Option.map_eq_some_iff] at q
  obtain ⟨bs, q, rfl⟩ := q
  obtain ⟨a, vs, rfl, sa, ra⟩ := hx.lst
  exact cr_any hc pins s σ H _ us Q I r ⟨a, bs, rfl, by rw [← vals_bools ra q]; exact sa.sq, f.v _ _ rfl (.bl _)⟩
theorem c_sum (hc : X.calm = true) : CallR X (.builtin "sum") (rP1 X.K .sum) := by
  intro pins s σ H xs us Q I r h
  obtain ⟨F, x, d, ev, rfl, hx, q, f⟩ := h
  cases d <;> simp only [p1] at q <;> first | (cases q; done) | skip
  rw [Option.map_eq_some_iff] at q
  obtain ⟨bs, q, rfl⟩ := q
  obtain ⟨a, vs, rfl, sa, ra⟩ := hx.lst
  exact cr_sum hc pins s σ H _ us Q I r ⟨a, bs, rfl, by rw [← vals_intsD ra q]; exact sa.sq, f.v _ _ rfl (.int _)⟩
theorem c_abs : CallR X (.builtin "abs") (rP1 X.K .abs) := by
  intro pins s σ H xs us Q I r h
  obtain ⟨F, x, d, ev, rfl, hx, q, f⟩ := h
  cases d <;> simp only [p1] at q <;> first | (cases q; done) | skip
  cases q
  cases hx.int
  exact call_abs pins s σ H _ us Q I r ⟨_, rfl, f.v _ _ rfl (.int _)⟩
theorem c_int : CallR X (.type "int") (rP1 X.K .int) := by
  intro pins s σ H xs us Q I r h
  obtain ⟨F, x, d, ev, rfl, hx, q, f⟩ := h
  cases d <;> simp only [p1] at q <;> first | (cases q; done) | skip
  · cases q
    cases hx.bool
    exact call_int1 pins s σ H _ us Q I r (.inr ⟨_, rfl, f.v _ _ rfl (.int _)⟩)
  · cases q
    cases hx.int
    exact call_int1 pins s σ H _ us Q I r (.inl ⟨_, rfl, f.v _ _ rfl (.int _)⟩)
/-! ### isinstance -/
def Ty.name : Ty → String
  | .int => "int" | .bool => "bool" | .str => "str" | .tuple => "tuple" | .list => "list"
def tyName : D → String
  | .none => "NoneType" | .bool _ => "bool" | .int _ => "int" | .str _ => "str" | .list _ => "list" | .tuple _ => "tuple" | .dict _ => "dict"
theorem kitB_all : ∀ t : Ty, ∀ n ∈ ["NoneType", "bool", "int", "str", "list", "tuple", "dict"], kitB n t.name = some (n == t.name || (n == "bool" && t.name == "int")) := by
  intro t
  cases t <;> decide +kernel
theorem isTy_name (t : Ty) (d : D) : isTy t d = (tyName d == t.name || (tyName d == "bool" && t.name == "int")) := by
  cases t <;> cases d <;> rfl
theorem Rt.ty {x : V} {d : D} (h : Rt K F H x d) : TyX K H x (.type (tyName d)) := by
  have tl : ∀ {a : Addr} {xs : List V}, Rd H a (.lst xs) → TyX K H (.ref a) (.type "list") := fun h => h.elim (fun h => .base (.lst h)) fun ⟨o, h⟩ => .base (.frz h)
  cases h with
  | fz h =>
    cases h with
    | non => exact .base .non
    | bl _ => exact .base (.bl _)
    | int _ => exact .base (.int _)
    | str _ => exact .base (.str _)
    | tup h _ =>
      rcases h with ⟨_, h⟩ | ⟨o, its, n, h, hc, _⟩
      · exact .base (.tup h)
      · exact .kTuple h hc
    | lst h _ =>
      rcases h with ⟨_, h⟩ | ⟨its, n, h, _⟩
      · exact tl h
      · exact .kList h rfl
  | ob h => cases h with | lst h _ => exact tl (.inl h)
def rIs (K : PySem.W.Frag) (t : Ty) : List V → Hp → VK → Prop := fun xs H Q => ∃ F x d, xs = [x, .ty t.name] ∧ Rt K F H x d ∧ Q (.bl (isTy t d)) H
theorem c_isi (t : Ty) : CallR X (.builtin "isinstance") (rIs X.K t) := by
  intro pins s σ H xs us Q I r h
  obtain ⟨F, x, d, rfl, hx, q⟩ := h
  refine call_isi pins s σ H _ us Q I r ⟨x, .ty t.name, _, _, _, rfl, .ty _, hx.ty, kit_ty (kitB_all t (tyName d) (by cases d <;> simp [tyName])), ?_⟩
  rw [← isTy_name]
  exact q

/-! ### repr -/
theorem c_repr (hg : X.A.guards = some []) (hu : X.A.units + 65 < cLine) : CallR X (.builtin "repr") (rP1 X.K .repr) := by
  intro pins s σ H xs us Q I r h
  obtain ⟨F, x, d, ev, rfl, hx, q, f⟩ := h
  obtain ⟨u, rfl, rx⟩ := vals1 r
  have key : ∀ dd : D, dd = d → (∃ a, x = .ref a) → (if dd.showable && !dd.hasDict && decide (dd.depth ≤ 64) && decide (dd.shown.length ≤ line) then some (EV.v (.str dd.shown)) else none) = some ev →
      wpAny (model X.prog X.w) X.A (call (.builtin "repr") [u]) (EP X pins σ Q) X.xe s := by
    intro dd e ⟨a, ha⟩ q2
    subst e ha
    split at q2
    · next hc =>
      cases q2
      simp only [Bool.and_eq_true, decide_eq_true_eq, Bool.not_eq_true'] at hc
      obtain ⟨⟨⟨h1, h2⟩, h3⟩, h4⟩ := hc
      obtain ⟨as, rr⟩ := Dp.reads I dd _ u hx.dp rx
      cases rx
      exact repr_of_reads' rr h1 (PyData.noDict_hsm h2) hg (by omega) (fun _ _ e => e) (fun h' u tk hk => ⟨.str _, H, I.kept hk, ⟨_, rfl⟩, f.v _ _ rfl (.str _)⟩) (by rw [← line_eq]; exact h4)
    · cases q2
  cases d <;> simp only [p1] at q <;> first | (cases q; done) | skip
  · exact key _ rfl (by obtain ⟨a, _, e, _⟩ := hx.lst; exact ⟨a, e⟩) q
  · exact key _ rfl (by obtain ⟨a, _, e, _⟩ := hx.tup; exact ⟨a, e⟩) q
end
end Zv

set_option Elab.async false
set_option autoImplicit false
set_option linter.all false
set_option maxRecDepth 100000
/-! ZSA: sets of nested tuples, at the model's own words -/
namespace Zv.ZS
open PySem PySem.Spec L2
open PyProof.Rows hiding St
section
variable {P : Program} {w : World} {A : Around} {E : Value → Shared → Prop} {s : Shared}
/-- k stands at b -/
abbrev At (P : Program) (w : World) (h : Heap) (k : NestedKey) (b : Addr) : Prop := (nestedKind P w).is h k b
theorem At.shape {h : Heap} {k : NestedKey} {b : Addr} (x : At P w h k b) : ∃ o vs n ks, k = .tup ks ∧ h.get? b = some o ∧ o.cls = .type "tuple" ∧ o.data = .seq vs n ∧ NestedAll h ks vs.toList := by
  obtain ⟨x, _⟩ := x
  cases x with
  | tup h1 h2 h3 h4 => exact ⟨_, _, _, _, rfl, h1, h2, h3, h4⟩
theorem nested_mem {h : Heap} : ∀ {ks : List NestedKey} {vs : List Value}, NestedAll h ks vs → ∀ v ∈ vs, ∃ k ∈ ks, NestedIs h k v
  | [], _, x, v, hv => by cases x; cases hv
  | k :: ks, _, x, v, hv => by
    cases x with
    | cons a b =>
      rcases List.mem_cons.mp hv with e | hv
      · exact ⟨k, List.mem_cons_self, e ▸ a⟩
      · obtain ⟨j, hj, y⟩ := nested_mem b v hv
        exact ⟨j, List.mem_cons_of_mem _ hj, y⟩
theorem depth_mem : ∀ {ks : List NestedKey} {k : NestedKey}, k ∈ ks → k.depth ≤ NestedKey.depthAll ks
  | j :: ks, k, h => by
    simp only [NestedKey.depthAll]
    rcases List.mem_cons.mp h with rfl | h
    · exact Nat.le_max_left _ _
    · exact Nat.le_trans (depth_mem h) (Nat.le_max_right _ _)
/-- an item of no object -/
theorem leaf_or {h : Heap} {k : NestedKey} {v : Value} (x : NestedIs h k v) : (∃ a, v = .ref a ∧ ∃ ks, k = .tup ks) ∨ (carriedByValue v = true ∧ (∀ n, ofAClassStatement n v = pure false) ∧ ∃ r, ∀ n, hashByValue n v = pure r) := by
  cases x with
  | none => exact .inr ⟨rfl, fun n => by cases n <;> rfl, true, fun n => by cases n <;> rfl⟩
  | bool _ => exact .inr ⟨rfl, fun n => by cases n <;> rfl, true, fun n => by cases n <;> rfl⟩
  | int _ _ => exact .inr ⟨rfl, fun n => by cases n <;> rfl, true, fun n => by cases n <;> rfl⟩
  | text _ _ => exact .inr ⟨rfl, fun n => by cases n <;> rfl, false, fun n => by cases n <;> rfl⟩
  | tup _ _ _ _ => exact .inl ⟨_, rfl, _, rfl⟩
/-- is the hash one by value: whatever comes -/
theorem hashBy : ∀ (n : Nat) (k : NestedKey) (v : Value), NestedIs s.heap k v → k.depth ≤ n → ∀ {A : Around} {E : Value → Shared → Prop} {Q : Bool → Shared → Prop}, (∀ r, Q r s) → wpAny (model P w) A (hashByValue n v) Q E s := by
  intro n
  induction n with
  | zero =>
    intro k v x hd A E Q hQ
    rcases leaf_or x with ⟨a, rfl, ks, rfl⟩ | ⟨_, _, r, hr⟩
    · simp only [NestedKey.depth] at hd; omega
    · rw [hr]; exact wpAny_pure (hQ r)
  | succ n ih =>
    intro k v x hd A E Q hQ
    rcases leaf_or x with ⟨a, rfl, ks, rfl⟩ | ⟨_, _, r, hr⟩
    · cases x with
      | tup ho hc hdat hall =>
        simp only [NestedKey.depth] at hd
        unfold hashByValue
        refine wpAny_bind (wpAny_specialOf ⟨_, ho, hc⟩ F.slot_tuple_hash.lookup ?_)
        show wpAny _ _ (seqItems? (.ref a) >>= _) _ _ s
        refine wpAny_bind (wpAny_seqItems ho hdat ?_)
        refine wpAny_bind ?_
        show wpAny _ _ (forIn _ _ _) _ _ s
        rw [← Array.forIn_toList]
        refine wpAny_forIn_list _ (fun (rest : List Value) (r : Option Bool × Unit) (s' : Shared) => s' = s ∧ ∀ u ∈ rest, ∃ j, NestedIs s.heap j u ∧ j.depth ≤ n) _ ?_ ?_ _ _ ⟨rfl, fun u hu => ?_⟩
        · rintro u rest r s' ⟨rfl, q⟩
          obtain ⟨j, hj, hjd⟩ := q u List.mem_cons_self
          refine wpAny_bind (ih j u hj hjd fun b => ?_)
          cases b
          · simp only [Bool.not_false, if_true]
            exact wpAny_pure (wpAny_pure (hQ false))
          · simp only [Bool.not_true, Bool.false_eq_true, if_false]
            exact wpAny_pure ⟨rfl, fun z hz => q z (List.mem_cons_of_mem _ hz)⟩
        · rintro ⟨r1, r2⟩ s' ⟨rfl, _⟩
          cases r1 with
          | none => exact wpAny_pure (hQ true)
          | some b => exact wpAny_pure (hQ b)
        · obtain ⟨j, hj, y⟩ := nested_mem hall u hu
          exact ⟨j, y, Nat.le_trans (depth_mem hj) (by omega)⟩
    · rw [hr]; exact wpAny_pure (hQ r)
/-- no class statement among the items -/
theorem ofClass : ∀ (n : Nat) (k : NestedKey) (v : Value), NestedIs s.heap k v → k.depth ≤ n → ∀ {A : Around} {E : Value → Shared → Prop} {Q : Bool → Shared → Prop}, Q false s → wpAny (model P w) A (ofAClassStatement n v) Q E s := by
  intro n
  induction n with
  | zero =>
    intro k v x hd A E Q hQ
    rcases leaf_or x with ⟨a, rfl, ks, rfl⟩ | ⟨_, hr, _⟩
    · simp only [NestedKey.depth] at hd; omega
    · rw [hr]; exact wpAny_pure hQ
  | succ n ih =>
    intro k v x hd A E Q hQ
    rcases leaf_or x with ⟨a, rfl, ks, rfl⟩ | ⟨_, hr, _⟩
    · cases x with
      | tup ho hc hdat hall =>
        simp only [NestedKey.depth] at hd
        unfold ofAClassStatement
        refine wpAny_bind (wpAny_typeOf ⟨_, ho, hc⟩ ?_)
        dsimp only
        have e : (("tuple" : String) == "tuple") = true := by decide
        simp only [e, if_true, Bool.not_true, Bool.false_eq_true, if_false]
        try refine wpAny_bind (wpAny_pure ?_)
        try simp only [Bool.not_true, Bool.false_eq_true, if_false]
        show wpAny _ _ (seqItems? (.ref a) >>= _) _ _ s
        refine wpAny_bind (wpAny_seqItems ho hdat ?_)
        refine wpAny_bind ?_
        show wpAny _ _ (forIn _ _ _) _ _ s
        rw [← Array.forIn_toList]
        refine wpAny_forIn_list _ (fun (rest : List Value) (r : Option Bool × Unit) (s' : Shared) => r.1 = none ∧ s' = s ∧ ∀ u ∈ rest, ∃ j, NestedIs s.heap j u ∧ j.depth ≤ n) _ ?_ ?_ _ _ ⟨rfl, rfl, fun u hu => ?_⟩
        · rintro u rest r s' ⟨hr, rfl, q⟩
          obtain ⟨j, hj, hjd⟩ := q u List.mem_cons_self
          refine wpAny_bind (ih j u hj hjd ?_)
          simp only [Bool.false_eq_true, if_false]
          exact wpAny_pure ⟨rfl, rfl, fun z hz => q z (List.mem_cons_of_mem _ hz)⟩
        · rintro ⟨r1, r2⟩ s' ⟨hr, rfl, _⟩
          cases hr
          exact wpAny_pure hQ
        · obtain ⟨j, hj, y⟩ := nested_mem hall u hu
          exact ⟨j, y, Nat.le_trans (depth_mem hj) (by omega)⟩
    · rw [hr]; exact wpAny_pure hQ
/-- a search among such keys shows nothing -/
theorem seen {k : NestedKey} {b : Addr} {Q : Bool → Shared → Prop} (hk : At P w s.heap k b) {ys : List Value} (hy : ∀ y ∈ ys, ∃ j c, y = Value.ref c ∧ At P w s.heap j c) (h : Q false s) : wpAny (model P w) A (searchCouldBeSeen (.ref b) ys) Q E s := by
  unfold searchCouldBeSeen
  refine wpAny_bind ?_
  refine wpAny_forIn_list _ (fun (rest : List Value) (r : Option Bool × Unit) (s' : Shared) => r.1 = none ∧ s' = s ∧ ∀ y ∈ rest, ∃ j c, y = Value.ref c ∧ At P w s.heap j c) _ ?_ ?_ _ _ ⟨rfl, rfl, hy⟩
  · rintro v rest r s' ⟨hr, rfl, q⟩
    obtain ⟨j, c, rfl, hc⟩ := q v List.mem_cons_self
    have q' := fun u (hu : u ∈ rest) => q u (List.mem_cons_of_mem _ hu)
    dsimp only
    by_cases hv : (b == c || (carriedByValue (.ref b) && carriedByValue (.ref c))) = true
    · exact L2.wp_if_pos hv (wpAny_pure ⟨rfl, rfl, q'⟩)
    · refine L2.wp_if_neg hv ?_
      refine wpAny_bind ((nestedKind P w).quiet hk ?_)
      simp only [Bool.not_true, Bool.false_eq_true, if_false]
      refine wpAny_bind ((nestedKind P w).quiet hc ?_)
      simp only [Bool.not_true, Bool.false_eq_true, if_false]
      refine wpAny_bind (ofClass 8 _ _ hk.1 hk.2 ?_)
      simp only [Bool.false_eq_true, if_false]
      refine wpAny_bind (ofClass 8 _ _ hc.1 hc.2 ?_)
      simp only [Bool.false_eq_true, if_false]
      exact wpAny_pure ⟨rfl, rfl, q'⟩
  · rintro ⟨r1, r2⟩ s' ⟨hr, rfl, _⟩
    cases hr
    exact wpAny_pure h
end
end Zv.ZS

set_option Elab.async false
set_option autoImplicit false
set_option linter.all false
set_option maxRecDepth 100000
/-! ZSB: a set of nested tuples: searched, added to -/
namespace Zv.ZS
open PySem PySem.Spec L2
open PyProof.Rows hiding St
/-- what stands where, and as which key -/
abbrev Ent := Addr × NestedKey
def entH (w : World) (p : Ent) : Int := p.2.hash w
def rowE (w : World) (p : Ent) : Int × Value := (entH w p, Value.ref p.1)
/-- the set at a with the entries ps -/
structure Set0 (P : Program) (w : World) (h : Heap) (a : Addr) (ps : List Ent) (es : Array (Int × Value)) (ep : Nat) (t : SetTable) : Prop where
  obj : ∃ o, h.get? a = some o ∧ o.ExactSet ∧ o.data = .set es ep t
  rws : es.toList = ps.map (rowE w)
  tab : TabOk t (ps.map (entH w))
  once : (ps.map Prod.snd).Nodup
  ats : ∀ p ∈ ps, At P w h p.2 p.1
  led : w.params.followText "set-order" = true ∨ t.led = true
  room : ps.length * 5 < t.mask * 3
  few : ps.length < 70
section
variable {P : Program} {w : World} {A : Around} {E : Value → Shared → Prop} {s : Shared} {a : Addr} {ps : List Ent} {es : Array (Int × Value)} {ep : Nat} {t : SetTable}
theorem Set0.size {h : Heap} (R : Set0 P w h a ps es ep t) : es.size = ps.length := by
  have z := congrArg List.length R.rws
  rwa [Array.length_toList, List.length_map] at z
theorem fits_of {n : Nat} (h1 : t.place.size = n) (h2 : t.dummies = #[]) (h3 : n ≤ t.mask) : t.fits n = true := by
  unfold SetTable.fits SetTable.fill
  rw [h2, Bool.and_eq_true, beq_iff_eq, decide_eq_true_eq]
  show t.place.size = n ∧ t.place.size + 0 ≤ t.mask
  omega
theorem Set0.fits {h : Heap} (R : Set0 P w h a ps es ep t) : t.fits es.size = true := by
  have z := R.tab.sz
  rw [List.length_map] at z
  have z2 := R.size
  have z3 := R.room
  exact fits_of (by omega) R.tab.dm (by omega)
theorem Set0.ent (R : Set0 P w s.heap a ps es ep t) {i : Nat} {p : Ent} (h : ps[i]? = some p) : es[i]? = some (rowE w p) := by
  rw [← Array.getElem?_toList, R.rws, List.getElem?_map, h]; rfl
theorem Set0.notGw (R : Set0 P w s.heap a ps es ep t) : ¬ t.gaveWay = true := by
  unfold SetTable.gaveWay; rw [mask_odd R.tab.mok]; decide
theorem nth_plain (m : Nat) : ∀ (n : Nat) (p : SetTable.Probe), p.dummy = none → (nth m p n).dummy = none
  | 0, _, h => h
  | n + 1, p, h => nth_plain m n (adv m p) (by unfold adv; split <;> exact h)
/-- where the way of a hash stands after c steps -/
def stn (m : Nat) (g : Int) (c : Nat) : SetTable.Probe := nth m (runAt m (SetTable.bits g % (m + 1)) (SetTable.bits g)) c
theorem stn_add (m : Nat) (g : Int) (c q : Nat) : nth m (stn m g c) q = stn m g (c + q) := (nth_add m c _ q).symm
theorem stn_j (m : Nat) (g : Int) (c : Nat) : (stn m g c).j = way m g c := rfl
/-- THE SEARCH, from the c-th step on -/
theorem search_go (R : Set0 P w s.heap a ps es ep t) {x : Addr} {k : NestedKey} (hx : At P w s.heap k x) (hu : A.units + 8 < cLine) {n : Nat} (h1 : n < 10 * SetTable.turns t.mask)
    (h2 : way t.mask (k.hash w) n ∉ t.place.toList) (h3 : ∀ c, c < n → way t.mask (k.hash w) c ∈ t.place.toList) {Q : SetFound → Shared → Prop}
    (yes : k ∈ ps.map Prod.snd → Q (.there none) s) (no : k ∉ ps.map Prod.snd → Q (.free (way t.mask (k.hash w) n) false) s) :
    ∀ (f c : Nat) (st : Option SetTable.Probe), st.getD (t.probeStart (k.hash w)) = stn t.mask (k.hash w) c → c ≤ n → n - c < f →
      (∀ (i : Nat) p, ps[i]? = some p → p.2 = k → ∃ d, c ≤ d ∧ d < n ∧ t.place.toList[i]? = some (way t.mask (k.hash w) d)) →
      wpAny (model P w) A (setSearchFrom a (.ref x) (k.hash w) true f st) Q E s := by
  intro f
  induction f with
  | zero => intro c st _ _ hf; exact absurd hf (Nat.not_lt_zero _)
  | succ f ih =>
    intro c st hst hc hf hre
    obtain ⟨o, ho, hex, hdat⟩ := R.obj
    rw [setSearchFrom_succ]
    refine wpAny_bind (wpAny_setState_of ho hdat R.fits ?_)
    dsimp only
    refine L2.wp_if_neg R.notGw ?_
    try refine wpAny_bind (wpAny_pure ?_)
    have spec := go_spec t R.tab.ris R.tab.dm (fun i => (es[i]?.map (·.1)).getD 0) (k.hash w) (10 * SetTable.turns t.mask) (n - c) (stn t.mask (k.hash w) c) (nth_plain _ c _ rfl) (by omega)
      (fun q hq => by rw [stn_add, stn_j]; exact h3 (c + q) (by omega)) (by rw [stn_add, stn_j, show c + (n - c) = n by omega]; exact h2)
    have hashAt : ∀ (i : Nat) (p : Ent), ps[i]? = some p → (es[i]?.map (·.1)).getD 0 = p.2.hash w := fun i p hp => by rw [R.ent hp]; rfl
    rcases spec with ⟨q, i, hq, hi, hh, hno, hpr⟩ | ⟨hno, hpr⟩
    · rw [stn_add, stn_j] at hi
      rw [stn_add, stn_add, ← hst, stn_j] at hpr
      show wpAny _ _ (match t.probe (fun i => (es[i]?.map (·.1)).getD 0) (k.hash w) (st.getD (t.probeStart (k.hash w))) with | some met => _ | _ => _) _ _ _
      rw [show t.probe (fun i => (es[i]?.map (·.1)).getD 0) (k.hash w) (st.getD (t.probeStart (k.hash w))) = _ from hpr]
      dsimp only
      have hil : i < ps.length := by
        have z1 := (List.getElem?_eq_some_iff.mp hi).1
        have z2 := R.tab.sz
        rw [List.length_map] at z2
        rw [Array.length_toList] at z1
        omega
      have hp : ps[i]? = some ps[i] := List.getElem?_eq_getElem hil
      generalize ps[i] = p at hp
      have pm := List.mem_of_getElem? hp
      have hsl := slot_live R.tab.ris hi
      have rest : wpAny (model P w) A (searchRest a (.ref x) (k.hash w) true f es t (way t.mask (k.hash w) (c + q)) i (stn t.mask (k.hash w) (c + (q + 1)))) Q E s := by
        unfold searchRest
        rw [R.ent hp]
        dsimp only [rowE]
        refine wpAny_bind (wpAny_holding ((nestedKind P w).eqBool hu (R.ats p pm) hx ?_))
        refine wpAny_bind (wpAny_setState_of ho hdat R.fits ?_)
        dsimp only
        by_cases e : p.2 = k
        · exact L2.wp_if_pos (by simp [e]) (wpAny_pure (yes (List.mem_map.mpr ⟨p, pm, e⟩)))
        · refine L2.wp_if_neg (by simp [e]) ?_
          try refine wpAny_bind (wpAny_pure ?_)
          rw [sameMem]
          dsimp only
          simp only [if_true, hsl, R.ent hp, rowE]
          refine wpAny_bind (wpAny_isSame_ref_self (wpAny_bind (wpAny_pure ?_)))
          simp only [if_true]
          refine L2.wp_if_neg (by simp [e]) ?_
          refine ih (c + (q + 1)) _ rfl (by omega) (by omega) fun i0 p0 z0 zk => ?_
          obtain ⟨d, y1, y2, y3⟩ := hre i0 p0 z0 zk
          refine ⟨d, ?_, y2, y3⟩
          by_cases l1 : d < c + q
          · exfalso
            refine hno (d - c) i0 (by omega) (by rw [stn_add, stn_j, show c + (d - c) = d by omega]; exact y3) ?_
            exact (hashAt i0 p0 z0).trans (congrArg (NestedKey.hash w) zk)
          · by_cases l2 : d = c + q
            · exfalso
              rw [l2] at y3
              have u0 := slot_live R.tab.ris y3
              rw [hsl] at u0
              injection u0 with u0
              rw [← u0, hp] at z0
              cases z0
              exact e zk
            · omega
      by_cases hl : t.led = true
      · refine L2.wp_if_neg (by simp [hl]) ?_
        try refine wpAny_bind (wpAny_pure ?_)
        exact rest
      · refine L2.wp_if_pos (by simp [hl]) ?_
        refine wpAny_bind (seen hx (fun y hy => ?_) ?_)
        · obtain ⟨u, hu1, hu2⟩ := List.mem_map.mp hy
          have hu3 : u ∈ es ∧ u.1 = k.hash w := by simpa using hu1
          have hu4 : u ∈ es.toList := by simpa using hu3.1
          rw [R.rws] at hu4
          obtain ⟨p2, hp2, e2⟩ := List.mem_map.mp hu4
          exact ⟨p2.2, p2.1, by rw [← hu2, ← e2]; rfl, R.ats p2 hp2⟩
        · refine L2.wp_if_neg (by decide) ?_
          try refine wpAny_bind (wpAny_pure ?_)
          exact rest
    · rw [stn_add, ← hst, stn_j, show c + (n - c) = n by omega] at hpr
      show wpAny _ _ (match t.probe (fun i => (es[i]?.map (·.1)).getD 0) (k.hash w) (st.getD (t.probeStart (k.hash w))) with | some met => _ | _ => _) _ _ _
      rw [show t.probe (fun i => (es[i]?.map (·.1)).getD 0) (k.hash w) (st.getD (t.probeStart (k.hash w))) = _ from hpr]
      dsimp only
      refine wpAny_pure (no fun hm => ?_)
      obtain ⟨p0, z0, zk⟩ := List.mem_map.mp hm
      obtain ⟨i0, hi0, e0⟩ := List.getElem_of_mem z0
      have z1 : ps[i0]? = some p0 := by rw [List.getElem?_eq_getElem hi0, e0]
      obtain ⟨d, y1, y2, y3⟩ := hre i0 p0 z1 zk
      refine hno (d - c) i0 (by omega) (by rw [stn_add, stn_j, show c + (d - c) = d by omega]; exact y3) ?_
      exact (hashAt i0 p0 z1).trans (congrArg (NestedKey.hash w) zk)
/-- the search as adding asks for it -/
theorem search (R : Set0 P w s.heap a ps es ep t) {x : Addr} {k : NestedKey} (hx : At P w s.heap k x) (hu : A.units + 8 < cLine) {Q : SetFound → Shared → Prop}
    (yes : k ∈ ps.map Prod.snd → Q (.there none) s)
    (no : ∀ n, k ∉ ps.map Prod.snd → way t.mask (k.hash w) n ∉ t.place.toList → (∀ c, c < n → way t.mask (k.hash w) c ∈ t.place.toList) → Q (.free (way t.mask (k.hash w) n) false) s) :
    wpAny (model P w) A (setSearch a (.ref x) (k.hash w) true) Q E s := by
  have hroom := R.room
  obtain ⟨n, h1, h2, h3⟩ := R.tab.first (by rw [List.length_map]; omega) (k.hash w)
  have big : n < 100000 := by
    have : 10 * SetTable.turns t.mask ≤ 1420 := by
      unfold SetTable.turns
      rcases R.tab.mok with e | e | e <;> omega
    omega
  unfold setSearch
  refine search_go R hx hu h1 h2 h3 yes (fun z => no n z h2 h3) 100000 0 none rfl (Nat.zero_le _) (by omega) fun i p hp hk => ?_
  have hi : (ps.map (entH w))[i]? = some (k.hash w) := by rw [List.getElem?_map, hp, ← hk]; rfl
  have hil : i < t.place.toList.length := by
    have z1 := (List.getElem?_eq_some_iff.mp hp).1
    have z2 := R.tab.sz
    rw [List.length_map] at z2
    rw [Array.length_toList]
    omega
  have hj := List.getElem?_eq_getElem hil
  obtain ⟨d, hd, e⟩ := R.tab.before h2 hi hj
  exact ⟨d, Nat.zero_le _, hd, by rw [hj, e]⟩
end
end Zv.ZS

set_option Elab.async false
set_option autoImplicit false
set_option linter.all false
set_option maxRecDepth 100000
/-! ZSC: adding to a set of nested tuples -/
namespace Zv.ZS
open PySem PySem.Spec L2
open PyProof.Rows hiding St
section
variable {P : Program} {w : World} {A : Around} {E : Value → Shared → Prop} {s : Shared} {a : Addr} {ps : List Ent} {es : Array (Int × Value)} {ep : Nat} {t : SetTable}
theorem At.but {h h' : Heap} {k : NestedKey} {a b : Addr} {o : Obj} {es : Array (Int × Value)} {ep : Nat} {t : SetTable} (x : At P w h k b) (ho : h.get? a = some o) (hd : o.data = .set es ep t) (hs : Heap.SameBut a h h') : At P w h' k b :=
  nestedKind_stays.stays (fun c u vs n e d => by
    refine (hs.2 c fun z => ?_).trans e
    rw [z, ho] at e
    cases e
    rw [hd] at d
    cases d) x
theorem At.keep {h h' : Heap} {k : NestedKey} {b : Addr} (x : At P w h k b) (hk : ∀ c o, h.get? c = some o → h'.get? c = some o) : At P w h' k b :=
  nestedKind_stays.stays (fun c u _ _ e _ => hk c u e) x
theorem ins_perm {α : Type} (xs : List α) (i : Nat) (y : α) : (xs.take i ++ y :: xs.drop i).Perm (y :: xs) := by
  have z : (xs.take i ++ y :: xs.drop i).Perm (y :: (xs.take i ++ xs.drop i)) := List.perm_middle
  rwa [List.take_append_drop] at z
theorem range_pick {α : Type} (xs : List α) : (List.range xs.length).filterMap (fun i => xs[i]?) = xs := by
  have z : ∀ n, n ≤ xs.length → (List.range n).filterMap (fun i => xs[i]?) = xs.take n := by
    intro n
    induction n with
    | zero => intro _; rfl
    | succ n ih =>
      intro h
      rw [List.range_succ, List.filterMap_append, ih (by omega), List.take_add_one, List.getElem?_eq_getElem h, List.filterMap_cons_some (List.getElem?_eq_getElem h)]; rfl
  rw [z _ (Nat.le_refl _), List.take_length]
/-- the rows in another order -/
theorem reorder (order : Array Nat) (hr : es.toList = ps.map (rowE w)) (hp : order.toList.Perm (List.range ps.length)) :
    ∃ qs : List Ent, (order.filterMap (es[·]?)).toList = qs.map (rowE w) ∧ qs.Perm ps ∧ qs.map (entH w) = order.toList.map fun i => (es.map (·.1)).getD i 0 := by
  have ent : ∀ i, es[i]? = (ps[i]?).map (rowE w) := fun i => by rw [← Array.getElem?_toList, hr, List.getElem?_map]
  refine ⟨order.toList.filterMap fun i => ps[i]?, ?_, ?_, ?_⟩
  · have fm : ∀ l : List Nat, l.filterMap (fun i => es[i]?) = (l.filterMap fun i => ps[i]?).map (rowE w) := by
      intro l
      induction l with
      | nil => rfl
      | cons i l ih =>
        rw [List.filterMap_cons, List.filterMap_cons, ent i]
        cases ps[i]? with
        | none => exact ih
        | some p => rw [Option.map_some]; simp only [List.map_cons, ih]
    rw [Array.toList_filterMap]
    exact fm _
  · have z := hp.filterMap fun i => ps[i]?
    rwa [range_pick] at z
  · have key : ∀ l : List Nat, (∀ i ∈ l, i < ps.length) → (l.filterMap fun i => ps[i]?).map (entH w) = l.map fun i => (es.map (·.1)).getD i 0 := by
      intro l
      induction l with
      | nil => intro _; rfl
      | cons i l ih =>
        intro hl
        have hi := hl i List.mem_cons_self
        rw [List.filterMap_cons_some (List.getElem?_eq_getElem hi), List.map_cons, List.map_cons, ih fun j hj => hl j (List.mem_cons_of_mem _ hj)]
        congr 1
        have e : (es.map (·.1))[i]? = some (entH w ps[i]) := by rw [Array.getElem?_map, ent i, List.getElem?_eq_getElem hi]; rfl
        simp [Array.getD_eq_getD_getElem?, e]
    exact key _ fun i hi => List.mem_range.mp (hp.mem_iff.mp hi)
/-- the table laid anew -/
theorem relay {o : Obj} (ho : s.heap.get? a = some o) (hex : o.ExactSet) (hd : o.data = .set es ep t) (hr : es.toList = ps.map (rowE w)) (hsz : t.place.size = es.size) (hdm : t.dummies = #[]) (hfl : es.size ≤ t.mask)
    (once : (ps.map Prod.snd).Nodup) (ats : ∀ p ∈ ps, At P w s.heap p.2 p.1) (led : w.params.followText "set-order" = true ∨ t.led = true) (few : ps.length < 70) {wanted m : Nat}
    (hw : SetTable.sizeAbove wanted - 1 = m) (hm : MaskOk m) (hw2 : SetTable.sizeAbove wanted ≤ 128) (hn : ps.length * 5 < m * 3) {Q : Unit → Shared → Prop}
    (hQ : ∀ h' qs es' ep' t', Heap.SameBut a s.heap h' → Set0 P w h' a qs es' ep' t' → qs.Perm ps → Q () { s with heap := h' }) : wpAny (model P w) A (setRelay a wanted) Q E s := by
  have hl : es.size = ps.length := by
    have z := congrArg List.length hr
    rwa [Array.length_toList, List.length_map] at z
  obtain ⟨t', order, e, hp, tb, em, el, _, ed⟩ := relaid_ok t (hs := es.map (·.1)) (wanted := wanted) hw hm (by rw [Array.size_map, hl]; omega)
  rw [Array.size_map, hl] at hp
  obtain ⟨qs, r1, r2, r3⟩ := reorder order hr hp
  rw [← r3] at tb
  have hs2 : (order.filterMap (es[·]?)).size = es.size := by
    have z := congrArg List.length r1
    rwa [Array.length_toList, List.length_map, r2.length_eq, ← hl] at z
  rw [setRelay_eq]
  refine wpAny_bind (wpAny_setState_of ho hd (fits_of hsz hdm hfl) ?_)
  dsimp only
  refine L2.wp_if_neg (by rw [sizeLine_eq]; omega) ?_
  try refine wpAny_bind (wpAny_pure ?_)
  rw [e]
  dsimp only
  refine wpAny_bind (L2.wp_if_neg (by rw [hs2]; simp) ?_)
  try refine wpAny_bind (wpAny_pure ?_)
  refine wpAny_pure ?_
  dsimp only
  refine wpAny_storeSet_of ho hd ?_ (by rw [hs2, hl, sizeLine_eq]; omega)
  have sb : Heap.SameBut a s.heap (s.heap.update a (Obj.putSet (order.filterMap (es[·]?)) t')) := Heap.SameBut.update ..
  exact hQ _ qs (order.filterMap (es[·]?)) (ep + 1) t' sb
    { obj := ⟨_, store_at ho hd, ⟨hex.1, hex.2.1, hex.2.2⟩, rfl⟩
      rws := r1
      tab := tb
      once := (r2.map Prod.snd).nodup_iff.mpr once
      ats := fun p hp => (ats p (r2.mem_iff.mp hp)).but ho hd sb
      led := by rw [el]; exact led
      room := by rw [r2.length_eq, em]; exact hn
      few := by rw [r2.length_eq]; exact few } r2
/-- the table with the slot taken, whether its hashes are by value or not -/
theorem TabOk.plainly {t1 : SetTable} {hs : List Int} (x : TabOk t1 hs) (b : Bool) : TabOk (if b = true then t1 else { t1 with plain := false }) hs := by
  cases b
  · exact ⟨x.ris, x.dm, x.sz, x.mok, x.bd, x.reach⟩
  · exact x
theorem scan_no (x : Addr) (es : Array (Int × Value)) : byScan (.ref x) es = false := by simp [byScan, Value.scannable]
/-- ADDING -/
theorem add_one (R : Set0 P w s.heap a ps es ep t) {x : Addr} {k : NestedKey} (hx : At P w s.heap k x) (hu : A.units + 8 < cLine) (hfew : ps.length + 1 < 70) {Q : Bool → Shared → Prop}
    (hQ : ∀ b h' qs es' ep' t', Heap.SameBut a s.heap h' → Set0 P w h' a qs es' ep' t' → (k ∈ ps.map Prod.snd → qs = ps) → (k ∉ ps.map Prod.snd → qs.Perm ((x, k) :: ps)) → Q b { s with heap := h' }) :
    wpAny (model P w) A (setAddHashed a (.ref x) (k.hash w)) Q E s := by
  obtain ⟨o, ho, hex, hd⟩ := R.obj
  have hl := R.size
  have hroom := R.room
  unfold setAddHashed
  refine wpAny_holding ?_
  rw [show (100000 : Nat) = 99999 + 1 from rfl, setAddHashedIn_succ]
  refine wpAny_bind (wpAny_setState_of ho hd R.fits ?_)
  dsimp only
  refine L2.wp_if_neg (by rw [scan_no]; decide) ?_
  try refine wpAny_bind (wpAny_pure ?_)
  refine wpAny_bind (search R hx hu (fun hm => ?_) fun n hm hK hb => ?_)
  · dsimp only
    exact wpAny_pure (hQ false s.heap ps es ep t (Heap.SameBut.refl a s.heap) R (fun _ => rfl) fun z => absurd hm z)
  · dsimp only
    refine wpAny_bind (wpAny_setState_of ho hd R.fits ?_)
    dsimp only
    obtain ⟨q1, q2, q3, q4, q5, q6, q7, q8, q9⟩ := R.tab.put hK hb
    generalize t.put (way t.mask (k.hash w) n) = pt at q1 q3 q4 q5 q6 q7 q8 q9 ⊢
    obtain ⟨t1, p⟩ := pt
    dsimp only at q1 q3 q4 q5 q6 q7 q8 q9 ⊢
    subst q1
    have hin : (SetTable.insertAt es (SetTable.below t.place (way t.mask (k.hash w) n)) (k.hash w, Value.ref x)).toList = (ps.take (SetTable.below t.place (way t.mask (k.hash w) n)) ++ (x, k) :: ps.drop (SetTable.below t.place (way t.mask (k.hash w) n))).map (rowE w) := by
      rw [SetTable.toList_insertAt, R.rws, List.map_append, List.map_cons, List.map_take, List.map_drop]; rfl
    generalize SetTable.below t.place (way t.mask (k.hash w) n) = i at q2 q3 hin ⊢
    have pm := ins_perm ps i (x, k)
    have hhs : (ps.take i ++ (x, k) :: ps.drop i).map (entH w) = (ps.map (entH w)).take i ++ k.hash w :: (ps.map (entH w)).drop i := by
      rw [List.map_append, List.map_cons, List.map_take, List.map_drop]; rfl
    rw [← hhs] at q3
    have hlen : (ps.take i ++ (x, k) :: ps.drop i).length = ps.length + 1 := pm.length_eq
    have nd1 : ((ps.take i ++ (x, k) :: ps.drop i).map Prod.snd).Nodup := (pm.map Prod.snd).nodup_iff.mpr (List.nodup_cons.mpr ⟨hm, R.once⟩)
    have hes : (SetTable.insertAt es i (k.hash w, Value.ref x)).size = ps.length + 1 := by
      have z := congrArg List.length hin
      rwa [Array.length_toList, List.length_map, hlen] at z
    generalize SetTable.insertAt es i (k.hash w, Value.ref x) = es1 at hin hes ⊢
    generalize ps.take i ++ (x, k) :: ps.drop i = qs at pm hlen q3 nd1 hin
    -- the rest, whatever the table says of its hashes
    have fin : ∀ t2 : SetTable, TabOk t2 (qs.map (entH w)) → t2.mask = t.mask → t2.led = t.led → t2.fill = (ps.map (entH w)).length + 1 → t2.place.size = t1.place.size →
        wpAny (model P w) A (do
          storeSet a es1 t2
          if !false && t2.tooFull then setRelay a (SetTable.grown (es.size + 1))
          return true) Q E s := by
      intro t2 tb em el ef _
      refine wpAny_bind (wpAny_storeSet_of ho hd ?_ (by rw [hes, sizeLine_eq]; omega))
      have sb : Heap.SameBut a s.heap (s.heap.update a (Obj.putSet es1 t2)) := Heap.SameBut.update ..
      have ho1 := store_at (es' := es1) (t' := t2) ho hd
      generalize s.heap.update a (Obj.putSet es1 t2) = h1 at sb ho1 ⊢
      have ats1 : ∀ p ∈ qs, At P w h1 p.2 p.1 := fun p hp => by
        rcases List.mem_cons.mp (pm.mem_iff.mp hp) with e | hp
        · rw [e]; exact hx.but ho hd sb
        · exact (R.ats p hp).but ho hd sb
      have led1 : w.params.followText "set-order" = true ∨ t2.led = true := by rw [el]; exact R.led
      by_cases hf : t2.tooFull = true
      · first
          | (refine wpAny_bind ?_; refine L2.wp_if_pos (by simp [hf]) ?_)
          | (refine L2.wp_if_pos (by simp [hf]) ?_; refine wpAny_bind ?_)
        have hfull := hf
        unfold SetTable.tooFull at hfull
        rw [decide_eq_true_eq, ef, List.length_map] at hfull
        have hsz : t2.place.size = es1.size := by
          have z := tb.sz
          rw [List.length_map, hlen] at z
          rw [z, hes]
        have two : (t.mask = 7 ∧ ps.length = 4) ∨ (t.mask = 31 ∧ ps.length = 18) := by
          rcases R.tab.mok with e | e | e
          · left; rw [em, e] at hfull; rw [e] at hroom; exact ⟨e, by omega⟩
          · right; rw [em, e] at hfull; rw [e] at hroom; exact ⟨e, by omega⟩
          · exfalso; rw [em, e] at hfull; omega
        have go : ∀ m, SetTable.sizeAbove (SetTable.grown (ps.length + 1)) - 1 = m → MaskOk m → SetTable.sizeAbove (SetTable.grown (ps.length + 1)) ≤ 128 → (ps.length + 1) * 5 < m * 3 →
            wpAny (model P w) A (setRelay a (SetTable.grown (es.size + 1))) (fun _ s' => wpAny (model P w) A (pure true) Q E s') E { s with heap := h1 } := fun m z1 z2 z3 z4 => by
          rw [hl]
          refine relay (s := { s with heap := h1 }) ho1 ⟨hex.1, hex.2.1, hex.2.2⟩ rfl hin hsz tb.dm (by rw [hes, em]; rcases two with ⟨e, e2⟩ | ⟨e, e2⟩ <;> omega) nd1 ats1 led1 (by rw [hlen]; exact hfew) z1 z2 z3 (by rw [hlen]; exact z4) ?_
          intro h2 rs es2 ep2 t3 sb2 R2 pm2
          exact wpAny_pure (hQ true h2 rs es2 ep2 t3 (sb.trans sb2) R2 (fun z => absurd z hm) fun _ => pm2.trans pm)
        rcases two with ⟨_, e2⟩ | ⟨_, e2⟩
        · exact go 31 (by rw [e2, size_20]) (.inr (.inl rfl)) (by rw [e2, size_20]; decide) (by omega)
        · exact go 127 (by rw [e2, size_76]) (.inr (.inr rfl)) (by rw [e2, size_76]; decide) (by omega)
      · first
          | refine L2.wp_if_neg (by simp [hf]) ?_
          | (refine wpAny_bind ?_; refine L2.wp_if_neg (by simp [hf]) ?_; refine wpAny_pure ?_)
        have hfull := hf
        unfold SetTable.tooFull at hfull
        rw [decide_eq_true_eq, ef, List.length_map] at hfull
        exact wpAny_pure (hQ true h1 qs es1 (ep + 1) t2 sb
          { obj := ⟨_, ho1, ⟨hex.1, hex.2.1, hex.2.2⟩, rfl⟩
            rws := hin
            tab := tb
            once := nd1
            ats := ats1
            led := led1
            room := by rw [hlen]; omega
            few := by rw [hlen]; exact hfew } (fun z => absurd z hm) fun _ => pm)
    by_cases hp : t1.plain = true
    · first
        | (refine wpAny_bind ?_; refine L2.wp_if_pos hp ?_; refine hashBy 8 _ _ hx.1 hx.2 fun b => ?_)
        | refine L2.wp_if_pos hp (wpAny_bind (hashBy 8 _ _ hx.1 hx.2 fun b => ?_))
      refine fin _ (TabOk.plainly q3 b) ?_ ?_ ?_ ?_ <;> cases b <;> first | assumption | rfl
    · first
        | (refine wpAny_bind ?_; refine L2.wp_if_neg hp ?_; refine wpAny_pure ?_)
        | (refine L2.wp_if_neg hp ?_)
      exact fin _ q3 q4 q5 q9 rfl
end
end Zv.ZS

set_option Elab.async false
set_option autoImplicit false
set_option linter.all false
set_option maxRecDepth 100000
/-! ZSD: set(xs) of nested tuples -/
namespace Zv.ZS
open PySem PySem.Spec L2
open PyProof.Rows hiding St
/-- what the set holds of the first i entries -/
structure Has (ks : List Ent) (i : Nat) (ps : List Ent) : Prop where
  sub : ∀ p ∈ ps, p ∈ ks.take i
  all : ∀ p ∈ ks.take i, p.2 ∈ ps.map Prod.snd
  len : ps.length ≤ i
theorem has_zero (ks : List Ent) : Has ks 0 [] := ⟨fun p h => (nomatch h), fun p h => (by simp at h), Nat.le_refl _⟩
theorem take_one {α : Type} {l : List α} {i : Nat} {x : α} (h : l[i]? = some x) : l.take (i + 1) = l.take i ++ [x] := by
  rw [List.take_add_one, h]; rfl
theorem Has.same {ks ps : List Ent} {i : Nat} {x : Ent} (g : Has ks i ps) (h : ks[i]? = some x) (hm : x.2 ∈ ps.map Prod.snd) : Has ks (i + 1) ps where
  sub p hp := by rw [take_one h]; exact List.mem_append_left _ (g.sub p hp)
  all p hp := by
    rw [take_one h] at hp
    rcases List.mem_append.mp hp with z | z
    · exact g.all p z
    · rw [List.mem_singleton.mp z]; exact hm
  len := Nat.le_succ_of_le g.len
theorem Has.more {ks ps qs : List Ent} {i : Nat} {x : Ent} (g : Has ks i ps) (h : ks[i]? = some x) (pm : qs.Perm (x :: ps)) : Has ks (i + 1) qs where
  sub p hp := by
    rw [take_one h]
    rcases List.mem_cons.mp (pm.mem_iff.mp hp) with e | z
    · rw [e]; exact List.mem_append_right _ (List.mem_singleton.mpr rfl)
    · exact List.mem_append_left _ (g.sub p z)
  all p hp := by
    rw [(pm.map Prod.snd).mem_iff, List.map_cons]
    rw [take_one h] at hp
    rcases List.mem_append.mp hp with z | z
    · exact List.mem_cons_of_mem _ (g.all p z)
    · rw [List.mem_singleton.mp z]; exact List.mem_cons_self
  len := by rw [pm.length_eq, List.length_cons]; exact Nat.succ_le_succ g.len
/-- a set without items -/
abbrev newSet (w : World) : Obj := { cls := .type "set", dict := none, data := .set #[] 0 (.fresh 0 0 (!w.params.followText "set-order")) }
section
variable {P : Program} {w : World} {A : Around} {E : Value → Shared → Prop} {s : Shared}
theorem Set0.keep {h h' : Heap} {a : Addr} {ps : List Ent} {es : Array (Int × Value)} {ep : Nat} {t : SetTable} (R : Set0 P w h a ps es ep t) (ha : ∀ o, h.get? a = some o → h'.get? a = some o) (ht : ∀ p ∈ ps, At P w h' p.2 p.1) : Set0 P w h' a ps es ep t := by
  obtain ⟨o, ho, r⟩ := R.obj
  exact { R with obj := ⟨o, ha o ho, r⟩, ats := ht }
theorem set0_new {h : Heap} {a : Addr} (ho : h.get? a = some (newSet w)) : Set0 P w h a [] #[] 0 (.fresh 0 0 (!w.params.followText "set-order")) where
  obj := ⟨_, ho, ⟨rfl, rfl, rfl⟩, rfl⟩
  rws := rfl
  tab := ⟨List.Pairwise.nil, rfl, rfl, .inl rfl, fun x hx => (nomatch hx), fun i h j hi => (by simp at hi)⟩
  once := List.nodup_nil
  ats := fun p hp => nomatch hp
  led := by
    show _ ∨ (!w.params.followText "set-order") = true
    cases w.params.followText "set-order"
    · exact .inr rfl
    · exact .inl rfl
  room := by show 0 * 5 < 7 * 3; decide
  few := by show 0 < 70; decide
theorem update_loop {I : Addr} {fp wr : List Addr} {G : Array GenState → Array GenState → Prop} {n : Nat} {Pv : Nat → Value → Prop} {St : Nat → Shared → Prop} {R : Result → Shared → Prop}
    (W : WalksS P w A.in1 I fp wr G n Pv St) (S : Addr) (hSf : S ∉ fp) (ks : List Ent) (hn : n = ks.length) (hfew : ks.length < 70) (hval : ∀ i v, Pv i v → ∃ p, ks[i]? = some p ∧ v = .ref p.1)
    (h0 : Heap) (hk : ∀ p ∈ ks, At P w h0 p.2 p.1) (hS0 : h0.get? S = none) (hw0 : ∀ b ∈ wr, h0.get? b = none) (hu : A.in1.units + 8 < cLine) :
    ∀ (k i : Nat) (s : Shared), n - i = k → i ≤ n → St i s → (∀ b o, h0.get? b = some o → s.heap.get? b = some o) → (∃ ps es ep t, Set0 P w s.heap S ps es ep t ∧ Has ks i ps) →
      (∀ s' ps es ep t, Moved (S :: wr) G s s' → Set0 P w s'.heap S ps es ep t → Has ks n ps → (∀ b o, h0.get? b = some o → s'.heap.get? b = some o) → R (.ok (.ret .none)) s') →
      codeAny (model P w) A (.builtin "set.update.loop" ⟨[.ref S, .ref I], []⟩) R s := by
  have hSw : S ∉ wr := fun h => hSf (W.sub _ h)
  have sub : ∀ b ∈ wr, b ∈ S :: wr := fun b hb => List.mem_cons_of_mem _ hb
  have kept : ∀ {s s' : Shared}, Moved wr G s s' → (∀ b o, h0.get? b = some o → s.heap.get? b = some o) → ∀ b o, h0.get? b = some o → s'.heap.get? b = some o := fun hm hkp b o e =>
    hm.heap b o (fun hb => by rw [hw0 b hb] at e; cases e) (hkp b o e)
  intro k
  induction k with
  | zero =>
    intro i s hk' hi hst hkp ⟨ps, es, ep, t, hS, g⟩ hR
    have hin : i = n := by omega
    subst hin
    refine codeAny_builtin F.entry_set_update_loop ?_
    rw [Around.under_plainId F.plain_set_update_loop _]
    show wpAny _ A.in1 (pyNext (.ref I) >>= _) _ _ s
    refine wpAny_bind (W.done s _ _ hst fun s' hm => ?_)
    show wpAny _ A.in1 (ret Value.none) _ _ s'
    have hkp' := kept hm hkp
    exact wpAny_pure (hR s' ps es ep t (hm.mono sub) (hS.keep (fun o e => hm.heap S o hSw e) fun p hp => (hk p (List.mem_of_mem_take (g.sub p hp))).keep hkp') g hkp')
  | succ k ih =>
    intro i s hk' hi hst hkp ⟨ps, es, ep, t, hS, g⟩ hR
    have hlt : i < n := by omega
    refine codeAny_builtin F.entry_set_update_loop ?_
    rw [Around.under_plainId F.plain_set_update_loop _]
    show wpAny _ A.in1 (pyNext (.ref I) >>= _) _ _ s
    refine wpAny_bind (W.item i s _ _ hlt hst fun v s' hP hst' hm => ?_)
    obtain ⟨p, hp, rfl⟩ := hval i v hP
    have hkp' := kept hm hkp
    have hS' : Set0 P w s'.heap S ps es ep t := hS.keep (fun o e => hm.heap S o hSw e) fun q hq => (hk q (List.mem_of_mem_take (g.sub q hq))).keep hkp'
    have hx : At P w s'.heap p.2 p.1 := (hk p (List.mem_of_getElem? hp)).keep hkp'
    show wpAny _ A.in1 (holding [Value.ref p.1] (setAdd S (.ref p.1)) >>= _) _ _ s'
    refine wpAny_bind (wpAny_holding ?_)
    unfold setAdd
    refine wpAny_holding ?_
    refine wpAny_bind ((nestedKind P w).pyHash hu hx ?_)
    refine add_one (s := { s' with toks := s'.toks + (nestedKind P w).draws p.2 }) hS' hx hu (by have := g.len; omega) fun b h' qs es' ep' t' hsb hS2 c1 c2 => ?_
    have g' : Has ks (i + 1) qs := by
      rcases Classical.em (p.2 ∈ ps.map Prod.snd) with c | c
      · rw [c1 c]; exact g.same hp c
      · exact g.more hp (c2 c)
    have hkp2 : ∀ b o, h0.get? b = some o → h'.get? b = some o := fun b o e => (hsb.2 b (fun z => by rw [z, hS0] at e; cases e)).trans (hkp' b o e)
    refine wpAny_pure ⟨plainId_quiet F.plain_set_update_loop _, ih (i + 1) _ (by omega) hlt (W.frame _ s' _ _ hst' (Nat.le_add_right _ _) fun b hb o e => ?_) hkp2 ⟨qs, es', ep', t', hS2, g'⟩ fun s2 rs es2 ep2 t2 hm2 hS3 g3 hkp3 => ?_⟩
    · rw [hsb.2 b (fun z : b = S => hSf (by rw [← z]; exact hb))]; exact e
    · refine hR s2 rs es2 ep2 t2 (Moved.trans W.gtrans ((hm.mono sub).then_heap (Nat.le_add_right _ _) fun b o hb e => ?_) hm2) hS3 g3 hkp3
      rw [hsb.2 b (fun z : b = S => hb (by rw [z]; exact List.mem_cons_self))]; exact e

set_option maxRecDepth 100000 in
set_option maxHeartbeats 3200000 in
/-- set(xs), xs a list -/
theorem call_set_list {l : Addr} {items : Array Value} (ks : List Ent) {Q : Value → Shared → Prop} (hh : A.handled = none) (hl : s.heap.IsList l items) (hit : items.toList = ks.map fun p => Value.ref p.1)
    (hk : ∀ p ∈ ks, At P w s.heap p.2 p.1) (hfew : ks.length < 70) (hu : A.units + 12 < cLine)
    (h : ∀ (h' : Heap) (tk : Nat) ps es ep t, Set0 P w h' s.heap.objs.size ps es ep t → Has ks ks.length ps → (∀ b o, s.heap.get? b = some o → h'.get? b = some o) → Q (.ref s.heap.objs.size) { s with heap := h', toks := tk }) :
    wpAny (model P w) A (call (.type "set") [.ref l]) Q E s := by
  have sz : items.size = ks.length := by
    have z := congrArg List.length hit
    rwa [Array.length_toList, List.length_map] at z
  obtain ⟨c, tl, hmro⟩ := F.called_set.mro
  have made := F.called_set.made
  have sub := F.called_set.sub
  refine wpAny_call (codeAny_of_tree ?_)
  show wpAny _ _ (callAny (.type "set") _) _ _ _
  refine wpAny_pure ⟨Code.quiet_builtin _ (by decide +kernel), codeAny_builtin F.entry_type_call ?_⟩
  rw [Around.under_plain (weight_type_call_type "set" [.ref l] []) rfl]
  have n1 := F.called_set.notType
  have n2 := F.called_set.canCreate
  have n3 := F.typeCall_set_1 (.ref l)
  repeat (any_goals (first | assumption | wp_step))

  refine codeAny_mono (code_set_led1 (.ref l) (E := E) (Q₁ := fun u s1 => u = .ref s.heap.objs.size ∧ s1 = { s with heap := s.heap.push (newSet w) }) ⟨rfl, rfl⟩) fun r s1 hr => ?_
  cases r with
  | error e => exact hr
  | ok fl =>
    cases fl with
    | ret obj =>
      obtain ⟨rfl, rfl⟩ := hr
      have hS : (s.heap.push (newSet w)).get? s.heap.objs.size = some (newSet w) := Heap.get?_push_size _ rfl
      have hT : Shared.TypeIs { s with heap := s.heap.push (newSet w) } (.ref s.heap.objs.size) "set" := ⟨_, hS, rfl⟩
      have n4 := F.called_set.init.lookup
      have n5 := F.called_set.init.bind (.ref s.heap.objs.size)
      repeat (any_goals (first | assumption | wp_step))

      refine codeAny_mono (codeAny_call_builtin (R := wants (fun r s2 => r = .none ∧ ∃ h' tk ps es ep t, s2 = { s with heap := h', toks := tk } ∧ Set0 P w h' s.heap.objs.size ps es ep t ∧ Has ks ks.length ps ∧
          (∀ b o, s.heap.get? b = some o → h'.get? b = some o)) E) F.called_set.init.plain F.entry_set_init (check_set_init_1 hT ?_)) fun r2 s2 hr2 => ?_
      · obtain ⟨ol, hol, hcl, nl, hdl⟩ := hl
        obtain ⟨ocls, odict, odata, oslots⟩ := ol
        simp only at hcl hdl
        subst hcl; subst hdl
        have hol' : (s.heap.push (newSet w)).get? l = some { cls := .type "list", dict := odict, data := .seq items nl, slots := oslots } := Heap.get?_push_of_some _ hol
        have m1 := F.sub_list_set
        have m2 := F.sub_list_frozenset
        have m3 : (Value.type "list" == Value.type "dict") = false := by decide
        have hl1 : (s.heap.push (newSet w)).IsList l items := ⟨_, hol', rfl, nl, rfl⟩
        unfold Builtin.«set.__init__» noKeywords Builtin.Frozenset.updateFrom
        generalize hPI : pyIter = PI
        wp_walk
        subst hPI

        refine wpAny_pyIter_list hl1 ?_
        refine wpAny_bind (wpAny_runValue ?_)
        have hlS : l < s.heap.objs.size := Heap.lt_size hol
        have hh3 : A.in1.in1.in1.handled = none := by simp [hh]
        have psz : (s.heap.push (newSet w)).objs.size = s.heap.objs.size + 1 := Heap.size_push ..
        have hneI : l ≠ (s.heap.push (newSet w)).objs.size := by rw [psz]; exact Nat.ne_of_lt (Nat.lt_succ_of_lt hlS)
        have hSf : s.heap.objs.size ∉ [(s.heap.push (newSet w)).objs.size, l] := by
          rw [psz]; simp only [List.mem_cons, List.mem_singleton, List.not_mem_nil, or_false, not_or]; exact ⟨Nat.ne_of_lt (Nat.lt_succ_self _), Nat.ne_of_gt hlS⟩
        have hval : ∀ (i : Nat) (v : Value), items[i]? = some v → ∃ p, ks[i]? = some p ∧ v = .ref p.1 := fun i v hv => by
          have z : items.toList[i]? = some v := by rw [Array.getElem?_toList]; exact hv
          rw [hit, List.getElem?_map] at z
          cases q : ks[i]? with
          | none => rw [q] at z; cases z
          | some p => rw [q] at z; exact ⟨p, rfl, (Option.some.inj z).symm⟩
        have free : ∀ b, s.heap.objs.size ≤ b → s.heap.get? b = none := fun b hb => by
          cases q : s.heap.get? b with
          | none => rfl
          | some o => exact absurd (Heap.lt_size q) (Nat.not_lt.mpr hb)
        refine update_loop ((Walks.list hh3 _ l hneI items).toS) s.heap.objs.size
          hSf ks sz hfew hval s.heap hk (free _ (Nat.le_refl _)) (fun b hb => free b (by rw [List.mem_singleton.mp hb, psz]; exact Nat.le_succ _)) (by show A.units + 1 + 1 + 1 + 8 < cLine; omega) (items.size - 0) 0 _ (by omega) (Nat.zero_le _)
          ⟨⟨_, Heap.get?_push_size _ rfl, rfl, rfl⟩, (hl1.push _)⟩ (fun b o e => Heap.get?_push_of_some _ (Heap.get?_push_of_some _ e)) ?hS0 ?hR
        case hS0 =>
          have z : ((s.heap.push (newSet w)).push { cls := .type "list_iterator", data := .fields #[.ref l, .int 0 0] }).get? s.heap.objs.size = some (newSet w) := Heap.get?_push_of_some _ hS
          exact ⟨[], #[], 0, _, set0_new z, has_zero ks⟩
        case hR =>
          intro s' ps es ep t hm hS' g' hkp
          obtain ⟨h', g2, d', tk', os'⟩ := s'
          have eg : g2 = s.gens := hm.gens
          have ed : d' = s.drawn := hm.drawn
          have eo : os' = s.os := hm.os
          subst eg; subst ed; subst eo
          show wpAny _ _ _ _ _ _
          refine wpAny_pure ?_
          show wpAny _ _ (ret Value.none) _ _ _
          rw [sz] at g'
          exact wpAny_pure ⟨rfl, h', tk', ps, es, ep, t, rfl, hS', g', hkp⟩

      · cases r2 with
        | error e => exact hr2
        | ok fl2 =>
          cases fl2 with
          | ret r =>
            obtain ⟨rfl, h', tk, ps, es, ep, t, rfl, hS', g', hk'⟩ := hr2
            repeat (any_goals (first | assumption | wp_step))
            exact h _ _ _ _ _ _ hS' g' hk'
          | _ => exact hr2.elim
    | _ => exact hr.elim

set_option maxRecDepth 100000 in
set_option maxHeartbeats 3200000 in
/-- set(xs), xs a tuple -/
theorem call_set_tuple {l : Addr} {items : Array Value} (ks : List Ent) {Q : Value → Shared → Prop} (hh : A.handled = none) (hl : s.heap.IsTuple l items) (hit : items.toList = ks.map fun p => Value.ref p.1)
    (hk : ∀ p ∈ ks, At P w s.heap p.2 p.1) (hfew : ks.length < 70) (hu : A.units + 12 < cLine)
    (h : ∀ (h' : Heap) (tk : Nat) ps es ep t, Set0 P w h' s.heap.objs.size ps es ep t → Has ks ks.length ps → (∀ b o, s.heap.get? b = some o → h'.get? b = some o) → Q (.ref s.heap.objs.size) { s with heap := h', toks := tk }) :
    wpAny (model P w) A (call (.type "set") [.ref l]) Q E s := by
  have sz : items.size = ks.length := by
    have z := congrArg List.length hit
    rwa [Array.length_toList, List.length_map] at z
  obtain ⟨c, tl, hmro⟩ := F.called_set.mro
  have made := F.called_set.made
  have sub := F.called_set.sub
  refine wpAny_call (codeAny_of_tree ?_)
  show wpAny _ _ (callAny (.type "set") _) _ _ _
  refine wpAny_pure ⟨Code.quiet_builtin _ (by decide +kernel), codeAny_builtin F.entry_type_call ?_⟩
  rw [Around.under_plain (weight_type_call_type "set" [.ref l] []) rfl]
  have n1 := F.called_set.notType
  have n2 := F.called_set.canCreate
  have n3 := F.typeCall_set_1 (.ref l)
  repeat (any_goals (first | assumption | wp_step))

  refine codeAny_mono (code_set_led1 (.ref l) (E := E) (Q₁ := fun u s1 => u = .ref s.heap.objs.size ∧ s1 = { s with heap := s.heap.push (newSet w) }) ⟨rfl, rfl⟩) fun r s1 hr => ?_
  cases r with
  | error e => exact hr
  | ok fl =>
    cases fl with
    | ret obj =>
      obtain ⟨rfl, rfl⟩ := hr
      have hS : (s.heap.push (newSet w)).get? s.heap.objs.size = some (newSet w) := Heap.get?_push_size _ rfl
      have hT : Shared.TypeIs { s with heap := s.heap.push (newSet w) } (.ref s.heap.objs.size) "set" := ⟨_, hS, rfl⟩
      have n4 := F.called_set.init.lookup
      have n5 := F.called_set.init.bind (.ref s.heap.objs.size)
      repeat (any_goals (first | assumption | wp_step))

      refine codeAny_mono (codeAny_call_builtin (R := wants (fun r s2 => r = .none ∧ ∃ h' tk ps es ep t, s2 = { s with heap := h', toks := tk } ∧ Set0 P w h' s.heap.objs.size ps es ep t ∧ Has ks ks.length ps ∧
          (∀ b o, s.heap.get? b = some o → h'.get? b = some o)) E) F.called_set.init.plain F.entry_set_init (check_set_init_1 hT ?_)) fun r2 s2 hr2 => ?_
      · obtain ⟨ol, hol, hcl, nl, hdl⟩ := hl
        obtain ⟨ocls, odict, odata, oslots⟩ := ol
        simp only at hcl hdl
        subst hcl; subst hdl
        have hol' : (s.heap.push (newSet w)).get? l = some { cls := .type "tuple", dict := odict, data := .seq items nl, slots := oslots } := Heap.get?_push_of_some _ hol
        have m1 := F.sub_tuple_set
        have m2 := F.sub_tuple_frozenset
        have m3 : (Value.type "tuple" == Value.type "dict") = false := by decide
        have hl1 : (s.heap.push (newSet w)).IsTuple l items := ⟨_, hol', rfl, nl, rfl⟩
        unfold Builtin.«set.__init__» noKeywords Builtin.Frozenset.updateFrom
        generalize hPI : pyIter = PI
        wp_walk
        subst hPI

        refine wpAny_pyIter_tuple hl1 ?_
        refine wpAny_bind (wpAny_runValue ?_)
        have hlS : l < s.heap.objs.size := Heap.lt_size hol
        have hh3 : A.in1.in1.in1.handled = none := by simp [hh]
        have psz : (s.heap.push (newSet w)).objs.size = s.heap.objs.size + 1 := Heap.size_push ..
        have hneI : l ≠ (s.heap.push (newSet w)).objs.size := by rw [psz]; exact Nat.ne_of_lt (Nat.lt_succ_of_lt hlS)
        have hSf : s.heap.objs.size ∉ [(s.heap.push (newSet w)).objs.size, l] := by
          rw [psz]; simp only [List.mem_cons, List.mem_singleton, List.not_mem_nil, or_false, not_or]; exact ⟨Nat.ne_of_lt (Nat.lt_succ_self _), Nat.ne_of_gt hlS⟩
        have hval : ∀ (i : Nat) (v : Value), items[i]? = some v → ∃ p, ks[i]? = some p ∧ v = .ref p.1 := fun i v hv => by
          have z : items.toList[i]? = some v := by rw [Array.getElem?_toList]; exact hv
          rw [hit, List.getElem?_map] at z
          cases q : ks[i]? with
          | none => rw [q] at z; cases z
          | some p => rw [q] at z; exact ⟨p, rfl, (Option.some.inj z).symm⟩
        have free : ∀ b, s.heap.objs.size ≤ b → s.heap.get? b = none := fun b hb => by
          cases q : s.heap.get? b with
          | none => rfl
          | some o => exact absurd (Heap.lt_size q) (Nat.not_lt.mpr hb)
        refine update_loop ((Walks.tuple hh3 _ l hneI items).toS) s.heap.objs.size
          hSf ks sz hfew hval s.heap hk (free _ (Nat.le_refl _)) (fun b hb => free b (by rw [List.mem_singleton.mp hb, psz]; exact Nat.le_succ _)) (by show A.units + 1 + 1 + 1 + 8 < cLine; omega) (items.size - 0) 0 _ (by omega) (Nat.zero_le _)
          ⟨⟨_, Heap.get?_push_size _ rfl, rfl, rfl⟩, (hl1.push _)⟩ (fun b o e => Heap.get?_push_of_some _ (Heap.get?_push_of_some _ e)) ?hS0 ?hR
        case hS0 =>
          have z : ((s.heap.push (newSet w)).push { cls := .type "tuple_iterator", data := .fields #[.ref l, .int 0 0] }).get? s.heap.objs.size = some (newSet w) := Heap.get?_push_of_some _ hS
          exact ⟨[], #[], 0, _, set0_new z, has_zero ks⟩
        case hR =>
          intro s' ps es ep t hm hS' g' hkp
          obtain ⟨h', g2, d', tk', os'⟩ := s'
          have eg : g2 = s.gens := hm.gens
          have ed : d' = s.drawn := hm.drawn
          have eo : os' = s.os := hm.os
          subst eg; subst ed; subst eo
          show wpAny _ _ _ _ _ _
          refine wpAny_pure ?_
          show wpAny _ _ (ret Value.none) _ _ _
          rw [sz] at g'
          exact wpAny_pure ⟨rfl, h', tk', ps, es, ep, t, rfl, hS', g', hkp⟩

      · cases r2 with
        | error e => exact hr2
        | ok fl2 =>
          cases fl2 with
          | ret r =>
            obtain ⟨rfl, h', tk, ps, es, ep, t, rfl, hS', g', hk'⟩ := hr2
            repeat (any_goals (first | assumption | wp_step))
            exact h _ _ _ _ _ _ hS' g' hk'
          | _ => exact hr2.elim
    | _ => exact hr.elim
end
end Zv.ZS

set_option Elab.async false
set_option autoImplicit false
set_option linter.all false
set_option maxRecDepth 100000
/-! ZSE: tuples sorted, an empty one among them -/
namespace Zv.ZS
open PySem PySem.Spec L2 PySem.SeqAt
open PyProof.Rows hiding St
open PySem.W (EachIs AllAlike Sortable SortsAt dataKind dataKind_some dataKind_inv alike)
section
variable {P : Program} {w : World} {A : Around} {E : Value → Shared → Prop} {s : Shared}
/-- the call of a tuple's own __lt__, as sorting makes it -/
theorem tup_lt_call {Q : Value → Shared → Prop} {l b : Addr} {items items2 : Array Value} {e r : Nat → Bool} (hl : s.heap.IsTuple l items) (hb : s.heap.IsTuple b items2)
    (he : ∀ j (h1 : j < items.size) (h2 : j < items2.size), EqAt A.in1 s items[j] items2[j] (e j)) (hr : ∀ j (h1 : j < items.size) (h2 : j < items2.size), e j = false → RcLt A.in1 s items[j] items2[j] (r j))
    (h : Q (.bool (firstLt e r (decide (items.size < items2.size)) (List.range (min items.size items2.size)))) s) : wpAny (model P w) A (call (.builtin "tuple.__lt__") [.ref l, .ref b]) Q E s := by
  obtain ⟨⟨cls, dd, data, sl⟩, ho, hc, n, hd⟩ := id hl
  obtain ⟨⟨cls2, dd2, data2, sl2⟩, ho2, hc2, n2, hd2⟩ := id hb
  simp only at hc hd hc2 hd2
  subst hc hd hc2 hd2
  exact call_meets PySem.F.slot_tuple_lt ⟨_, ho, rfl⟩ PySem.F.entry_tuple_lt (PySem.F.args_tuple_lt_2 _ _) (tuple_ltAt l b items items2 n n2 dd dd2 sl sl2 e r) ⟨ho, ho2, he, hr, h⟩
theorem one_tup {xs ys : List PyData} {a b : Value} {as bs : List Addr} {Q : Bool → Shared → Prop} (ra : Reads s.heap a (.tuple xs) as) (rb : Reads s.heap b (.tuple ys) bs) (h : alike (.tuple xs) (.tuple ys) = true)
    (hu : A.units + min (PyData.tuple xs).depth (PyData.tuple ys).depth < cLine) (hq : Q (PySem.W.dataLt (.tuple xs) (.tuple ys)) s) : wpAny (model P w) A (oneLt' true a b) Q E s := by
  have hal : PySem.W.alikeAll xs ys = true := by simpa [alike] using h
  cases ra with
  | @tuple l o vs n _ as1 h1 h2 h3 h4 =>
    cases rb with
    | @tuple l' o' vs' n' _ bs1 k1 k2 k3 k4 =>
      have n1 : vs.size = xs.length := by simpa using ReadsAll.length _ _ _ h4
      have n2 : vs'.size = ys.length := by simpa using ReadsAll.length _ _ _ k4
      rw [PySem.W.dataLt_tuple, ← PySem.W.firstLt_toks xs ys hal, ← n1, ← n2] at hq
      rw [oneLt'_eq]
      simp only [if_true]
      refine wpAny_bind (wpAny_cRoomFor (room_here hu) ?_)
      refine wpAny_bind (wpAny_callSpecialIfBound?_slot (T := "tuple") ⟨_, h1, h2⟩ PySem.F.slot_tuple_lt (tup_lt_call (e := pairEq xs ys) (r := fun j => PySem.W.dataLt (xs.getD j .none) (ys.getD j .none)) ⟨_, h1, h2, _, h3⟩ ⟨_, k1, k2, _, k3⟩ (fun j j1 j2 => ?_) (fun j j1 j2 hj => ?_) ?_))
      · have z := PySem.W.eqAt_alikeAll xs ys A.in1 s vs.toList vs'.toList _ _ h4 k4 hal (room_in hu) j (by simpa using j1) (by simpa using j2)
        simpa using z
      · have z := PySem.W.rcLt_alikeAll xs ys A.in1 s vs.toList vs'.toList _ _ h4 k4 hal (room_in hu) j (by simpa using j1) (by simpa using j2) hj
        simpa using z
      · exact wpAny_truthy_bool hq
/-- the first items, asked -/
theorem firsts {M : Model} : ∀ (vs : List Value) (ds : List PyData) {Q : List (Option Value) → Shared → Prop}, EachIs (fun v d => ∃ as, Reads s.heap v d as) vs ds → (∀ d ∈ ds, ∃ xs, d = .tuple xs) →
    (∀ fs : List (Option Value), fs.length = ds.length → (∀ i : Nat, ∀ f, fs[i]? = some f → (f.isSome = true ↔ ∃ x r, ds[i]? = some (.tuple (x :: r)))) → Q fs s) → wpAny M A (vs.mapM firstOfTuple') Q E s
  | [], [], _, _, _, h => by rw [List.mapM_nil]; exact wpAny_pure (h [] rfl fun i f z => nomatch z)
  | [], _ :: _, _, e, _, _ => nomatch e
  | _ :: _, [], _, e, _, _ => nomatch e
  | v :: vs, d :: ds, Q, e, ht, h => by
    cases e with
    | cons e1 e2 =>
      obtain ⟨as, r⟩ := e1
      obtain ⟨xs, rfl⟩ := ht d List.mem_cons_self
      cases r with
      | @tuple a o its n _ _ ho hc hd hr =>
        rw [List.mapM_cons]
        refine wpAny_bind ?_
        rw [PySem.W.kas_first_eq]
        refine wpAny_bind (PySem.W.Looks.here (show PySem.W.Looks M s.heap (typeOf (.ref a)) o.cls from (PySem.W.Looks.ld ho).andThen .now) ?_)
        rw [hc, if_neg (by first | decide | simp)]
        refine wpAny_bind (listItems_at ho hd (wpAny_pure ?_))
        refine wpAny_bind (firsts vs ds (Q := fun bs s' => wpAny M A (pure (its[0]? :: bs)) Q E s') e2 (fun d hd => ht d (List.mem_cons_of_mem _ hd)) fun fs hl hf => wpAny_pure (h _ (by simp [hl]) fun i f z => ?_))
        cases i with
        | zero =>
          cases z
          have n1 : its.size = xs.length := by simpa using ReadsAll.length _ _ _ hr
          cases xs with
          | nil =>
            rw [List.length_nil] at n1
            have : its[0]? = none := by rw [Array.getElem?_eq_none]; omega
            rw [this]
            exact ⟨(fun z => nomatch z), fun ⟨x, r, z⟩ => (by cases z)⟩
          | cons x r =>
            rw [List.length_cons] at n1
            have z : its[0]?.isSome = true := by
              rw [Array.getElem?_eq_getElem (by omega)]; rfl
            exact ⟨fun _ => ⟨x, r, rfl⟩, fun _ => z⟩
        | succ i => exact hf i f z
theorem types_tup {M : Model} {vs : List Value} {ds : List PyData} (e : EachIs (fun v d => ∃ as, Reads s.heap v d as) vs ds) (ht : ∀ d ∈ ds, ∃ xs, d = .tuple xs) : ∀ v ∈ vs, PySem.W.Looks M s.heap (typeOf v) (.type "tuple") := by
  intro v hv
  obtain ⟨d, hd, as, r⟩ := e.left v hv
  obtain ⟨xs, rfl⟩ := ht d hd
  exact PySem.W.looks_reads r
/-- tuples can be sorted, an empty one among them or not -/
theorem sorts_tups {vs : List Value} {ds : List PyData} (e : EachIs (fun v d => ∃ as, Reads s.heap v d as) vs ds) (hal : AllAlike ds) (ht : ∀ d ∈ ds, ∃ xs, d = .tuple xs) (hu : ∀ d, d ∈ ds → A.units + d.depth < cLine) : SortsAt P w A s (dataKind s.heap ds) vs := by
  by_cases hne : ∀ d ∈ ds, ∃ x r, d = .tuple (x :: r)
  · exact SortsAt.data e hal (.inl hne) hu
  have room : ∀ {d d' : PyData}, d ∈ ds → A.units + min d.depth d'.depth < cLine := fun {d d'} hd => Nat.lt_of_le_of_lt (Nat.add_le_add_left (Nat.min_le_left _ _) _) (hu d hd)
  have keys : ∀ v, v ∈ vs → ∃ a, (dataKind s.heap ds).keyOf v = some a := fun v hv => by
    obtain ⟨d, hd, as, r⟩ := e.left v hv
    exact ⟨_, dataKind_some hal hd r⟩
  have bad : ∀ fs : List (Option Value), fs.length = ds.length → (∀ i : Nat, ∀ f, fs[i]? = some f → (f.isSome = true ↔ ∃ x r, ds[i]? = some (.tuple (x :: r)))) → ¬ (fs.toArray.all fun x => x.isSome) = true := by
    intro fs hl hf z
    refine hne fun d hd => ?_
    obtain ⟨i, hi, e1⟩ := List.getElem_of_mem hd
    have hfi : fs[i]? = some fs[i] := List.getElem?_eq_getElem (hl ▸ hi)
    have z2 : fs[i].isSome = true := by
      simp only [List.all_toArray, List.all_eq_true] at z
      exact z _ (List.getElem_mem _)
    obtain ⟨x, r, q⟩ := (hf i _ hfi).mp z2
    rw [List.getElem?_eq_getElem hi, e1] at q
    exact ⟨x, r, Option.some.inj q⟩
  cases ds with
  | nil => exact absurd (fun d hd => nomatch hd) hne
  | cons d0 ds0 =>
    obtain ⟨xs0, e0⟩ := ht d0 List.mem_cons_self
    by_cases h0 : xs0 = []
    · -- the first one is empty: all of one type
      refine ⟨keys, oneType', ?_, fun h2 E Q hq => ?_⟩
      · intro E x y a b Q ha hb hq
        obtain ⟨d, as, hd, ra, rfl⟩ := dataKind_inv ha
        obtain ⟨d', as', hd', rb, rfl⟩ := dataKind_inv hb
        have hdd := hal d hd d' hd'
        have hroom := room (d' := d') hd
        obtain ⟨ys, rfl⟩ := ht d hd
        obtain ⟨zs, rfl⟩ := ht d' hd'
        rw [keyLt'_oneType]
        exact one_tup ra rb hdd hroom hq
      · rw [keyKind'_eq, List.mapM_toArray, map_eq_pure_bind]
        refine wpAny_bind (wpAny_bind (firsts vs _ e ht fun fs hl hf => wpAny_pure ?_))
        rw [if_neg (bad fs hl hf)]
        have hn : (fs.toArray[0]?.bind id).isSome = false := by
          cases fs with
          | nil => rfl
          | cons f fs =>
            have z := hf 0 f rfl
            cases f with
            | none => rfl
            | some v =>
              obtain ⟨x, r, q⟩ := z.mp rfl
              rw [e0, h0] at q
              cases q
        rw [if_neg (by rw [hn]; decide)]
        have T := types_tup (M := model P w) e ht
        obtain ⟨v1, vr, rfl⟩ : ∃ v1 vr, vs = v1 :: vr := by
          cases vs with
          | nil => cases e
          | cons v1 vr => exact ⟨v1, vr, rfl⟩
        rw [oneTypeOnly'_eq, List.mapM_toArray, map_eq_pure_bind]
        refine wpAny_bind (wpAny_bind (wpAny_bind (PySem.W.kas_mapM (r := Value.type "tuple") _ (fun v hv Q' hq => (T v hv).here hq) (wpAny_pure ?_))))
        have hall : ((List.map (fun _ => Value.type "tuple") (v1 :: vr)).toArray.all fun x => x == Value.type "tuple") = true := by
          simp only [List.all_toArray, List.all_map, List.all_eq_true]
          intro _ _
          exact beq_self_eq_true _
        have hh : (List.map (fun _ => Value.type "tuple") (v1 :: vr)).toArray[0]? = some (Value.type "tuple") := by simp
        rw [hh]
        simp only [hall, if_true]
        exact wpAny_pure (wpAny_pure hq)
    · obtain ⟨x0, r0, rfl⟩ : ∃ x0 r0, xs0 = x0 :: r0 := by
        cases xs0 with
        | nil => exact absurd rfl h0
        | cons x0 r0 => exact ⟨x0, r0, rfl⟩
      refine ⟨keys, general', ?_, fun h2 E Q hq => ?_⟩
      · intro E x y a b Q ha hb hq
        obtain ⟨d, as, hd, ra, rfl⟩ := dataKind_inv ha
        obtain ⟨d', as', hd', rb, rfl⟩ := dataKind_inv hb
        have hdd := hal d hd d' hd'
        have hroom := room (d' := d') hd
        show wpAny (model P w) A (oneLt' false x y) Q E s
        refine PySem.W.oneLt_alike (fun z => nomatch z) ra rb hdd ?_ hroom hq
        obtain ⟨ys, rfl⟩ := ht d hd
        exact fun z => nomatch z
      · rw [keyKind'_eq, List.mapM_toArray, map_eq_pure_bind]
        refine wpAny_bind (wpAny_bind (firsts vs _ e ht fun fs hl hf => wpAny_pure ?_))
        rw [if_neg (bad fs hl hf)]
        have hn : (fs.toArray[0]?.bind id).isSome = true := by
          cases fs with
          | nil => simp at hl
          | cons f fs =>
            have z := (hf 0 f rfl).mpr ⟨x0, r0, by rw [e0]; rfl⟩
            cases f with
            | none => cases z
            | some v => rfl
        rw [if_pos hn]
        exact wpAny_pure hq
end
end Zv.ZS

set_option Elab.async false
set_option autoImplicit false
set_option linter.all false
set_option maxRecDepth 100000
/-! ZSG: set(xs) of a list of whole numbers -/
namespace Zv.ZS
open PySem PySem.Spec L2
open PyProof.Rows hiding St
section
variable {P : Program} {w : World} {A : Around} {E : Value → Shared → Prop} {s : Shared}

set_option maxRecDepth 100000 in
set_option maxHeartbeats 3200000 in
/-- set(xs), xs a list -/
theorem call_set_ilist {l : Addr} {items : Array Value} (ns : List Int) {Q : Value → Shared → Prop} (hh : A.handled = none) (hl : s.heap.IsList l items) (hit : IntsAre items.toList ns) (hfew : ns.length + 1 < scanBound)
    (h : ∀ (h' : Heap) (tk c : Nat), SetR w h' s.heap.objs.size (fun j => decide (j ∈ ns)) c → c ≤ ns.length → (∀ b o, s.heap.get? b = some o → h'.get? b = some o) → Q (.ref s.heap.objs.size) { s with heap := h', toks := tk }) :
    wpAny (model P w) A (call (.type "set") [.ref l]) Q E s := by
  have sz : items.size = ns.length := by
    have z := IntsAre.length hit
    rwa [Array.length_toList] at z
  obtain ⟨c, tl, hmro⟩ := F.called_set.mro
  have made := F.called_set.made
  have sub := F.called_set.sub
  refine wpAny_call (codeAny_of_tree ?_)
  show wpAny _ _ (callAny (.type "set") _) _ _ _
  refine wpAny_pure ⟨Code.quiet_builtin _ (by decide +kernel), codeAny_builtin F.entry_type_call ?_⟩
  rw [Around.under_plain (weight_type_call_type "set" [.ref l] []) rfl]
  have n1 := F.called_set.notType
  have n2 := F.called_set.canCreate
  have n3 := F.typeCall_set_1 (.ref l)
  repeat (any_goals (first | assumption | wp_step))

  refine codeAny_mono (code_set_led1 (.ref l) (E := E) (Q₁ := fun u s1 => u = .ref s.heap.objs.size ∧ s1 = { s with heap := s.heap.push (newSet w) }) ⟨rfl, rfl⟩) fun r s1 hr => ?_
  cases r with
  | error e => exact hr
  | ok fl =>
    cases fl with
    | ret obj =>
      obtain ⟨rfl, rfl⟩ := hr
      have hS : (s.heap.push (newSet w)).get? s.heap.objs.size = some (newSet w) := Heap.get?_push_size _ rfl
      have hT : Shared.TypeIs { s with heap := s.heap.push (newSet w) } (.ref s.heap.objs.size) "set" := ⟨_, hS, rfl⟩
      have n4 := F.called_set.init.lookup
      have n5 := F.called_set.init.bind (.ref s.heap.objs.size)
      repeat (any_goals (first | assumption | wp_step))

      refine codeAny_mono (codeAny_call_builtin (R := wants (fun r s2 => r = .none ∧ ∃ h' tk c, s2 = { s with heap := h', toks := tk } ∧ SetR w h' s.heap.objs.size (fun j => decide (j ∈ ns)) c ∧ c ≤ ns.length ∧
          (∀ b o, s.heap.get? b = some o → h'.get? b = some o)) E) F.called_set.init.plain F.entry_set_init (check_set_init_1 hT ?_)) fun r2 s2 hr2 => ?_
      · obtain ⟨ol, hol, hcl, nl, hdl⟩ := hl
        obtain ⟨ocls, odict, odata, oslots⟩ := ol
        simp only at hcl hdl
        subst hcl; subst hdl
        have hol' : (s.heap.push (newSet w)).get? l = some { cls := .type "list", dict := odict, data := .seq items nl, slots := oslots } := Heap.get?_push_of_some _ hol
        have m1 := F.sub_list_set
        have m2 := F.sub_list_frozenset
        have m3 : (Value.type "list" == Value.type "dict") = false := by decide
        have hl1 : (s.heap.push (newSet w)).IsList l items := ⟨_, hol', rfl, nl, rfl⟩
        unfold Builtin.«set.__init__» noKeywords Builtin.Frozenset.updateFrom
        generalize hPI : pyIter = PI
        wp_walk
        subst hPI

        refine wpAny_pyIter_list hl1 ?_
        refine wpAny_bind (wpAny_runValue ?_)
        have hlS : l < s.heap.objs.size := Heap.lt_size hol
        have hh3 : A.in1.in1.in1.handled = none := by simp [hh]
        have psz : (s.heap.push (newSet w)).objs.size = s.heap.objs.size + 1 := Heap.size_push ..
        have hneI : l ≠ (s.heap.push (newSet w)).objs.size := by rw [psz]; exact Nat.ne_of_lt (Nat.lt_succ_of_lt hlS)
        have hSf : s.heap.objs.size ∉ [(s.heap.push (newSet w)).objs.size, l] := by
          rw [psz]; simp only [List.mem_cons, List.mem_singleton, List.not_mem_nil, or_false, not_or]; exact ⟨Nat.ne_of_lt (Nat.lt_succ_self _), Nat.ne_of_gt hlS⟩
        have hval : ∀ (i : Nat) (v : Value), items[i]? = some v → ∃ k t, ns[i]? = some k ∧ v = .int k t := fun i v hv => by
          have hi : i < ns.length := by rw [← sz]; exact (Array.getElem?_eq_some_iff.mp hv).1
          obtain ⟨t, e⟩ := PyProof.Rows.IntsAre.int_at hit i v (by rw [Array.getElem?_toList]; exact hv)
          exact ⟨ns[i], t, List.getElem?_eq_getElem hi, by rw [e, List.getD_eq_getElem?_getD, List.getElem?_eq_getElem hi]; rfl⟩
        refine set_update_ints ((Walks.list hh3 _ l hneI items).toS) s.heap.objs.size
          hSf ns sz hfew hval (items.size - 0) 0 _ (by omega) (Nat.zero_le _)
          ⟨⟨_, Heap.get?_push_size _ rfl, rfl, rfl⟩, (hl1.push _)⟩ ?hS0 ?hR
        case hS0 =>
          have z : ((s.heap.push (newSet w)).push { cls := .type "list_iterator", data := .fields #[.ref l, .int 0 0] }).get? s.heap.objs.size = some (newSet w) := Heap.get?_push_of_some _ hS
          exact ⟨0, Nat.le_refl 0, setR_new_at z⟩
        case hR =>
          intro s' c' hm hc' hS'
          obtain ⟨h', g2, d', tk', os'⟩ := s'
          have eg : g2 = s.gens := hm.gens
          have ed : d' = s.drawn := hm.drawn
          have eo : os' = s.os := hm.os
          subst eg; subst ed; subst eo
          show wpAny _ _ _ _ _ _
          refine wpAny_pure ?_
          show wpAny _ _ (ret Value.none) _ _ _
          rw [sz] at hc'
          refine wpAny_pure ⟨rfl, h', tk', c', rfl, hS', hc', fun b o e => ?_⟩
          have b0 : b < s.heap.objs.size := Heap.lt_size e
          have b1 : b ≠ s.heap.objs.size := Nat.ne_of_lt b0
          have b2 : b ≠ (s.heap.push (newSet w)).objs.size := by rw [psz]; exact Nat.ne_of_lt (Nat.lt_succ_of_lt b0)
          exact hm.heap b o (by simp only [List.mem_cons, List.mem_singleton, List.not_mem_nil, or_false, not_or]; exact ⟨b1, b2⟩) (Heap.get?_push_of_some _ (Heap.get?_push_of_some _ e))

      · cases r2 with
        | error e => exact hr2
        | ok fl2 =>
          cases fl2 with
          | ret r =>
            obtain ⟨rfl, h', tk, c', rfl, hS', hc', hk'⟩ := hr2
            repeat (any_goals (first | assumption | wp_step))
            exact h _ _ _ hS' hc' hk'
          | _ => exact hr2.elim
    | _ => exact hr.elim
end
end Zv.ZS

set_option Elab.async false
set_option autoImplicit false
set_option linter.all false
set_option maxRecDepth 100000
/-! ZSo: the order of alike data is antisymmetric -/
namespace Zv
open PySem PySem.Spec L2
open PyProof.Rows hiding St
open PySem.W (dataLt alike)
mutual
theorem alike_eqv : ∀ x y : D, alike x y = true → x.eqv y = true → x = y
  | .none, y, h, _ => by cases y <;> simp [alike] at h; rfl
  | .bool a, y, h, e => by cases y <;> simp [alike] at h; simpa [PyData.eqv] using e
  | .int a, y, h, e => by cases y <;> simp [alike] at h; simpa [PyData.eqv] using e
  | .str a, y, h, e => by cases y <;> simp [alike] at h; simpa [PyData.eqv] using e
  | .list a, y, h, e => by
    cases y <;> simp only [alike, Bool.false_eq_true] at h
    simp only [PyData.eqv] at e
    rw [alike_eqvAll a _ h e]
  | .tuple a, y, h, e => by
    cases y <;> simp only [alike, Bool.false_eq_true] at h
    simp only [PyData.eqv] at e
    rw [alike_eqvAll a _ h e]
  | .dict a, y, h, _ => by cases y <;> simp [alike] at h
theorem alike_eqvAll : ∀ x y : List D, PySem.W.alikeAll x y = true → PyData.eqvAll x y = true → x = y
  | [], [], _, _ => rfl
  | [], _ :: _, _, e => by simp [PyData.eqvAll] at e
  | _ :: _, [], _, e => by simp [PyData.eqvAll] at e
  | x :: xs, y :: ys, h, e => by
    simp only [PyData.eqvAll, Bool.and_eq_true] at e
    obtain ⟨h1, h2⟩ := PySem.W.alike_all_cons h
    rw [alike_eqv x y h1 e.1, alike_eqvAll xs ys h2 e.2]
end
mutual
theorem eqv_self : ∀ x : D, alike x x = true → x.eqv x = true
  | .none, _ => by simp [PyData.eqv]
  | .bool a, _ => by simp [PyData.eqv]
  | .int a, _ => by simp [PyData.eqv]
  | .str a, _ => by simp [PyData.eqv]
  | .list a, h => by simp only [PyData.eqv]; exact eqvAll_self a (by simpa [alike] using h)
  | .tuple a, h => by simp only [PyData.eqv]; exact eqvAll_self a (by simpa [alike] using h)
  | .dict a, h => by simp [alike] at h
theorem eqvAll_self : ∀ x : List D, PySem.W.alikeAll x x = true → PyData.eqvAll x x = true
  | [], _ => by simp [PyData.eqvAll]
  | x :: xs, h => by
    obtain ⟨h1, h2⟩ := PySem.W.alike_all_cons h
    simp only [PyData.eqvAll, eqv_self x h1, eqvAll_self xs h2, Bool.and_self]
end
mutual
theorem lt_anti : ∀ x y : D, alike x y = true → alike y x = true → dataLt x y = false → dataLt y x = false → x = y
  | .none, y, h, _, _, _ => by cases y <;> simp [alike] at h; rfl
  | .bool a, y, h, _, h1, h2 => by
    cases y <;> simp [alike] at h
    rw [PySem.W.dataLt_bool] at h1 h2
    rename_i b _
    congr 1
    revert h1 h2
    cases a <;> cases b <;> first | rfl | (intro q1 q2; revert q1 q2; decide)
  | .int a, y, h, _, h1, h2 => by
    cases y <;> simp [alike] at h
    rw [PySem.W.dataLt_int, decide_eq_false_iff_not] at h1 h2
    congr 1; omega
  | .str a, y, h, _, h1, h2 => by
    cases y <;> simp [alike] at h
    rw [PySem.W.dataLt_str, decide_eq_false_iff_not] at h1 h2
    congr 1
    exact PySem.W.str_of_cps (List.le_antisymm (List.not_lt.mp h2) (List.not_lt.mp h1))
  | .list a, y, h, h', h1, h2 => by
    cases y <;> simp only [alike, Bool.false_eq_true] at h h'
    rw [PySem.W.dataLt_list] at h1 h2
    rw [ltAll_anti a _ h h' h1 h2]
  | .tuple a, y, h, h', h1, h2 => by
    cases y <;> simp only [alike, Bool.false_eq_true] at h h'
    rw [PySem.W.dataLt_tuple] at h1 h2
    rw [ltAll_anti a _ h h' h1 h2]
  | .dict a, y, h, _, _, _ => by cases y <;> simp [alike] at h
theorem ltAll_anti : ∀ x y : List D, PySem.W.alikeAll x y = true → PySem.W.alikeAll y x = true → PyProof.Rows.lexLt PyProof.Rows.itemOrd (PySem.W.keyToksAll x) (PySem.W.keyToksAll y) = false → PyProof.Rows.lexLt PyProof.Rows.itemOrd (PySem.W.keyToksAll y) (PySem.W.keyToksAll x) = false → x = y
  | [], [], _, _, _, _ => rfl
  | [], y :: ys, _, _, h1, _ => by
    exfalso
    have z : PyProof.Rows.lexLt PyProof.Rows.itemOrd (PySem.W.keyToksAll []) (PySem.W.keyToksAll (y :: ys)) = true := by
      simp only [PySem.W.keyToksAll]
      rw [lex_diff (O := PyProof.Rows.itemOrd) (by simp)]
      rfl
    rw [z] at h1; cases h1
  | x :: xs, [], _, _, _, h2 => by
    exfalso
    have z : PyProof.Rows.lexLt PyProof.Rows.itemOrd (PySem.W.keyToksAll []) (PySem.W.keyToksAll (x :: xs)) = true := by
      simp only [PySem.W.keyToksAll]
      rw [lex_diff (O := PyProof.Rows.itemOrd) (by simp)]
      rfl
    rw [z] at h2; cases h2
  | x :: xs, y :: ys, h, h', h1, h2 => by
    obtain ⟨a1, a2⟩ := PySem.W.alike_all_cons h
    obtain ⟨b1, b2⟩ := PySem.W.alike_all_cons h'
    cases e : PyData.eqv x y with
    | true =>
      have exy := alike_eqv x y a1 e
      have e' : PyData.eqv y x = true := by rw [exy] at e ⊢; exact e
      rw [PySem.W.dataLt_all_yes a1 e] at h1
      rw [PySem.W.dataLt_all_yes b1 e'] at h2
      rw [exy, ltAll_anti xs ys a2 b2 h1 h2]
    | false =>
      cases e' : PyData.eqv y x with
      | true =>
        have exy := alike_eqv y x b1 e'
        rw [exy] at e e'
        rw [e] at e'; cases e'
      | false =>
        rw [PySem.W.dataLt_all_no a1 e] at h1
        rw [PySem.W.dataLt_all_no b1 e'] at h2
        have exy := lt_anti x y a1 b1 h1 h2
        rw [exy] at e a1
        rw [eqv_self y a1] at e
        cases e
end
end Zv

set_option Elab.async false
set_option autoImplicit false
set_option linter.all false
set_option maxRecDepth 100000
namespace Zv
open PySem PySem.Spec L2
open PyProof.Rows hiding St
section
variable {α : Type} {le : α → α → Bool}
theorem putIn_perm (x : α) : ∀ l : List α, (putIn le x l).Perm (x :: l)
  | [] => .refl _
  | y :: r => by
    show (if le x y then x :: y :: r else y :: putIn le x r).Perm _
    split
    · exact .refl _
    · exact ((putIn_perm x r).cons y).trans (.swap x y r)
theorem isort_perm : ∀ l : List α, (isort le l).Perm l
  | [] => .refl _
  | x :: r => (putIn_perm x _).trans ((isort_perm r).cons x)
theorem putIn_pair (h : PySem.W.TotalLe le) (x : α) : ∀ l : List α, l.Pairwise (fun a b => le a b = true) → (putIn le x l).Pairwise (fun a b => le a b = true)
  | [], _ => by simp [putIn]
  | y :: r, p => by
    obtain ⟨p1, p2⟩ := List.pairwise_cons.mp p
    show List.Pairwise _ (if le x y then x :: y :: r else y :: putIn le x r)
    split
    · next hxy =>
      refine List.pairwise_cons.mpr ⟨fun z hz => ?_, p⟩
      rcases List.mem_cons.mp hz with e | hz
      · rw [e]; exact hxy
      · exact h.trans _ _ _ hxy (p1 z hz)
    · next hxy =>
      refine List.pairwise_cons.mpr ⟨fun z hz => ?_, putIn_pair h x r p2⟩
      rcases List.mem_cons.mp ((putIn_perm x r).mem_iff.mp hz) with e | hz
      · rw [e]; exact (h.total x y).resolve_left hxy
      · exact p1 z hz
theorem isort_pair (h : PySem.W.TotalLe le) : ∀ l : List α, (isort le l).Pairwise (fun a b => le a b = true)
  | [] => .nil
  | x :: r => putIn_pair h x _ (isort_pair h r)
theorem putIn_filter (h : PySem.W.TotalLe le) (c x : α) : ∀ l : List α, (putIn le x l).filter (PySem.W.sameRank le c) = (x :: l).filter (PySem.W.sameRank le c)
  | [] => rfl
  | y :: r => by
    show List.filter _ (if le x y then x :: y :: r else y :: putIn le x r) = _
    split
    · rfl
    · next hxy =>
      rw [List.filter_cons, putIn_filter h c x r]
      by_cases hx : PySem.W.sameRank le c x = true
      · have hy : PySem.W.sameRank le c y = false := by
          cases q : PySem.W.sameRank le c y with
          | false => rfl
          | true =>
            unfold PySem.W.sameRank at hx q
            rw [Bool.and_eq_true] at hx q
            exact absurd (h.trans _ _ _ hx.2 q.1) hxy
        simp [List.filter_cons, hx, hy]
      · simp [List.filter_cons, hx]
theorem isort_filter (h : PySem.W.TotalLe le) (c : α) : ∀ l : List α, (isort le l).filter (PySem.W.sameRank le c) = l.filter (PySem.W.sameRank le c)
  | [] => rfl
  | x :: r => by
    show (putIn le x (isort le r)).filter _ = _
    rw [putIn_filter h, List.filter_cons, List.filter_cons, isort_filter h c r]
theorem isort_merge (h : PySem.W.TotalLe le) (l : List α) : isort le l = l.mergeSort le := PySem.W.sort_unique h (isort_pair h l) fun c => isort_filter h c l
end
theorem leD_eq : leD = PySem.W.dataLe false (id : D → D) := by
  rw [PySem.W.dataLe_eq]; rfl
theorem leD_total : PySem.W.TotalLe leD := by
  rw [leD_eq]
  exact PySem.W.sortLe_total _ _ _
theorem sortD_eq (xs : List D) : sortD xs = xs.mergeSort (PySem.W.dataLe false (id : D → D)) := by
  rw [← leD_eq]; exact isort_merge leD_total xs
theorem leD_anti {xs : List D} (h : PySem.W.AllAlike xs) : ∀ a ∈ xs, ∀ b ∈ xs, leD a b = true → leD b a = true → a = b := by
  intro a ha b hb h1 h2
  simp only [leD, ltD, Bool.not_eq_true'] at h1 h2
  exact lt_anti a b (h a ha b hb) (h b hb a ha) h2 h1
theorem sortD_perm {xs ys : List D} (h : PySem.W.AllAlike ys) (p : xs.Perm ys) : sortD xs = sortD ys := by
  have pm : (sortD xs).Perm (sortD ys) := (isort_perm xs).trans (p.trans (isort_perm ys).symm)
  refine pm.eq_of_pairwise (le := fun a b => leD a b = true) ?_ (isort_pair leD_total xs) (isort_pair leD_total ys)
  intro a b ha hb h1 h2
  exact leD_anti h a (p.mem_iff.mp ((isort_perm xs).mem_iff.mp ha)) b ((isort_perm ys).mem_iff.mp hb) h1 h2
section
variable {X : Cx} {K : PySem.W.Frag} {F : Addr → Prop} {H : Hp}
open PySem.W (EachIs AllAlike Sortable)
theorem each_of : ∀ {vs : List V} {us : List Value} {ds : List D}, Vals vs us → RpL K F H vs ds → EachIs (fun u d => ∃ v, RelV v u ∧ Rp K F H v d) us ds
  | _, _, _, .nil, .nil => .nil
  | _, _, _, .cons r t, .cons h q => .cons ⟨_, r, h⟩ (each_of t q)
theorem of_each : ∀ {us : List Value} {ds : List D}, EachIs (fun u d => ∃ v, RelV v u ∧ Rp K F H v d) us ds → ∃ vs, Vals vs us ∧ RpL K F H vs ds
  | _, _, .nil => ⟨[], .nil, .nil⟩
  | _, _, .cons ⟨v, r, h⟩ t => by
    obtain ⟨vs, a, b⟩ := of_each t
    exact ⟨v :: vs, .cons r a, .cons h b⟩
theorem each_imp {A B : Type} {R S : A → B → Prop} : ∀ {us : List A} {ds : List B}, EachIs R us ds → (∀ u d, R u d → S u d) → EachIs S us ds
  | _, _, .nil, _ => .nil
  | _, _, .cons h t, m => .cons (m _ _ h) (each_imp t m)
theorem alike_all {xs : List D} (h : alikeAll xs = true) : AllAlike xs := fun d hd d' hd' => List.all_eq_true.mp (List.all_eq_true.mp h d hd) d' hd'
def Sbl (xs : List D) : Prop := (∀ d ∈ xs, ∃ ys, d = .tuple ys) ∨ ∀ d ∈ xs, d ≠ .none ∧ ∀ ys, d ≠ .tuple ys
theorem srt_able {xs : List D} (h : srt xs = true) : AllAlike xs ∧ Sbl xs ∧ (∀ d ∈ xs, d.depth ≤ 64) ∧ xs.length ≤ line := by
  unfold srt at h
  simp only [Bool.and_eq_true, Bool.or_eq_true, decide_eq_true_eq] at h
  obtain ⟨⟨⟨h1, h2⟩, h3⟩, h4⟩ := h
  refine ⟨alike_all h1, ?_, fun d hd => of_decide_eq_true (List.all_eq_true.mp h3 d hd), h4⟩
  rcases h2 with h2 | h2
  · refine .inl fun d hd => ?_
    have q := List.all_eq_true.mp h2 d hd
    cases d with
    | tuple ys => exact ⟨ys, rfl⟩
    | _ => cases q
  · refine .inr fun d hd => ?_
    have q := List.all_eq_true.mp h2 d hd
    refine ⟨fun e => ?_, fun ys e => ?_⟩ <;> subst e <;> simp [isNone, isTup] at q
theorem sorts_at {P : Program} {w : World} {A : Around} {s : Shared} {vs : List Value} {ds : List D} (e : EachIs (fun v d => ∃ as, Reads s.heap v d as) vs ds) (hal : AllAlike ds) (hk : Sbl ds) (hu : ∀ d, d ∈ ds → A.units + d.depth < cLine) : PySem.W.SortsAt P w A s (PySem.W.dataKind s.heap ds) vs :=
  hk.elim (fun ht => ZS.sorts_tups e hal ht hu) fun hn => PySem.W.SortsAt.data e hal (.inr hn) hu
open AutoSeq1 in
/-- a tuple's items in a new list -/
theorem collect_tup {prog : Program} {w : World} {A : Around} {E : Value → Shared → Prop} {s : Shared} {Q : List Value → Shared → Prop} {l : Addr} {o : Obj} {its : Array Value} {n : Nat} (ho : s.heap.get? l = some o) (hc : o.cls = .type "tuple") (hd : o.data = .seq its n) (size : its.size ≤ sizeLine)
    (h : ∀ h', s.heap.objs.size ≤ h'.objs.size → (∀ b ob, s.heap.get? b = some ob → h'.get? b = some ob) → Q its.toList { s with heap := h' }) : wpAny (model prog w) A (collect (.ref l)) Q E s := by
  unfold collect
  apply wpAny_bind
  apply wpAny_runValue
  apply codeAny_builtin PySem.F.entry_proto_collect
  rw [Around.under_plainId PySem.F.plain_proto_collect _]
  show wpAny _ A.in1 (newList [] >>= fun l2 => again (.builtin "list.__iadd__" ⟨[l2, .ref l], []⟩)) _ _ s
  refine wpAny_bind (wpAny_newObj_type (wpAny_pure ?_))
  refine ⟨plainId_quiet PySem.F.plain_list_iadd _, codeAny_builtin PySem.F.entry_list_iadd ?_⟩
  rw [Around.under_plainId PySem.F.plain_list_iadd _]
  show wpAny _ A.in1 (Builtin.List.listExtendWith (.ref s.heap.objs.size) (.ref l) (.ref s.heap.objs.size)) _ _ { s with heap := s.heap.push { cls := .type "list", data := .seq ([] : List Value).toArray } }
  have new0 : (s.heap.push { cls := .type "list", data := .seq ([] : List Value).toArray }).get? s.heap.objs.size = some { cls := .type "list", data := .seq #[] 0 } := Heap.get?_push_size _ rfl
  have new1 := Heap.get?_update_self (Obj.mapSeq (· ++ its)) new0 rfl
  let h2 : Heap := (s.heap.push { cls := .type "list", data := .seq ([] : List Value).toArray }).update s.heap.objs.size (Obj.mapSeq (· ++ its))
  have last : wpAny (model prog w) A (match Value.ref s.heap.objs.size with
      | Value.ref a => do
        match (← load a).data with
          | Data.seq xs _ => pure xs.toList
          | _ => unsupported "internal:collect"
      | _ => unsupported "internal:collect") Q E { s with heap := h2 } := by
    show wpAny _ A (load s.heap.objs.size >>= _) _ _ _
    refine wpAny_bind (wpAny_load new1 (wpAny_pure ?_))
    have q := h h2 (by show _ ≤ ((s.heap.push _).update _ _).objs.size; rw [Heap.size_update, PyProof.Rows.size_push']; omega) fun b ob e => (Heap.get?_update_other _ _ (Nat.ne_of_gt (Heap.lt_size e))).trans (Heap.get?_push_of_some _ e)
    simpa using q
  refine wpAny_mono (wpAny_extend_seq (hsz := size) (A := A) (R := fun r s' => r = .ok (.ret (.ref s.heap.objs.size)) ∧ s' = { s with heap := h2 }) (s := { s with heap := s.heap.push { cls := .type "list", data := .seq ([] : List Value).toArray } }) s.heap.objs.size l (.ref s.heap.objs.size) 0 (.inr rfl) new0 (Heap.get?_push_of_some _ ho) hc hd ⟨rfl, rfl⟩) (fun f s2 hf => ?_) fun e s2 he => nomatch he.1
  rcases f with f | c
  · obtain ⟨e1, e2⟩ := hf
    cases e1
    rw [e2]
    exact last
  · refine ⟨hf.1, codeAny_mono hf.2 fun r s3 hr => ?_⟩
    rw [hr.1, hr.2]
    exact last
/-- the items collected: they stand for the data ds0, in some order -/
structure Coll (R : Value → D → Prop) (ds0 : List D) (s s1 : Shared) (vs : List Value) (ds : List D) : Prop where
  keep : ∀ b ob, s.heap.get? b = some ob → s1.heap.get? b = some ob
  size : s.heap.objs.size ≤ s1.heap.objs.size
  gens : s1.gens = s.gens
  os : s1.os = s.os
  is : EachIs R vs ds
  rds : EachIs (fun v d => ∃ as, Reads s.heap v d as) vs ds
  perm : ds.Perm ds0
/-- sorted, by its first step -/
theorem sorted_of {l : Addr} {R : Value → D → Prop} {ds0 : List D} {s : Shared} {Q : Value → Shared → Prop} {E : Value → Shared → Prop} {A : Around} {prog : Program} {w : World}
    (hal0 : AllAlike ds0) (hk0 : Sbl ds0) (hL0 : ds0.length ≤ sizeLine) (hu0 : ∀ d, d ∈ ds0 → A.units + 2 + d.depth < cLine)
    (col : ∀ {Q2 : List Value → Shared → Prop}, (∀ s1 vs ds, Coll R ds0 s s1 vs ds → Q2 vs s1) → wpAny (model prog w) A.in1 (collect (.ref l)) Q2 E s)
    (h : ∀ (out : List Value) (p : Addr) (s2 : Shared) (c : Nat) (ds : List D), ds.Perm ds0 → out.length = ds.length → EachIs R out (ds.mergeSort (PySem.W.dataLe false id)) → s.heap.objs.size ≤ p → (∀ b ob, s.heap.get? b = some ob → s2.heap.get? b = some ob) → s2.gens = s.gens → s2.os = s.os →
      s2.heap.get? p = some { cls := .type "list", data := .seq out.toArray c } → Q (.ref p) s2) :
    wpAny (model prog w) A (call (.builtin "sorted") [.ref l]) Q E s := by
  refine PySem.Calls.call_function_entry kind_sorted plain_sorted entry_sorted (PyProof.Rows.args_sorted1 _) ?_
  unfold Builtin.«sorted»
  refine wpAny_bind (m := checkCount "sorted" 1 1 _) (wpAny_pure ?_)
  refine wpAny_bind (col fun s1 vs ds C => ?_)
  have len : vs.length = ds.length := C.is.length
  have hL : ds.length ≤ sizeLine := by rw [C.perm.length_eq]; exact hL0
  have hal : AllAlike ds := fun d hd d' hd' => hal0 d (C.perm.mem_iff.mp hd) d' (C.perm.mem_iff.mp hd')
  have hk : Sbl ds := hk0.imp (fun z d hd => z d (C.perm.mem_iff.mp hd)) fun z d hd => z d (C.perm.mem_iff.mp hd)
  have hu : ∀ d, d ∈ ds → A.units + 2 + d.depth < cLine := fun d hd => hu0 d (C.perm.mem_iff.mp hd)
  have k1 := C.keep
  have er := C.rds
  refine wpAny_bind (wpAny_newList ?_ (by rw [len]; exact hL))
  have made : (s1.heap.push (seqObj "list" vs.toArray 0)).get? s1.heap.objs.size = some (seqObj "list" vs.toArray 0) := Heap.get?_push_size _ rfl
  have old : ∀ b ob, s.heap.get? b = some ob → b ≠ s1.heap.objs.size ∧ (s1.heap.push (seqObj "list" vs.toArray 0)).get? b = some ob := fun b ob q => ⟨Nat.ne_of_lt (Heap.lt_size (k1 b ob q)), Heap.get?_push_of_some _ (k1 b ob q)⟩
  have mid : ∀ b ob, s.heap.get? b = some ob → (PySem.W.sortingHeap (s1.heap.push (seqObj "list" vs.toArray 0)) s1.heap.objs.size vs).get? b = some ob := fun b ob q => PySem.W.sortingHeap_old (old b ob q).1 (old b ob q).2
  have er' : EachIs (fun v d => ∃ as, Reads (PySem.W.sortingHeap (s1.heap.push (seqObj "list" vs.toArray 0)) s1.heap.objs.size vs) v d as) vs ds := each_imp er fun v d ⟨as, r⟩ => ⟨as, PyProof.Rows.Reads.keeps mid r⟩
  have er2 : EachIs (fun v d => ∃ as, Reads (PySem.W.sortingHeap (s1.heap.push (seqObj "list" vs.toArray 0)) s1.heap.objs.size vs) v (id d) as) vs ds := er'
  refine wpAny_bind (wpAny_holding (wpAny_call_entry_kw slot_list_sort ⟨_, made, rfl⟩ entry_list_sort ?_ (PyProof.Rows.args_list_sort _)))
  show wpAny (model prog w) A.in1.in1 (Builtin.«list.sort» ⟨[.ref s1.heap.objs.size], []⟩) _ _ { s1 with heap := s1.heap.push (seqObj "list" vs.toArray 0) }
  refine PySem.W.list_sort_vals (s := { s1 with heap := s1.heap.push (seqObj "list" vs.toArray 0) }) made (sorts_at er' hal hk fun d hd => hu d hd) (by rw [len]; exact hL) ⟨_, rfl, wpAny_pure ⟨_, rfl, ?_⟩⟩
  obtain ⟨c, at_⟩ := PyProof.Rows.sortedHeap_at (out := (PySem.W.sortVals (PySem.W.dataKind (PySem.W.sortingHeap (s1.heap.push (seqObj "list" vs.toArray 0)) s1.heap.objs.size vs) ds) false vs vs).toArray) made
  have srt := PySem.W.sortVals_data (enc := id) false C.is er2 (by rw [List.map_id]; exact hal)
  rw [List.map_id] at srt
  refine h _ _ _ c ds C.perm (by rw [PySem.W.sortVals_length false rfl]; exact len) srt C.size (fun b ob q => ?_) C.gens C.os at_
  rw [PyProof.Rows.sortedHeap_old (old b ob q).1 (by rw [PyProof.Rows.size_push']; exact Nat.lt_succ_of_lt (Heap.lt_size (k1 b ob q)))]
  exact (old b ob q).2
theorem sort_end {pins : List (Addr × Obj)} {σ : St} {s : Shared} {ds ds2 : List D} {out : List Value} {p : Addr} {s2 : Shared} {c : Nat} {Q : VK} (I : L2.Inv X pins σ H s) (f : Fin X.K F H Q (.fr (.list (sortD ds)))) (h4 : ds.length ≤ line) (hal : AllAlike ds) (pm : ds2.Perm ds) (hl : out.length = ds2.length)
    (ho : EachIs (fun u d => ∃ v, RelV v u ∧ Rp X.K F H v d) out (ds2.mergeSort (PySem.W.dataLe false id))) (hp : s.heap.objs.size ≤ p) (k : ∀ b ob, s.heap.get? b = some ob → s2.heap.get? b = some ob) (g : s2.gens = s.gens) (o : s2.os = s.os)
    (at_ : s2.heap.get? p = some { cls := .type "list", data := .seq out.toArray c }) : EP X pins σ Q (.ref p) s2 := by
  rw [← sortD_eq, sortD_perm hal pm] at ho
  obtain ⟨ws, rw1, rw2⟩ := of_each ho
  have hlen : ws.length ≤ sizeLine := by rw [rw1.length, hl, pm.length_eq, ← line_eq]; exact h4
  have hn : H p = none := I.hok.fresh hp
  have J : L2.Inv X pins σ (upd H p (.lst ws)) { s with heap := s2.heap, gens := s2.gens, drawn := s2.drawn, toks := s2.toks } :=
    I.call (ch := []) (Un.laid k hp hn) (I.hok.laid k hp ⟨hlen, out, c, rw1, at_⟩) (by rw [g]; exact I.bare) (fun _ z => nomatch z)
  have e : s2 = { s with heap := s2.heap, gens := s2.gens, drawn := s2.drawn, toks := s2.toks } := by
    cases s2; cases s; cases o; rfl
  rw [e]
  exact ⟨.ref p, _, J, rfl, f.lst _ _ _ rfl rw2 hn⟩
theorem c_sorted (hu : X.A.units + 67 < cLine) : CallR X (.builtin "sorted") (rP1 X.K .sorted) := by
  intro pins s σ H xs us Q I r h
  obtain ⟨F, x, d, ev, rfl, hx, q, f⟩ := h
  cases d <;> simp only [p1] at q <;> first | (cases q; done) | skip
  · rename_i ds
    split at q
    · next hs =>
      cases q
      obtain ⟨h1, h2, h3, h4⟩ := srt_able hs
      obtain ⟨a, vs, rfl, sa, ra⟩ := hx.lst
      obtain ⟨_, its, n, rv, e⟩ := Inv.rd I sa
      rw [Vals.ref1 r]
      have er := each_of rv ra
      have er2 : EachIs (fun u d => ∃ as, Reads s.heap u d as) its ds := each_imp er fun u d ⟨v, r, h⟩ => Dp.reads I d v u h.dp r
      refine sorted_of (R := fun u d => ∃ v, RelV v u ∧ Rp X.K F H v d) h1 h2 (by rw [← line_eq]; exact h4) (fun b hb => by have := h3 b hb; omega)
        (fun {Q2} g => PyProof.Rows.collect_list ⟨_, e, rfl, n, rfl⟩ (g _ _ ds ⟨fun b ob z => (Heap.get?_update_other _ _ (Nat.ne_of_gt (Heap.lt_size z))).trans (Heap.get?_push_of_some _ z), by rw [Heap.size_update, PyProof.Rows.size_push']; exact Nat.le_succ _, rfl, rfl, er, er2, .refl _⟩) (by rw [er.length, ← line_eq]; exact h4))
        fun out p s2 c ds2 pm hl ho hp k g o at_ => ?_
      exact sort_end I f h4 h1 pm hl ho hp k g o at_
    · cases q
  · rename_i ds
    split at q
    · next hs =>
      cases q
      obtain ⟨h1, h2, h3, h4⟩ := srt_able hs
      obtain ⟨a, vs, rfl, sa, ra⟩ := hx.tup
      obtain ⟨its, rv, ht, hz⟩ := I.tuple sa
      obtain ⟨o, e, hc, n, hd⟩ := ht
      rw [Vals.ref1 r]
      have er := each_of rv ra
      have er2 : EachIs (fun u d => ∃ as, Reads s.heap u d as) its ds := each_imp er fun u d ⟨v, r, h⟩ => Dp.reads I d v u h.dp r
      refine sorted_of (R := fun u d => ∃ v, RelV v u ∧ Rp X.K F H v d) h1 h2 (by rw [← line_eq]; exact h4) (fun b hb => by have := h3 b hb; omega)
        (fun {Q2} g => collect_tup e hc hd (by rw [List.size_toArray, er.length, ← line_eq]; exact h4) fun h' q1 q2 => by
          have z := g { s with heap := h' } its ds ⟨q2, q1, rfl, rfl, er, er2, .refl _⟩
          simpa using z)
        fun out p s2 c ds2 pm hl ho hp k g o at_ => ?_
      exact sort_end I f h4 h1 pm hl ho hp k g o at_
    · cases q
end
end Zv

set_option Elab.async false
set_option autoImplicit false
set_option linter.all false
set_option maxRecDepth 100000
/-! ZSF: len(set(xs)), sorted(set(xs)) -/
namespace Zv
open PySem PySem.Spec L2
open PyProof.Rows hiding St
open PySem.W (EachIs AllAlike)
/-! a datum as a key -/
mutual
def nkOf : D → NestedKey
  | .none => .none
  | .int i => .num i
  | .str x => .text x
  | .tuple xs => .tup (nkOfL xs)
  | .bool _ => .none
  | .list _ => .none
  | .dict _ => .none
def nkOfL : List D → List NestedKey
  | [] => []
  | x :: xs => nkOf x :: nkOfL xs
end
theorem nkOfL_map : ∀ xs : List D, nkOfL xs = xs.map nkOf
  | [] => rfl
  | x :: xs => by rw [nkOfL, nkOfL_map xs]; rfl
mutual
theorem nk_data : ∀ d : D, keyed d = true → (nkOf d).data = d
  | .none, _ => rfl
  | .int _, _ => rfl
  | .str _, _ => rfl
  | .tuple xs, h => by
    simp only [keyed] at h
    simp only [nkOf, NestedKey.data, nk_datas xs h]
  | .bool _, h => by simp [keyed] at h
  | .list _, h => by simp [keyed] at h
  | .dict _, h => by simp [keyed] at h
theorem nk_datas : ∀ ds : List D, keyedL ds = true → NestedKey.datas (nkOfL ds) = ds
  | [], _ => rfl
  | x :: xs, h => by
    simp only [keyedL, Bool.and_eq_true] at h
    simp only [nkOfL, NestedKey.datas, nk_data x h.1, nk_datas xs h.2]
end
mutual
theorem nk_depth : ∀ d : D, keyed d = true → (nkOf d).depth ≤ d.depth
  | .none, _ => by simp [nkOf, NestedKey.depth]
  | .int _, _ => by simp [nkOf, NestedKey.depth]
  | .str _, _ => by simp [nkOf, NestedKey.depth]
  | .tuple xs, h => by
    simp only [keyed] at h
    simp only [nkOf, NestedKey.depth, PyData.depth]
    exact Nat.succ_le_succ (nk_depths xs h)
  | .bool _, h => by simp [keyed] at h
  | .list _, h => by simp [keyed] at h
  | .dict _, h => by simp [keyed] at h
theorem nk_depths : ∀ ds : List D, keyedL ds = true → NestedKey.depthAll (nkOfL ds) ≤ PyData.depthAll ds
  | [], _ => by simp [nkOfL, NestedKey.depthAll]
  | x :: xs, h => by
    simp only [keyedL, Bool.and_eq_true] at h
    simp only [nkOfL, NestedKey.depthAll, PyData.depthAll]
    have := nk_depth x h.1
    have := nk_depths xs h.2
    omega
end
mutual
theorem nk_is {h : Heap} : ∀ (d : D) (u : Value) (as : List Addr), Reads h u d as → keyed d = true → NestedIs h (nkOf d) u
  | .none, _, _, r, _ => by cases r; exact .none
  | .int _, _, _, r, _ => by cases r; exact .int _ _
  | .str _, _, _, r, _ => by cases r; exact .text _ _
  | .tuple xs, _, _, r, k => by
    simp only [keyed] at k
    cases r with
    | tuple h1 h2 h3 h4 =>
      simp only [nkOf]
      exact .tup h1 h2 h3 (nk_are xs _ _ h4 k)
  | .bool _, _, _, _, k => by simp [keyed] at k
  | .list _, _, _, _, k => by simp [keyed] at k
  | .dict _, _, _, _, k => by simp [keyed] at k
theorem nk_are {h : Heap} : ∀ (ds : List D) (us : List Value) (as : List Addr), ReadsAll h us ds as → keyedL ds = true → NestedAll h (nkOfL ds) us
  | [], _, _, r, _ => by cases r; exact .nil
  | d :: ds, _, _, r, k => by
    simp only [keyedL, Bool.and_eq_true] at k
    cases r with
    | cons r1 r2 => exact .cons (nk_is d _ _ r1 k.1) (nk_are ds _ _ r2 k.2)
end
/-! each once -/
theorem once_mem {x : D} : ∀ {xs : List D}, x ∈ onceD xs ↔ x ∈ xs
  | [] => Iff.rfl
  | y :: ys => by
    rw [onceD, List.mem_cons, List.mem_cons, List.mem_filter, once_mem]
    constructor
    · rintro (h | h)
      · exact .inl h
      · exact .inr h.1
    · rintro (h | h)
      · exact .inl h
      · by_cases c : x = y
        · exact .inl c
        · refine .inr ⟨h, ?_⟩
          rw [Bool.not_eq_true', Bool.eq_false_iff]
          exact fun z => c (sm_eq _ _ z).symm
theorem once_nodup : ∀ xs : List D, (onceD xs).Nodup
  | [] => List.nodup_nil
  | y :: ys => by
    rw [onceD]
    refine List.nodup_cons.mpr ⟨fun h => ?_, (once_nodup ys).filter _⟩
    have z := (List.mem_filter.mp h).2
    rw [sm_self] at z; cases z
theorem once_perm {l xs : List D} (h : l.Nodup) (hm : ∀ x, x ∈ l ↔ x ∈ xs) : l.Perm (onceD xs) :=
  (List.perm_ext_iff_of_nodup h (once_nodup xs)).mpr fun x => (hm x).trans once_mem.symm
/-- a set stands at a: its items are us -/
structure SetSt (w : World) (h : Heap) (a : Addr) (us : List Value) : Prop where
  st : ∃ o es ep t, h.get? a = some o ∧ o.ExactSet ∧ o.data = .set es ep t ∧ t.fits es.size = true ∧ es.size < scanBound ∧ Ris t.place.toList ∧ (w.params.followText "set-order" = true ∨ t.led = true) ∧ es.toList.map (·.2) = us
section
variable {X : Cx} {K : PySem.W.Frag} {F : Addr → Prop} {H : Hp} {P : Program} {w : World} {A : Around} {E : Value → Shared → Prop} {s : Shared}
theorem each_pick {R : Value → D → Prop} : ∀ {us : List Value} {ds : List D}, EachIs R us ds → ∀ {i : Nat} {u : Value}, us[i]? = some u → ∃ d, ds[i]? = some d ∧ R u d
  | _, _, .cons h t, 0, _, e => by cases e; exact ⟨_, rfl, h⟩
  | _, _, .cons h t, i + 1, _, e => by
    obtain ⟨d, q, r⟩ := each_pick t (i := i) (by simpa using e)
    exact ⟨d, by simpa using q, r⟩
theorem each_of_all {B : Type} {R : Value → D → Prop} (f : B → Value) (g : B → D) : ∀ {l : List B}, (∀ b ∈ l, R (f b) (g b)) → EachIs R (l.map f) (l.map g)
  | [], _ => .nil
  | b :: l, h => .cons (h b List.mem_cons_self) (each_of_all f g fun c hc => h c (List.mem_cons_of_mem _ hc))
/-- the set of whole numbers: its items -/
theorem setR_st {R : Value → D → Prop} {h : Heap} {a : Addr} {ns : List Int} {c : Nat} (S : SetR w h a (fun j => decide (j ∈ ns)) c) (hR : ∀ i ∈ ns, ∀ t, R (.int i t) (.int i)) :
    ∃ us ds, SetSt w h a us ∧ EachIs R us ds ∧ ds.Perm (onceD (ns.map PyData.int)) := by
  obtain ⟨o, es, ep, t, ho, hex, hd, hg, hn, hm, hs, hf, _, hr, hl⟩ := S
  have mem : ∀ e ∈ es.toList, L2.keyOf e ∈ ns := fun e he => of_decide_eq_true ((hm (L2.keyOf e)).mpr (List.mem_map.mpr ⟨e, he, rfl⟩))
  refine ⟨es.toList.map (·.2), es.toList.map fun e => .int (L2.keyOf e), ⟨o, es, ep, t, ho, hex, hd, hf, hs, hr, hl, rfl⟩, each_of_all _ _ fun e he => ?_, once_perm ?_ fun x => ?_⟩
  · obtain ⟨k, tk, e2, _⟩ := hg e he
    have hk : L2.keyOf e = k := by unfold L2.keyOf; rw [e2]
    rw [e2, hk]
    exact hR k (hk ▸ mem e he) tk
  · rw [show (es.toList.map fun e => PyData.int (L2.keyOf e)) = (es.toList.map L2.keyOf).map PyData.int by rw [List.map_map]; rfl]
    exact List.Pairwise.map _ (fun a b hab z => hab (by injection z)) hn
  · constructor
    · intro hx
      obtain ⟨e, he, rfl⟩ := List.mem_map.mp hx
      exact List.mem_map.mpr ⟨_, mem e he, rfl⟩
    · intro hx
      obtain ⟨k, hk, rfl⟩ := List.mem_map.mp hx
      obtain ⟨e, he, e2⟩ := List.mem_map.mp ((hm k).mp (decide_eq_true hk))
      exact List.mem_map.mpr ⟨e, he, by rw [e2]⟩
/-- the set of tuples: its items -/
theorem set0_st {R : Value → D → Prop} {h : Heap} {a : Addr} {ks ps : List ZS.Ent} {ds : List D} {es : Array (Int × Value)} {ep : Nat} {t : SetTable} (S : ZS.Set0 P w h a ps es ep t) (g : ZS.Has ks ks.length ps) (e : EachIs R (ks.map fun p => Value.ref p.1) ds) (hk : ks.map Prod.snd = ds.map nkOf) (hd : ∀ d ∈ ds, keyed d = true) :
    ∃ us ds2, SetSt w h a us ∧ EachIs R us ds2 ∧ ds2.Perm (onceD ds) := by
  obtain ⟨o, ho, hex, hdat⟩ := S.obj
  have hl := S.size
  have hfew := S.few
  have sub : ∀ p ∈ ps, p ∈ ks := fun p hp => by have z := g.sub p hp; rwa [List.take_length] at z
  have val : ∀ p ∈ ks, ∃ d ∈ ds, nkOf d = p.2 ∧ R (.ref p.1) d := fun p hp => by
    obtain ⟨i, hi, e1⟩ := List.getElem_of_mem hp
    have e2 : (ks.map fun p => Value.ref p.1)[i]? = some (.ref p.1) := by rw [List.getElem?_map, List.getElem?_eq_getElem hi, e1]; rfl
    obtain ⟨d, q1, q2⟩ := each_pick e e2
    have e3 : (ds.map nkOf)[i]? = some p.2 := by rw [← hk, List.getElem?_map, List.getElem?_eq_getElem hi, e1]; rfl
    rw [List.getElem?_map, q1] at e3
    exact ⟨d, List.mem_of_getElem? q1, Option.some.inj e3, q2⟩
  refine ⟨ps.map fun p => .ref p.1, ps.map fun p => p.2.data, ⟨o, es, ep, t, ho, hex, hdat, S.fits, by unfold scanBound; omega, S.tab.ris, S.led, by rw [S.rws, List.map_map]; rfl⟩, each_of_all _ _ fun p hp => ?_, once_perm ?_ fun x => ?_⟩
  · obtain ⟨d, hd1, e1, r⟩ := val p (sub p hp)
    rw [← e1, nk_data d (hd d hd1)]
    exact r
  · rw [show (ps.map fun p => p.2.data) = (ps.map Prod.snd).map NestedKey.data by rw [List.map_map]; rfl]
    refine List.pairwise_map.mpr (List.Pairwise.imp_of_mem (fun {a b} ha hb hab z => hab ?_) S.once)
    obtain ⟨p, hp, rfl⟩ := List.mem_map.mp ha
    obtain ⟨q, hq, rfl⟩ := List.mem_map.mp hb
    obtain ⟨d, hd1, e1, _⟩ := val p (sub p hp)
    obtain ⟨d2, hd2, e2, _⟩ := val q (sub q hq)
    rw [← e1, ← e2, nk_data d (hd d hd1), nk_data d2 (hd d2 hd2)] at z
    rw [← e1, ← e2, z]
  · constructor
    · intro hx
      obtain ⟨p, hp, rfl⟩ := List.mem_map.mp hx
      obtain ⟨d, hd1, e1, _⟩ := val p (sub p hp)
      rw [← e1, nk_data d (hd d hd1)]; exact hd1
    · intro hx
      have z : nkOf x ∈ ks.map Prod.snd := by rw [hk]; exact List.mem_map.mpr ⟨x, hx, rfl⟩
      obtain ⟨p, hp, e1⟩ := List.mem_map.mp z
      obtain ⟨q, hq, e2⟩ := List.mem_map.mp (g.all p (by rw [List.take_length]; exact hp))
      exact List.mem_map.mpr ⟨q, hq, by rw [e2, e1, nk_data x (hd x hx)]⟩
theorem ints_each {h : Heap} {R : Value → D → Prop} : ∀ {us : List Value} {ds : List D}, EachIs R us ds → (∀ u i, R u (.int i) → ∃ t, u = .int i t) → ds.all isInt = true → ∃ ns : List Int, ds = ns.map PyData.int ∧ IntsAre us ns
  | _, _, .nil, _, _ => ⟨[], rfl, .nil⟩
  | _, _, .cons (b := d) r t, hR, h => by
    simp only [List.all_cons, Bool.and_eq_true] at h
    cases d <;> simp only [isInt, Bool.false_eq_true, false_and] at h
    obtain ⟨tk, rfl⟩ := hR _ _ r
    obtain ⟨ns, e, i⟩ := ints_each (h := ‹Heap›) t hR h.2
    exact ⟨_ :: ns, by rw [e]; rfl, .cons _ _ i⟩
/-- set(xs): whatever xs is, a list or a tuple -/
theorem call_set {R : Value → D → Prop} {l : Addr} {vs : List Value} {ds : List D} {Q : Value → Shared → Prop} (hh : A.handled = none) (hl : s.heap.IsList l vs.toArray ∨ s.heap.IsTuple l vs.toArray) (e : EachIs R vs ds) (er : EachIs (fun v d => ∃ as, Reads s.heap v d as) vs ds)
    (hRi : ∀ u i, R u (.int i) → ∃ t, u = .int i t) (hRj : ∀ i t t', R (.int i t) (.int i) → R (.int i t') (.int i)) (ok : setOk ds = true) (hu : A.units + 12 < cLine)
    (h : ∀ (h' : Heap) (tk : Nat) us ds2, SetSt w h' s.heap.objs.size us → EachIs R us ds2 → ds2.Perm (onceD ds) → (∀ b o, s.heap.get? b = some o → h'.get? b = some o) → Q (.ref s.heap.objs.size) { s with heap := h', toks := tk }) :
    wpAny (model P w) A (call (.type "set") [.ref l]) Q E s := by
  unfold setOk at ok
  simp only [Bool.or_eq_true, Bool.and_eq_true, decide_eq_true_eq] at ok
  rcases ok with ⟨o1, o2⟩ | ⟨o1, o2⟩
  · obtain ⟨ns, rfl, ia⟩ := ints_each (h := s.heap) e hRi o1
    rw [List.length_map] at o2
    have hR : ∀ i ∈ ns, ∀ t, R (.int i t) (.int i) := fun i hi t => by
      obtain ⟨j, hj, ej⟩ := List.getElem_of_mem hi
      have : ∀ {us : List Value} {ms : List Int}, EachIs R us (ms.map PyData.int) → ∀ m ∈ ms, ∃ t, R (.int m t) (.int m) := by
        intro us ms
        induction ms generalizing us with
        | nil => intro _ m hm; cases hm
        | cons m ms ih =>
          intro ee k hk
          cases ee with
          | cons r t =>
            rcases List.mem_cons.mp hk with rfl | hk
            · obtain ⟨tk, rfl⟩ := hRi _ _ r
              exact ⟨tk, r⟩
            · exact ih t k hk
      obtain ⟨t0, r0⟩ := this e i hi
      exact hRj i t0 t r0
    rcases hl with hl | hl
    · refine ZS.call_set_ilist ns hh hl ia (by unfold scanBound; omega) fun h' tk c S _ k => ?_
      obtain ⟨us, ds2, q1, q2, q3⟩ := setR_st S hR
      exact h h' tk us ds2 q1 q2 q3 k
    · refine call_set_tupI ns hh hl ia (by unfold scanBound; omega) fun h' tk c S _ k => ?_
      obtain ⟨us, ds2, q1, q2, q3⟩ := setR_st S hR
      exact h h' tk us ds2 q1 q2 q3 k
  · have hd : ∀ d ∈ ds, isTup d = true ∧ keyed d = true ∧ d.depth ≤ 8 := fun d hd => by
      have z := List.all_eq_true.mp o1 d hd
      simp only [Bool.and_eq_true, decide_eq_true_eq] at z
      exact ⟨z.1.1, z.1.2, z.2⟩
    have conv : ∀ {us : List Value} {xs : List D}, EachIs (fun v d => ∃ as, Reads s.heap v d as) us xs → (∀ d ∈ xs, isTup d = true ∧ keyed d = true ∧ d.depth ≤ 8) → ∃ ks : List ZS.Ent, us = ks.map (fun p => Value.ref p.1) ∧ ks.map Prod.snd = xs.map nkOf ∧ ∀ p ∈ ks, ZS.At P w s.heap p.2 p.1 := by
      intro us xs ee
      induction ee with
      | nil => intro _; exact ⟨[], rfl, rfl, fun _ z => nomatch z⟩
      | cons r t ih =>
        rename_i v d vs' ds'
        intro hx
        obtain ⟨ks, k1, k2, k3⟩ := ih fun d hd => hx d (List.mem_cons_of_mem _ hd)
        obtain ⟨x1, x2, x3⟩ := hx d List.mem_cons_self
        obtain ⟨as, rr⟩ := r
        have ni := nk_is d v as rr x2
        cases d <;> simp only [isTup, Bool.false_eq_true] at x1
        cases rr with
        | @tuple a o its n _ _ ho hc hdt hr =>
          refine ⟨(a, nkOf _) :: ks, by rw [k1]; rfl, by rw [List.map_cons, List.map_cons, k2], fun p hp => ?_⟩
          rcases List.mem_cons.mp hp with rfl | hp
          · exact ⟨ni, Nat.le_trans (nk_depth _ x2) x3⟩
          · exact k3 p hp
    obtain ⟨ks, k1, k2, k3⟩ := conv er hd
    have klen : ks.length < 70 := by
      have z := congrArg List.length k2
      rw [List.length_map, List.length_map] at z
      omega
    rw [k1] at e
    rcases hl with hl | hl
    · refine ZS.call_set_list ks hh hl (by rw [k1]) k3 klen hu fun h' tk ps es ep t S g k => ?_
      obtain ⟨us, ds2, q1, q2, q3⟩ := set0_st S g e k2 fun d hd' => (hd d hd').2.1
      exact h h' tk us ds2 q1 q2 q3 k
    · refine ZS.call_set_tuple ks hh hl (by rw [k1]) k3 klen hu fun h' tk ps es ep t S g k => ?_
      obtain ⟨us, ds2, q1, q2, q3⟩ := set0_st S g e k2 fun d hd' => (hd d hd').2.1
      exact h h' tk us ds2 q1 q2 q3 k
section
variable {pins : List (Addr × Obj)} {σ : St}
/-- what a value is of a datum -/
abbrev RD (K : PySem.W.Frag) (F : Addr → Prop) (H : Hp) : Value → D → Prop := fun u d => ∃ v, RelV v u ∧ Rp K F H v d
theorem set_any {x : V} {u : Value} {d : D} {ds : List D} {Q : Value → Shared → Prop} (I : L2.Inv X pins σ H s) (hx : Rt X.K F H x d) (hd : d = .list ds ∨ d = .tuple ds) (r : RelV x u) (hh : A.handled = none) (ok : setOk ds = true) (hu : A.units + 12 < cLine)
    (h : ∀ (h' : Heap) (tk : Nat) us ds2, SetSt X.w h' s.heap.objs.size us → EachIs (RD X.K F H) us ds2 → EachIs (fun v d => ∃ as, Reads s.heap v d as) us ds2 → ds2.Perm (onceD ds) → (∀ b o, s.heap.get? b = some o → h'.get? b = some o) → Q (.ref s.heap.objs.size) { s with heap := h', toks := tk }) :
    wpAny (model X.prog X.w) A (call (.type "set") [u]) Q E s := by
  have go : ∀ {a : Addr} {vs : List V} {its : List Value}, (s.heap.IsList a its.toArray ∨ s.heap.IsTuple a its.toArray) → Vals vs its → RpL X.K F H vs ds → u = .ref a → wpAny (model X.prog X.w) A (call (.type "set") [u]) Q E s := by
    intro a vs its hl rv ra hu2
    subst hu2
    have er := each_of rv ra
    have er2 : EachIs (fun u d => ∃ as, Reads s.heap u d as) its ds := each_imp er fun u d ⟨v, r, h⟩ => Dp.reads I d v u h.dp r
    have eb : EachIs (fun u d => RD X.K F H u d ∧ ∃ as, Reads s.heap u d as) its ds := each_imp er fun u d ⟨v, r, h⟩ => ⟨⟨v, r, h⟩, Dp.reads I d v u h.dp r⟩
    refine call_set (R := fun u d => RD X.K F H u d ∧ ∃ as, Reads s.heap u d as) hh hl eb er2 ?_ ?_ ok hu fun h' tk us ds2 q1 q2 q3 q4 => h h' tk us ds2 q1 (each_imp q2 fun _ _ z => z.1) (each_imp q2 fun _ _ z => z.2) q3 q4
    · rintro u i ⟨⟨v, r, h⟩, _⟩
      cases h
      exact r
    · rintro i t t' ⟨⟨v, r, h⟩, _⟩
      cases h
      exact ⟨⟨.int i, ⟨t', rfl⟩, .int i⟩, _, .int _ _⟩
  rcases hd with rfl | rfl
  · obtain ⟨a, vs, rfl, sa, ra⟩ := hx.lst
    obtain ⟨_, its, n, rv, e⟩ := Inv.rd I sa
    cases r
    exact go (.inl ⟨_, e, rfl, n, rfl⟩) rv ra rfl
  · obtain ⟨a, vs, rfl, sa, ra⟩ := hx.tup
    obtain ⟨its, rv, ht, hz⟩ := I.tuple sa
    cases r
    exact go (.inr ht) rv ra rfl
end
end
end Zv

set_option Elab.async false
set_option autoImplicit false
set_option linter.all false
set_option maxRecDepth 100000
/-! ZSI: the calls len(set(x)), sorted(set(x)); max, min -/
namespace Zv
open PySem PySem.Spec L2
open PyProof.Rows hiding St
open PySem.W (EachIs AllAlike)
theorem each_perm {R : Value → D → Prop} {us vs : List Value} (p : vs.Perm us) : ∀ {ds : List D}, EachIs R us ds → ∃ ds2, EachIs R vs ds2 ∧ ds2.Perm ds := by
  induction p with
  | nil => intro ds e; exact ⟨ds, e, .refl _⟩
  | cons x _ ih =>
    intro ds e
    cases e with
    | cons h t =>
      obtain ⟨d2, e2, q⟩ := ih t
      exact ⟨_ :: d2, .cons h e2, q.cons _⟩
  | swap x y l =>
    intro ds e
    cases e with
    | cons h t =>
      cases t with
      | cons h2 t => exact ⟨_, .cons h2 (.cons h t), .swap _ _ _⟩
  | trans _ _ ih1 ih2 =>
    intro ds e
    obtain ⟨d2, e2, q⟩ := ih2 e
    obtain ⟨d3, e3, q3⟩ := ih1 e2
    exact ⟨d3, e3, q3.trans q⟩
theorem each_both {R S : Value → D → Prop} : ∀ {us : List Value} {ds : List D}, EachIs R us ds → EachIs S us ds → EachIs (fun u d => R u d ∧ S u d) us ds
  | _, _, .nil, .nil => .nil
  | _, _, .cons h t, .cons h2 t2 => .cons ⟨h, h2⟩ (each_both t t2)
section
variable {X : Cx} {pins : List (Addr × Obj)} {σ : St} {s : Shared} {F : Addr → Prop} {H : Hp}
def tSetD (K : PySem.W.Frag) (P : P1) (ta : TE) : TE := fun σ H Q => ta σ H fun x H1 => ∃ F d r, Rt K F H1 x d ∧ p1 P d = some r ∧ Fin K F H1 Q r
theorem len_set {a : Addr} {us : List Value} {Q : Value → Shared → Prop} {E : Value → Shared → Prop} {A : Around} {P : Program} {w : World} (S : SetSt w s.heap a us) (h : Q (.int us.length (s.toks + 1)) { s with toks := s.toks + 1 + 1 }) : wpAny (model P w) A (call (.builtin "len") [.ref a]) Q E s := by
  obtain ⟨o, es, ep, t, ho, hex, hd, hf, hs, _, _, e⟩ := S.st
  have n : es.size = us.length := by rw [← e, List.length_map, Array.length_toList]
  refine call_len_set ho hex hd hf (by unfold scanBound at hs; omega) ?_
  rw [n]
  exact h
theorem sorted_set {a : Addr} {us : List Value} {ds ds0 : List D} {Q : VK} (I : L2.Inv X pins σ H s) (hh : X.A.handled = none) (S : SetSt X.w s.heap a us) (e : EachIs (fun u d => RD X.K F H u d ∧ ∃ as, Reads s.heap u d as) us ds) (pm : ds.Perm ds0) (hs : srt ds0 = true) (hu : X.A.units + 67 < cLine)
    (f : Fin X.K F H Q (.fr (.list (sortD ds0)))) : wpAny (model X.prog X.w) X.A (call (.builtin "sorted") [.ref a]) (EP X pins σ Q) X.xe s := by
  obtain ⟨h1, h2, h3, h4⟩ := srt_able hs
  obtain ⟨o, es, ep, t, ho, hex, hd, hf, hsz, hr, hl, eu⟩ := S.st
  refine sorted_of (R := fun u d => RD X.K F H u d) h1 h2 (by rw [← line_eq]; exact h4) (fun d hd => by have := h3 d hd; omega)
    (fun {Q2} g => collect_set (A := X.A.in1) hh ⟨o, ho, hex.1, hd⟩ hf hsz hr hl fun s1 out k1 hz g1 o1 p => ?_) fun out p s2 c ds2 pm2 hl2 ho2 hp k g o2 at_ => ?_
  · rw [eu] at p
    obtain ⟨d2, e2, q⟩ := each_perm p e
    exact g s1 out d2 ⟨k1, hz, g1, o1, each_imp e2 fun _ _ z => z.1, each_imp e2 fun _ _ z => z.2, q.trans pm⟩
  · exact sort_end I f h4 h1 pm2 hl2 ho2 hp k g o2 at_
theorem set_shape {P : P1} {d : D} {r : EV} (h : p1 P d = some r) (hp : P = .lset ∨ P = .sset) : ∃ ds, (d = .list ds ∨ d = .tuple ds) ∧ (if P = .lset then lsetOf ds else ssetOf ds) = some r := by
  rcases hp with rfl | rfl <;> cases d <;> simp only [p1] at h <;> first | (cases h; done) | exact ⟨_, .inl rfl, h⟩ | exact ⟨_, .inr rfl, h⟩
theorem pe_lsetD {a : Expr} {ta : TE} {p p2 q pos : Pos} (hc : X.calm = true) (hu : X.A.units + 67 < cLine) (hg : Gl X "len") (hm : X.mg "len" = none) (hg2 : Gl X "set") (hm2 : X.mg "set" = none) (ha : PE X a ta)
    (na : starEach [a] X.env = (false, eval a X.env) :: starEach [] X.env) : PE X (.Call (.Name "len" p) [.Call (.Name "set" p2) [a] [] q] [] pos) (tSetD X.K .lset ta) := by
  refine ⟨fun pins s σ H Q I h => ?_⟩
  refine Call_ (ld_blt I hg hm PySem.boot_len ?_)
  refine PyProof.Rows.callWith_builtin1 (PyProof.Rows.args_cons ?_ rfl) rfl rfl
  refine Call_ (ld_blt I hg2 hm2 PyProof.Rows.boot_set ?_)
  refine PyProof.Rows.callWith_type1 (PyProof.Rows.args_cons (thn (ha.run pins s σ H _ I h) fun v s1 ⟨x, H1, I1, r1, q1⟩ => PyProof.Rows.args_nil ?_) na) na rfl
  obtain ⟨F, d, r, hx, hp, f⟩ := q1
  obtain ⟨ds, hd, he⟩ := set_shape hp (.inl rfl)
  rw [if_pos rfl] at he
  unfold lsetOf at he
  split at he
  · next ok =>
    cases he
    refine set_any I1 hx hd r1 (I1.ok.hd hc) ok (by omega) fun h' tk us ds2 S e1 e2 pm k => ?_
    refine PyProof.Rows.args_nil ?_
    have I2 : L2.Inv X pins σ H1 { s1 with heap := h', toks := tk } := I1.kept k
    refine len_set (s := { s1 with heap := h', toks := tk }) S ⟨.int (onceD ds).length, H1, I2.tok _, ⟨tk + 1, by rw [e1.length, pm.length_eq]⟩, f.v _ _ rfl (.int _)⟩
  · cases he
theorem pe_ssetD {a : Expr} {ta : TE} {p p2 q pos : Pos} (hc : X.calm = true) (hu : X.A.units + 67 < cLine) (hg : Gl X "sorted") (hm : X.mg "sorted" = none) (hg2 : Gl X "set") (hm2 : X.mg "set" = none) (ha : PE X a ta)
    (na : starEach [a] X.env = (false, eval a X.env) :: starEach [] X.env) (hb : bootBuiltins "sorted" = some (.builtin "sorted")) : PE X (.Call (.Name "sorted" p) [.Call (.Name "set" p2) [a] [] q] [] pos) (tSetD X.K .sset ta) := by
  refine ⟨fun pins s σ H Q I h => ?_⟩
  refine Call_ (ld_blt I hg hm hb ?_)
  refine PyProof.Rows.callWith_builtin1 (PyProof.Rows.args_cons ?_ rfl) rfl rfl
  refine Call_ (ld_blt I hg2 hm2 PyProof.Rows.boot_set ?_)
  refine PyProof.Rows.callWith_type1 (PyProof.Rows.args_cons (thn (ha.run pins s σ H _ I h) fun v s1 ⟨x, H1, I1, r1, q1⟩ => PyProof.Rows.args_nil ?_) na) na rfl
  obtain ⟨F, d, r, hx, hp, f⟩ := q1
  obtain ⟨ds, hd, he⟩ := set_shape hp (.inr rfl)
  rw [if_neg (by decide)] at he
  unfold ssetOf at he
  split at he
  · next ok =>
    cases he
    rw [Bool.and_eq_true] at ok
    refine set_any I1 hx hd r1 (I1.ok.hd hc) ok.1 (by omega) fun h' tk us ds2 S e1 e2 pm k => ?_
    refine PyProof.Rows.args_nil ?_
    have I2 : L2.Inv X pins σ H1 { s1 with heap := h', toks := tk } := I1.kept k
    refine sorted_set (s := { s1 with heap := h', toks := tk }) I2 (I1.ok.hd hc) S ?_ pm ok.2 hu f
    exact each_imp (each_both e1 e2) fun u d ⟨z1, as, z2⟩ => ⟨z1, as, PyProof.Rows.Reads.keeps k z2⟩
  · cases he
/-! ### max, min of whole numbers -/
theorem iter_tupI {xs : Array (Int × Tok)} {l : Addr} {A : Around} {P : Program} {w : World} {E : Value → Shared → Prop} {Q : Value → Shared → Prop} (hl : s.heap.IsTuple l (intItems xs))
    (h : ∀ s2 : Shared, s2 = { s with heap := s.heap.push { cls := .type "tuple_iterator", data := .fields #[.ref l, .int 0 0] } } →
      (s2.heap.IsTupleIter s.heap.objs.size l 0 ∧ s2.heap.IsTuple l (intItems xs)) → (∀ b ∈ [s.heap.objs.size, l], b < s2.heap.objs.size) → l ≠ s.heap.objs.size → Q (.ref s.heap.objs.size) s2) :
    wpAny (model P w) A (pyIter (.ref l)) Q E s := by
  have lt : l < s.heap.objs.size := by obtain ⟨_, e, _⟩ := hl; exact Heap.lt_size e
  refine wpAny_pyIter_tuple hl (h _ rfl ⟨⟨_, Heap.get?_push_size _ rfl, rfl, rfl⟩, hl.push _⟩ (fun b hb => ?_) (Nat.ne_of_lt lt))
  show b < (s.heap.push _).objs.size
  rw [Heap.size_push]
  rcases List.mem_cons.mp hb with rfl | hb
  · exact Nat.lt_succ_self _
  · rw [List.mem_singleton.mp hb]; exact Nat.lt_succ_of_lt lt
theorem keptT {h' : Heap} {l : Addr} (hk : ∀ b o, b ∉ [s.heap.objs.size] → (s.heap.push { cls := .type "tuple_iterator", data := .fields #[.ref l, .int 0 0] }).get? b = some o → h'.get? b = some o) :
    ∀ b o, s.heap.get? b = some o → h'.get? b = some o := fun b o e =>
  hk b o (fun hm => absurd (List.mem_singleton.mp hm ▸ Heap.lt_size e) (Nat.lt_irrefl _)) (Heap.get?_push_of_some _ e)
theorem maxT {l : Addr} {its : List Value} {ns : List Int} {A : Around} {P : Program} {w : World} {E : Value → Shared → Prop} {Q : Value → Shared → Prop} (hh : A.handled = none) (hl : s.heap.IsTuple l its.toArray) (hi : IntsAre its ns) (hne : 0 < ns.length)
    (h : ∀ h' tk M t', (∀ b o, s.heap.get? b = some o → h'.get? b = some o) → M ∈ ns → (∀ a, a ∈ ns → a ≤ M) → Q (.int M t') { s with heap := h', toks := tk }) : wpAny (model P w) A (call (.builtin "max") [.ref l]) Q E s := by
  obtain ⟨xs, e⟩ := hi.allInts.items
  have hn : numsOf (intItems xs).toList = ns := by rw [← e]; exact hi.numsOf
  rw [nums_intItems] at hn
  subst hn
  rw [e] at hl
  have sz : 0 < xs.size := by simpa using hne
  refine call_max_walk (iter_tupI hl fun s2 e st hfp hlI => ?_)
  subst e
  refine ⟨_, _, _, _, _, _, _, rfl, Walks.tuple (A := A.in1) hh _ l hlI (intItems xs), st, hfp, by simpa [intItems] using sz, CmpOf.ints_gt (numAt xs) (fun _ _ => intItems_at), fun v h' tk hP hk => ?_⟩
  obtain ⟨t, rfl⟩ := intItems_at hP
  have sz2 : (intItems xs).size = xs.size := by simp [intItems]
  rw [sz2]
  obtain ⟨b1, b2⟩ := argBest_gt (numAt xs) (xs.size - 1)
  refine h h' tk _ t (keptT hk) ?_ fun a ha => ?_
  · rw [numAt_eq]; exact PySem.getD_mem (by rw [List.length_map, Array.length_toList]; omega)
  · obtain ⟨j, hj, rfl⟩ := mem_getD ha
    rw [List.length_map, Array.length_toList] at hj
    rw [← numAt_eq]; exact b2 j (by omega)
theorem minT {l : Addr} {its : List Value} {ns : List Int} {A : Around} {P : Program} {w : World} {E : Value → Shared → Prop} {Q : Value → Shared → Prop} (hh : A.handled = none) (hl : s.heap.IsTuple l its.toArray) (hi : IntsAre its ns) (hne : 0 < ns.length)
    (h : ∀ h' tk M t', (∀ b o, s.heap.get? b = some o → h'.get? b = some o) → M ∈ ns → (∀ a, a ∈ ns → M ≤ a) → Q (.int M t') { s with heap := h', toks := tk }) : wpAny (model P w) A (call (.builtin "min") [.ref l]) Q E s := by
  obtain ⟨xs, e⟩ := hi.allInts.items
  have hn : numsOf (intItems xs).toList = ns := by rw [← e]; exact hi.numsOf
  rw [nums_intItems] at hn
  subst hn
  rw [e] at hl
  have sz : 0 < xs.size := by simpa using hne
  refine call_min_walk (iter_tupI hl fun s2 e st hfp hlI => ?_)
  subst e
  refine ⟨_, _, _, _, _, _, _, rfl, Walks.tuple (A := A.in1) hh _ l hlI (intItems xs), st, hfp, by simpa [intItems] using sz, CmpOf.ints_lt (numAt xs) (fun _ _ => intItems_at), fun v h' tk hP hk => ?_⟩
  obtain ⟨t, rfl⟩ := intItems_at hP
  have sz2 : (intItems xs).size = xs.size := by simp [intItems]
  rw [sz2]
  obtain ⟨b1, b2⟩ := argBest_lt (numAt xs) (xs.size - 1)
  refine h h' tk _ t (keptT hk) ?_ fun a ha => ?_
  · rw [numAt_eq]; exact PySem.getD_mem (by rw [List.length_map, Array.length_toList]; omega)
  · obtain ⟨j, hj, rfl⟩ := mem_getD ha
    rw [List.length_map, Array.length_toList] at hj
    rw [← numAt_eq]; exact b2 j (by omega)
theorem foldl_max : ∀ (r : List Int) (x : Int), x ≤ r.foldl max x ∧ (∀ y ∈ r, y ≤ r.foldl max x) ∧ (r.foldl max x = x ∨ r.foldl max x ∈ r)
  | [], x => ⟨Int.le_refl _, (fun _ h => nomatch h), .inl rfl⟩
  | y :: r, x => by
    obtain ⟨h1, h2, h3⟩ := foldl_max r (max x y)
    rw [List.foldl_cons]
    refine ⟨by omega, fun z hz => ?_, ?_⟩
    · rcases List.mem_cons.mp hz with rfl | hz
      · omega
      · exact h2 z hz
    · rcases h3 with h3 | h3
      · rw [h3]
        by_cases c : x ≤ y
        · exact .inr (by rw [show max x y = y by omega]; exact List.mem_cons_self)
        · exact .inl (by omega)
      · exact .inr (List.mem_cons_of_mem _ h3)
theorem foldl_min : ∀ (r : List Int) (x : Int), r.foldl min x ≤ x ∧ (∀ y ∈ r, r.foldl min x ≤ y) ∧ (r.foldl min x = x ∨ r.foldl min x ∈ r)
  | [], x => ⟨Int.le_refl _, (fun _ h => nomatch h), .inl rfl⟩
  | y :: r, x => by
    obtain ⟨h1, h2, h3⟩ := foldl_min r (min x y)
    rw [List.foldl_cons]
    refine ⟨by omega, fun z hz => ?_, ?_⟩
    · rcases List.mem_cons.mp hz with rfl | hz
      · omega
      · exact h2 z hz
    · rcases h3 with h3 | h3
      · rw [h3]
        by_cases c : y ≤ x
        · exact .inr (by rw [show min x y = y by omega]; exact List.mem_cons_self)
        · exact .inl (by omega)
      · exact .inr (List.mem_cons_of_mem _ h3)
theorem maxOf_spec {ns : List Int} (h : 0 < ns.length) : maxOf ns ∈ ns ∧ ∀ y ∈ ns, y ≤ maxOf ns := by
  cases ns with
  | nil => cases h
  | cons x r =>
    obtain ⟨h1, h2, h3⟩ := foldl_max r x
    refine ⟨?_, fun y hy => ?_⟩
    · rcases h3 with h3 | h3
      · exact List.mem_cons.mpr (.inl h3)
      · exact List.mem_cons_of_mem _ h3
    · rcases List.mem_cons.mp hy with rfl | hy
      · exact h1
      · exact h2 y hy
theorem minOf_spec {ns : List Int} (h : 0 < ns.length) : minOf ns ∈ ns ∧ ∀ y ∈ ns, minOf ns ≤ y := by
  cases ns with
  | nil => cases h
  | cons x r =>
    obtain ⟨h1, h2, h3⟩ := foldl_min r x
    refine ⟨?_, fun y hy => ?_⟩
    · rcases h3 with h3 | h3
      · exact List.mem_cons.mpr (.inl h3)
      · exact List.mem_cons_of_mem _ h3
    · rcases List.mem_cons.mp hy with rfl | hy
      · exact h1
      · exact h2 y hy
theorem maxD_some {xs : List D} {r : EV} (h : maxD xs = some r) : ∃ ns, intsOf xs = some ns ∧ 0 < ns.length ∧ r = .v (.int (maxOf ns)) := by
  unfold maxD at h
  rw [Option.bind_eq_some_iff] at h
  obtain ⟨ns, h1, h2⟩ := h
  refine ⟨ns, h1, ?_⟩
  cases ns with
  | nil => cases h2
  | cons x r => cases h2; exact ⟨Nat.succ_pos _, rfl⟩
theorem minD_some {xs : List D} {r : EV} (h : minD xs = some r) : ∃ ns, intsOf xs = some ns ∧ 0 < ns.length ∧ r = .v (.int (minOf ns)) := by
  unfold minD at h
  rw [Option.bind_eq_some_iff] at h
  obtain ⟨ns, h1, h2⟩ := h
  refine ⟨ns, h1, ?_⟩
  cases ns with
  | nil => cases h2
  | cons x r => cases h2; exact ⟨Nat.succ_pos _, rfl⟩
theorem c_max (hc : X.calm = true) : CallR X (.builtin "max") (rP1 X.K .max) := by
  intro pins s σ H xs us Q I r h
  obtain ⟨F, x, d, ev, rfl, hx, q, f⟩ := h
  cases d <;> simp only [p1] at q <;> first | (cases q; done) | skip
  · obtain ⟨ns, q1, q2, rfl⟩ := maxD_some q
    obtain ⟨a, vs, rfl, sa, ra⟩ := hx.lst
    refine cr_max hc pins s σ H _ us Q I r ⟨a, ns, rfl, by rw [← vals_intsD ra q1]; exact sa.sq, q2, fun m h1 h2 => ?_⟩
    obtain ⟨m1, m2⟩ := maxOf_spec q2
    rw [show m = maxOf ns from Int.le_antisymm (m2 m h1) (h2 _ m1)]
    exact f.v _ _ rfl (.int _)
  · obtain ⟨ns, q1, q2, rfl⟩ := maxD_some q
    obtain ⟨a, vs, rfl, sa, ra⟩ := hx.tup
    obtain ⟨its, rv, ht, hz⟩ := I.tuple sa
    rw [Vals.ref1 r]
    rw [vals_intsD ra q1] at rv
    refine maxT (I.ok.hd hc) ht rv.ints q2 fun h' tk m t' hk h1 h2 => ⟨.int _, H, I.kept hk, ⟨_, rfl⟩, ?_⟩
    obtain ⟨m1, m2⟩ := maxOf_spec q2
    rw [show m = maxOf ns from Int.le_antisymm (m2 m h1) (h2 _ m1)]
    exact f.v _ _ rfl (.int _)
theorem c_min (hc : X.calm = true) : CallR X (.builtin "min") (rP1 X.K .min) := by
  intro pins s σ H xs us Q I r h
  obtain ⟨F, x, d, ev, rfl, hx, q, f⟩ := h
  cases d <;> simp only [p1] at q <;> first | (cases q; done) | skip
  · obtain ⟨ns, q1, q2, rfl⟩ := minD_some q
    obtain ⟨a, vs, rfl, sa, ra⟩ := hx.lst
    refine cr_min hc pins s σ H _ us Q I r ⟨a, ns, rfl, by rw [← vals_intsD ra q1]; exact sa.sq, q2, fun m h1 h2 => ?_⟩
    obtain ⟨m1, m2⟩ := minOf_spec q2
    rw [show m = minOf ns from Int.le_antisymm (h2 _ m1) (m2 m h1)]
    exact f.v _ _ rfl (.int _)
  · obtain ⟨ns, q1, q2, rfl⟩ := minD_some q
    obtain ⟨a, vs, rfl, sa, ra⟩ := hx.tup
    obtain ⟨its, rv, ht, hz⟩ := I.tuple sa
    rw [Vals.ref1 r]
    rw [vals_intsD ra q1] at rv
    refine minT (I.ok.hd hc) ht rv.ints q2 fun h' tk m t' hk h1 h2 => ⟨.int _, H, I.kept hk, ⟨_, rfl⟩, ?_⟩
    obtain ⟨m1, m2⟩ := minOf_spec q2
    rw [show m = minOf ns from Int.le_antisymm (h2 _ m1) (m2 m h1)]
    exact f.v _ _ rfl (.int _)
end
end Zv

set_option Elab.async false
set_option autoImplicit false
set_option linter.all false
set_option maxRecDepth 100000
/-! ZRv: t[::-1] of a tuple -/
namespace Zv
open PySem PySem.Spec L2 HT
open PyProof.Rows hiding St
section
variable {prog : Program} {w : World} {A : Around} {E : Value → Shared → Prop} {s : Shared}
theorem adjust_back (n : Nat) : Builtin.Slice.sliceAdjust none none (-1) (n : Int) = ((n : Int) - 1, -1) := by
  simp [Builtin.Slice.sliceAdjust]
theorem places_back (n : Nat) : Builtin.Slice.slicePlaces ((n : Int) - 1) (-1) (-1) = n := by
  unfold Builtin.Slice.slicePlaces
  have h1 : ¬ ((-1 : Int) > 0) := by omega
  simp only [h1, if_false]
  split <;> simp <;> omega
theorem pick_back (xs : List Value) : ((List.range xs.length).filterMap fun (k : Nat) => xs.toArray[(((xs.length : Int) - 1) + (k : Int) * -1).toNat]?) = xs.reverse := by
  refine List.ext_getElem? fun i => ?_
  have key : ∀ m, m ≤ xs.length → ((List.range m).filterMap fun (k : Nat) => xs.toArray[(((xs.length : Int) - 1) + (k : Int) * -1).toNat]?) = xs.reverse.take m := by
    intro m
    induction m with
    | zero => intro _; rfl
    | succ m ih =>
      intro h
      have e : (((xs.length : Int) - 1) + (m : Int) * -1).toNat = xs.length - 1 - m := by omega
      have hm : m < xs.reverse.length := by rw [List.length_reverse]; omega
      rw [List.range_succ, List.filterMap_append, ih (by omega), List.take_add_one, List.getElem?_eq_getElem hm]
      congr 1
      simp only [List.filterMap_cons, List.filterMap_nil]
      rw [e]
      have z : xs.toArray[xs.length - 1 - m]? = some (xs.reverse[m]) := by
        rw [List.getElem_reverse]
        simp
      rw [z]; rfl
  rw [key _ (Nat.le_refl _), List.take_of_length_le (by rw [List.length_reverse]; exact Nat.le_refl _)]
theorem applied_back {sl : Addr} {n : Nat} {t : Tok} {Q : Int × Int × Nat → Shared → Prop} (hs : s.heap.IsSliceOf sl .none .none (.int (-1) t)) (h : Q ((n : Int) - 1, -1, n) s) : wpAny (model prog w) A (Builtin.Slice.sliceApplied (.ref sl) (pure (n : Int))) Q E s := by
  obtain ⟨os, hos, hcs, hds⟩ := id hs
  unfold Builtin.Slice.sliceApplied Builtin.Slice.sliceFields
  refine wpAny_bind (wpAny_bind (wpAny_field hos hds (x := .none) rfl (wpAny_bind (wpAny_field hos hds (x := .none) rfl (wpAny_bind (wpAny_field hos hds (x := .int (-1) t) rfl (wpAny_pure ?_)))))))
  refine wpAny_bind (slicePart_int ?_)
  show wpAny _ _ (if ((-1 : Int) == 0) = true then _ else _) _ _ s
  rw [if_neg (by decide)]
  refine wpAny_bind (slicePart_ .none (wpAny_bind (slicePart_ .none (wpAny_bind (wpAny_pure ?_)))))
  show wpAny _ _ (match Builtin.Slice.sliceAdjust none none (-1) (n : Int) with | (lo, hi) => pure (lo, (-1 : Int), Builtin.Slice.slicePlaces lo hi (-1))) _ _ s
  rw [adjust_back n]
  show wpAny _ _ (pure ((n : Int) - 1, (-1 : Int), Builtin.Slice.slicePlaces ((n : Int) - 1) (-1) (-1))) _ _ s
  rw [places_back]
  exact wpAny_pure h
theorem get_back {a sl : Addr} {xs : List Value} {t : Tok} {Q : Value → Shared → Prop} (ht : IsTup s.heap a xs.toArray) (hs : s.heap.IsSliceOf sl .none .none (.int (-1) t)) (hsz : xs.length ≤ sizeLine)
    (h : Q (.ref s.heap.objs.size) { s with heap := s.heap.push { cls := .type "tuple", data := .seq xs.reverse.toArray } }) : wpAny (model prog w) A (getItem (.ref a) (.ref sl)) Q E s := by
  have fits : sizeOk (.seq xs.reverse.toArray) := by
    show xs.reverse.toArray.size ≤ sizeLine
    rw [List.size_toArray, List.length_reverse]; exact hsz
  obtain ⟨os, hos, hcs, hds⟩ := id hs
  have hTs : s.TypeIs (.ref sl) "slice" := ⟨os, hos, hcs⟩
  unfold getItem
  try with_reducible refine wpAny_holding ?_
  first | refine wpAny_bind (wpAny_pure ?_) | skip
  refine wpAny_bind (wpAny_sequenceKey ht.typeIs (by decide) ?_)
  refine wpAny_bind (wpAny_callSpecial?_slot (name := Str.ofString "__getitem__") ht.typeIs PyProof.Rows.slot_tuple_getitem
    (wpAny_call_entry PyProof.Rows.slot_tuple_getitem ht.typeIs entry_tuple_getitem ?_ (args_tuple_getitem _ _)))
  show wpAny _ _ (Builtin.Tuple.tupleItemsOf (.ref a) >>= _) _ _ s
  refine wpAny_bind (tupleItemsOf_ ht ?_)
  refine wpAny_bind (wpAny_typeOf hTs ?_)
  rw [if_pos (by decide)]
  have e : ((xs.toArray.size : Nat) : Int) = (xs.length : Int) := by simp
  rw [e]
  refine wpAny_bind (applied_back hs ?_)
  have hno : ¬ (((xs.length : Int) - 1 == 0 && (-1 : Int) == 1 && xs.length == xs.toArray.size) = true) := by simp
  show wpAny _ _ (if ((xs.length : Int) - 1 == 0 && (-1 : Int) == 1 && xs.length == xs.toArray.size) = true then _ else _) _ _ s
  rw [if_neg hno, pick_back]
  first
    | exact wpAny_bind (m := Builtin.Tuple.tupleExact _) (wpAny_newObj_type (wpAny_pure ⟨_, rfl, wpAny_pure h⟩) fits)
    | exact wpAny_bind (m := Builtin.Tuple.tupleExact _) (wpAny_newObj_type (wpAny_bind (wpAny_pure (wpAny_pure ⟨_, rfl, wpAny_pure h⟩))) fits)
    | exact wpAny_bind (wpAny_bind (m := Builtin.Tuple.tupleExact _) (wpAny_newObj_type (wpAny_pure (wpAny_pure ⟨_, rfl, wpAny_pure h⟩)) fits))
    | exact wpAny_bind (wpAny_bind (m := Builtin.Tuple.tupleExact _) (wpAny_newObj_type (wpAny_pure ⟨_, rfl, wpAny_pure h⟩) fits))
end
/-- what is reversed -/
def tRevD (K : PySem.W.Frag) (te : TE) : TE := fun σ H Q => te σ H fun x H1 => ∃ F d r, Rt K F H1 x d ∧ revD d = some r ∧ Fin K F H1 Q r
theorem pe_revD {X : Cx} {e : Expr} {te : TE} {k : Nat} {p1 p2 p3 pos : Pos} (he : PE X e te) : PE X (.Subscript e (.Slice none none (some (.UnaryOp .USub (.Constant (.int 1) k p1) p2)) p3) pos) (tRevD X.K te) := by
  refine ⟨fun pins s σ H Q I h => ?_⟩
  refine Subscript_ (thn (he.run pins s σ H _ I h) fun v s1 ⟨x, H1, I1, r1, q1⟩ => ?_)
  obtain ⟨F, d, r, hx, hr, f⟩ := q1
  have hst : PO X (some (.UnaryOp .USub (.Constant (.int 1) k p1) p2)) (tPart (tUn (rU fun i => .int (-i)) (tC (.int 1)))) := po_some (pe_un un_neg pe_int)
  refine wpAny_Slice (thn (po_none.run pins s1 σ H1 (fun o H2 => o = none ∧ H2 = H1) I1 ⟨rfl, rfl⟩) fun vl s2 ⟨l, H2, I2, pl, el, e2⟩ => ?_)
  subst el e2
  refine thn (po_none.run pins s2 σ H2 (fun o H3 => o = none ∧ H3 = H2) I2 ⟨rfl, rfl⟩) fun vu s3 ⟨u, H3, I3, pu, eu, e3⟩ => ?_
  subst eu e3
  refine thn (hst.run pins s3 σ H3 (fun o H4 => o = some (-1) ∧ H4 = H3) I3 ⟨1, rfl, -1, rfl, rfl, rfl⟩) fun vs s4 ⟨o, H4, I4, ps, eo, e4⟩ => ?_
  subst eo e4
  have I5 : L2.Inv X pins σ H4 { s4 with heap := s4.heap.push { cls := .type "slice", data := .fields #[vl, vu, vs] } } := I4.kept (t' := s4.toks) fun b ob q => Heap.get?_push_of_some _ q
  cases d <;> simp only [revD] at hr <;> first | (cases hr; done) | cases hr
  · obtain ⟨a, ws, rfl, sa, ra⟩ := hx.lst
    cases r1
    obtain ⟨its, r, ht, hz⟩ := I5.list sa.sq
    have hlen := r.length
    show wpAny (model X.prog X.w) X.A (subscriptTail e (.Slice none none (some (.UnaryOp .USub (.Constant (.int 1) k p1) p2)) p3) (.ref a) (.ref s4.heap.objs.size)) (EP X pins σ Q) X.xe { s4 with heap := s4.heap.push { cls := .type "slice", data := .fields #[vl, vu, vs] } }
    refine tail_any (ops := [.ref a, .ref s4.heap.objs.size]) ht.isList.typeIs (PySem.slot_list_getitem.lookup) ?_ (by with_unfolding_all rfl)
    refine wpAny_getItem_list_slice ht.isList (Heap.IsSliceOf.new _ vl vu vs) pl pu ps (by decide) ?_ (by rw [List.size_toArray]; omega)
    rw [PySem.W.krv_pick]
    refine ⟨.ref _, _, I5.laid (t' := s4.toks) (o := .lst ws.reverse) (fun b ob q => Heap.get?_push_of_some _ q) (Nat.le_refl _) ?_, rfl, f.lst _ _ _ rfl ra.rev (I5.hok.fresh (Nat.le_refl _))⟩
    exact ⟨by rw [List.length_reverse]; exact hz, _, 0, r.reverse, Heap.get?_push_size _ rfl⟩
  · obtain ⟨a, ws, rfl, sa, ra⟩ := hx.tup
    cases r1
    obtain ⟨its, r, ht, hz⟩ := I5.tuple sa
    have hlen := r.length
    show wpAny (model X.prog X.w) X.A (subscriptTail e (.Slice none none (some (.UnaryOp .USub (.Constant (.int 1) k p1) p2)) p3) (.ref a) (.ref s4.heap.objs.size)) (EP X pins σ Q) X.xe { s4 with heap := s4.heap.push { cls := .type "slice", data := .fields #[vl, vu, vs] } }
    refine tail_any (ops := [.ref a, .ref s4.heap.objs.size]) ht.typeIs (PyProof.Rows.slot_tuple_getitem.lookup) ?_ (by with_unfolding_all rfl)
    cases pl; cases pu; cases ps
    refine get_back ht (Heap.IsSliceOf.new _ _ _ _) (by omega) ?_
    refine ⟨.ref _, _, I5.laid (t' := s4.toks) (o := .tup ws.reverse) (fun b ob q => Heap.get?_push_of_some _ q) (Nat.le_refl _) ?_, rfl, f.tup _ _ _ rfl ra.rev (I5.hok.fresh (Nat.le_refl _))⟩
    exact ⟨by rw [List.length_reverse]; exact hz, _, r.reverse, ⟨_, Heap.get?_push_size _ rfl, rfl, _, rfl⟩⟩
end Zv

set_option Elab.async false
set_option autoImplicit false
set_option linter.all false
set_option maxRecDepth 100000
/-! the core against the program's own syntax -/
namespace Zv
open PySem PySem.Spec L2
open PyProof.Rows hiding St

/-- a def's names by slot; the module's constants and defs -/
structure Nm where
  N : List Str
  gn : List Str
  fnm : List Str
  /-- exceptions' classes by number; those that are made without an __init__ of their own -/
  xn : List Str
  rn : List Nat
def gl (sc : Scope) (x : Str) : Bool := decide (sc.names.lookup x = some .globalImplicit) && !(x == ("__debug__" : Str)) && !decide (x = ("__name__" : Str))
def vis (sc : Scope) (x : Str) : Bool := match sc.names.lookup x with
  | some .local => true
  | some .cell => true
  | some .free => true
  | _ => false
def loc (sc : Scope) (x : Str) : Bool := match sc.names.lookup x with
  | some .local => true
  | some .cell => true
  | _ => false
def kOk : D → Const → Bool
  | .none, .none => true
  | .bool a, .bool b => a == b
  | .int a, .int b => decide (a = b)
  | .str a, .str b => decide (a = b)
  | _, _ => false
def P1.nm : P1 → Option Str
  | .len => some "len" | .tuple => some "tuple" | .list => some "list" | .all => some "all" | .any => some "any" | .abs => some "abs" | .int => some "int" | .sum => some "sum"
  | .max => some "max" | .min => some "min" | .sorted => some "sorted" | .repr => some "repr" | .str => none | .lset => none | .sset => none
/-- len(set(..)), sorted(set(..)) -/
def P1.nm2 : P1 → Option Str
  | .lset => some "len"
  | .sset => some "sorted"
  | _ => none
def Ty.nm (t : Ty) : Str := Str.ofString t.name
def isSlice : Expr → Bool
  | .Slice _ _ _ _ => true
  | _ => false
def isStar : Expr → Bool
  | .Starred _ _ => true
  | _ => false
def isCall : Expr → Bool
  | .Call _ _ _ _ => true
  | _ => false
/-- list(range(..)), tuple(range(..)) -/
def P1.rgNm : P1 → Option Str
  | .list => some "list"
  | .tuple => some "tuple"
  | _ => none
def isRg : It → Bool
  | .rg _ => true
  | .rg2 _ _ => true
  | _ => false
def isSetD : Expr → Bool
  | .Set _ _ _ => true
  | _ => false
mutual
def tgS : Tg → List Nat
  | .nm i => [i]
  | .ow i => [i]
  | .tup ts => tgsS ts
def tgsS : Tgs → List Nat
  | .nil => []
  | .cons t r => tgS t ++ tgsS r
end
mutual
def ckT (n : Nm) (sc : Scope) : Tg → Expr → Bool
  | .nm i, .Name x _ => decide (n.N[i]? = some x) && loc sc x
  | .tup ts, .Tuple es _ _ => ckTs n sc ts es
  | _, _ => false
def ckTs (n : Nm) (sc : Scope) : Tgs → List Expr → Bool
  | .nil, [] => true
  | .cons t r, e :: es => ckT n sc t e && ckTs n sc r es
  | _, _ => false
end
def ownN (n : Nm) (own : List Nat) : List (Str × Nat) := own.map fun i => (n.N.getD i ⟨#[]⟩, i)
def isTupT : Tg → Bool
  | .tup _ => true
  | _ => false
mutual
def ck (n : Nm) (sc : Scope) : E → Expr → Bool
  | .nev, e => !isSlice e && !isStar e && !isSetD e
  | .k d, .Constant c _ _ => kOk d c
  | .g j, .Name x _ => decide (n.gn[j]? = some x) && gl sc x
  | .v i, .Name x _ => decide (n.N[i]? = some x) && vis sc x && !(x == ("__debug__" : Str)) && !(x == ("__classdict__" : Str))
  | .bin o a b, .BinOp l p r _ => decide (p = o.op) && ck n sc a l && ck n sc b r
  | .neg a, .UnaryOp .USub x _ => ck n sc a x
  | .inv a, .UnaryOp .Invert x _ => ck n sc a x
  | .nt a, .UnaryOp .Not x _ => ck n sc a x
  | .cmp o a b, .Compare l [p] [r] _ => decide (p = o.op) && ck n sc a l && ck n sc b r
  | .chain o p a b c, .Compare l [o', p'] [m, r] _ => decide (o' = o.op) && decide (p' = p.op) && ck n sc a l && ck n sc b m && ck n sc c r
  | .an es, .BoolOp .And vs _ => ckL n sc es vs
  | .orr es, .BoolOp .Or vs _ => ckL n sc es vs
  | .ife c a b, .IfExp t x y _ => ck n sc c t && ck n sc a x && ck n sc b y
  | .tup es, .Tuple xs _ _ => ckL n sc es xs && decide (xs.length ≤ 1000)
  | .lst es, .List xs _ => ckL n sc es xs && decide (xs.length ≤ 1000)
  | .idx a i, .Subscript x y _ => !isSlice y && ck n sc a x && ck n sc i y
  | .cut a lo hi, .Subscript x (.Slice l h none _) _ => ck n sc a x && ckO n sc lo l && ckO n sc hi h
  | .rev a, .Subscript x (.Slice none none (some (.UnaryOp .USub (.Constant (.int 1) _ _) _)) _) _ => ck n sc a x
  | .call f as, .Call (.Name x _) xs [] _ => decide (n.fnm[f]? = some x) && gl sc x && ckL n sc as xs
  | .p1 p a, .Call (.Name x _) [y] [] _ => (decide (p.nm = some x) && gl sc x && ck n sc a y) || (match y with
      | .Call (.Name z _) [y2] [] _ => decide (p.nm2 = some x) && gl sc x && decide (z = ("set" : Str)) && gl sc z && ck n sc a y2
      | _ => false)
  | .splt a b, .Call (.Attribute o m ap) [y] [] cp => decide (m = ("split" : Str)) && (ap.endLine == cp.line) && !isCall o && ck n sc a o && ck n sc b y
  | .pit P it, .Call (.Name x _) [y] [] _ => decide (P.rgNm = some x) && gl sc x && isRg it && ckIt n sc false it y
  | .isi t a, .Call (.Name x _) [y, .Name z _] [] _ => decide (x = ("isinstance" : Str)) && gl sc x && decide (z = t.nm) && gl sc z && ck n sc a y
  | .lc own el t it ifs, .ListComp x [⟨tg, y, fs, 0⟩] scope _ =>
      blkC n.N sc scope (ownN n own) && ckIt n sc (isTupT t) it y && ckT n scope t tg && (tgS t).all own.contains && ckL n scope ifs fs && decide (fs.length ≤ 1) && ck n scope el x
  | .lc2 own own1 el t it ifs t1 it1 ifs1, .ListComp x [⟨tg, y, fs, 0⟩, ⟨tg1, y1, fs1, 0⟩] scope _ =>
      blkC n.N sc scope (ownN n own) && ckIt n sc (isTupT t) it y && ckT n scope t tg && (tgS t).all own.contains && ckL n scope ifs fs && decide (fs.length ≤ 1) &&
      ckIt n scope (isTupT t1) it1 y1 && ckT n scope t1 tg1 && (tgS t1).all own1.contains && own1.all own.contains && ckL n scope ifs1 fs1 && decide (fs1.length ≤ 1) && ck n scope el x
  | _, _ => false
def ckL (n : Nm) (sc : Scope) : Es → List Expr → Bool
  | .nil, [] => true
  | .cons a r, x :: xs => ck n sc a x && ckL n sc r xs
  | _, _ => false
def ckO (n : Nm) (sc : Scope) : Eo → Option Expr → Bool
  | .none, none => true
  | .some a, some x => ck n sc a x
  | _, _ => false
def ckIt (n : Nm) (sc : Scope) (tup : Bool) : It → Expr → Bool
  | .sq a, y => ck n sc a y
  | .rg a, .Call (.Name x _) [y] [] _ => decide (x = ("range" : Str)) && gl sc x && ck n sc a y
  | .rg2 a b, .Call (.Name x _) [y, z] [] _ => decide (x = ("range" : Str)) && gl sc x && ck n sc a y && ck n sc b z
  | .zip a b, .Call (.Name x _) [y, z] [] _ => tup && decide (x = ("zip" : Str)) && gl sc x && ck n sc a y && ck n sc b z
  | .enm a, .Call (.Name x _) [y] [] _ => tup && decide (x = ("enumerate" : Str)) && gl sc x && ck n sc a y
  | _, _ => false
end
end Zv

set_option Elab.async false
set_option autoImplicit false
set_option linter.all false
set_option maxRecDepth 100000
namespace Zv
open PySem PySem.Spec L2
open PyProof.Rows hiding St

/-- the built-in names that the core knows -/
def bltNames : List Str := ["len", "tuple", "list", "all", "any", "abs", "int", "sum", "max", "min", "sorted", "repr", "str", "set", "bool", "isinstance", "range", "zip", "enumerate", "dict", "iter"]
/-- a promise by the evaluator -/
def loseA : List SV → En
  | [] => []
  | .own _ _ :: r => some .dead :: loseA r
  | a :: r => some a :: loseA r
def Sf (l : Lk) (f : Nat) : Sp := fun vs H Q E => ∃ as F, Er l.K F H (vs.map some) (as.map some) ∧ match l.cl f as with
  | .ok d fr outs => ∀ F' H' v, Po l.K false Non F H (vs.map some) (as.map some) F' H' (vs.map some) outs → Rv l.K (Fre H) F' H' (vs.map some) outs v (if fr then .fr d else .v d) → Q v H'
  | .ex x => ∀ F' H' cls d, Po l.K false Non F H (vs.map some) (as.map some) F' H' (vs.map some) (loseA as) → Xr l F' H' x cls d → E cls d H'
  | .no => False
/-- where an expression stands -/
structure Cc (X : Cx) (n : Nm) (sc : Scope) (l : Lk) (k : Nat) (W : WX) : Prop where
  names : X.N = n.N
  nd : n.N.Nodup
  keep : ∀ x k, k ≠ .free → sc.names.lookup x = some k → X.env.scope.names.lookup x = some k
  fre : ∀ x, sc.names.lookup x = some .free → X.env.scope.names.lookup x = some .free ∨ X.env.scope.names.lookup x = some .cell
  kind : X.env.scope.kind = .function
  K : l.K = X.K
  gx : Gx X k
  tk : Takes X W
  fn : ∀ x, sc.names.lookup x = some .cell → X.fn x = true
  blt : ∀ x ∈ bltNames, X.mg x = none
  glob : ∀ (j : Nat) (x : Str), n.gn[j]? = some x → ∃ (d : D) (v : V) (u : Value), l.G[j]? = some d ∧ X.mg x = some u ∧ RelV v u ∧ ∀ F H, Rp X.K F H v d
  fns : ∀ (f : Nat) (x : Str), n.fnm[f]? = some x → ∃ a fd ps, X.mg x = some (.ref a) ∧ PySem.W.keepIn X.K (.ref a) = true ∧ Binds X.K fd ps [] ∧ Fk X.prog X.w X.K X.mg X.base k a fd ps (Sf l f)
section
variable {X : Cx} {n : Nm} {sc : Scope} {l : Lk} {k : Nat} {W : WX}
theorem Cc.gl (c : Cc X n sc l k W) {x : Str} (h : Zv.gl sc x = true) : Gl X x ∧ (x == ("__debug__" : Str)) = false ∧ x ≠ ("__name__" : Str) := by
  unfold Zv.gl at h
  simp only [Bool.and_eq_true, decide_eq_true_eq, Bool.not_eq_true', decide_eq_false_iff_not] at h
  refine ⟨?_, h.1.2, h.2⟩
  exact c.keep x _ (by decide) h.1.1
theorem Cc.vis (c : Cc X n sc l k W) {x : Str} (h : Zv.vis sc x = true) : Vis X.env.scope x := by
  unfold Zv.vis at h
  split at h
  · exact .inl (c.keep x _ (by decide) (by assumption))
  · exact .inr (.inl (c.keep x _ (by decide) (by assumption)))
  · rcases c.fre x (by assumption) with z | z
    · exact .inr (.inr z)
    · exact .inr (.inl z)
  · cases h
theorem Cc.loc (c : Cc X n sc l k W) {x : Str} (h : Zv.loc sc x = true) : Loc X.env.scope x ∧ (X.fn x = true ∨ X.env.scope.names.lookup x = some .local) := by
  unfold Zv.loc at h
  split at h
  · exact ⟨.inl (c.keep x _ (by decide) (by assumption)), .inr (c.keep x _ (by decide) (by assumption))⟩
  · exact ⟨.inr (c.keep x _ (by decide) (by assumption)), .inl (c.fn _ (by assumption))⟩
  · cases h
theorem look_map {g : Str → NameKind → NameKind} : ∀ (names : List (Str × NameKind)) (x : Str), (names.map fun p => (p.1, g p.1 p.2)).lookup x = (names.lookup x).map (g x)
  | [], _ => rfl
  | (n, k) :: r, x => by
    rw [List.map_cons, List.lookup_cons, List.lookup_cons]
    cases q : x == n with
    | true => rw [eq_of_beq q]; rfl
    | false => exact look_map r x
/-- a comprehension's block -/
theorem Cc.blk (c : Cc X n sc l k W) {own : List (Str × Nat)} {scope : Scope} (ok : blkC n.N sc scope own = true) (s : Shared) (H : Hp) (C : Addr) (cl : List (Str × Addr)) (fp : List Addr) :
    Cc (X.blk s H scope (compEnvC scope cl C X.env) fp) n scope l k (fun _ _ _ _ => False) := by
  have hn : ∀ x, (compEnvC scope cl C X.env).scope.names.lookup x = (scope.names.lookup x).map (fun k => if (k == NameKind.free && X.env.scope.kind == .function && X.env.kindOf x == some .cell) = true then NameKind.cell else k) := fun x => by
    rw [← look_map (g := fun n k => if (k == NameKind.free && X.env.scope.kind == .function && X.env.kindOf n == some .cell) = true then NameKind.cell else k)]
    show List.lookup x (scope.names.map _) = _
    congr 1
    apply List.map_congr_left
    rintro ⟨n, k⟩ _
    dsimp only
    split <;> rfl
  refine ⟨c.names, c.nd, fun x k hk h => ?_, fun x h => ?_, ?_, c.K, ⟨c.gx.calm, c.gx.room, c.gx.gd⟩, ?_, fun x h => ?_, c.blt, c.glob, c.fns⟩
  · show (compEnvC scope cl C X.env).scope.names.lookup x = _
    rw [hn, h, Option.map_some, if_neg]
    intro z
    simp only [Bool.and_eq_true, beq_iff_eq] at z
    exact hk z.1.1
  · show (compEnvC scope cl C X.env).scope.names.lookup x = _ ∨ (compEnvC scope cl C X.env).scope.names.lookup x = _
    rw [hn, h, Option.map_some]
    split
    · exact .inr rfl
    · exact .inl rfl
  · exact (blkOk_by ok).kind
  · exact takes0
  · show (scope.names.lookup x == some .cell) = true
    rw [h]; rfl
theorem Cc.blkOk (c : Cc X n sc l k W) {own : List (Str × Nat)} {scope : Scope} (ok : blkC n.N sc scope own = true) : BlkOk X.N X.env.scope scope own := by
  obtain ⟨a, b, d, e, f⟩ := blkOk_by ok
  rw [← c.names] at d f
  refine ⟨a, b, d, fun y hy q => ?_, f⟩
  rcases e y hy q with z | z
  · exact .inl (c.keep _ _ (by decide) z)
  · exact (c.fre _ z).symm
theorem pg_or {tg : Expr} {t u : TG} (h : PG X tg t) (h' : PG X tg u) : PG X tg (fun v σ H Q => t v σ H Q ∨ u v σ H Q) :=
  ⟨fun pins s σ H v w Q I r q => q.elim (h.run pins s σ H v w Q I r) (h'.run pins s σ H v w Q I r)⟩
theorem pg_imp {tg : Expr} {t t' : TG} (h : PG X tg t) (m : ∀ v σ H Q, t' v σ H Q → t v σ H Q) : PG X tg t' := ⟨fun pins s σ H v w Q I r q => h.run pins s σ H v w Q I r (m v σ H Q q)⟩
theorem pgs_imp {tg : List Expr} {t t' : TGs} (h : PGs X tg t) (m : ∀ v σ H Q, t' v σ H Q → t v σ H Q) : PGs X tg t' := ⟨fun pins s σ H v w Q I r q => h.run pins s σ H v w Q I r (m v σ H Q q)⟩
end
section
variable {K : PySem.W.Frag} {x : Bool} {B F : Addr → Prop} {H : Hp} {σ : St} {e e' : En}
/-- a slot is stored anew -/
theorem Po.put {i : Nat} {v : V} {d : D} (er : Er K F H σ e) (h : putS i (.val d) e = some e') (r : Rp K F H v d) : Po K x B F H σ e F H (σ.set i (some v)) e' ∧ e' = e.set i (some (.val d)) ∧ i < σ.length := by
  have key : ∀ b, e[i]? = some b → (∀ o, b ≠ some (.own true o)) → (∀ d, b ≠ some (.kept d)) → b ≠ some .dead → e' = e.set i (some (.val d)) → Po K x B F H σ e F H (σ.set i (some v)) e' ∧ e' = e.set i (some (.val d)) ∧ i < σ.length := by
    intro b hb n1 n2 n3 he
    have hi : i < e.length := (List.getElem?_eq_some_iff.mp hb).1
    have hs : i < σ.length := by rw [← er.len]; exact hi
    have ne : ∀ {j}, i ≠ j → (σ.set i (some v))[j]? = σ[j]? := fun c => List.getElem?_set_ne c
    have me : (σ.set i (some v))[i]? = some (some v) := List.getElem?_set_self hs
    subst he
    refine ⟨⟨⟨by simp [er.len], er.fok, fun j c q => ?_, fun j c q => ?_, fun j c u q => ?_, fun j k c1 u1 c2 u2 y q1 q2 w1 w2 => ?_⟩, fun _ q => q, fun _ _ q _ => q, fun _ q => q, fun _ q => .inl q, fun j c u q => ?_, fun j u q => ?_, fun j c q => ?_, fun j q => ?_⟩, rfl, hs⟩
    · rcases sl_set q with ⟨z, w, _⟩ | ⟨z, w⟩
      · subst z; cases w; exact ⟨v, me, r⟩
      · obtain ⟨w', a1, a2⟩ := er.val j c w; exact ⟨w', (ne z).trans a1, a2⟩
    · rcases sl_set q with ⟨z, w, _⟩ | ⟨z, w⟩
      · cases w
      · obtain ⟨w', a1, a2⟩ := er.kept j c w; exact ⟨w', (ne z).trans a1, a2⟩
    · rcases sl_set q with ⟨z, w, _⟩ | ⟨z, w⟩
      · cases w
      · obtain ⟨w', a1, a2⟩ := er.own j c u w; exact ⟨w', (ne z).trans a1, a2⟩
    · rcases sl_set q1 with ⟨_, w, _⟩ | ⟨z1, y1⟩
      · cases w
      · rcases sl_set q2 with ⟨_, w, _⟩ | ⟨z2, y2⟩
        · cases w
        · exact er.apart _ _ _ _ _ _ _ y1 y2 ((ne z1).symm.trans w1) ((ne z2).symm.trans w2)
    · rcases sl_set q with ⟨z, w, _⟩ | ⟨z, w⟩
      · cases w
      · exact .inl ⟨u, w, ne z⟩
    · by_cases z : i = j
      · subst z; exact absurd (Option.some.inj (hb.symm.trans q)) (n1 u)
      · exact ⟨ne z, .inl ⟨u, sl_ne q z⟩⟩
    · by_cases z : i = j
      · subst z; exact absurd (Option.some.inj (hb.symm.trans q)) (n2 c)
      · exact ⟨ne z, sl_ne q z⟩
    · by_cases z : i = j
      · subst z; exact absurd (Option.some.inj (hb.symm.trans q)) n3
      · exact ⟨ne z, sl_ne q z⟩
  simp only [putS] at h
  split at h
  · next q => cases h; exact key _ q (by simp) (by simp) (by simp) rfl
  · next q => cases h; exact key _ q (by simp) (by simp) (by simp) rfl
  · next q => cases h; exact key _ q (by simp) (by simp) (by simp) rfl
  · cases h
end

/-- targets -/
def Gt (l : Lk) (t : Tg) : TG := fun v σ H Q => ∃ e F d e', Er l.K F H σ e ∧ Rp l.K F H v d ∧ bindT t d e = some e' ∧ ∀ σ', Po l.K false Non F H σ e F H σ' e' → (∀ j, j ∉ tgS t → σ'[j]? = σ[j]?) → Q σ' H
def Gts (l : Lk) (t : Tgs) : TGs := fun vs σ H Q => ∃ e F ds e', Er l.K F H σ e ∧ RpL l.K F H vs ds ∧ bindTs t ds e = some e' ∧ ∀ σ', Po l.K false Non F H σ e F H σ' e' → (∀ j, j ∉ tgsS t → σ'[j]? = σ[j]?) → Q σ' H
theorem not_star {e : Expr} {env : Env} (h : isStar e = false) (es : List Expr) : starEach (e :: es) env = (false, eval e env) :: starEach es env := by
  cases e <;> first | rfl | cases h
theorem assign_one {e : Expr} {env : Env} (h : isStar e = false) (es : List Expr) : assignEach (e :: es) env = (false, assign e env) :: assignEach es env := by
  cases e <;> first | rfl | cases h
theorem ckT_star {n : Nm} {sc : Scope} {t : Tg} {e : Expr} (h : ckT n sc t e = true) : isStar e = false := by
  cases t <;> cases e <;> first | rfl | (simp [ckT] at h)
theorem ckTs_plain {n : Nm} {sc : Scope} {env : Env} : ∀ {t : Tgs} {es : List Expr}, ckTs n sc t es = true → (assignEach es env).length = es.length ∧ (assignEach es env).findIdx? (·.1) = none
  | .nil, [], _ => ⟨rfl, rfl⟩
  | .cons t r, e :: es, h => by
    simp only [ckTs, Bool.and_eq_true] at h
    obtain ⟨h1, h2⟩ := ckTs_plain (env := env) h.2
    rw [assign_one (ckT_star h.1)]
    refine ⟨by simp [h1], ?_⟩
    rw [List.findIdx?_cons, h2]
    rfl
  | .nil, _ :: _, h => by simp [ckTs] at h
  | .cons _ _, [], h => by simp [ckTs] at h
theorem bindTs_len : ∀ {t : Tgs} {ds : List D} {e e' : En}, bindTs t ds e = some e' → ∀ {n : Nm} {sc : Scope} {es : List Expr}, ckTs n sc t es = true → ds.length = es.length
  | .nil, [], _, _, _, _, _, [], _ => rfl
  | .nil, [], _, _, _, _, _, _ :: _, h => by simp [ckTs] at h
  | .nil, _ :: _, _, _, h, _, _, _, _ => by simp [bindTs] at h
  | .cons _ _, [], _, _, h, _, _, _, _ => by simp [bindTs] at h
  | .cons t r, d :: ds, e, e', h, _, _, [], q => by simp [ckTs] at q
  | .cons t r, d :: ds, e, e', h, _, _, x :: es, q => by
    simp only [ckTs, Bool.and_eq_true] at q
    simp only [bindTs, Option.bind_eq_some_iff] at h
    obtain ⟨e1, _, h2⟩ := h
    simp [bindTs_len h2 q.2]
mutual
theorem pg_all {X : Cx} {n : Nm} {sc : Scope} {l : Lk} {k : Nat} {W : WX} (c : Cc X n sc l k W) : ∀ (t : Tg) (e : Expr), ckT n sc t e = true → PG X e (Gt l t)
  | .nm i, e, h => by
    cases e with
    | Name x pos =>
      simp only [ckT, Bool.and_eq_true, decide_eq_true_eq] at h
      obtain ⟨h1, h2⟩ := c.loc h.2
      refine pg_imp (pg_name (i := i) (by rw [c.names]; exact c.nd) (by rw [c.names]; exact h.1) h1 h2) ?_
      rintro v σ H Q ⟨e, F, d, e', er, r, hb, q⟩
      obtain ⟨p, _, _⟩ := Po.put er hb r
      exact q _ p fun j hj => List.getElem?_set_ne (fun z => hj (by simp [tgS, z]))
    | _ => simp [ckT] at h
  | .ow i, e, h => by simp [ckT] at h
  | .tup ts, e, h => by
    cases e with
    | Tuple es kk pos =>
      simp only [ckT] at h
      have hh := pgs_all c ts es h
      obtain ⟨h1, h2⟩ := ckTs_plain (env := X.env) h
      refine pg_imp (pg_or (pg_tup (pos := pos) (k := kk) c.gx.calm hh h1 h2) (pg_lst (pos := pos) (k := kk) c.gx.calm hh h1 h2)) ?_
      rintro v σ H Q ⟨e, F, d, e', er, r, hb, q⟩
      cases d with
      | tuple ds =>
        cases r with
        | tup s rl =>
          refine .inl ⟨_, _, rfl, by rw [← c.K]; exact sqt_of s, by rw [rl.length]; exact bindTs_len hb h, e, F, ds, e', er, rl, hb, q⟩
      | list ds =>
        cases r with
        | lst s rl => refine .inr ⟨_, _, rfl, by rw [← c.K]; exact (rdk_of s).sq, by rw [rl.length]; exact bindTs_len hb h, e, F, ds, e', er, rl, hb, q⟩
      | _ => simp [bindT] at hb
    | _ => simp [ckT] at h
theorem pgs_all {X : Cx} {n : Nm} {sc : Scope} {l : Lk} {k : Nat} {W : WX} (c : Cc X n sc l k W) : ∀ (t : Tgs) (es : List Expr), ckTs n sc t es = true → PGs X es (Gts l t)
  | .nil, [], _ => pgs_imp pgs_nil (by
    rintro vs σ H Q ⟨e, F, ds, e', er, r, hb, q⟩
    cases ds with
    | nil =>
      cases r
      cases hb
      exact ⟨rfl, q σ (Po.refl er) fun _ _ => rfl⟩
    | cons _ _ => simp [bindTs] at hb)
  | .cons t r, x :: es, h => by
    simp only [ckTs, Bool.and_eq_true] at h
    refine pgs_imp (pgs_cons (pg_all c t x h.1) (pgs_all c r es h.2) (by rw [assign_one (ckT_star h.1)]; rfl)) ?_
    rintro vs σ H Q ⟨e, F, ds, e', er, rl, hb, q⟩
    cases ds with
    | nil => simp [bindTs] at hb
    | cons d ds =>
      cases rl with
      | cons r1 r2 =>
        simp only [bindTs, Option.bind_eq_some_iff] at hb
        obtain ⟨e1, b1, b2⟩ := hb
        refine ⟨_, _, rfl, e, F, d, e1, er, r1, b1, fun σ1 p1 u1 => ⟨e1, F, ds, e', p1.rel, r2, b2, fun σ2 p2 u2 => q σ2 (p1.trans er (p2.wide fun _ z => z.elim)) fun j hj => ?_⟩⟩
        simp only [tgsS, List.mem_append, not_or] at hj
        exact (u2 j hj.2).trans (u1 j hj.1)
  | .nil, _ :: _, h => by simp [ckTs] at h
  | .cons _ _, [], h => by simp [ckTs] at h
end
end Zv

set_option Elab.async false
set_option autoImplicit false
set_option linter.all false
set_option maxRecDepth 100000
namespace Zv
open PySem PySem.Spec L2
open PyProof.Rows hiding St

/-- later than where a source was taken; Dx: places of others -/
structure Lat (K : PySem.W.Frag) (Dx : Addr → Prop) (σ : St) (F : Addr → Prop) (H : Hp) (e : En) (rs : List EV) (σ' : St) (F' : Addr → Prop) (H' : Hp) (e' : En) : Prop where
  er : Er K F' H' σ' e'
  inc : ∀ a, F a → F' a
  keep : ∀ a o, ¬ Dx a → H a = some o → ¬ Own σ e a → H' a = some o
  slots : ∀ i, .sl i ∈ rs → σ'[i]? = σ[i]? ∨ ∀ a, ¬ Sl e' i a
/-- what a turn yields -/
def Yl (K : PySem.W.Frag) (F : Addr → Prop) (H : Hp) (x : V) (d : D) (H' : Hp) : Prop :=
  (H' = H ∧ Rp K F H x d) ∨ ∃ T vs ds, x = .ref T ∧ H T = none ∧ H' = upd H T (.tup vs) ∧ d = .tuple ds ∧ RpL K F H vs ds
def Jat (K : PySem.W.Frag) (J : L2.It) (items : List D) (F : Addr → Prop) (H : Hp) : Prop :=
  ∀ i, (∀ d, items[i]? = some d → J.go i H ∧ ∀ x H', J.yld i H x H' → Yl K F H x d H') ∧ (items.length ≤ i → J.stop i H)
def Jr (K : PySem.W.Frag) (H0 : Hp) (σ : St) (F : Addr → Prop) (H : Hp) (e : En) (s : Src) (J : L2.It) : Prop :=
  ∀ Dx : Addr → Prop, (∀ a, Dx a → ¬ F a ∧ H0 a ≠ none) → ∀ σ' F' H' e', Lat K Dx σ F H e s.rs σ' F' H' e' → s.ok e' = true → Jat K J s.items F' H'
def Ti (l : Lk) (W : WX) (it : It) : TI := fun σ H R => ∃ e F, Er l.K F H σ e ∧ Wp l W Non σ F H e (evIt l.G l.cl it e) fun s F1 H1 e1 => ∀ J, Jr l.K H σ F1 H1 e1 s J → R J H1
section
variable {K : PySem.W.Frag} {N F F' : Addr → Prop} {H H' : Hp} {σ σ' : St} {e e' : En}
theorem Rt.later {v : V} {x : EV} {d : D} {rs : List EV} (er : Er K F H σ e) (h : Rv K N F H σ e v x) (q : look e x = some d) {Dx : Addr → Prop} (hD : ∀ a, Dx a → ¬ F a ∧ ¬ N a) (t : Lat K Dx σ F H e rs σ' F' H' e') (hx : ∀ i, x = .sl i → x ∈ rs) (ok : stands x d e' = true) : Rt K F' H' v d := by
  have kf : ∀ a o, F a → H a = some o → H' a = some o := fun a o f z => t.keep a o (fun w => (hD a w).1 f) z fun w => er.nf w f
  cases h with
  | v h => cases q; exact .fz (h.mono t.inc kf)
  | fr nn _ no h => cases q; exact .ob (h.mono t.inc kf fun o z => t.keep _ o (fun w => (hD _ w).2 nn) z no)
  | sl hv =>
    rename_i i
    unfold stands at ok
    dsimp only at ok
    split at ok
    · next d' q2 =>
      have hv' : Vl σ' i v := by
        rcases t.slots i (hx i rfl) with z | z
        · exact z.trans hv
        · exfalso
          simp only [look] at q2
          split at q2 <;> first | exact z _ (by assumption) | cases q2
      rw [sm_eq _ _ ok]
      exact Rv.read (l := ⟨K, [], fun _ _ => .no, fun _ => Option.none⟩) (N := N) t.er (.sl hv') q2
    · cases ok
theorem jat_seq {v : V} {d : D} {items : List D} (h : Rt K F H v d) (q : itemsOf d = some items) :
    ∃ a, v = .ref a ∧ (((∃ vs, SqL K H a vs) ∧ Jat K (Itl K a) items F H ∧ ∃ ds, d = .list ds) ∨ ((∃ vs, SqT K H a vs) ∧ Jat K (Itt K a) items F H ∧ ∃ ds, d = .tuple ds)) := by
  cases d <;> simp only [itemsOf] at q <;> first | (cases q; done) | skip
  · cases q
    obtain ⟨a, vs, rfl, sa, ra⟩ := h.lst
    refine ⟨a, rfl, .inl ⟨⟨vs, sa.sq⟩, fun i => ⟨fun d hd => ?_, fun hi => ⟨vs, sa.sq, by rw [ra.length]; exact hi⟩⟩, _, rfl⟩⟩
    obtain ⟨w, hw, rw'⟩ := ra.get hd
    refine ⟨⟨vs, w, sa.sq, hw⟩, fun x H' hy => .inl ⟨hy.1, ?_⟩⟩
    cases (hy.2 vs sa.sq).symm.trans hw
    exact rw'
  · cases q
    obtain ⟨a, vs, rfl, sa, ra⟩ := h.tup
    refine ⟨a, rfl, .inr ⟨⟨vs, sa⟩, fun i => ⟨fun d hd => ?_, fun hi => ⟨vs, sa, by rw [ra.length]; exact hi⟩⟩, _, rfl⟩⟩
    obtain ⟨w, hw, rw'⟩ := ra.get hd
    refine ⟨⟨vs, w, sa, hw⟩, fun x H' hy => .inl ⟨hy.1, ?_⟩⟩
    cases (hy.2 vs sa).symm.trans hw
    exact rw'
theorem rangeD_get {lo : Int} {n i : Nat} {d : D} (h : (rangeD lo n)[i]? = some d) : i < n ∧ d = .int (lo + i) := by
  unfold rangeD at h
  rw [List.getElem?_map, Option.map_eq_some_iff] at h
  obtain ⟨j, h1, h2⟩ := h
  obtain ⟨h3, h4⟩ := List.getElem?_eq_some_iff.mp h1
  rw [List.getElem_range] at h4
  rw [List.length_range] at h3
  subst h4
  exact ⟨h3, h2.symm⟩
theorem jat_range (lo : Int) (n : Nat) : Jat K (Itr lo n) (rangeD lo n) F H := fun i =>
  ⟨fun d hd => by
    obtain ⟨h1, rfl⟩ := rangeD_get hd
    exact ⟨h1, fun x H' hy => .inl ⟨hy.1, by rw [hy.2]; exact .int _⟩⟩, fun hi => by
    unfold rangeD at hi
    rw [List.length_map, List.length_range] at hi
    exact hi⟩
theorem zipD_get {xs ys : List D} {i : Nat} {d : D} (h : (zipD xs ys)[i]? = some d) : ∃ x y, xs[i]? = some x ∧ ys[i]? = some y ∧ d = .tuple [x, y] := by
  unfold zipD at h
  rw [List.getElem?_zipWith] at h
  split at h
  · next x y h1 h2 => cases h; exact ⟨x, y, h1, h2, rfl⟩
  · cases h
theorem zipD_len (xs ys : List D) : (zipD xs ys).length = min xs.length ys.length := by unfold zipD; rw [List.length_zipWith]
theorem jat_zip {v w : V} {d d' : D} {xs ys : List D} (h : Rt K F H v d) (h' : Rt K F H w d') (q : itemsOf d = some xs) (q' : itemsOf d' = some ys) :
    (∀ a b ds ds', v = .ref a → w = .ref b → d = .list ds → d' = .list ds' → (∃ vs ws, SqL K H a vs ∧ SqL K H b ws) ∧ Jat K (Itz K a b) (zipD xs ys) F H) ∧
    (∀ a b ds ds', v = .ref a → w = .ref b → d = .tuple ds → d' = .tuple ds' → (∃ vs ws, SqT K H a vs ∧ SqT K H b ws) ∧ Jat K (RZ.ItzT K a b) (zipD xs ys) F H) := by
  refine ⟨fun a b ds ds' e1 e2 e3 e4 => ?_, fun a b ds ds' e1 e2 e3 e4 => ?_⟩
  · subst e3 e4
    cases q
    cases q'
    obtain ⟨a', vs, f1, sa, ra⟩ := h.lst
    obtain ⟨b', ws, f2, sb, rb⟩ := h'.lst
    cases e1.symm.trans f1
    cases e2.symm.trans f2
    refine ⟨⟨vs, ws, sa.sq, sb.sq⟩, fun i => ⟨fun d hd => ?_, fun hi => ⟨vs, ws, sa.sq, sb.sq, ?_⟩⟩⟩
    · obtain ⟨x, y, h1, h2, rfl⟩ := zipD_get hd
      obtain ⟨w1, g1, r1⟩ := ra.get h1
      obtain ⟨w2, g2, r2⟩ := rb.get h2
      refine ⟨⟨vs, ws, w1, w2, sa.sq, sb.sq, g1, g2⟩, fun z H' hy => .inr ?_⟩
      obtain ⟨T, x', y', rfl, hT, rfl, k1, k2⟩ := hy
      cases (k1 vs sa.sq).symm.trans g1
      cases (k2 ws sb.sq).symm.trans g2
      exact ⟨T, _, _, rfl, hT, rfl, rfl, .cons r1 (.cons r2 .nil)⟩
    · rw [zipD_len, ← ra.length, ← rb.length] at hi
      omega
  · subst e3 e4
    cases q
    cases q'
    obtain ⟨a', vs, f1, sa, ra⟩ := h.tup
    obtain ⟨b', ws, f2, sb, rb⟩ := h'.tup
    cases e1.symm.trans f1
    cases e2.symm.trans f2
    refine ⟨⟨vs, ws, sa, sb⟩, fun i => ⟨fun d hd => ?_, fun hi => ⟨vs, ws, sa, sb, ?_⟩⟩⟩
    · obtain ⟨x, y, h1, h2, rfl⟩ := zipD_get hd
      obtain ⟨w1, g1, r1⟩ := ra.get h1
      obtain ⟨w2, g2, r2⟩ := rb.get h2
      refine ⟨⟨vs, ws, w1, w2, sa, sb, g1, g2⟩, fun z H' hy => .inr ?_⟩
      obtain ⟨T, x', y', rfl, hT, rfl, k1, k2⟩ := hy
      cases (k1 vs sa).symm.trans g1
      cases (k2 ws sb).symm.trans g2
      exact ⟨T, _, _, rfl, hT, rfl, rfl, .cons r1 (.cons r2 .nil)⟩
    · rw [zipD_len, ← ra.length, ← rb.length] at hi
      omega
theorem jat_enum {v : V} {d : D} {xs : List D} (h : Rt K F H v d) (q : itemsOf d = some xs) :
    ∀ a ds, v = .ref a → d = .list ds → (∃ vs, SqL K H a vs) ∧ Jat K (Ite K a) (enumD xs) F H := by
  intro a ds e1 e3
  subst e3
  cases q
  obtain ⟨a', vs, f1, sa, ra⟩ := h.lst
  cases e1.symm.trans f1
  refine ⟨⟨vs, sa.sq⟩, fun i => ⟨fun d hd => ?_, fun hi => ⟨vs, sa.sq, ?_⟩⟩⟩
  · unfold enumD at hd
    rw [List.getElem?_zipWith] at hd
    split at hd
    · next j x h1 h2 =>
      cases hd
      obtain ⟨_, h4⟩ := List.getElem?_eq_some_iff.mp h1
      rw [List.getElem_range] at h4
      subst h4
      obtain ⟨w1, g1, r1⟩ := ra.get h2
      refine ⟨⟨vs, w1, sa.sq, g1⟩, fun z H' hy => .inr ?_⟩
      obtain ⟨T, x', rfl, hT, rfl, k1⟩ := hy
      cases (k1 vs sa.sq).symm.trans g1
      exact ⟨T, _, _, rfl, hT, rfl, rfl, .cons (.int _) (.cons r1 .nil)⟩
    · cases hd
  · unfold enumD at hi
    rw [List.length_zipWith, List.length_range, Nat.min_self, ← ra.length] at hi
    exact hi
end
section
variable {X : Cx} {tg y : Expr} {ty : TE}
def iSeq (K : PySem.W.Frag) (tl : TE) : TI := fun σ H R => tl σ H fun x H1 => ∃ a, x = .ref a ∧ (((∃ xs, SqL K H1 a xs) ∧ R (Itl K a) H1) ∨ ((∃ xs, SqT K H1 a xs) ∧ R (Itt K a) H1))
theorem pi_seq (h : PE X y ty) : PI X tg y (iSeq X.K ty) := by
  refine ⟨fun pins s σ H R I q => thn (h.run pins s σ H _ I q) ?_⟩
  rintro v s1 ⟨x, H1, I1, r1, a, rfl, q1⟩
  cases r1
  have fp : ∀ (ob : Obj), ∀ b ∈ [s1.heap.objs.size], FpOk X pins H1 b := fun ob b hb => by
    rw [List.mem_singleton.mp hb]
    exact I1.fpOk (Nat.le_refl _) (I1.hok.fresh (Nat.le_refl _))
  rcases q1 with ⟨⟨xs, hq⟩, q1⟩ | ⟨⟨xs, hq⟩, q1⟩
  · obtain ⟨its, _, p, _⟩ := I1.list hq
    exact wpAny_pyIter_list p.isList ⟨_, [s1.heap.objs.size], _, _, H1, rfl, I1.kept (t' := s1.toks) fun b o e => Heap.get?_push_of_some _ e, turn_list a _, ⟨_, Heap.get?_push_size _ rfl, rfl, rfl⟩, fp default, q1⟩
  · obtain ⟨its, _, p, _⟩ := I1.tuple hq
    exact wpAny_pyIter_tuple (show s1.heap.IsTuple a its.toArray from p) ⟨_, [s1.heap.objs.size], _, _, H1, rfl, I1.kept (t' := s1.toks) fun b o e => Heap.get?_push_of_some _ e, turn_tuple a _, ⟨_, Heap.get?_push_size _ rfl, rfl, rfl⟩, fp default, q1⟩
theorem pi_imp {wi wi' : TI} (h : PI X tg y wi) (m : ∀ σ H R, wi' σ H R → wi σ H R) : PI X tg y wi' := ⟨fun pins s σ H R I q => h.run pins s σ H R I (m σ H R q)⟩
end
end Zv

set_option Elab.async false
set_option autoImplicit false
set_option linter.all false
set_option maxRecDepth 100000
/-! ZEt: enumerate of a tuple -/
namespace Zv
open PySem PySem.Spec L2
open PyProof.Rows hiding St
open Sem (wp)
theorem meets_enumT (l : Addr) (items : Array Value) (n : Nat) (dct : Option Addr) (sl : Array (Option Value)) :
    Meets (Builtin.«enumerate.__new__» ⟨[.type "enumerate", .ref l], []⟩) (fun _ R s => s.heap.get? l = some { cls := .type "tuple", dict := dct, data := .seq items n, slots := sl } ∧
      R (.ok (.ret (.ref (s.heap.push { cls := .type "tuple_iterator", data := .fields #[.ref l, .int 0 0] }).objs.size)))
        { s with heap := (s.heap.push { cls := .type "tuple_iterator", data := .fields #[.ref l, .int 0 0] }).push { cls := .type "enumerate", data := .fields #[.none, .bool false, .ref s.heap.objs.size, rawInt 0, .none, .none] } }) :=
  .of_wp fun prog w A R s h => by
    obtain ⟨hp, g, d, tk, os⟩ := s; obtain ⟨hl, h⟩ := h
    have hsub := sub_enumerate
    have hL : Heap.IsTuple (Shared.heap ⟨hp, g, d, tk, os⟩) l items := ⟨_, hl, rfl, n, rfl⟩
    wp_walk using wpAny_loadPart' hl
    refine wpAny_stack_any fun st => wpAny_pure ?_
    split
    · rename_i c _ _ _ _ _
      cases (c == Value.type "enumerate")
      · wp_walk using wpAny_loadPart' hl, wpAny_pyIter_tuple hL
        exact ⟨_, rfl, h⟩
      · wp_walk using wpAny_loadPart' hl, wpAny_pyIter_tuple hL
        exact ⟨_, rfl, h⟩
    · wp_walk using wpAny_loadPart' hl, wpAny_pyIter_tuple hL
      exact ⟨_, rfl, h⟩
theorem call_enumT {prog : Program} {w : World} {A : Around} {E : Value → Shared → Prop} {s : Shared} {l : Addr} {items : Array Value} {Q : Value → Shared → Prop} (hL : s.heap.IsTuple l items)
    (h : ∀ h', IsEnum h' (s.heap.objs.size + 1) s.heap.objs.size 0 .none → h'.IsTupleIter s.heap.objs.size l 0 → h'.objs.size = s.heap.objs.size + 2 →
      (∀ b o, s.heap.get? b = some o → h'.get? b = some o) → Q (.ref (s.heap.objs.size + 1)) { s with heap := h' }) :
    wpAny (model prog w) A (call (.type "enumerate") [.ref l]) Q E s := by
  obtain ⟨⟨c, dct, dt, sl⟩, hl, hc, n, hd⟩ := hL
  replace hc : c = .type "tuple" := hc
  replace hd : dt = .seq items n := hd
  subst hc hd
  refine callType_new F.called_enumerate (by decide) (F.typeCall_enumerate_1 _) (F.newCall_enumerate_1 _) (fun obj => F.args_object_init_2 obj _) F.entry_enumerate_new
    (meets_enumT l items n dct sl) ⟨hl, ?_⟩
  have hz : (s.heap.push { cls := .type "tuple_iterator", data := .fields #[.ref l, .int 0 0] }).objs.size = s.heap.objs.size + 1 := Heap.size_push ..
  show _ ∧ _
  rw [hz]
  have he : IsEnum ((s.heap.push { cls := .type "tuple_iterator", data := .fields #[.ref l, .int 0 0] }).push
      { cls := .type "enumerate", data := .fields #[.none, .bool false, .ref s.heap.objs.size, rawInt 0, .none, .none] }) (s.heap.objs.size + 1) s.heap.objs.size 0 .none := by
    have := Heap.get?_push_size (s.heap.push { cls := .type "tuple_iterator", data := .fields #[.ref l, .int 0 0] })
      (o := { cls := .type "enumerate", data := .fields #[.none, .bool false, .ref s.heap.objs.size, rawInt 0, .none, .none] }) rfl
    rw [hz] at this; exact this
  refine ⟨⟨_, he, rfl⟩, h _ he ⟨_, Heap.get?_push_of_some _ (Heap.get?_push_size _ rfl), rfl, rfl⟩ (by rw [Heap.size_push, hz]) fun b o x => Heap.get?_push_of_some _ (Heap.get?_push_of_some _ x)⟩
theorem next_enumT_end {prog : Program} {w : World} {A : Around} {E : Value → Shared → Prop} {s : Shared} {e it l : Addr} {i : Nat} {items : Array Value} {old : Value} {c : Int} {Q : Option Value → Shared → Prop} (hh : A.handled = none)
    (he : IsEnum s.heap e it c old) (hit : s.heap.IsTupleIter it l i) (hl : s.heap.IsTuple l items) (hx : items[i]? = none)
    (hQ : ∀ h', Heap.ExtBut it s.heap h' → Q none { s with heap := h' }) : wpAny (model prog w) A (pyNext (.ref e)) Q E s := by
  have hT : s.TypeIs (.ref e) "enumerate" := ⟨_, he, rfl⟩
  unfold pyNext
  refine wpAny_bind (wpAny_attempt (wpAny_callSpecial?_slot (name := Str.ofString "__next__") hT F.slot_enumerate_next
    (wpAny_call_entry F.slot_enumerate_next hT F.entry_enumerate_next ?_ (F.args_enumerate_next_1 _))))
  show wpAny _ _ (field (.ref e) 2 >>= _) _ _ _
  refine wpAny_bind (wpAny_field he rfl (x := .ref it) rfl ?_)
  refine wpAny_bind (wpAny_nextOf_tuple_end hh hit hl hx fun h' x he' hx' => ?_)
  obtain ⟨o, ho, hc⟩ := hx'
  refine wpAny_bind (wpAny_isInstance (T := "StopIteration") (b := true) ⟨o, ho, hc⟩ isSubtype_stop ?_)
  exact wpAny_pure (hQ _ he')
/-- the tuple at a, each item in a new pair -/
def IteT (K : PySem.W.Frag) (a : Addr) : L2.It :=
  ⟨fun i H => ∃ (xs : List V) (x : V), SqT K H a xs ∧ xs[i]? = some x, fun i H v H' => ∃ T x, v = .ref T ∧ H T = none ∧ H' = upd H T (.tup [.int (i : Nat), x]) ∧ ∀ xs, SqT K H a xs → xs[i]? = some x, fun i H => ∃ xs : List V, SqT K H a xs ∧ xs.length ≤ i⟩
theorem turn_enumT {P : Program} {w : World} {K : PySem.W.Frag} {elts : List Expr} {kk : Nat} {tpos : Pos} (a e it : Addr) (hai : a ≠ it) (hae : a ≠ e) :
    Turn P w K (.Tuple elts kk tpos) (IteT K a) [e, it] e (fun i h => (∃ old, IsEnum h e it ((i : Nat) : Int) old) ∧ h.IsTupleIter it a i ∧ e ≠ it) where
  mem := by simp
  obj := fun i h st b hb => by
    obtain ⟨⟨old, he⟩, ⟨o, ho, hc, hd⟩, _⟩ := st
    have e' : b = e ∨ b = it := by simpa using hb
    rcases e' with z | z
    · rw [z]; exact ⟨_, he, fun v q => nomatch q⟩
    · rw [z]; exact ⟨o, ho, fun v q => by rw [hd] at q; cases q⟩
  keep := fun i h h' st k => let ⟨⟨old, he⟩, hi, hne⟩ := st; ⟨⟨old, k e (by simp) _ he⟩, hi.at fun o q => k it (by simp) o q, hne⟩
  item := by
    intro X hP hw hK hc i pins s σ H E I hf st hg
    subst hP hw hK
    obtain ⟨⟨old, he⟩, hit, hne⟩ := st
    obtain ⟨xs, x, hq, hx⟩ := hg
    obtain ⟨its, rv, p, hz⟩ := I.tuple hq
    obtain ⟨u, hu, ru⟩ := rv.get hx
    have hel : e < s.heap.objs.size := Heap.lt_size he
    have hil : it < s.heap.objs.size := by obtain ⟨_, q, _⟩ := hit; exact Heap.lt_size q
    have D := Draws.tuple (prog := X.prog) (w := X.w) (A := X.A.in1) (I.ok.hd hc) it a hai its.toArray
    have hlt : i < its.toArray.size := by
      rw [List.size_toArray]
      exact (List.getElem?_eq_some_iff.mp hu).1
    refine wpAny_pyNext_enum_itemD D he ⟨hit, p⟩ hlt hne (by simp [hne, Ne.symm hae]) fun u2 h' tk hu2 ho hst hT hsz hk => ?_
    have eu : u2 = u := by
      have := hu2.symm.trans (show its.toArray[i]? = some u by simpa using hu)
      exact Option.some.inj this
    subst eu
    refine ⟨_, rfl, wpAny_letOwnedTupleGo_enum (s := { s with heap := h', toks := tk + 1 }) ho fun h'' he' sb => ?_⟩
    have hT2 : h''.get? s.heap.objs.size = some { cls := .type "tuple", data := .seq #[.int i tk, u2] } := (sb.2 _ (Nat.ne_of_gt hel)).trans hT
    have new : ObjOk X.prog X.w (upd H s.heap.objs.size (.tup [.int (i : Nat), x])) h'' s.heap.objs.size (.tup [.int (i : Nat), x]) :=
      ⟨by show 2 ≤ sizeLine; decide, [.int i tk, u2], .cons ⟨_, rfl⟩ (.cons ru .nil), ⟨_, hT2, rfl, _, rfl⟩⟩
    have I1 : Inv X pins σ (upd H s.heap.objs.size (.tup [.int (i : Nat), x])) { s with heap := h'', toks := tk + 1 } :=
      I.turnedNew (ch := [e, it]) (fun b ob hb q => (sb.2 b (fun z => hb (by simp [z]))).trans (hk b ob (fun z => hb (by simp [z])) (fun z => hb (by simp [z])) q)) hf (Nat.le_refl _) new
    refine ⟨.ref s.heap.objs.size, _, I1, rfl, ⟨_, x, rfl, I.hok.fresh (Nat.le_refl _), rfl, fun ys hy => by rw [I.tuple_inj hy hq]; exact hx⟩, ⟨⟨u2, ?_⟩, hst.1.at fun o q => (sb.2 it (Ne.symm hne)).trans q, hne⟩, fun b hb => ?_⟩
    · have e1 : ((i + 1 : Nat) : Int) = (i : Int) + 1 := by omega
      rw [e1]; exact he'
    · have hb' : b < s.heap.objs.size := by
        have e' : b = e ∨ b = it := by simpa using hb
        rcases e' with z | z
        · rw [z]; exact hel
        · rw [z]; exact hil
      rw [upd_ne (Nat.ne_of_lt hb')]
      exact (hf b hb).1
  done := by
    intro X hP hw hK hc i pins s σ H E I hf st hg
    subst hP hw hK
    obtain ⟨⟨old, he⟩, hit, hne⟩ := st
    obtain ⟨xs, hq, hx⟩ := hg
    obtain ⟨its, rv, p, hz⟩ := I.tuple hq
    obtain ⟨f0, f1, f2, f3, f4, f5⟩ := hf it (by simp)
    have hl := rv.length
    exact next_enumT_end (I.ok.hd hc) he hit (show s.heap.IsTuple a its.toArray from p) (by simp; omega) fun h' eb => ⟨rfl, I.turned (t' := s.toks) (fun b o hb q => eb b o hb q) f0 f1 f3 f4 f5⟩
  self := fun A i s Q E st h => let ⟨⟨_, he⟩, _⟩ := st; wpAny_pyIter_enum he h
def iEnumA (K : PySem.W.Frag) (ta : TA) : TI := fun σ H R => ta σ H fun vs H1 => ∃ a xs, vs = [.ref a] ∧ ((SqL K H1 a xs ∧ R (Ite K a) H1) ∨ (SqT K H1 a xs ∧ R (IteT K a) H1))
theorem pi_enumA {X : Cx} {e : Expr} {ta : TA} {p pos tpos : Pos} {elts : List Expr} {kk : Nat} (hg : Gl X "enumerate") (hm : X.mg "enumerate" = none) (ha : PA X [e] ta) (hs : starEach [e] X.env = [(false, eval e X.env)] := by rfl) :
    PI X (.Tuple elts kk tpos) (.Call (.Name "enumerate" p) [e] [] pos) (iEnumA X.K ta) := by
  refine ⟨fun pins s σ H R I h => ?_⟩
  refine Call_ (ld_blt I hg hm boot_enumerate (PyProof.Rows.callWith_type1 (thn (ha.run pos pins s σ H _ I h) fun us s1 ⟨vs, H1, I1, r1, q1⟩ => ?_) hs rfl))
  obtain ⟨a, xs, ex, q1⟩ := q1
  subst ex
  cases r1 with
  | cons r rr =>
    cases rr
    cases r
    have fresh2 : ∀ b, b ∈ [s1.heap.objs.size + 1, s1.heap.objs.size] → FpOk X pins H1 b := fun b hb => by
      have e' : b = s1.heap.objs.size + 1 ∨ b = s1.heap.objs.size := by simpa using hb
      have hle : s1.heap.objs.size ≤ b := by
        rcases e' with z | z
        · rw [z]; exact Nat.le_add_right _ _
        · rw [z]; exact Nat.le_refl _
      exact I1.fpOk hle (I1.hok.fresh hle)
    rcases q1 with ⟨hq, q⟩ | ⟨hq, q⟩
    · obtain ⟨its, rv, p', hz⟩ := I1.list hq
      refine call_enumerate_list p'.isList fun h' he hit hsz hk => wpAny_pyIter_enum he ?_
      have I2 : Inv X pins σ H1 { s1 with heap := h' } := I1.kept (t' := s1.toks) hk
      exact ⟨s1.heap.objs.size + 1, [s1.heap.objs.size + 1, s1.heap.objs.size], _, _, H1, rfl, I2, turn_enum a (s1.heap.objs.size + 1) s1.heap.objs.size, ⟨⟨.none, he⟩, hit, Nat.succ_ne_self _⟩, fresh2, q⟩
    · obtain ⟨its, rv, p', hz⟩ := I1.tuple hq
      obtain ⟨o1, ho1, _⟩ := id p'
      have hl := Heap.lt_size ho1
      refine call_enumT (show s1.heap.IsTuple a its.toArray from p') fun h' he hit hsz hk => wpAny_pyIter_enum he ?_
      have I2 : Inv X pins σ H1 { s1 with heap := h' } := I1.kept (t' := s1.toks) hk
      exact ⟨s1.heap.objs.size + 1, [s1.heap.objs.size + 1, s1.heap.objs.size], _, _, H1, rfl, I2, turn_enumT a (s1.heap.objs.size + 1) s1.heap.objs.size (Nat.ne_of_lt hl) (Nat.ne_of_lt (Nat.lt_succ_of_lt hl)), ⟨⟨.none, he⟩, hit, Nat.succ_ne_self _⟩, fresh2, q⟩
theorem jat_enumT {K : PySem.W.Frag} {F : Addr → Prop} {H : Hp} {v : V} {d : D} {xs : List D} (h : Rt K F H v d) (q : itemsOf d = some xs) :
    ∀ a ds, v = .ref a → d = .tuple ds → (∃ vs, SqT K H a vs) ∧ Jat K (IteT K a) (enumD xs) F H := by
  intro a ds e1 e3
  subst e3
  cases q
  obtain ⟨a', vs, f1, sa, ra⟩ := h.tup
  cases e1.symm.trans f1
  refine ⟨⟨vs, sa⟩, fun i => ⟨fun d hd => ?_, fun hi => ⟨vs, sa, ?_⟩⟩⟩
  · unfold enumD at hd
    rw [List.getElem?_zipWith] at hd
    split at hd
    · next j x h1 h2 =>
      cases hd
      obtain ⟨_, h4⟩ := List.getElem?_eq_some_iff.mp h1
      rw [List.getElem_range] at h4
      subst h4
      obtain ⟨w1, g1, r1⟩ := ra.get h2
      refine ⟨⟨vs, w1, sa, g1⟩, fun z H' hy => .inr ?_⟩
      obtain ⟨T, x', rfl, hT, rfl, k1⟩ := hy
      cases (k1 vs sa).symm.trans g1
      exact ⟨T, _, _, rfl, hT, rfl, rfl, .cons (.int _) (.cons r1 .nil)⟩
    · cases hd
  · unfold enumD at hi
    rw [List.length_zipWith, List.length_range, Nat.min_self, ← ra.length] at hi
    exact hi
end Zv

set_option Elab.async false
set_option autoImplicit false
set_option linter.all false
set_option maxRecDepth 100000
namespace Zv
open PySem PySem.Spec L2
open PyProof.Rows hiding St

section
variable {K : PySem.W.Frag} {x : Bool} {B F F' : Addr → Prop} {H H' : Hp} {σ σ' : St} {e e' : En} {own : List Nat}
theorem wipeE_len (e : En) : ∀ own : List Nat, (wipeE e own).length = e.length
  | [] => rfl
  | v :: vs => by simp [wipeE, wipeE_len e vs]
theorem wipeE_out {e : En} {i : Nat} : ∀ {own : List Nat}, i ∉ own → (wipeE e own)[i]? = e[i]?
  | [], _ => rfl
  | v :: vs, h => by
    simp only [List.mem_cons, not_or] at h
    show ((wipeE e vs).set v none)[i]? = _
    rw [List.getElem?_set_ne (fun z => h.1 z.symm), wipeE_out h.2]
theorem wipeE_in {e : En} {i : Nat} {a : SV} : ∀ {own : List Nat}, i ∈ own → ¬ Sl (wipeE e own) i a
  | v :: vs, h, q => by
    have q' : ((wipeE e vs).set v none)[i]? = some (some a) := q
    by_cases c : v = i
    · subst c
      have hl : v < (wipeE e vs).length := by
        have := (List.getElem?_eq_some_iff.mp q').1
        rwa [List.length_set] at this
      rw [List.getElem?_set_self hl] at q'
      cases q'
    · rw [List.getElem?_set_ne c] at q'
      rcases List.mem_cons.mp h with z | z
      · exact c z.symm
      · exact wipeE_in z q'
theorem wipeE_sl {i : Nat} {a : SV} (h : Sl (wipeE e own) i a) : i ∉ own ∧ Sl e i a := by
  by_cases c : i ∈ own
  · exact absurd h (wipeE_in c)
  · exact ⟨c, by have := h; unfold Sl at this; rwa [wipeE_out c] at this⟩
theorem sl_wipe {i : Nat} {a : SV} (h : Sl e i a) (c : i ∉ own) : Sl (wipeE e own) i a := by unfold Sl; rw [wipeE_out c]; exact h
theorem wipe_vl {i : Nat} {v : V} (c : i ∉ own) : (wipe σ own)[i]? = σ[i]? := wipe_out c
theorem Own.of_wipe {a : Addr} (h : Own (wipe σ own) (wipeE e own) a) : Own σ e a := by
  obtain ⟨i, b, o, h1, h2⟩ := h
  obtain ⟨c, h1⟩ := wipeE_sl h1
  exact ⟨i, b, o, h1, (wipe_out c).symm.trans h2⟩
theorem Er.wipe (er : Er K F H σ e) (own : List Nat) : Er K F H (L2.wipe σ own) (wipeE e own) := by
  refine ⟨by rw [wipeE_len, wipe_length, er.len], er.fok, fun i d h => ?_, fun i d h => ?_, fun i b o h => ?_, fun i j b c o p a h1 h2 v1 v2 => ?_⟩
  · obtain ⟨c, h⟩ := wipeE_sl h
    obtain ⟨v, a, r⟩ := er.val i d h
    exact ⟨v, (wipe_out c).trans a, r⟩
  · obtain ⟨c, h⟩ := wipeE_sl h
    obtain ⟨v, a, r⟩ := er.kept i d h
    exact ⟨v, (wipe_out c).trans a, r⟩
  · obtain ⟨c, h⟩ := wipeE_sl h
    obtain ⟨v, a, r⟩ := er.own i b o h
    exact ⟨v, (wipe_out c).trans a, r⟩
  · obtain ⟨c1, h1⟩ := wipeE_sl h1
    obtain ⟨c2, h2⟩ := wipeE_sl h2
    exact er.apart _ _ _ _ _ _ _ h1 h2 ((wipe_out c1).symm.trans v1) ((wipe_out c2).symm.trans v2)
/-- no slot of the block's own is an owned one -/
def NoOwn (e : En) (own : List Nat) : Prop := ∀ i ∈ own, ∀ b o, ¬ Sl e i (.own b o)
theorem Own.to_wipe {a : Addr} (n : NoOwn e own) (h : Own σ e a) : Own (L2.wipe σ own) (wipeE e own) a := by
  obtain ⟨i, b, o, h1, h2⟩ := h
  have c : i ∉ own := fun c => n i c b o h1
  exact ⟨i, b, o, sl_wipe h1 c, (wipe_out c).trans h2⟩
theorem NoOwn.wipe : NoOwn (wipeE e own) own := fun i hi b o h => wipeE_in hi h
theorem NoOwn.go (n : NoOwn e own) (p : Po K true B F H σ e F' H' σ' e') : NoOwn e' own := fun i hi b o h => by
  rcases p.own i b o h with ⟨o', h1, _⟩ | ⟨z, _⟩
  · exact n i hi b o' h1
  · cases z
/-- the same, seen without the block's own slots -/
theorem Po.wipe (p : Po K true B F H σ e F' H' σ e') (n : NoOwn e own) : Po K true B F H (L2.wipe σ own) (wipeE e own) F' H' (L2.wipe σ own) (wipeE e' own) where
  rel := p.rel.wipe own
  inc := p.inc
  keep := fun a o h q => p.keep a o h fun z => q (z.to_wipe n)
  dom := p.dom
  new := fun a h => (p.new a h).imp id (Or.imp id (Or.imp (fun z => z.to_wipe n) id))
  own := fun i b o h => by
    obtain ⟨c, h⟩ := wipeE_sl h
    rcases p.own i b o h with ⟨o', h1, h2⟩ | ⟨z, _⟩
    · exact .inl ⟨o', sl_wipe h1 c, rfl⟩
    · cases z
  lent := fun i o h => by
    obtain ⟨c, h⟩ := wipeE_sl h
    refine ⟨rfl, ?_⟩
    rcases (p.lent i o h).2 with ⟨o', z⟩ | ⟨d, z⟩ | z
    · exact .inl ⟨o', sl_wipe z c⟩
    · exact .inr (.inl ⟨d, sl_wipe z c⟩)
    · exact .inr (.inr (sl_wipe z c))
  kept := fun i d h => by
    obtain ⟨c, h⟩ := wipeE_sl h
    exact ⟨rfl, sl_wipe (p.kept i d h).2 c⟩
  dead := fun i h => by
    obtain ⟨c, h⟩ := wipeE_sl h
    exact ⟨rfl, sl_wipe (p.dead i h).2 c⟩
theorem mergeE_len (e0 e : En) : ∀ own : List Nat, (mergeE e0 e own).length = e.length
  | [] => rfl
  | v :: vs => by simp [mergeE, mergeE_len e0 e vs]
theorem mergeE_out {e0 e : En} {i : Nat} : ∀ {own : List Nat}, i ∉ own → (mergeE e0 e own)[i]? = e[i]?
  | [], _ => rfl
  | v :: vs, h => by
    simp only [List.mem_cons, not_or] at h
    show ((mergeE e0 e vs).set v _)[i]? = _
    rw [List.getElem?_set_ne (fun z => h.1 z.symm), mergeE_out h.2]
theorem mergeE_in {e0 e : En} (hl : e0.length = e.length) {i : Nat} : ∀ {own : List Nat}, i ∈ own → (mergeE e0 e own)[i]? = e0[i]?
  | v :: vs, h => by
    show ((mergeE e0 e vs).set v _)[i]? = _
    by_cases c : v = i
    · subst c
      by_cases hv : v < e0.length
      · rw [List.getElem?_set_self (by rw [mergeE_len, ← hl]; exact hv)]
        rw [List.getElem?_eq_getElem hv, List.getD_eq_getElem?_getD, List.getElem?_eq_getElem hv]
        rfl
      · rw [List.getElem?_eq_none (by rw [List.length_set, mergeE_len]; omega), List.getElem?_eq_none (by omega)]
    · rw [List.getElem?_set_ne c]
      rcases List.mem_cons.mp h with z | z
      · exact absurd z.symm c
      · exact mergeE_in hl z
/-- the block's own slots come back -/
theorem Po.merge (er : Er K F H σ e) (p : Po K true Non F H (L2.wipe σ own) (wipeE e own) F' H' (L2.wipe σ own) (wipeE e' own)) : Po K true Non F H σ e F' H' σ (mergeE e e' own) := by
  have hl : e.length = e'.length := by
    have := p.rel.len
    rw [wipeE_len, wipe_length] at this
    rw [er.len, this]
  have kf : ∀ a o, F a → H a = some o → H' a = some o := fun a o f h => p.keep a o h fun z => er.nf z.of_wipe f
  have inn : ∀ {i a}, i ∈ own → Sl (mergeE e e' own) i a → Sl e i a := fun {i a} c h => by unfold Sl at h; rwa [mergeE_in hl c] at h
  have out : ∀ {i a}, i ∉ own → Sl (mergeE e e' own) i a → Sl (wipeE e' own) i a := fun {i a} c h => by unfold Sl at h ⊢; rw [mergeE_out c] at h; rw [wipeE_out c]; exact h
  have back : ∀ {i a}, i ∉ own → Sl (wipeE e' own) i a → Sl (mergeE e e' own) i a := fun {i a} c h => by unfold Sl at h ⊢; rw [mergeE_out c]; rw [wipeE_out c] at h; exact h
  have same : ∀ {i a}, i ∈ own → Sl e i a → Sl (mergeE e e' own) i a := fun {i a} c h => by unfold Sl at h ⊢; rw [mergeE_in hl c]; exact h
  have own_keep : ∀ {i b o a}, i ∈ own → Sl e i (.own b o) → Vl σ i (.ref a) → ¬ Own (L2.wipe σ own) (wipeE e own) a := fun {i b o a} c h hv z => by
    obtain ⟨j, b', o', h1, h2⟩ := z
    obtain ⟨cj, h1⟩ := wipeE_sl h1
    have := er.apart _ _ _ _ _ _ _ h h1 hv ((wipe_out cj).symm.trans h2)
    subst this
    exact cj c
  refine ⟨⟨by rw [mergeE_len, ← hl, er.len], p.rel.fok, fun i d h => ?_, fun i d h => ?_, fun i b o h => ?_, fun i j b c o q a h1 h2 v1 v2 => ?_⟩, p.inc, fun a o h n => p.keep a o h fun z => n z.of_wipe, p.dom, fun a h => (p.new a h).imp id (Or.imp id (Or.imp Own.of_wipe id)), fun i b o h => ?_, fun i o h => ?_, fun i d h => ?_, fun i h => ?_⟩
  · by_cases c : i ∈ own
    · obtain ⟨v, a, r⟩ := er.val i d (inn c h)
      exact ⟨v, a, r.mono p.inc kf⟩
    · obtain ⟨v, a, r⟩ := p.rel.val i d (out c h)
      exact ⟨v, (wipe_out c).symm.trans a, r⟩
  · by_cases c : i ∈ own
    · obtain ⟨v, a, r⟩ := er.kept i d (inn c h)
      exact ⟨v, a, r.mono p.inc kf⟩
    · obtain ⟨v, a, r⟩ := p.rel.kept i d (out c h)
      exact ⟨v, (wipe_out c).symm.trans a, r⟩
  · by_cases c : i ∈ own
    · obtain ⟨a, hv, nf, r⟩ := er.own i b o (inn c h)
      have no := own_keep c (inn c h) hv
      refine ⟨a, hv, fun z => ?_, r.mono p.inc kf fun u q => p.keep a u q no⟩
      rcases p.new a z with z | z | z | z
      · exact nf z
      · exact r.has z
      · exact no z
      · exact z
    · obtain ⟨a, hv, r⟩ := p.rel.own i b o (out c h)
      exact ⟨a, (wipe_out c).symm.trans hv, r⟩
  · by_cases c1 : i ∈ own
    · by_cases c2 : j ∈ own
      · exact er.apart _ _ _ _ _ _ _ (inn c1 h1) (inn c2 h2) v1 v2
      · rcases p.own j c q (out c2 h2) with ⟨q', z, _⟩ | ⟨z, _⟩
        · exact er.apart _ _ _ _ _ _ _ (inn c1 h1) (wipeE_sl z).2 v1 v2
        · cases z
    · by_cases c2 : j ∈ own
      · rcases p.own i b o (out c1 h1) with ⟨q', z, _⟩ | ⟨z, _⟩
        · exact er.apart _ _ _ _ _ _ _ (wipeE_sl z).2 (inn c2 h2) v1 v2
        · cases z
      · exact p.rel.apart _ _ _ _ _ _ _ (out c1 h1) (out c2 h2) ((wipe_out c1).trans v1) ((wipe_out c2).trans v2)
  · by_cases c : i ∈ own
    · exact .inl ⟨o, inn c h, rfl⟩
    · rcases p.own i b o (out c h) with ⟨o', z, _⟩ | ⟨z, _⟩
      · exact .inl ⟨o', (wipeE_sl z).2, rfl⟩
      · cases z
  · refine ⟨rfl, ?_⟩
    by_cases c : i ∈ own
    · exact .inl ⟨o, same c h⟩
    · rcases (p.lent i o (sl_wipe h c)).2 with ⟨o', z⟩ | ⟨d, z⟩ | z
      · exact .inl ⟨o', back c z⟩
      · exact .inr (.inl ⟨d, back c z⟩)
      · exact .inr (.inr (back c z))
  · refine ⟨rfl, ?_⟩
    by_cases c : i ∈ own
    · exact same c h
    · exact back c (p.kept i d (sl_wipe h c)).2
  · refine ⟨rfl, ?_⟩
    by_cases c : i ∈ own
    · exact same c h
    · exact back c (p.dead i (sl_wipe h c)).2
theorem wipeE_twice (e : En) (own : List Nat) : wipeE (wipeE e own) own = wipeE e own := by
  apply List.ext_getElem?
  intro i
  by_cases c : i ∈ own
  · have h1 : ∀ a, (wipeE (wipeE e own) own)[i]? ≠ some (some a) := fun a q => wipeE_in c q
    have h2 : ∀ a, (wipeE e own)[i]? ≠ some (some a) := fun a q => wipeE_in c q
    by_cases hl : i < e.length
    · have l1 : i < (wipeE (wipeE e own) own).length := by rw [wipeE_len, wipeE_len]; exact hl
      have l2 : i < (wipeE e own).length := by rw [wipeE_len]; exact hl
      rw [List.getElem?_eq_getElem l1, List.getElem?_eq_getElem l2]
      rw [List.getElem?_eq_getElem l1] at h1
      rw [List.getElem?_eq_getElem l2] at h2
      cases q1 : (wipeE (wipeE e own) own)[i] with
      | some a => exact absurd (by rw [q1]) (h1 a)
      | none =>
        cases q2 : (wipeE e own)[i] with
        | some a => exact absurd (by rw [q2]) (h2 a)
        | none => rfl
    · rw [List.getElem?_eq_none (by rw [wipeE_len, wipeE_len]; omega), List.getElem?_eq_none (by rw [wipeE_len]; omega)]
  · rw [wipeE_out c]
theorem Er.write {D : Addr} {o : HO} (er : Er K F H σ e) (nf : ¬ F D) (no : ¬ Own σ e D) : Er K F (upd H D o) σ e := by
  have k : ∀ a u, F a → H a = some u → upd H D o a = some u := fun a u f h => by rw [upd_ne (fun z => nf (by rw [← z]; exact f))]; exact h
  refine ⟨er.len, fun a f z => ?_, fun i d h => ?_, fun i d h => ?_, fun i b u h => ?_, er.apart⟩
  · cases q : H a with
    | none => exact er.fok a f q
    | some u => rw [k a u f q] at z; cases z
  · obtain ⟨v, a, r⟩ := er.val i d h
    exact ⟨v, a, r.mono (fun _ q => q) k⟩
  · obtain ⟨v, a, r⟩ := er.kept i d h
    exact ⟨v, a, r.mono (fun _ q => q) k⟩
  · obtain ⟨a, hv, n, r⟩ := er.own i b u h
    have ne : a ≠ D := fun z => no ⟨i, b, u, h, by rw [← z]; exact hv⟩
    exact ⟨a, hv, n, r.mono (fun _ q => q) k fun w q => by rw [upd_ne ne]; exact q⟩
end
/-- a comprehension's list so far -/
structure Acc (K : PySem.W.Frag) (own : List Nat) (σ : St) (F1 : Addr → Prop) (H1 : Hp) (e1 : En) (D : Addr) (acc : List Zv.D) (F : Addr → Prop) (H : Hp) (e : En) : Prop where
  here : ∃ vs, H D = some (.lst vs) ∧ RpL K F H vs acc
  nf : ¬ F D
  no : ¬ Own (L2.wipe σ own) (wipeE e own) D
  po : Po K true Non F1 H1 (L2.wipe σ own) (wipeE e1 own) F H (L2.wipe σ own) (wipeE e own)
section
variable {K : PySem.W.Frag} {F F' F1 : Addr → Prop} {H H' H1 : Hp} {σ σ2 : St} {e e' e1 : En} {own : List Nat} {D : Addr} {acc : List Zv.D}
theorem Acc.step (a : Acc K own σ F1 H1 e1 D acc F H e) (er1 : Er K F1 H1 σ e1) (hw : L2.wipe σ2 own = L2.wipe σ own) (n : NoOwn e own) (p : Po K true Non F H σ2 e F' H' σ2 e') : Acc K own σ F1 H1 e1 D acc F' H' e' ∧ NoOwn e' own := by
  have pw := p.wipe n
  rw [hw] at pw
  have hD : H D ≠ none := by obtain ⟨vs, h, _⟩ := a.here; rw [h]; simp
  have er := a.po.rel
  refine ⟨⟨?_, fun z => ?_, fun z => ?_, a.po.trans (er1.wipe own) (pw.wide fun _ z => z.elim)⟩, n.go p⟩
  · obtain ⟨vs, h, r⟩ := a.here
    exact ⟨vs, pw.keep D _ h a.no, pw.rpL er r⟩
  · rcases pw.new D z with z | z | z | z
    · exact a.nf z
    · exact hD z
    · exact a.no z
    · exact z
  · rcases pw.own' z with z | z
    · exact a.no z
    · exact hD z
theorem Acc.push {y : V} {d : Zv.D} (a : Acc K own σ F1 H1 e1 D acc F H e) (hD : H1 D = none) (r : Rp K F H y d) : ∃ vs, H D = some (.lst vs) ∧ vs.length = acc.length ∧ Acc K own σ F1 H1 e1 D (acc ++ [d]) F (upd H D (.lst (vs ++ [y]))) e := by
  obtain ⟨vs, h, rl⟩ := a.here
  have k : ∀ b u, F b → H b = some u → upd H D (.lst (vs ++ [y])) b = some u := fun b u f q => by rw [upd_ne (fun z => a.nf (by rw [← z]; exact f))]; exact q
  have p := a.po
  refine ⟨vs, h, rl.length, ⟨_, upd_same, ?_⟩, a.nf, a.no, ⟨p.rel.write a.nf a.no, p.inc, fun b u q n => ?_, fun b q => ?_, p.new, p.own, p.lent, p.kept, p.dead⟩⟩
  · exact (rl.append (.cons r .nil)).mono (fun _ q => q) k
  · rw [upd_ne (ne_of_none q hD)]
    exact p.keep b u q n
  · by_cases c : b = D
    · subst c; rw [upd_same]; simp
    · rw [upd_ne c]; exact p.dom b q
theorem Acc.init (er1 : Er K F1 H1 σ e1) (hD : H1 D = none) : Acc K own σ F1 H1 e1 D [] F1 (upd H1 D (.lst [])) e1 :=
  ⟨⟨[], upd_same, .nil⟩, fun z => er1.fok D z hD, fun z => er1.od z.of_wipe hD, Po.made (er1.wipe own) hD⟩
end

/-- a comprehension's tests -/
def Tif (l : Lk) (W : WX) (cs : Es) : TT := fun σ H Q => ∃ e F, Er l.K F H σ e ∧ Wp l W Non σ F H e (evIf l.G l.cl cs e) fun b F' H' e' => Q b H'
/-- nothing is raised -/
abbrev W0 : WX := fun _ _ _ _ => False
theorem wp_of {l : Lk} {α : Type} {B F : Addr → Prop} {H : Hp} {σ : St} {e e' : En} {r : R α} {a : α} {W : WX} {Q : α → (Addr → Prop) → Hp → En → Prop} (h : r = .ok a e') (q : ∀ F' H', Po l.K true B F H σ e F' H' σ e' → Q a F' H' e') : Wp l W B σ F H e r Q := by
  subst h; exact q
theorem R.bind_ok {α β : Type} {x : M α} {f : α → M β} {e e2 : En} {b : β} (h : M.bind x f e = .ok b e2) : ∃ a e1, x e = .ok a e1 ∧ f a e1 = .ok b e2 := by
  simp only [M.bind] at h
  cases q : x e with
  | ok a e1 => rw [q] at h; exact ⟨a, e1, rfl, h⟩
  | ex _ _ => rw [q] at h; cases h
  | no => rw [q] at h; cases h
mutual
theorem bindT_out : ∀ {t : Tg} {d : D} {e e' : En}, bindT t d e = some e' → e'.length = e.length ∧ (∀ j, j ∉ tgS t → e'[j]? = e[j]?) ∧ ∀ j b o, Sl e' j (.own b o) → Sl e j (.own b o)
  | .nm i, d, e, e', h => by
    have key : e' = e.set i (some (.val d)) := by
      simp only [bindT, putS] at h
      split at h <;> first | (cases h; rfl) | cases h
    subst key
    refine ⟨by simp, fun j hj => List.getElem?_set_ne fun z => hj (by simp [tgS, z]), fun j b o q => ?_⟩
    rcases sl_set q with ⟨_, w, _⟩ | ⟨_, w⟩
    · cases w
    · exact w
  | .ow i, d, e, e', h => by simp [bindT] at h
  | .tup ts, d, e, e', h => by
    cases d with
    | tuple ds => exact bindTs_out h
    | list ds => exact bindTs_out h
    | _ => simp [bindT] at h
theorem bindTs_out : ∀ {t : Tgs} {ds : List D} {e e' : En}, bindTs t ds e = some e' → e'.length = e.length ∧ (∀ j, j ∉ tgsS t → e'[j]? = e[j]?) ∧ ∀ j b o, Sl e' j (.own b o) → Sl e j (.own b o)
  | .nil, [], e, e', h => by cases h; exact ⟨rfl, fun _ _ => rfl, fun _ _ _ q => q⟩
  | .nil, _ :: _, _, _, h => by simp [bindTs] at h
  | .cons _ _, [], _, _, h => by simp [bindTs] at h
  | .cons t r, d :: ds, e, e', h => by
    simp only [bindTs, Option.bind_eq_some_iff] at h
    obtain ⟨e1, h1, h2⟩ := h
    obtain ⟨a1, a2, a3⟩ := bindT_out h1
    obtain ⟨b1, b2, b3⟩ := bindTs_out h2
    refine ⟨b1.trans a1, fun j hj => ?_, fun j b o q => a3 j b o (b3 j b o q)⟩
    simp only [tgsS, List.mem_append, not_or] at hj
    exact (b2 j hj.2).trans (a2 j hj.1)
end
theorem wipe_ext {own : List Nat} {σ σ' : St} (hl : σ.length = σ'.length) (h : ∀ j, j ∉ own → σ[j]? = σ'[j]?) : L2.wipe σ own = L2.wipe σ' own := by
  apply List.ext_getElem?
  intro j
  by_cases c : j ∈ own
  · have none_ : ∀ τ : St, ∀ v, (L2.wipe τ own)[j]? ≠ some (some v) := fun τ v q => (wipe_some q).2 c
    by_cases hj : j < σ.length
    · have l1 : j < (L2.wipe σ own).length := by rw [wipe_length]; exact hj
      have l2 : j < (L2.wipe σ' own).length := by rw [wipe_length, ← hl]; exact hj
      have n1 := none_ σ
      have n2 := none_ σ'
      rw [List.getElem?_eq_getElem l1] at n1 ⊢
      rw [List.getElem?_eq_getElem l2] at n2 ⊢
      cases q1 : (L2.wipe σ own)[j] with
      | some a => exact absurd (by rw [q1]) (n1 a)
      | none =>
        cases q2 : (L2.wipe σ' own)[j] with
        | some a => exact absurd (by rw [q2]) (n2 a)
        | none => rfl
    · rw [List.getElem?_eq_none (by rw [wipe_length]; omega), List.getElem?_eq_none (by rw [wipe_length]; omega)]
  · rw [wipe_out c, wipe_out c, h j c]
theorem wipeE_ext {own : List Nat} {e e' : En} (hl : e.length = e'.length) (h : ∀ j, j ∉ own → e[j]? = e'[j]?) : wipeE e own = wipeE e' own := by
  apply List.ext_getElem?
  intro j
  by_cases c : j ∈ own
  · have none_ : ∀ τ : En, ∀ v, (wipeE τ own)[j]? ≠ some (some v) := fun τ v q => wipeE_in c q
    by_cases hj : j < e.length
    · have l1 : j < (wipeE e own).length := by rw [wipeE_len]; exact hj
      have l2 : j < (wipeE e' own).length := by rw [wipeE_len, ← hl]; exact hj
      have n1 := none_ e
      have n2 := none_ e'
      rw [List.getElem?_eq_getElem l1] at n1 ⊢
      rw [List.getElem?_eq_getElem l2] at n2 ⊢
      cases q1 : (wipeE e own)[j] with
      | some a => exact absurd (by rw [q1]) (n1 a)
      | none =>
        cases q2 : (wipeE e' own)[j] with
        | some a => exact absurd (by rw [q2]) (n2 a)
        | none => rfl
    · rw [List.getElem?_eq_none (by rw [wipeE_len]; omega), List.getElem?_eq_none (by rw [wipeE_len]; omega)]
  · rw [wipeE_out c, wipeE_out c, h j c]
/-- from here to there within a comprehension, but for its list -/
structure Pd (K : PySem.W.Frag) (D : Addr) (σ : St) (F : Addr → Prop) (H : Hp) (e : En) (F' : Addr → Prop) (H' : Hp) (e' : En) : Prop where
  er : Er K F' H' σ e'
  inc : ∀ a, F a → F' a
  keep : ∀ a o, a ≠ D → H a = some o → ¬ Own σ e a → H' a = some o
  own : ∀ a, Own σ e' a → Own σ e a
section
variable {K : PySem.W.Frag} {D : Addr} {σ : St} {F F' F'' : Addr → Prop} {H H' H'' : Hp} {e e' e'' : En} {B : Addr → Prop}
theorem Po.pd (p : Po K true B F H σ e F' H' σ e') : Pd K D σ F H e F' H' e' :=
  ⟨p.rel, p.inc, fun a o _ h n => p.keep a o h n, fun a ⟨i, b, o, h1, h2⟩ => by
    rcases p.own i b o h1 with ⟨o', z, _⟩ | ⟨z, _⟩
    · exact ⟨i, b, o', z, h2⟩
    · cases z⟩
theorem Pd.trans (p : Pd K D σ F H e F' H' e') (q : Pd K D σ F' H' e' F'' H'' e'') : Pd K D σ F H e F'' H'' e'' :=
  ⟨q.er, fun a h => q.inc a (p.inc a h), fun a o c h n => q.keep a o c (p.keep a o c h n) fun z => n (p.own a z), fun a h => p.own a (q.own a h)⟩
theorem Pd.write {o : HO} (p : Pd K D σ F H e F' H' e') (nf : ¬ F' D) (no : ¬ Own σ e' D) : Pd K D σ F H e F' (upd H' D o) e' :=
  ⟨p.er.write nf no, p.inc, fun a u c h n => by rw [upd_ne c]; exact p.keep a u c h n, p.own⟩
end
/-- .. seen without the loop's own slots -/
structure Pq (K : PySem.W.Frag) (D : Addr) (own ow : List Nat) (σ : St) (F : Addr → Prop) (H : Hp) (e : En) (F' : Addr → Prop) (H' : Hp) (e' : En) : Prop where
  nown : NoOwn (wipeE e' ow) own
  er : Er K F' H' (L2.wipe σ ow) (wipeE e' ow)
  inc : ∀ a, F a → F' a
  keep : ∀ a o, a ≠ D → H a = some o → ¬ Own σ e a → H' a = some o
  own : ∀ a, Own (L2.wipe σ ow) (wipeE e' ow) a → Own σ e a
section
variable {K : PySem.W.Frag} {D : Addr} {σ : St} {F F' F'' : Addr → Prop} {H H' H'' : Hp} {e e' e'' : En} {own ow : List Nat}
theorem Pd.pq (p : Pd K D σ F H e F' H' e') (n : NoOwn e' own) : Pq K D own ow σ F H e F' H' e' :=
  ⟨fun j hj b o h => n j hj b o (wipeE_sl h).2, p.er.wipe ow, p.inc, p.keep, fun a h => p.own a h.of_wipe⟩
theorem Pd.transq (p : Pd K D σ F H e F' H' e') (q : Pq K D own ow σ F' H' e' F'' H'' e'') : Pq K D own ow σ F H e F'' H'' e'' :=
  ⟨q.nown, q.er, fun a h => q.inc a (p.inc a h), fun a o c h n => q.keep a o c (p.keep a o c h n) fun z => n (p.own a z), fun a h => p.own a (q.own a h)⟩
end
/-- a loop of a comprehension, at turn i -/
structure At (K : PySem.W.Frag) (own ow : List Nat) (σ : St) (F1 : Addr → Prop) (H1 : Hp) (e1 : En) (D : Addr) (σb : St) (Fs : Addr → Prop) (Hs : Hp) (es : En) (acc : List Zv.D) (F : Addr → Prop) (H : Hp) (e : En) : Prop where
  acc : Acc K own σ F1 H1 e1 D acc F H e
  nown : NoOwn (wipeE e ow) own
  er : Er K F H (L2.wipe σb ow) (wipeE e ow)
  inc : ∀ a, Fs a → F a
  keep : ∀ a o, a ≠ D → Hs a = some o → ¬ Own σb es a → H a = some o
  sub : ∀ a, Own (L2.wipe σb ow) (wipeE e ow) a → Own σb es a
/-- the turns of a comprehension's loop. M: what is left behind the tests -/
theorem lc_turns {l : Lk} {own ow : List Nat} {σ σb : St} {F1 Fs : Addr → Prop} {H1 Hs H0 : Hp} {e1 es : En} {D : Addr} {s : Src} {J : L2.It} {t : Tg} {ifs : Es} {more : M (List Zv.D)} {MO : St → Hp → (Hp → Prop) → Prop} {F : Addr → Prop} {H : Hp} {e eE : En} {acc ds : List Zv.D} {Qd : Hp → Prop}
    (er1 : Er l.K F1 H1 σ e1) (hD : H1 D = none) (hDs : ¬ Fs D ∧ (Hs D = none ∨ H0 D ≠ none)) (hs : L2.wipe σb own = L2.wipe σ own) (sub : ∀ i ∈ ow, i ∈ own) (ht : ∀ j ∈ tgS t, j ∈ ow)
    (hJ : Jr l.K H0 σb Fs Hs es s J)
    (hM : ∀ (acc : List Zv.D) (σ2 : St) (F2 : Addr → Prop) (H2 : Hp) (e2 : En) (dn : List Zv.D) (e3 : En) (Nx : Hp → Prop), L2.wipe σ2 own = L2.wipe σ own → Er l.K F2 H2 σ2 e2 → Acc l.K own σ F1 H1 e1 D acc F2 H2 e2 → NoOwn e2 own → more e2 = .ok dn e3 → acc.length + dn.length ≤ line →
      (∀ F' H', Acc l.K own σ F1 H1 e1 D (acc ++ dn) F' H' e3 → Pq l.K D own ow σ2 F2 H2 e2 F' H' e3 → Nx H') → MO σ2 H2 Nx)
    (at0 : At l.K own ow σ F1 H1 e1 D σb Fs Hs es acc F H e) (run : lcL ow (bindT t) (evIf l.G l.cl ifs) more s.ok s.items e = .ok ds eE) (hl : acc.length + ds.length ≤ line)
    (hQ : ∀ F' H', At l.K own ow σ F1 H1 e1 D σb Fs Hs es (acc ++ ds) F' H' eE → Qd H') :
    ∃ W : Nat → Nat → Hp → Prop, (∃ m, W 0 m H) ∧ ∀ i m H, W i m H →
      (J.stop i H ∧ Qd H) ∨ (J.go i H ∧ ∃ Nx : Hp → Prop, (∀ H', Nx H' → ∃ m', m' < m ∧ W (i + 1) m' H') ∧ ∀ x H', J.yld i H x H' → Gt l t x (L2.wipe σb ow) H' fun σ2 H2 => L2.wipe σ2 ow = L2.wipe σb ow ∧ Tif l W0 ifs σ2 H2 fun b H3 =>
        if b = true then MO σ2 H3 Nx else Nx H3) := by
  refine ⟨fun i m H => i + m = s.items.length ∧ ∃ acc' ds' F e, At l.K own ow σ F1 H1 e1 D σb Fs Hs es acc' F H e ∧ lcL ow (bindT t) (evIf l.G l.cl ifs) more s.ok (s.items.drop i) e = .ok ds' eE ∧ acc' ++ ds' = acc ++ ds, ⟨s.items.length, by omega, acc, ds, F, e, at0, by rw [List.drop_zero]; exact run, rfl⟩, ?_⟩
  rintro i m H ⟨him, acc', ds', F, e, A, run, hsum⟩
  have hok : s.ok (wipeE e ow) = true := by
    cases q : s.items.drop i with
    | nil =>
      rw [q] at run
      simp only [lcL] at run
      split at run
      · assumption
      · cases run
    | cons x xs =>
      rw [q] at run
      simp only [lcL] at run
      split at run
      · assumption
      · cases run
  have slots : ∀ j, EV.sl j ∈ s.rs → (L2.wipe σb ow)[j]? = σb[j]? ∨ ∀ a, ¬ Sl (wipeE e ow) j a := fun j _ => by
    by_cases c : j ∈ ow
    · exact .inr fun a h => wipeE_in c h
    · exact .inl (wipe_out c)
  have jat : Jat l.K J s.items F H := by
    rcases hDs.2 with z | z
    · exact hJ Non (fun a q => q.elim) _ F H _ ⟨A.er, A.inc, fun a o _ h n => A.keep a o (fun q => by rw [q, z] at h; cases h) h n, slots⟩ hok
    · exact hJ (· = D) (fun a q => by rw [show a = D from q]; exact ⟨hDs.1, z⟩) _ F H _ ⟨A.er, A.inc, fun a o c h n => A.keep a o c h n, slots⟩ hok
  cases hd : s.items.drop i with
  | nil =>
    have hi : s.items.length ≤ i := List.drop_eq_nil_iff.mp hd
    rw [hd] at run
    simp only [lcL, hok, if_true] at run
    cases run
    rw [List.append_nil] at hsum
    subst hsum
    exact .inl ⟨(jat i).2 hi, hQ F H A⟩
  | cons d0 xs =>
    have hi : i < s.items.length := by
      have := congrArg List.length hd
      rw [List.length_drop, List.length_cons] at this
      omega
    have hget : s.items[i]? = some d0 := by
      have := congrArg (·[0]?) hd
      simpa using this
    have hxs : s.items.drop (i + 1) = xs := by
      have := congrArg (List.drop 1) hd
      simpa [List.drop_drop, Nat.add_comm] using this
    rw [hd] at run
    simp only [lcL, hok, if_true] at run
    cases hb : bindT t d0 (wipeE e ow) with
    | none => rw [hb] at run; cases run
    | some e1' =>
      rw [hb] at run
      dsimp only at run
      obtain ⟨b, e2, rt, rm⟩ := R.bind_ok run
      obtain ⟨go, yl⟩ := (jat i).1 d0 hget
      obtain ⟨bl, bo, bn⟩ := bindT_out hb
      have weq : ∀ {σ2 : St}, σ2.length = (L2.wipe σb ow).length → (∀ j, j ∉ tgS t → σ2[j]? = (L2.wipe σb ow)[j]?) → L2.wipe σ2 ow = L2.wipe σb ow ∧ L2.wipe σ2 own = L2.wipe σ own := fun {σ2} hl2 h2 => by
        refine ⟨?_, ?_⟩
        · refine wipe_ext (by rw [hl2, wipe_length]) fun j hj => ?_
          rw [h2 j fun z => hj (ht j z), wipe_out hj]
        · rw [← hs]
          refine wipe_ext (by rw [hl2, wipe_length]) fun j hj => ?_
          rw [h2 j fun z => hj (sub j (ht j z)), wipe_out fun z => hj (sub j z)]
      have weq2 : wipeE e1' own = wipeE e own := wipeE_ext (by rw [bl, wipeE_len]) fun j hj => by
        rw [bo j fun z => hj (sub j (ht j z)), wipeE_out fun z => hj (sub j z)]
      have nown1 : NoOwn e1' own := fun j hj b o h => by
        exact A.nown j hj b o (bn j b o h)
      refine .inr ⟨go, fun H' => ∃ acc2 ds2 F2 e', At l.K own ow σ F1 H1 e1 D σb Fs Hs es acc2 F2 H' e' ∧ lcL ow (bindT t) (evIf l.G l.cl ifs) more s.ok xs e' = .ok ds2 eE ∧ acc2 ++ ds2 = acc ++ ds, ?_, ?_⟩
      · rintro H' ⟨acc2, ds2, F2, e', A2, r2, s2⟩
        exact ⟨m - 1, by omega, by omega, acc2, ds2, F2, e', A2, by rw [hxs]; exact r2, s2⟩
      intro xv Hy hy
      -- the target
      have base : ∃ Fy, Er l.K Fy Hy (L2.wipe σb ow) (wipeE e ow) ∧ Rp l.K Fy Hy xv d0 ∧ Acc l.K own σ F1 H1 e1 D acc' Fy Hy e ∧ (∀ a, Fs a → Fy a) ∧ (∀ a o, a ≠ D → Hs a = some o → ¬ Own σb es a → Hy a = some o) := by
        rcases yl xv Hy hy with ⟨rfl, r⟩ | ⟨T, vs, dz, rfl, hT, rfl, rfl, r⟩
        · exact ⟨F, A.er, r, A.acc, A.inc, A.keep⟩
        · have p : Po l.K true Non F H (L2.wipe σb ow) (wipeE e ow) (ins F T) (upd H T (.tup vs)) (L2.wipe σb ow) (wipeE e ow) := Po.laid A.er hT
          have q : Po l.K true Non F H (L2.wipe σ own) (wipeE e own) (ins F T) (upd H T (.tup vs)) (L2.wipe σ own) (wipeE e own) := Po.laid A.acc.po.rel hT
          obtain ⟨ws, hD1, rD⟩ := A.acc.here
          have nT : D ≠ T := ne_of_none hD1 hT
          refine ⟨ins F T, p.rel, .tup (.inl ⟨.inr rfl, upd_same⟩) (p.rpL A.er r), ⟨⟨ws, by rw [upd_ne nT]; exact hD1, p.rpL A.er rD⟩, fun z => z.elim A.acc.nf nT, A.acc.no, A.acc.po.trans (er1.wipe own) (q.wide fun _ z => z.elim)⟩, fun a h => .inl (A.inc a h), fun a o c h n => ?_⟩
          exact upd_keep hT a o (A.keep a o c h n)
      obtain ⟨Fy, ery, ry, accy, incy, keepy⟩ := base
      refine ⟨wipeE e ow, Fy, d0, e1', ery, ry, hb, fun σ2 p2 u2 => ?_⟩
      have hl2 : σ2.length = (L2.wipe σb ow).length := by rw [← p2.rel.len, bl, ery.len]
      obtain ⟨w1, w2⟩ := weq hl2 u2
      refine ⟨w1, e1', Fy, p2.rel, wp_of rt fun F3 H3 p3 => ?_⟩
      have acc1 : Acc l.K own σ F1 H1 e1 D acc' Fy Hy e1' := ⟨accy.here, accy.nf, by rw [weq2]; exact accy.no, by rw [weq2]; exact accy.po⟩
      obtain ⟨acc3, n3⟩ := acc1.step er1 w2 nown1 p3
      -- what is owned here was owned ahead
      have sub2 : ∀ a, Own σ2 e1' a → Own σb es a := fun a ⟨j, b, o, h1, h2⟩ => by
        have h3 := bn j b o h1
        obtain ⟨c, h3⟩ := wipeE_sl h3
        exact A.sub a ⟨j, b, o, sl_wipe h3 c, (u2 j fun z => c (ht j z)).symm.trans h2⟩
      have at_of : ∀ {acc2 : List Zv.D} {F' : Addr → Prop} {H' : Hp} {e' : En}, Acc l.K own σ F1 H1 e1 D acc2 F' H' e' → Pq l.K D own ow σ2 Fy Hy e1' F' H' e' → At l.K own ow σ F1 H1 e1 D σb Fs Hs es acc2 F' H' e' := fun {acc2 F' H' e'} a q => by
        exact ⟨a, q.nown, by rw [← w1]; exact q.er, fun a h => q.inc a (incy a h), fun a o c h nn => q.keep a o c (keepy a o c h nn) fun z => nn (sub2 a z), fun a z => sub2 a (q.own a (by rw [w1]; exact z))⟩
      cases b with
      | false =>
        simp only [Bool.false_eq_true, if_false] at rm ⊢
        exact ⟨acc', ds', F3, e2, at_of acc3 (p3.pd.pq n3), rm, hsum⟩
      | true =>
        simp only [if_true] at rm ⊢
        obtain ⟨dn, e3, rmo, rr⟩ := R.bind_ok rm
        obtain ⟨dr, e4, rr, rp⟩ := R.bind_ok rr
        cases rp
        have hlen : acc'.length + dn.length ≤ line := by
          have := congrArg List.length hsum
          simp only [List.length_append] at this
          omega
        refine hM acc' σ2 F3 H3 e2 dn e3 _ w2 p3.rel acc3 n3 rmo hlen fun F' H' a' pd' => ?_
        exact ⟨acc' ++ dn, dr, F', e3, at_of a' (p3.pd.transq pd'), rr, by rw [List.append_assoc]; exact hsum⟩
end Zv

set_option Elab.async false
set_option autoImplicit false
set_option linter.all false
set_option maxRecDepth 100000
/-! calls of the program's own defs -/
namespace Zv
open PySem PySem.Spec L2
open PyProof.Rows hiding St

theorem back_len (e : En) : ∀ (rs : List EV) (os : En), (backOf e rs os).length = e.length
  | [], _ => rfl
  | .v _ :: r, [] => rfl
  | .fr _ :: r, [] => rfl
  | .sl _ :: r, [] => rfl
  | .v _ :: r, _ :: os => back_len e r os
  | .fr _ :: r, _ :: os => back_len e r os
  | .sl i :: r, o :: os => by
    simp only [backOf]
    split
    · rw [List.length_set]; exact back_len e r os
    · exact back_len e r os
theorem back_out {e : En} {j : Nat} : ∀ {rs : List EV} {os : En}, j ∉ slotsOf rs → (backOf e rs os)[j]? = e[j]?
  | [], _, _ => rfl
  | .v _ :: r, [], _ => rfl
  | .fr _ :: r, [], _ => rfl
  | .sl _ :: r, [], _ => rfl
  | .v _ :: r, _ :: os, h => back_out (rs := r) (by simpa using h)
  | .fr _ :: r, _ :: os, h => back_out (rs := r) (by simpa using h)
  | .sl i :: r, o :: os, h => by
    simp only [slotsOf, List.mem_cons, not_or] at h
    simp only [backOf]
    split
    · rw [List.getElem?_set_ne (fun z => h.1 z.symm)]; exact back_out h.2
    · exact back_out h.2
theorem back_not {e : En} {j : Nat} (n : ∀ b o, ¬ Sl e j (.own b o)) : ∀ {rs : List EV} {os : En}, (backOf e rs os)[j]? = e[j]?
  | [], _ => rfl
  | .v _ :: r, [] => rfl
  | .fr _ :: r, [] => rfl
  | .sl _ :: r, [] => rfl
  | .v _ :: r, _ :: os => back_not n (rs := r)
  | .fr _ :: r, _ :: os => back_not n (rs := r)
  | .sl i :: r, o :: os => by
    simp only [backOf]
    split
    · next b u h =>
      rw [List.getElem?_set_ne (fun z => n b u (by unfold Sl; rw [← z]; exact h))]
      exact back_not n
    · exact back_not n
theorem slot_at {i : Nat} : ∀ {rs : List EV}, i ∈ slotsOf rs → ∃ p : Nat, rs[p]? = some (.sl i)
  | .v _ :: r, h => by obtain ⟨p, q⟩ := slot_at (rs := r) (by simpa using h); exact ⟨p + 1, q⟩
  | .fr _ :: r, h => by obtain ⟨p, q⟩ := slot_at (rs := r) (by simpa using h); exact ⟨p + 1, q⟩
  | .sl j :: r, h => by
    simp only [slotsOf, List.mem_cons] at h
    rcases h with rfl | h
    · exact ⟨0, rfl⟩
    · obtain ⟨p, q⟩ := slot_at h; exact ⟨p + 1, q⟩
theorem slot_in {i : Nat} : ∀ {rs : List EV} {p : Nat}, rs[p]? = some (.sl i) → i ∈ slotsOf rs
  | [], p, h => by simp at h
  | .v _ :: r, 0, h => by simp at h
  | .fr _ :: r, 0, h => by simp at h
  | .sl j :: r, 0, h => by simp at h; simp [h]
  | .v _ :: r, p + 1, h => slot_in (rs := r) (p := p) (by simpa using h)
  | .fr _ :: r, p + 1, h => slot_in (rs := r) (p := p) (by simpa using h)
  | .sl j :: r, p + 1, h => List.mem_cons_of_mem _ (slot_in (rs := r) (p := p) (by simpa using h))
theorem back_in {e : En} {j : Nat} {b : Bool} {u : Ob} (hj : Sl e j (.own b u)) : ∀ {rs : List EV} {os : En} {p : Nat} {o : Option SV}, onceN (slotsOf rs) = true → rs[p]? = some (.sl j) → os[p]? = some o → Sl (backOf e rs os) j (backSlot b o)
  | [], _, p, _, _, h, _ => by simp at h
  | _ :: _, [], p, _, _, _, h => by simp at h
  | .v _ :: r, _ :: os, 0, _, _, h, _ => by simp at h
  | .fr _ :: r, _ :: os, 0, _, _, h, _ => by simp at h
  | .v _ :: r, _ :: os, p + 1, o, c, h, q => back_in hj (rs := r) (os := os) (p := p) (by simpa using c) (by simpa using h) (by simpa using q)
  | .fr _ :: r, _ :: os, p + 1, o, c, h, q => back_in hj (rs := r) (os := os) (p := p) (by simpa using c) (by simpa using h) (by simpa using q)
  | .sl i :: r, o :: os, 0, o', c, h, q => by
    simp at h q
    subst h q
    simp only [backOf]
    have z : e[i]? = some (some (.own b u)) := hj
    rw [z]
    show ((backOf e r os).set i _)[i]? = _
    rw [List.getElem?_set_self (by rw [back_len]; exact hj.lt)]
  | .sl i :: r, o :: os, p + 1, o', c, h, q => by
    simp only [slotsOf, onceN, Bool.and_eq_true] at c
    have hj' : j ∈ slotsOf r := slot_in (p := p) (by simpa using h)
    have ne : i ≠ j := fun z => by
      subst z
      have := c.1
      simp [hj'] at this
    have ih := back_in hj (rs := r) (os := os) (p := p) (o := o') c.2 (by simpa using h) (by simpa using q)
    simp only [backOf]
    split
    · exact sl_ne ih ne
    · exact ih
theorem lose_len (e : En) : ∀ (rs : List EV), (loseOf e rs).length = e.length
  | [] => rfl
  | .v _ :: r => lose_len e r
  | .fr _ :: r => lose_len e r
  | .sl i :: r => by
    simp only [loseOf]
    split
    · rw [List.length_set]; exact lose_len e r
    · exact lose_len e r
theorem lose_at {e : En} {j : Nat} : ∀ {rs : List EV}, (∃ b o, Sl e j (.own b o) ∧ j ∈ slotsOf rs ∧ Sl (loseOf e rs) j .dead) ∨ ((loseOf e rs)[j]? = e[j]? ∧ ∀ b o, Sl e j (.own b o) → j ∉ slotsOf rs)
  | [] => .inr ⟨rfl, fun _ _ _ h => by simp at h⟩
  | .v _ :: r => lose_at (rs := r)
  | .fr _ :: r => lose_at (rs := r)
  | .sl i :: r => by
    simp only [loseOf, slotsOf]
    split
    · next b o h =>
      by_cases c : i = j
      · subst c
        exact .inl ⟨b, o, h, List.mem_cons_self, List.getElem?_set_self (by rw [lose_len]; exact Sl.lt h)⟩
      · rcases lose_at (e := e) (j := j) (rs := r) with ⟨b', o', h1, h2, h3⟩ | ⟨h1, h2⟩
        · exact .inl ⟨b', o', h1, List.mem_cons_of_mem _ h2, sl_ne h3 c⟩
        · refine .inr ⟨by rw [List.getElem?_set_ne c]; exact h1, fun b' o' q m => ?_⟩
          rcases List.mem_cons.mp m with z | z
          · exact c z.symm
          · exact h2 b' o' q z
    · next h =>
      rcases lose_at (e := e) (j := j) (rs := r) with ⟨b', o', h1, h2, h3⟩ | ⟨h1, h2⟩
      · exact .inl ⟨b', o', h1, List.mem_cons_of_mem _ h2, h3⟩
      · refine .inr ⟨h1, fun b' o' q m => ?_⟩
        rcases List.mem_cons.mp m with z | z
        · subst z; exact h _ _ q
        · exact h2 b' o' q z

/-- arguments as the callee sees them -/
theorem args_at {e : En} : ∀ {rs : List EV} {as : List SV}, argsOf e rs = some as → as.length = rs.length ∧ ∀ (p : Nat) (r : EV), rs[p]? = some r → ∃ a, as[p]? = some a ∧ argOf e r = some a
  | [], as, h => by cases h; exact ⟨rfl, fun p r q => by simp at q⟩
  | x :: rs, as, h => by
    simp only [argsOf, Option.bind_eq_some_iff, Option.map_eq_some_iff] at h
    obtain ⟨a, h1, as', h2, rfl⟩ := h
    obtain ⟨i1, i2⟩ := args_at h2
    refine ⟨by simp [i1], fun p r q => ?_⟩
    cases p with
    | zero => simp at q; subst q; exact ⟨a, rfl, h1⟩
    | succ p => simpa using i2 p r (by simpa using q)
section
variable {K : PySem.W.Frag} {N F : Addr → Prop} {H : Hp} {σ : St} {e : En}
theorem RvL.len {vs : List V} {rs : List EV} (h : RvL K N F H σ e vs rs) : vs.length = rs.length := by
  induction h with
  | nil => rfl
  | cons _ _ _ ih => simp [ih]
theorem RvL.at {vs : List V} {rs : List EV} (h : RvL K N F H σ e vs rs) : ∀ (p : Nat) (v : V) (r : EV), vs[p]? = some v → rs[p]? = some r → Rv K N F H σ e v r := by
  induction h with
  | nil => intro p v r h; simp at h
  | cons a _ _ ih =>
    intro p v r h1 h2
    cases p with
    | zero => simp at h1 h2; subst h1 h2; exact a
    | succ p => exact ih p v r (by simpa using h1) (by simpa using h2)
/-- what was just made, and is handed on -/
def newA (vs : List V) (rs : List EV) : Addr → Prop := fun a => ∃ (p : Nat) (v : V) (r : EV), vs[p]? = some v ∧ rs[p]? = some r ∧ frA v r = some a
theorem RvL.newA {vs : List V} {rs : List EV} (h : RvL K N F H σ e vs rs) {a : Addr} (q : newA vs rs a) : N a ∧ ¬ F a ∧ ¬ Own σ e a ∧ H a ≠ none := by
  obtain ⟨p, v, r, h1, h2, h3⟩ := q
  cases h.at p v r h1 h2 with
  | v _ => cases v <;> simp [frA] at h3
  | fr a b c d => simp only [frA, Option.some.injEq] at h3; subst h3; exact ⟨a, b, c, d.has⟩
  | sl _ => cases v <;> simp [frA] at h3
theorem once_at {i : Nat} : ∀ {rs : List EV} {p q : Nat}, onceN (slotsOf rs) = true → rs[p]? = some (.sl i) → rs[q]? = some (.sl i) → p = q
  | [], p, q, _, h, _ => by simp at h
  | .v _ :: r, 0, _, _, h, _ => by simp at h
  | .fr _ :: r, 0, _, _, h, _ => by simp at h
  | .v _ :: r, p + 1, 0, _, _, h => by simp at h
  | .fr _ :: r, p + 1, 0, _, _, h => by simp at h
  | .v _ :: r, p + 1, q + 1, c, h, h' => congrArg (· + 1) (once_at (rs := r) (by simpa using c) (by simpa using h) (by simpa using h'))
  | .fr _ :: r, p + 1, q + 1, c, h, h' => congrArg (· + 1) (once_at (rs := r) (by simpa using c) (by simpa using h) (by simpa using h'))
  | .sl j :: r, 0, 0, _, _, _ => rfl
  | .sl j :: r, 0, q + 1, c, h, h' => by
    simp at h
    subst h
    simp only [slotsOf, onceN, Bool.and_eq_true] at c
    have m : j ∈ slotsOf r := slot_in (p := q) (by simpa using h')
    have := c.1
    simp [m] at this
  | .sl j :: r, p + 1, 0, c, h, h' => by
    simp at h'
    subst h'
    simp only [slotsOf, onceN, Bool.and_eq_true] at c
    have m : j ∈ slotsOf r := slot_in (p := p) (by simpa using h)
    have := c.1
    simp [m] at this
  | .sl j :: r, p + 1, q + 1, c, h, h' => by
    simp only [slotsOf, onceN, Bool.and_eq_true] at c
    exact congrArg (· + 1) (once_at c.2 (by simpa using h) (by simpa using h'))
/-- what the callee gets -/
structure Args (K : PySem.W.Frag) (F : Addr → Prop) (H : Hp) (σ : St) (e : En) (vs : List V) (rs : List EV) (as : List SV) : Prop where
  here : Er K F H σ e
  there : Er K F H (vs.map some) (as.map some)
  own : ∀ p b o, Sl (as.map some) p (.own b o) → b = true ∧ ∃ i b', rs[p]? = some (.sl i) ∧ Sl e i (.own b' o) ∧ (vs.map some)[p]? = σ[i]?
  lent : ∀ p i b o, rs[p]? = some (.sl i) → Sl e i (.own b o) → Sl (as.map some) p (.own true o) ∧ (vs.map some)[p]? = σ[i]?
theorem map_at {α β : Type} {f : α → β} {l : List α} {p : Nat} {b : β} (h : (l.map f)[p]? = some b) : ∃ a, l[p]? = some a ∧ f a = b := by
  rw [List.getElem?_map, Option.map_eq_some_iff] at h
  exact h
theorem args_ok {vs : List V} {rs : List EV} {as : List SV} (er : Er K F H σ e) (h : RvL K N F H σ e vs rs) (c : onceN (slotsOf rs) = true) (q : argsOf e rs = some as) : Args K (fun a => F a ∨ newA vs rs a) H σ e vs rs as := by
  obtain ⟨l1, at_⟩ := args_at q
  have l2 := h.len
  have up : ∀ {v d}, Rp K F H v d → Rp K (fun a => F a ∨ newA vs rs a) H v d := fun {v d} r => r.mono (fun _ z => .inl z) fun _ _ _ z => z
  have here : Er K (fun a => F a ∨ newA vs rs a) H σ e := by
    refine ⟨er.len, fun a f => f.elim (er.fok a) fun z => (h.newA z).2.2.2, fun i d z => ?_, fun i d z => ?_, fun i b o z => ?_, er.apart⟩
    · obtain ⟨v, a1, a2⟩ := er.val i d z; exact ⟨v, a1, up a2⟩
    · obtain ⟨v, a1, a2⟩ := er.kept i d z; exact ⟨v, a1, up a2⟩
    · obtain ⟨a, a1, a2, a3⟩ := er.own i b o z
      exact ⟨a, a1, fun f => f.elim a2 fun z' => (h.newA z').2.2.1 ⟨i, b, o, z, a1⟩, a3.mono (fun _ z => .inl z) (fun _ _ _ z => z) fun _ z => z⟩
  -- the p-th
  have nth : ∀ p a, as[p]? = some a → ∃ v r, vs[p]? = some v ∧ rs[p]? = some r ∧ argOf e r = some a ∧ Rv K N F H σ e v r := fun p a z => by
    have hp : p < as.length := (List.getElem?_eq_some_iff.mp z).1
    have hr : rs[p]? = some rs[p] := List.getElem?_eq_getElem (by omega)
    have hv : vs[p]? = some vs[p] := List.getElem?_eq_getElem (by omega)
    obtain ⟨a', e1, e2⟩ := at_ p _ hr
    cases z.symm.trans e1
    exact ⟨_, _, hv, hr, e2, h.at p _ _ hv hr⟩
  have own : ∀ p b o, Sl (as.map some) p (.own b o) → b = true ∧ ∃ i b', rs[p]? = some (.sl i) ∧ Sl e i (.own b' o) ∧ (vs.map some)[p]? = σ[i]? := fun p b o z => by
    obtain ⟨a, z, w⟩ := map_at z
    cases w
    obtain ⟨v, r, hv, hr, ha, rv⟩ := nth p _ z
    cases r with
    | v d => simp [argOf] at ha
    | fr d => simp [argOf] at ha
    | sl i =>
      simp only [argOf] at ha
      split at ha <;> first | (cases ha; done) | skip
      next b' o' e1 =>
      cases ha
      cases rv with
      | sl hs => exact ⟨rfl, i, b', hr, e1, by rw [List.getElem?_map, hv]; exact hs.symm⟩
  refine ⟨here, ⟨by simp [l1, l2], here.fok, fun p d z => ?_, fun p d z => ?_, fun p b o z => ?_, fun p p' b b' o o' a z z' w w' => ?_⟩, own, fun p i b o hr hs => ?_⟩
  · obtain ⟨a, z, w⟩ := map_at z
    cases w
    obtain ⟨v, r, hv, hr, ha, rv⟩ := nth p _ z
    refine ⟨v, by unfold Vl; rw [List.getElem?_map, hv]; rfl, ?_⟩
    cases rv with
    | v r => simp only [argOf, Option.some.injEq, SV.val.injEq] at ha; subst ha; exact up r
    | fr n nf no r =>
      simp only [argOf, Option.some.injEq, SV.val.injEq] at ha
      subst ha
      rename_i a o
      cases r with
      | lst h1 h2 => exact .lst (.inl ⟨.inr ⟨p, _, _, hv, hr, rfl⟩, .inl h1⟩) (h2.mono (fun _ z => .inl z) fun _ _ _ z => z)
    | sl hs =>
      simp only [argOf] at ha
      split at ha <;> first | (cases ha; done) | skip
      · next d' e1 =>
        cases ha
        obtain ⟨v', a1, a2⟩ := er.val _ _ e1
        cases hs.symm.trans a1
        exact up a2
      · next d' e1 =>
        cases ha
        obtain ⟨v', a1, a2⟩ := er.kept _ _ e1
        cases hs.symm.trans a1
        exact up a2
  · obtain ⟨a, z, w⟩ := map_at z
    cases w
    obtain ⟨v, r, hv, hr, ha, rv⟩ := nth p _ z
    exfalso
    cases r <;> simp only [argOf] at ha <;> first | (cases ha; done) | skip
    split at ha <;> cases ha
  · obtain ⟨_, i, b', hr, hs, hv⟩ := own p b o z
    obtain ⟨a, a1, a2, a3⟩ := here.own i b' o hs
    exact ⟨a, hv.trans a1, a2, a3⟩
  · obtain ⟨_, i, b1, hr, hs, hv⟩ := own p b o z
    obtain ⟨_, i', b1', hr', hs', hv'⟩ := own p' b' o' z'
    have := er.apart _ _ _ _ _ _ _ hs hs' (hv.symm.trans w) (hv'.symm.trans w')
    subst this
    exact once_at c hr hr'
  · have hp : p < rs.length := (List.getElem?_eq_some_iff.mp hr).1
    obtain ⟨v, hv⟩ : ∃ v, vs[p]? = some v := ⟨_, List.getElem?_eq_getElem (show p < vs.length by omega)⟩
    obtain ⟨a, e1, e2⟩ := at_ p _ hr
    have hs' : e[i]? = some (some (.own b o)) := hs
    simp only [argOf, hs', Option.some.injEq] at e2
    subst e2
    refine ⟨by unfold Sl; rw [List.getElem?_map, e1]; rfl, ?_⟩
    cases h.at p _ _ hv hr with
    | sl q => rw [List.getElem?_map, hv]; exact q.symm
/-- behind the call -/
theorem Args.own_of {vs : List V} {rs : List EV} {as : List SV} (A : Args K F H σ e vs rs as) {a : Addr} (h : Own (vs.map some) (as.map some) a) : Own σ e a := by
  obtain ⟨p, b, o, h1, h2⟩ := h
  obtain ⟨_, i, b', hr, hs, hv⟩ := A.own p b o h1
  exact ⟨i, b', o, hs, hv.symm.trans h2⟩
theorem Args.back {vs : List V} {rs : List EV} {as : List SV} {outs : En} {F' : Addr → Prop} {H' : Hp} (A : Args K F H σ e vs rs as) (c : onceN (slotsOf rs) = true) (hl : vs.length = rs.length) (p : Po K false Non F H (vs.map some) (as.map some) F' H' (vs.map some) outs) :
    Po K true Non F H σ e F' H' σ (backOf e rs outs) := by
  have lo : outs.length = rs.length := by
    have := p.rel.len
    rw [List.length_map] at this
    rw [this, hl]
  have kf : ∀ a o, F a → H a = some o → H' a = some o := fun a o f h => p.keep a o h fun z => A.there.nf z f
  -- a slot that was not lent
  have other : ∀ {j b o a}, Sl e j (.own b o) → j ∉ slotsOf rs → Vl σ j (.ref a) → ¬ Own (vs.map some) (as.map some) a := fun {j b o a} h n hv z => by
    obtain ⟨q, b', o', h1, h2⟩ := z
    obtain ⟨_, i, b'', hr, hs, hv'⟩ := A.own q b' o' h1
    have := A.here.apart _ _ _ _ _ _ _ h hs hv (hv'.symm.trans h2)
    subst this
    exact n (slot_in hr)
  -- a lent one
  have lent : ∀ {j b o}, Sl e j (.own b o) → j ∈ slotsOf rs → ∃ (q : Nat) (w : Option SV), outs[q]? = some w ∧ Sl (as.map some) q (.own true o) ∧ (vs.map some)[q]? = σ[j]? ∧ Sl (backOf e rs outs) j (backSlot b w) := fun {j b o} h m => by
    obtain ⟨q, hr⟩ := slot_at m
    have hq : q < outs.length := by rw [lo]; exact (List.getElem?_eq_some_iff.mp hr).1
    obtain ⟨h1, h2⟩ := A.lent q j b o hr h
    exact ⟨q, outs[q], List.getElem?_eq_getElem hq, h1, h2, back_in h c hr (List.getElem?_eq_getElem hq)⟩
  -- where a slot of the state behind comes from
  have from_ : ∀ {j a}, Sl (backOf e rs outs) j a → (Sl e j a ∧ ((∃ b o, a = .own b o) → j ∉ slotsOf rs)) ∨ ∃ (b : Bool) (o : Ob) (q : Nat) (w : Option SV), Sl e j (.own b o) ∧ j ∈ slotsOf rs ∧ outs[q]? = some w ∧ Sl (as.map some) q (.own true o) ∧ (vs.map some)[q]? = σ[j]? ∧ a = backSlot b w := fun {j a} h => by
    by_cases z : ∃ b o, Sl e j (.own b o)
    · obtain ⟨b, o, hz⟩ := z
      by_cases m : j ∈ slotsOf rs
      · obtain ⟨q, w, h1, h2, h3, h4⟩ := lent hz m
        exact .inr ⟨b, o, q, w, hz, m, h1, h2, h3, Option.some.inj (Option.some.inj (h.symm.trans h4))⟩
      · unfold Sl at h
        rw [back_out m] at h
        exact .inl ⟨h, fun _ => m⟩
    · unfold Sl at h
      rw [back_not fun b o q => z ⟨b, o, q⟩] at h
      exact .inl ⟨h, fun ⟨b, o, w⟩ => absurd ⟨b, o, by rw [← w]; exact h⟩ z⟩
  have rp : ∀ {v d}, Rp K F H v d → Rp K F' H' v d := fun {v d} r => r.mono p.inc kf
  have keep : ∀ a o, H a = some o → ¬ Own σ e a → H' a = some o := fun a o h n => p.keep a o h fun z => n (A.own_of z)
  have nO : ∀ {j b o a}, Sl e j (.own b o) → j ∉ slotsOf rs → Vl σ j (.ref a) → ¬ F' a ∧ RpO K F' H' a o := fun {j b o a} h n hv => by
    obtain ⟨a', hv', nf, ro⟩ := A.here.own j b o h
    cases hv.symm.trans hv'
    have no := other h n hv
    refine ⟨fun z => ?_, ro.mono p.inc kf fun u q => p.keep a u q no⟩
    rcases p.new a z with z | z | z | z
    · exact nf z
    · exact ro.has z
    · exact no z
    · exact z
  refine ⟨⟨by rw [back_len]; exact A.here.len, p.rel.fok, fun j d h => ?_, fun j d h => ?_, fun j b o h => ?_, fun j j' b b' o o' a h h' w w' => ?_⟩, p.inc, keep, p.dom, fun a z => (p.new a z).imp id (Or.imp id (Or.imp A.own_of id)), fun j b o h => ?_, fun j o h => ?_, fun j d h => ?_, fun j h => ?_⟩
  · rcases from_ h with ⟨h, _⟩ | ⟨b, o, q, w, h1, m, h2, h3, h4, h5⟩
    · obtain ⟨v, a1, a2⟩ := A.here.val j d h
      exact ⟨v, a1, rp a2⟩
    · cases w with
      | none => simp [backSlot] at h5
      | some w =>
        cases w <;> simp [backSlot] at h5
        obtain ⟨h5, h6⟩ : b = false ∧ d = _ := by
          cases b <;> simp at h5
          exact ⟨rfl, h5⟩
        subst h6
        obtain ⟨v, a1, a2⟩ := p.rel.kept q _ h2
        exact ⟨v, h4.symm.trans a1, a2⟩
  · rcases from_ h with ⟨h, _⟩ | ⟨b, o, q, w, h1, m, h2, h3, h4, h5⟩
    · obtain ⟨v, a1, a2⟩ := A.here.kept j d h
      exact ⟨v, a1, rp a2⟩
    · cases w with
      | none => simp [backSlot] at h5
      | some w =>
        cases w <;> simp [backSlot] at h5
        obtain ⟨h5, h6⟩ : b = true ∧ d = _ := by
          cases b <;> simp at h5
          exact ⟨rfl, h5⟩
        subst h6
        obtain ⟨v, a1, a2⟩ := p.rel.kept q _ h2
        exact ⟨v, h4.symm.trans a1, a2⟩
  · rcases from_ h with ⟨h, n⟩ | ⟨b', o', q, w, h1, m, h2, h3, h4, h5⟩
    · obtain ⟨a, a1, _⟩ := A.here.own j b o h
      exact ⟨a, a1, nO h (n ⟨b, o, rfl⟩) a1⟩
    · cases w with
      | none => simp [backSlot] at h5
      | some w =>
        cases w <;> simp [backSlot] at h5
        · obtain ⟨h5, h6⟩ := h5
          subst h6
          obtain ⟨a, a1, a2, a3⟩ := p.rel.own q _ _ h2
          exact ⟨a, h4.symm.trans a1, a2, a3⟩
        · split at h5 <;> cases h5
  · -- two own slots
    have src : ∀ {j b o a}, Sl (backOf e rs outs) j (.own b o) → Vl σ j (.ref a) → ∃ o', Sl e j (.own b o') := fun {j b o a} h _ => by
      rcases from_ h with ⟨h, _⟩ | ⟨b', o', q, w, h1, m, h2, h3, h4, h5⟩
      · exact ⟨o, h⟩
      · cases w with
        | none => simp [backSlot] at h5
        | some w =>
          cases w <;> simp [backSlot] at h5
          · rw [h5.1]; exact ⟨o', h1⟩
          · split at h5 <;> cases h5
    obtain ⟨o1, s1⟩ := src h w
    obtain ⟨o2, s2⟩ := src h' w'
    exact A.here.apart _ _ _ _ _ _ _ s1 s2 w w'
  · rcases from_ h with ⟨h, _⟩ | ⟨b', o', q, w, h1, m, h2, h3, h4, h5⟩
    · exact .inl ⟨o, h, rfl⟩
    · cases w with
      | none => simp [backSlot] at h5
      | some w =>
        cases w <;> simp [backSlot] at h5
        · exact .inl ⟨o', by rw [h5.1]; exact h1, rfl⟩
        · split at h5 <;> cases h5
  · refine ⟨rfl, ?_⟩
    by_cases m : j ∈ slotsOf rs
    · obtain ⟨q, w, h1, h2, h3, h4⟩ := lent h m
      cases w with
      | none => exact .inr (.inr h4)
      | some w =>
        cases w with
        | val d => exact .inr (.inr h4)
        | own b o => exact .inl ⟨_, h4⟩
        | kept d => exact .inr (.inl ⟨_, h4⟩)
        | dead => exact .inr (.inr h4)
    · exact .inl ⟨o, by unfold Sl; rw [back_out m]; exact h⟩
  · refine ⟨rfl, ?_⟩
    unfold Sl
    rw [back_not fun b o q => by cases h.symm.trans q]
    exact h
  · refine ⟨rfl, ?_⟩
    unfold Sl
    rw [back_not fun b o q => by cases h.symm.trans q]
    exact h
end
theorem lose_back {e : En} : ∀ {rs : List EV} {as : List SV}, argsOf e rs = some as → loseOf e rs = backOf e rs (loseA as)
  | [], as, h => by cases h; rfl
  | x :: rs, as, h => by
    simp only [argsOf, Option.bind_eq_some_iff, Option.map_eq_some_iff] at h
    obtain ⟨a, h1, as', h2, rfl⟩ := h
    have ih := lose_back h2
    have key : ∃ w t, loseA (a :: as') = w :: t ∧ t = loseA as' := by cases a <;> exact ⟨_, _, rfl, rfl⟩
    cases x with
    | v d => obtain ⟨w, t, e1, e2⟩ := key; rw [e1, e2]; exact ih
    | fr d => obtain ⟨w, t, e1, e2⟩ := key; rw [e1, e2]; exact ih
    | sl i =>
      simp only [argOf] at h1
      split at h1
      · next q => cases h1; simp only [loseOf, loseA, backOf, q]; exact ih
      · next q => cases h1; simp only [loseOf, loseA, backOf, q]; exact ih
      · next q => cases h1; simp only [loseOf, loseA, backOf, q, backSlot]; rw [ih]
      · cases h1
theorem call_ok {l : Lk} {W : WX} {σ : St} {F1 : Addr → Prop} {H H1 : Hp} {e1 : En} {vs : List V} {rs : List EV} {f : Nat} {Q : VK} {Q0 : EV → (Addr → Prop) → Hp → En → Prop}
    (er : Er l.K F1 H1 σ e1) (fr : ∀ a, Fre H1 a → Fre H a) (rv : RvL l.K (Fre H) F1 H1 σ e1 vs rs) (h : Wp l W (More Non H) σ F1 H1 e1 (callM l.cl f rs e1) Q0) (hq : ∀ r F' H' e', Q0 r F' H' e' → ∀ v, Rv l.K (Fre H) F' H' σ e' v r → Q v H') :
    Sf l f vs H1 Q (WE W σ) := by
  simp only [callM] at h
  split at h
  · next hc =>
    cases q : argsOf e1 rs with
    | none => rw [q] at h; exact h.elim
    | some as =>
      rw [q] at h
      dsimp only at h
      have A := args_ok er rv hc q
      have p0 : Po l.K true (More Non H) F1 H1 σ e1 (fun a => F1 a ∨ newA vs rs a) H1 σ e1 :=
        ⟨A.here, fun _ z => .inl z, fun _ _ z _ => z, fun _ z => z, fun a z => z.elim .inl fun z => .inr (.inr (.inr (.inr (rv.newA z).1))), fun i b o h => .inl ⟨o, h, rfl⟩, fun i o h => ⟨rfl, .inl ⟨o, h⟩⟩, fun i d h => ⟨rfl, h⟩, fun i h => ⟨rfl, h⟩⟩
      refine ⟨as, _, A.there, ?_⟩
      cases q2 : l.cl f as with
      | ok d fl outs =>
        rw [q2] at h
        dsimp only at h ⊢
        intro F' H' v p rvv
        have pb := A.back hc rv.len p
        have pt := p0.trans er (pb.wide fun _ z => z.elim)
        refine hq _ _ _ _ (h F' H' pt) v ?_
        cases fl with
        | false => cases rvv with | v r => exact .v r
        | true =>
          simp only [if_true] at rvv ⊢
          generalize hd : EV.fr d = r at rvv ⊢
          cases rvv with
          | v r => cases hd
          | fr n nf no ro =>
            refine .fr (fr _ n) nf (fun z => ?_) ro
            rcases pb.own' z with z | z
            · exact A.here.od z n
            · obtain ⟨i, b, o, z1, z2⟩ := (show Own σ (backOf e1 rs outs) _ by assumption)
              rcases pb.own i b o z1 with ⟨o', z3, _⟩ | ⟨z3, _⟩
              · exact A.here.od ⟨i, b, o', z3, z2⟩ n
              · cases z3
          | sl _ => cases hd
      | ex x =>
        rw [q2] at h
        dsimp only at h ⊢
        intro F' H' cls d p hx
        have pb := A.back hc rv.len p
        rw [← lose_back q] at pb
        exact h F' H' cls d (p0.trans er (pb.wide fun _ z => z.elim)) hx
      | no => rw [q2] at h; exact h
  · exact h.elim
end Zv

set_option Elab.async false
set_option autoImplicit false
set_option linter.all false
set_option maxRecDepth 100000
/-! expressions: the model's run by the evaluator -/
namespace Zv
open PySem PySem.Spec L2
open PyProof.Rows hiding St

theorem ck_plain {n : Nm} {sc : Scope} {c : E} {e : Expr} (h : ck n sc c e = true) : isSlice e = false ∧ isStar e = false ∧ isSetD e = false := by
  cases c with
  | nev =>
    simp only [ck, Bool.and_eq_true, Bool.not_eq_true'] at h
    exact ⟨h.1.1, h.1.2, h.2⟩
  | _ =>
    cases e with
    | Slice _ _ _ _ => cases h
    | Starred _ _ => cases h
    | Set _ _ _ => cases h
    | _ => exact ⟨rfl, rfl, rfl⟩
theorem plain_ix {b : Expr} (h : isSlice b = false) : PlainIx b := by
  intro o i
  cases b <;> first | rfl | cases h
theorem no_marks {b : Expr} (h : isSetD b = false) (op : CmpOp) : behindInMarks op b = false := by
  cases b <;> first | rfl | cases h
theorem not_folded {b : Expr} (h : isSetD b = false) (env : Env) (x : Value) : foldedSetIterable b env x = pure x := by
  cases b <;> first | rfl | cases h
def isTest : Expr → Bool
  | .UnaryOp .Not _ _ => true
  | .BoolOp _ _ _ => true
  | .IfExp _ _ _ _ => true
  | .Compare _ _ _ _ => true
  | _ => false
theorem is_true {a : Expr} (h : isTest a = false) (env : Env) (whole : Sem Value) : isTrue a env whole = (do let v ← whole; standAt a.pos; holding [v] (truthy v)) := by
  cases a with
  | UnaryOp op x p => cases op <;> first | rfl | cases h
  | _ => first | rfl | cases h
/-- no star among the arguments -/
theorem ckL_stars {n : Nm} {sc : Scope} (env : Env) (pos : Pos) : ∀ {c : Es} {es : List Expr}, ckL n sc c es = true → (backTo pos (starEach es env)).any (·.1) = false
  | .nil, [], _ => rfl
  | .cons a r, x :: xs, h => by
    simp only [ckL, Bool.and_eq_true] at h
    rw [not_star (ck_plain h.1).2.1]
    show (false || (backTo pos (starEach xs env)).any (·.1)) = false
    rw [ckL_stars env pos h.2]; rfl
  | .nil, _ :: _, h => by cases h
  | .cons _ _, [], h => by cases h
section
variable {l : Lk} {W : WX} {σ : St} {B F : Addr → Prop} {H : Hp} {e : En} {Q : VK}
theorem pt_or {X : Cx} {e : Expr} {t u : TE} (h : PE X e t) (h' : PE X e u) : PE X e (fun σ H Q => t σ H Q ∨ u σ H Q) := ⟨fun pins s σ H Q I q => q.elim (h.run pins s σ H Q I) (h'.run pins s σ H Q I)⟩
theorem tx_val {d : D} {v : V} (er : Er l.K F H σ e) (h : Wp l W Non σ F H e (.ok (.v d) e) fun r F' H' e' => ∀ v, Rv l.K (Fre H) F' H' σ e' v r → Q v H') (r : Rp l.K F H v d) : Q v H := h F H (Po.refl er) v (.v r)
theorem pe_k {X : Cx} {n : Nm} {sc : Scope} {k : Nat} {d : D} {e : Expr} (c : Cc X n sc l k W) (h : ck n sc (.k d) e = true) : PE X e (Tx l W (.k d)) := by
  cases e with
  | Constant c j pos =>
    cases d <;> cases c <;> first | (cases h; done) | skip
    · refine pe_imp pe_non ?_
      rintro σ H Q ⟨e, F, er, h⟩
      exact tx_val er h .non
    · rename_i a b
      have z : a = b := by simpa [ck, kOk] using h
      subst z
      refine pe_imp pe_bl ?_
      rintro σ H Q ⟨e, F, er, h⟩
      exact tx_val er h (.bl _)
    · rename_i a b
      have z : a = b := by simpa [ck, kOk] using h
      subst z
      refine pe_imp pe_int ?_
      rintro σ H Q ⟨e, F, er, h⟩
      exact tx_val er h (.int _)
    · rename_i a b
      have z : a = b := by simpa [ck, kOk] using h
      subst z
      refine pe_imp pe_str ?_
      rintro σ H Q ⟨e, F, er, h⟩
      exact tx_val er h (.str _)
  | _ => cases h
theorem pe_g {X : Cx} {n : Nm} {sc : Scope} {k : Nat} {j : Nat} {e : Expr} (c : Cc X n sc l k W) (h : ck n sc (.g j) e = true) : PE X e (Tx l W (.g j)) := by
  cases e with
  | Name x pos =>
    simp only [ck, Bool.and_eq_true, decide_eq_true_eq] at h
    obtain ⟨hg, hd, hn⟩ := c.gl h.2
    obtain ⟨d, v, u, h1, h2, h3, h4⟩ := c.glob j x h.1
    refine pe_imp (pe_glob hg h2 h3 hd) ?_
    rintro σ H Q ⟨e, F, er, h⟩
    have z : ev l.G l.cl (.g j) e = .ok (.v d) e := by simp [ev, h1]
    rw [z] at h
    exact tx_val er h (by rw [c.K]; exact h4 F H)
  | _ => cases h
theorem pe_v {X : Cx} {n : Nm} {sc : Scope} {k : Nat} {i : Nat} {e : Expr} (c : Cc X n sc l k W) (h : ck n sc (.v i) e = true) : PE X e (Tx l W (.v i)) := by
  cases e with
  | Name x pos =>
    simp only [ck, Bool.and_eq_true, decide_eq_true_eq, Bool.not_eq_true'] at h
    refine pe_imp (pe_var (by rw [c.names]; exact h.1.1.1) (c.vis h.1.1.2) h.1.2 h.2) ?_
    rintro σ H Q ⟨e, F, er, h⟩
    simp only [ev] at h
    split at h
    · next d q => obtain ⟨v, hv, r⟩ := er.val i d q; exact ⟨v, hv, tx_val er h r⟩
    · next d q => obtain ⟨v, hv, r⟩ := er.kept i d q; exact ⟨v, hv, tx_val er h r⟩
    · next b o q => obtain ⟨a, hv, _⟩ := er.own i b o q; exact ⟨_, hv, h F H (Po.refl er) _ (.sl hv)⟩
    · exact h.elim
  | _ => cases h

end
section
variable {l : Lk} {W : WX} {σ : St} {B F : Addr → Prop} {H : Hp} {e : En} {Q Q' : VK} {H0 : Hp}
theorem Tx.mono {c : E} (h : Tx l W c σ H Q) (m : ∀ v H', Q v H' → Q' v H') : Tx l W c σ H Q' := by
  obtain ⟨e, F, er, h⟩ := h
  exact ⟨e, F, er, h.mono fun r F' H' e' _ q v rv => m v H' (q v rv)⟩
theorem Ls.no (h : Ls l W σ H0 Q F H e .no) : False := by
  obtain ⟨_, _, _, _, h⟩ := h
  exact h.elim
theorem Ls.liftB {α : Type} {o : Option α} {g : α → M EV} (h : Ls l W σ H0 Q F H e (M.bind (M.lift o) g e)) : ∃ a, o = some a ∧ Ls l W σ H0 Q F H e (g a e) := by
  obtain ⟨er, fr, B, hB, h⟩ := h
  obtain ⟨a, q, h⟩ := h.liftB
  exact ⟨a, q, er, fr, B, hB, h⟩
/-- the run goes on here -/
theorem tx_next {F1 : Addr → Prop} {H1 : Hp} {e1 : En} {c : E} (p : Po l.K true Non F H σ e F1 H1 σ e1) (h : Wp l W (More Non H) σ F1 H1 e1 (ev l.G l.cl c e1) fun r F' H' e' => ∀ v, Rv l.K (Fre H) F' H' σ e' v r → Q v H') : Tx l W c σ H1 Q :=
  ⟨e1, F1, p.rel, (h.less fun _ z => z.elim).mono fun r F' H' e' _ q v rv => q v (rv.less p.free)⟩
variable {X : Cx} {n : Nm} {sc : Scope} {k : Nat}
theorem Cc.u67 (c : Cc X n sc l k W) : X.A.units + 67 < cLine := by have := c.gx.room.un; omega
theorem pe_nega {a : E} {x : Expr} {pos : Pos} (ha : PE X x (Tx l W a)) : PE X (.UnaryOp .USub x pos) (Tx l W (.neg a)) := by
  refine pe_imp (pe_un un_neg ha) ?_
  rintro σ H Q ⟨e, F, er, h⟩
  refine (one er h).mono ?_
  rintro v H1 ⟨e1, F1, d, r, L⟩
  cases d <;> first | (exact L.no.elim) | skip
  cases r.int
  exact ⟨_, rfl, L.val (.int _)⟩
theorem pe_inva {a : E} {x : Expr} {pos : Pos} (ha : PE X x (Tx l W a)) : PE X (.UnaryOp .Invert x pos) (Tx l W (.inv a)) := by
  refine pe_imp (pe_un un_inv ha) ?_
  rintro σ H Q ⟨e, F, er, h⟩
  refine (one er h).mono ?_
  rintro v H1 ⟨e1, F1, d, r, L⟩
  cases d <;> first | (exact L.no.elim) | skip
  cases r.int
  exact ⟨_, rfl, L.val (.int _)⟩
theorem pe_nta {a : E} {x : Expr} {pos : Pos} (c : Cc X n sc l k W) (ha : PE X x (Tx l W a)) : PE X (.UnaryOp .Not x pos) (Tx l W (.nt a)) := by
  refine pe_imp (pe_notT ha) ?_
  rintro σ H Q ⟨e, F, er, h⟩
  refine (one er h).mono ?_
  rintro v H1 ⟨e1, F1, d, r, L⟩
  obtain ⟨t, q, L⟩ := L.liftB
  rw [← c.K]
  exact ⟨t, r.tru q, L.val (.bl _)⟩
theorem pe_bina {o : Bop} {a b : E} {x y : Expr} {pos : Pos} (c : Cc X n sc l k W) (ha : PE X x (Tx l W a)) (hb : PE X y (Tx l W b)) : PE X (.BinOp x o.op y pos) (Tx l W (.bin o a b)) := by
  refine pe_imp (pe_op (op_bop o) ha hb) ?_
  rintro σ H Q ⟨e, F, er, h⟩
  refine (two er h).mono fun v H1 t => t.mono ?_
  rintro w H2 ⟨e2, F2, d, d', r1, r2, L⟩
  obtain ⟨r, q, L⟩ := L.lift
  rw [← c.K]
  exact ⟨F2, d, d', r, r1, r2, q, L.fin⟩
theorem cop_next {o : Cop} {e2 : En} {F2 : Addr → Prop} {H2 : Hp} {d d' : D} (L : Ls l W σ H Q F2 H2 e2 (M.lift ((cop o d d').map fun b => .v (.bool b)) e2)) : ∃ b, cop o d d' = some b ∧ Q (.bl b) H2 := by
  obtain ⟨r, q, L⟩ := L.lift
  rw [Option.map_eq_some_iff] at q
  obtain ⟨b, q, rfl⟩ := q
  exact ⟨b, q, L.val (.bl b)⟩
theorem pe_cmpa {o : Cop} {a b : E} {x y : Expr} {pos : Pos} (c : Cc X n sc l k W) (ha : PE X x (Tx l W a)) (hb : PE X y (Tx l W b)) (hs : isSetD y = false) : PE X (.Compare x [o.op] [y] pos) (Tx l W (.cmp o a b)) := by
  refine pe_imp (pe_cmpR (op_cop (by have := c.u67; omega) o) ha hb (no_marks hs _)) ?_
  rintro σ H Q ⟨e, F, er, h⟩
  refine (two er h).mono fun v H1 t => t.mono ?_
  rintro w H2 ⟨e2, F2, d, d', r1, r2, L⟩
  obtain ⟨b, q, f⟩ := cop_next L
  rw [← c.K]
  exact ⟨F2, d, d', b, r1, r2, q, f⟩
/-- the reading of a chain -/
theorem chain_tx {o p : Cop} {a b c : E} {K : PySem.W.Frag} (hK : l.K = K) (h : Tx l W (.chain o p a b c) σ H Q) : tChain (rCop K o) (rCop K p) (Tx l W a) (Tx l W b) (Tx l W c) σ H Q := by
  obtain ⟨e, F, er, h⟩ := h
  refine ⟨e, F, er, (h.bind er).mono fun x F1 H1 e1 p1 h1 v rv => ⟨e1, F1, p1.rel, ((h1.bind p1.rel).less fun _ z => z.elim).mono fun y F2 H2 e2 p2 h2 w rw_ => ?_⟩⟩
  obtain ⟨d, q, h3⟩ := h2.rd
  obtain ⟨d', q', h4⟩ := h3.rd
  obtain ⟨t, qt, h5⟩ := h4.liftB
  rw [← hK]
  refine ⟨F2, d, d', t, (rv.mono p1.rel p2).read p2.rel q, rw_.read p2.rel q', qt, t, rfl, ?_⟩
  have er2 := p2.rel
  cases t with
  | false => exact h5 F2 H2 (Po.refl er2) _ (.v (.bl _))
  | true =>
    rw [if_pos rfl] at h5 ⊢
    refine ⟨e2, F2, er2, ((h5.bind er2).less fun _ z => z.elim).mono fun z F3 H3 e3 p3 h6 u ru => ?_⟩
    obtain ⟨d2, q2, h7⟩ := h6.rd
    obtain ⟨d3, q3, h8⟩ := h7.rd
    obtain ⟨r, q4, h9⟩ := h8.lift
    rw [Option.map_eq_some_iff] at q4
    obtain ⟨b4, q4, rfl⟩ := q4
    exact ⟨F3, d2, d3, b4, (rw_.mono er2 p3).read p3.rel q2, ru.read p3.rel q3, q4, h9 F3 H3 (Po.refl p3.rel) _ (.v (.bl _))⟩
theorem pe_chaina {o p : Cop} {a b c' : E} {x y z : Expr} {pos : Pos} (c : Cc X n sc l k W) (ha : PE X x (Tx l W a)) (hb : PE X y (Tx l W b)) (hc : PE X z (Tx l W c')) (hs : isSetD z = false) : PE X (.Compare x [o.op, p.op] [y, z] pos) (Tx l W (.chain o p a b c')) := by
  have hu : X.A.units + 65 < cLine := by have := c.u67; omega
  exact pe_imp (pe_chain (op_cop hu o) (op_cop hu p) ha hb hc (no_marks hs _)) fun σ H Q h => chain_tx c.K h
theorem pe_idxa {a b : E} {x y : Expr} {pos : Pos} (c : Cc X n sc l k W) (ha : PE X x (Tx l W a)) (hb : PE X y (Tx l W b)) (hs : isSlice y = false) : PE X (.Subscript x y pos) (Tx l W (.idx a b)) := by
  refine pe_imp (pe_ix ix_ok ha hb (plain_ix hs)) ?_
  rintro σ H Q ⟨e, F, er, h⟩
  refine (two er h).mono fun v H1 t => t.mono ?_
  rintro w H2 ⟨e2, F2, d, d', r1, r2, L⟩
  obtain ⟨r, q, L⟩ := L.lift
  rw [Option.map_eq_some_iff] at q
  obtain ⟨b, q, rfl⟩ := q
  rw [← c.K]
  exact ⟨F2, d, d', b, r1, r2, q, fun w rp => L.val rp⟩
def Tpo (l : Lk) (W : WX) (c : Eo) : TO := fun σ H Q => ∃ e F, Er l.K F H σ e ∧ Wp l W Non σ F H e (evO l.G l.cl c e) fun o F' H' e' => Q o H'
theorem po_imp {o : Option Expr} {t t' : TO} (h : PO X o t) (m : ∀ σ H Q, t' σ H Q → t σ H Q) : PO X o t' := ⟨fun pins s σ H Q I q => h.run pins s σ H Q I (m σ H Q q)⟩
theorem po_nonea : PO X none (Tpo l W .none) := by
  refine po_imp po_none ?_
  rintro σ H Q ⟨e, F, er, h⟩
  exact h F H (Po.refl er)
theorem po_somea {a : E} {x : Expr} (ha : PE X x (Tx l W a)) : PO X (some x) (Tpo l W (.some a)) := by
  refine po_imp (po_some ha) ?_
  rintro σ H Q ⟨e, F, er, h⟩
  refine ⟨e, F, er, (h.bind er).mono fun y F1 H1 e1 p1 h1 v rv => ?_⟩
  obtain ⟨d, q, h2⟩ := h1.rd
  have r := rv.read p1.rel q
  cases d <;> first | (exact h2.elim) | skip
  cases r.int
  exact ⟨_, rfl, h2 F1 H1 (Po.refl p1.rel)⟩
theorem pe_cuta {a : E} {lo hi : Eo} {x : Expr} {u v : Option Expr} {pos p2 : Pos} (c : Cc X n sc l k W) (ha : PE X x (Tx l W a)) (hl : PO X u (Tpo l W lo)) (hh : PO X v (Tpo l W hi)) : PE X (.Subscript x (.Slice u v none p2) pos) (Tx l W (.cut a lo hi)) := by
  refine pe_imp (pe_slice sl_ok ha hl hh) ?_
  rintro σ H Q ⟨e, F, er, h⟩
  refine ⟨e, F, er, (h.bind er).mono fun x F1 H1 e1 p1 h1 v rv => ⟨e1, F1, p1.rel, ((h1.bind p1.rel).less fun _ z => z.elim).mono fun i F2 H2 e2 p2 h2 => ⟨e2, F2, p2.rel, ((h2.bind p2.rel).less fun _ z => z.elim).mono fun j F3 H3 e3 p3 h3 => ?_⟩⟩⟩
  obtain ⟨d, q, h4⟩ := h3.rd
  obtain ⟨r, q2, h5⟩ := h4.lift
  rw [← c.K]
  have L : Ls l W σ H Q F3 H3 e3 (.ok r e3) := ⟨p3.rel, fun a z => p1.free a (p2.free a (p3.free a z)), _, fun a z => .inl (.inl (.inr z)), h5⟩
  exact ⟨F3, d, r, ((rv.mono p1.rel p2).mono p2.rel p3).read p3.rel q, q2, L.fin⟩
end
end Zv

set_option Elab.async false
set_option autoImplicit false
set_option linter.all false
set_option maxRecDepth 100000
/-! expressions: rows of arguments, truth, calls -/
namespace Zv
open PySem PySem.Spec L2
open PyProof.Rows hiding St
section
variable {K : PySem.W.Frag} {σ : St} {x : Bool} {B N F F' : Addr → Prop} {H H' : Hp} {e e' : En}
theorem RpO.same {a : Addr} {o : Ob} (h : RpO K F H a o) (hi : ∀ a, F a → F' a) : RpO K F' H a o := h.mono hi (fun _ _ _ q => q) fun _ q => q
/-- all of them are kept for good -/
theorem fz_all : ∀ {rs : List EV} {vs : List V} {ds : List D} {F : Addr → Prop} {e e' : En}, Er K F H σ e → RvL K N F H σ e vs rs → (∀ a, N a → B a) → fzAll rs e = .ok ds e' → ∃ F', Po K x B F H σ e F' H σ e' ∧ RpL K F' H vs ds
  | [], _, _, F, e, e', er, .nil, _, q => by cases q; exact ⟨F, Po.refl er, .nil⟩
  | r :: rs, _, ds, F, e, e', er, .cons (v := v) (vs := vs) h ap t, hN, q => by
    simp only [fzAll, M.bind, fz] at q
    cases q1 : frz e r with
    | none => rw [q1] at q; cases q
    | some y =>
      obtain ⟨d, e1⟩ := y
      rw [q1] at q
      dsimp only at q
      cases q2 : fzAll rs e1 with
      | ok ds1 e2 =>
        rw [q2] at q
        cases q
        obtain ⟨F1, p1, r1, w1⟩ := Rv.fz (x := x) (B := B) er h hN q1
        have ow : ∀ a, Own σ e1 a → Own σ e a := fun a z => by
          rcases p1.own' z with z | z
          · exact z
          · exact absurd z (by
              intro hz
              exact (p1.rel.od (by assumption)) hz)
        have t1 : RvL K N F1 H σ e1 vs rs := by
          clear q2
          induction t with
          | nil => exact .nil
          | cons h2 ap2 t2 ih =>
            rename_i v2 r2 vs2 rs2
            refine .cons ?_ ap2 (ih (RvL.cons h (fun a z p hp => ap a z p (List.mem_cons_of_mem _ hp)) t2 |> fun _ => fun a z p hp => ap a z p (List.mem_cons_of_mem _ hp)))
            cases h2 with
            | v h => exact .v (p1.rp er h)
            | fr n nf no ro =>
              refine .fr n (fun z => ?_) (fun z => no (ow _ z)) (ro.same p1.inc)
              rcases w1 _ z with z | z | z
              · exact nf z
              · exact no z
              · exact ap _ z _ (by rw [List.zip_cons_cons]; exact List.mem_cons_self) rfl
            | sl h => exact .sl h
        obtain ⟨F2, p2, r2⟩ := fz_all p1.rel t1 hN q2
        exact ⟨F2, p1.trans er (p2.wide fun _ z => .inl z), .cons (p2.rp p1.rel r1) r2⟩
      | ex _ _ => rw [q2] at q; cases q
      | no => rw [q2] at q; cases q
theorem fz_no_ex : ∀ {rs : List EV} {e e' : En} {y : Xn}, fzAll rs e ≠ .ex y e'
  | [], _, _, _, h => by cases h
  | r :: rs, e, e', y, h => by
    simp only [fzAll, M.bind, fz] at h
    cases q1 : frz e r with
    | none => rw [q1] at h; cases h
    | some z =>
      obtain ⟨d, e1⟩ := z
      rw [q1] at h
      dsimp only at h
      cases q2 : fzAll rs e1 with
      | ok ds1 e2 => rw [q2] at h; cases h
      | ex _ _ => exact fz_no_ex q2
      | no => rw [q2] at h; cases h
theorem RvL.go {vs : List V} {rs : List EV} {l : Lk} {F F' : Addr → Prop} {e e' : En} (h : RvL l.K N F H σ e vs rs) (er : Er l.K F H σ e) (p : Po l.K true Non F H σ e F' H' σ e') : RvL l.K N F' H' σ e' vs rs := by
  induction h with
  | nil => exact .nil
  | cons a b _ ih => exact .cons (a.mono er p) b ih
end
section
variable {l : Lk} {W : WX} {σ : St} {B F : Addr → Prop} {H : Hp} {e : En} {Q Q' : VK} {H0 : Hp}
variable {X : Cx} {n : Nm} {sc : Scope} {k : Nat}
theorem Ta.mono {c : Es} {Q Q' : List V → Hp → Prop} (h : Ta l W c σ H Q) (m : ∀ v H', Q v H' → Q' v H') : Ta l W c σ H Q' := by
  obtain ⟨e, F, er, h⟩ := h
  exact ⟨e, F, er, h.mono fun r F' H' e' _ q v rv => m v H' (q v rv)⟩
theorem frA_has {K : PySem.W.Frag} {N F : Addr → Prop} {v : V} {r : EV} {a : Addr} (h : Rv K N F H σ e v r) (q : frA v r = some a) : H a ≠ none := by
  cases h with
  | v _ => cases v <;> simp [frA] at q
  | fr _ _ _ d => simp only [frA, Option.some.injEq] at q; subst q; exact d.has
  | sl _ => cases v <;> simp [frA] at q
theorem zip_at {α β : Type} {xs : List α} {ys : List β} {p : α × β} (h : p ∈ xs.zip ys) : ∃ i : Nat, xs[i]? = some p.1 ∧ ys[i]? = some p.2 := by
  obtain ⟨i, hi⟩ := List.getElem?_of_mem h
  refine ⟨i, ?_⟩
  rw [List.getElem?_zip_eq_some] at hi
  exact hi
theorem pa_nila : PA X [] (Ta l W .nil) := by
  refine pa_imp pa_nil ?_
  rintro σ H Q ⟨e, F, er, h⟩
  exact h F H (Po.refl er) [] .nil
theorem pa_consa {a : E} {r : Es} {y : Expr} {ys : List Expr} (ha : PE X y (Tx l W a)) (hr : PA X ys (Ta l W r)) (hs : isStar y = false) : PA X (y :: ys) (Ta l W (.cons a r)) := by
  refine pa_imp (pa_cons ha hr (not_star hs ys)) ?_
  rintro σ H Q ⟨e, F, er, h⟩
  refine ⟨e, F, er, (h.bind er).mono fun x F1 H1 e1 p1 h1 v rv => ⟨e1, F1, p1.rel, ((h1.bind p1.rel).less fun _ z => z.elim).mono fun xs F2 H2 e2 p2 h2 vs rvs => ?_⟩⟩
  refine h2 F2 H2 (Po.refl p2.rel) (v :: vs) (.cons (rv.mono p1.rel p2) (fun a q p hp q2 => ?_) (rvs.less p1.free))
  obtain ⟨i, i1, i2⟩ := zip_at hp
  exact frA_has rv q (rvs.newA ⟨i, _, _, i1, i2, q2⟩).1
theorem pe_tupa {c : Es} {ys : List Expr} {j : Nat} {pos : Pos} (h : PA X ys (Ta l W c)) (hl : ys.length ≤ 1000) (hc : ∀ {e e' rs}, evs l.G l.cl c e = .ok rs e' → rs.length = ys.length) : PE X (.Tuple ys j pos) (Tx l W (.tup c)) := by
  refine pe_imp (pe_tup h) ?_
  rintro σ H Q ⟨e, F, er, h⟩
  have hn : ∀ {e' rs}, evs l.G l.cl c e = .ok rs e' → rs.length = ys.length := hc
  refine ⟨e, F, er, ?_⟩
  have hb := h.bind er
  cases q : evs l.G l.cl c e with
  | ok rs e1 =>
    rw [q] at hb
    intro F1 H1 p1 vs rvs
    have h1 := hb F1 H1 p1
    refine ⟨by rw [rvs.len, hn q, ← line_eq]; unfold line; omega, fun p hp => ?_⟩
    cases q2 : fzAll rs e1 with
    | ok ds e2 =>
      obtain ⟨F2, p2, r2⟩ := fz_all (x := true) (B := More Non H) p1.rel rvs (fun a z => .inr z) q2
      simp only [M.bind, q2, M.pure] at h1
      have p3 : Po l.K true (More Non H) F1 H1 σ e1 (ins F2 p) (upd H1 p (.tup vs)) σ e2 := p2.trans p1.rel (Po.laid p2.rel hp)
      refine h1 _ _ p3 _ (.v (.tup (.inl ⟨.inr rfl, upd_same⟩) ?_))
      exact r2.mono (fun _ q => .inl q) fun a u _ q => upd_keep hp a u q
    | ex y e2 => exact absurd q2 fz_no_ex
    | no => simp only [M.bind, q2] at h1; exact h1.elim
  | ex y e1 => rw [q] at hb; exact hb
  | no => rw [q] at hb; exact hb
theorem pe_lsta {c : Es} {ys : List Expr} {pos : Pos} (h : PA X ys (Ta l W c)) (hl : ys.length ≤ 1000) (hc : ∀ {e e' rs}, evs l.G l.cl c e = .ok rs e' → rs.length = ys.length) : PE X (.List ys pos) (Tx l W (.lst c)) := by
  refine pe_imp (pe_lst h) ?_
  rintro σ H Q ⟨e, F, er, h⟩
  have hn : ∀ {e' rs}, evs l.G l.cl c e = .ok rs e' → rs.length = ys.length := hc
  refine ⟨e, F, er, ?_⟩
  have hb := h.bind er
  cases q : evs l.G l.cl c e with
  | ok rs e1 =>
    rw [q] at hb
    intro F1 H1 p1 vs rvs
    have h1 := hb F1 H1 p1
    refine ⟨by rw [rvs.len, hn q, ← line_eq]; unfold line; omega, fun p hp => ?_⟩
    cases q2 : fzAll rs e1 with
    | ok ds e2 =>
      obtain ⟨F2, p2, r2⟩ := fz_all (x := true) (B := More Non H) p1.rel rvs (fun a z => .inr z) q2
      simp only [M.bind, q2, M.pure] at h1
      have p3 : Po l.K true (More Non H) F1 H1 σ e1 F2 (upd H1 p (.lst vs)) σ e2 := p2.trans p1.rel (Po.made p2.rel hp)
      refine h1 _ _ p3 _ (Rv.fr (o := .lst ds) (p1.free _ hp) (fun z => p2.rel.fok _ z hp) (fun z => p2.rel.od z hp) (.lst upd_same ?_))
      exact r2.mono (fun _ q => q) fun a u _ q => upd_keep hp a u q
    | ex y e2 => exact absurd q2 fz_no_ex
    | no => simp only [M.bind, q2] at h1; exact h1.elim
  | ex y e1 => rw [q] at hb; exact hb
  | no => rw [q] at hb; exact hb
theorem evs_len {G : List D} {cl : Cl} : ∀ {c : Es} {ys : List Expr} {e e' : En} {rs : List EV}, ckL n sc c ys = true → evs G cl c e = .ok rs e' → rs.length = ys.length
  | .nil, [], _, _, _, _, h => by simp [evs] at h; obtain ⟨rfl, _⟩ := h; rfl
  | .nil, _ :: _, _, _, _, h, _ => by cases h
  | .cons _ _, [], _, _, _, h, _ => by cases h
  | .cons a r, y :: ys, e, e', rs, h, q => by
    simp only [ckL, Bool.and_eq_true] at h
    simp only [evs] at q
    obtain ⟨x, e1, _, q⟩ := R.bind_ok q
    obtain ⟨xs, e2, q1, q⟩ := R.bind_ok q
    cases q
    rw [List.length_cons, List.length_cons, evs_len h.2 q1]

/-! ### truth -/
theorem Wp.testOf {m : M EV} {Q : Bool → (Addr → Prop) → Hp → En → Prop} (er : Er l.K F H σ e) (h : Wp l W B σ F H e (testOf m e) Q) :
    Wp l W B σ F H e (m e) fun x F1 H1 e1 => ∃ d t, look e1 x = some d ∧ truth d = some t ∧ ∀ F' H', Po l.K true (More B H) F1 H1 σ e1 F' H' σ e1 → Q t F' H' e1 :=
  (h.bind er).mono fun x F1 H1 e1 p1 h1 => by
    obtain ⟨d, q, h2⟩ := h1.rd
    obtain ⟨t, q2, h3⟩ := h2.lift
    exact ⟨d, t, q, q2, h3⟩
theorem pt_any {a : E} {x : Expr} (c : Cc X n sc l k W) (ha : PE X x (Tx l W a)) (ht : isTest x = false) : PT X x (Tt l W a) := by
  refine pt_imp (pt_truth ha (is_true ht X.env)) ?_
  rintro σ H Q ⟨e, F, er, h⟩
  refine ⟨e, F, er, (h.testOf er).mono fun r F1 H1 e1 p1 h1 v rv => ?_⟩
  obtain ⟨d, t, q, qt, h2⟩ := h1
  rw [← c.K]
  exact ⟨t, (rv.read p1.rel q).tru qt, h2 F1 H1 (Po.refl p1.rel)⟩
theorem bind_at {α β : Type} {x : M α} {f : α → M β} {a : α} {e1 : En} (h : x e = .ok a e1) : M.bind x f e = f a e1 := by
  unfold M.bind; rw [h]
theorem bind_ex {α β : Type} {x : M α} {f : α → M β} {a : Xn} {e1 : En} (h : x e = .ex a e1) : M.bind x f e = .ex a e1 := by
  unfold M.bind; rw [h]
theorem bind_no {α β : Type} {x : M α} {f : α → M β} (h : x e = .no) : M.bind x f e = .no := by
  unfold M.bind; rw [h]
theorem rd_at {x : EV} {d : D} (h : look e x = some d) : rd x e = .ok d e := by unfold rd; rw [h]
theorem rd_no {x : EV} (h : look e x = none) : rd x e = .no := by unfold rd; rw [h]
theorem lift_at {α : Type} {o : Option α} {a : α} (h : o = some a) : M.lift o e = .ok a e := by subst h; rfl
theorem lift_no {α : Type} {o : Option α} (h : o = none) : M.lift o e = .no := by subst h; rfl
theorem testOf_nt {G : List D} {cl : Cl} {a : E} : testOf (ev G cl (.nt a)) e = M.bind (testOf (ev G cl a)) (fun t => M.pure (!t)) e := by
  unfold testOf
  rw [ev]
  cases q0 : ev G cl a e with
  | ok x e1 =>
    cases q : look e1 x with
    | none =>
      rw [bind_no ((bind_at q0).trans (bind_no (rd_no q))), bind_no ((bind_at q0).trans (bind_no (rd_no q)))]
    | some d =>
      have A0 : ∀ {β : Type} (f : D → M β), M.bind (ev G cl a) (fun x => M.bind (rd x) f) e = f d e1 := fun f => (bind_at q0).trans (bind_at (rd_at q))
      cases q1 : truth d with
      | none =>
        have B1 : M.bind (ev G cl a) (fun x => M.bind (rd x) fun d => M.bind (M.lift (truth d)) fun t => M.pure (EV.v (.bool (!t)))) e = .no := (A0 _).trans (bind_no (lift_no q1))
        have B2 : M.bind (ev G cl a) (fun x => M.bind (rd x) fun d => M.lift (truth d)) e = .no := (A0 _).trans (lift_no q1)
        rw [bind_no B1, bind_no B2]
      | some t =>
        have B1 : M.bind (ev G cl a) (fun x => M.bind (rd x) fun d => M.bind (M.lift (truth d)) fun t => M.pure (EV.v (.bool (!t)))) e = .ok (.v (.bool (!t))) e1 := (A0 _).trans (bind_at (lift_at q1))
        have B2 : M.bind (ev G cl a) (fun x => M.bind (rd x) fun d => M.lift (truth d)) e = .ok t e1 := (A0 _).trans (lift_at q1)
        rw [bind_at B1, bind_at B2]
        rfl
  | ex y e1 => rw [bind_ex (bind_ex q0), bind_ex (bind_ex q0)]
  | no => rw [bind_no (bind_no q0), bind_no (bind_no q0)]
theorem pt_nta {a : E} {x : Expr} {pos : Pos} (ha : PT X x (Tt l W a)) : PT X (.UnaryOp .Not x pos) (Tt l W (.nt a)) := by
  refine pt_imp (pt_not ha) ?_
  rintro σ H Q ⟨e, F, er, h⟩
  rw [testOf_nt] at h
  exact ⟨e, F, er, (h.bind er).mono fun t F1 H1 e1 p1 h1 => h1 F1 H1 (Po.refl p1.rel)⟩
theorem tt_bool {a : E} (h : Tt l W a σ H fun b H' => Q (.bl b) H') (hb : ∀ {e e' x}, ev l.G l.cl a e = .ok x e' → ∃ b, x = .v (.bool b)) : Tx l W a σ H Q := by
  obtain ⟨e, F, er, h⟩ := h
  have hb' : ∀ {e' x}, ev l.G l.cl a e = .ok x e' → ∃ b, x = .v (.bool b) := hb
  refine ⟨e, F, er, ?_⟩
  have h2 := h.testOf er
  cases q : ev l.G l.cl a e with
  | ok x e1 =>
    rw [q] at h2
    obtain ⟨b, rfl⟩ := hb' q
    intro F1 H1 p1 v rv
    obtain ⟨d, t, q1, q2, h3⟩ := h2 F1 H1 p1
    have r := rv.read p1.rel q1
    cases q1
    cases q2
    rw [r.bool]
    exact h3 F1 H1 (Po.refl p1.rel)
  | ex y e1 => rw [q] at h2; exact h2
  | no => rw [q] at h2; exact h2
/-- a comparison as a test: its value is a bool -/
theorem tt_test {a : E} {Q'' : Bool → Hp → Prop} (h : Tt l W a σ H Q'') (hb : ∀ {e e' x}, ev l.G l.cl a e = .ok x e' → ∃ b, x = .v (.bool b)) : Tx l W a σ H fun x H' => ∃ b, x = .bl b ∧ Q'' b H' := by
  refine tt_bool (Q := fun x H' => ∃ b, x = .bl b ∧ Q'' b H') ?_ hb
  obtain ⟨e, F, er, h⟩ := h
  exact ⟨e, F, er, h.mono fun b F' H' e' _ q => ⟨b, rfl, q⟩⟩
end
end Zv

set_option Elab.async false
set_option autoImplicit false
set_option linter.all false
set_option maxRecDepth 100000
/-! expressions: tests, calls, built-in functions -/
namespace Zv
open PySem PySem.Spec L2
open PyProof.Rows hiding St
section
variable {l : Lk} {W : WX} {σ : St} {B F : Addr → Prop} {H : Hp} {e : En} {Q Q' : VK} {H0 : Hp}
variable {X : Cx} {n : Nm} {sc : Scope} {k : Nat}
theorem bind_assoc {α β γ : Type} (x : M α) (f : α → M β) (g : β → M γ) : M.bind (M.bind x f) g = M.bind x fun a => M.bind (f a) g := by
  funext e
  unfold M.bind
  cases x e <;> rfl
theorem ev_ife {G : List D} {cl : Cl} {c a b : E} : ev G cl (.ife c a b) = M.bind (testOf (ev G cl c)) fun t => if t then ev G cl a else ev G cl b := by
  unfold testOf
  rw [ev, bind_assoc]
  congr 1
  funext x
  rw [bind_assoc]
theorem cmp_tx {o : Cop} {a b : E} {K : PySem.W.Frag} (hK : l.K = K) (h : Tx l W (.cmp o a b) σ H Q) : tOp (rCop K o) (Tx l W a) (Tx l W b) σ H Q := by
  obtain ⟨e, F, er, h⟩ := h
  refine (two er h).mono fun v H1 t => t.mono ?_
  rintro w H2 ⟨e2, F2, d, d', r1, r2, L⟩
  obtain ⟨b, q, f⟩ := cop_next L
  rw [← hK]
  exact ⟨F2, d, d', b, r1, r2, q, f⟩
theorem cmp_bool {G : List D} {cl : Cl} {o : Cop} {a b : E} {e e' : En} {x : EV} (h : ev G cl (.cmp o a b) e = .ok x e') : ∃ b, x = .v (.bool b) := by
  rw [ev] at h
  obtain ⟨_, _, _, h⟩ := R.bind_ok h
  obtain ⟨_, _, _, h⟩ := R.bind_ok h
  obtain ⟨d, _, _, h⟩ := R.bind_ok h
  obtain ⟨d', _, _, h⟩ := R.bind_ok h
  cases q : cop o d d' with
  | none => rw [q] at h; cases h
  | some c => rw [q] at h; cases h; exact ⟨_, rfl⟩
theorem chain_bool {G : List D} {cl : Cl} {o p : Cop} {a b c : E} {e e' : En} {x : EV} (h : ev G cl (.chain o p a b c) e = .ok x e') : ∃ b, x = .v (.bool b) := by
  rw [ev] at h
  obtain ⟨_, _, _, h⟩ := R.bind_ok h
  obtain ⟨_, _, _, h⟩ := R.bind_ok h
  obtain ⟨_, _, _, h⟩ := R.bind_ok h
  obtain ⟨_, _, _, h⟩ := R.bind_ok h
  obtain ⟨t, _, _, h⟩ := R.bind_ok h
  cases t with
  | false => cases h; exact ⟨_, rfl⟩
  | true =>
    rw [if_pos rfl] at h
    obtain ⟨_, _, _, h⟩ := R.bind_ok h
    obtain ⟨d, _, _, h⟩ := R.bind_ok h
    obtain ⟨d', _, _, h⟩ := R.bind_ok h
    cases q : cop p d d' with
    | none => rw [q] at h; cases h
    | some c => rw [q] at h; cases h; exact ⟨_, rfl⟩
theorem pt_cmpa {o : Cop} {a b : E} {x y : Expr} {pos : Pos} (c : Cc X n sc l k W) (ha : PE X x (Tx l W a)) (hb : PE X y (Tx l W b)) (hs : isSetD y = false) : PT X (.Compare x [o.op] [y] pos) (Tt l W (.cmp o a b)) :=
  pt_imp (pt_cmpR (op_cop (by have := c.u67; omega) o) ha hb (no_marks hs _)) fun σ H Q h => cmp_tx c.K (tt_test h cmp_bool)
theorem pt_chaina {o p : Cop} {a b c' : E} {x y z : Expr} {pos : Pos} (c : Cc X n sc l k W) (ha : PE X x (Tx l W a)) (hb : PE X y (Tx l W b)) (hc : PE X z (Tx l W c')) (hs : isSetD z = false) : PT X (.Compare x [o.op, p.op] [y, z] pos) (Tt l W (.chain o p a b c')) := by
  have hu : X.A.units + 65 < cLine := by have := c.u67; omega
  exact pt_imp (pt_chain (op_cop hu o) (op_cop hu p) ha hb hc (no_marks hs _)) fun σ H Q h => chain_tx c.K (tt_test h chain_bool)
theorem pe_ifea {c' a b : E} {t x y : Expr} {pos : Pos} (hc : PT X t (Tt l W c')) (ha : PE X x (Tx l W a)) (hb : PE X y (Tx l W b)) : PE X (.IfExp t x y pos) (Tx l W (.ife c' a b)) := by
  refine pe_imp (pe_ifExp hc ha hb) ?_
  rintro σ H Q ⟨e, F, er, h⟩
  rw [ev_ife] at h
  refine ⟨e, F, er, (h.bind er).mono fun b F1 H1 e1 p1 h1 => ?_⟩
  cases b with
  | true => exact tx_next p1 h1
  | false => exact tx_next p1 h1
theorem tt_next {F1 : Addr → Prop} {H1 : Hp} {e1 : En} {c : E} {Q : Bool → Hp → Prop} (p : Po l.K true Non F H σ e F1 H1 σ e1) (h : Wp l W (More Non H) σ F1 H1 e1 (testOf (ev l.G l.cl c) e1) fun b F' H' e' => Q b H') : Tt l W c σ H1 Q :=
  ⟨e1, F1, p.rel, h.less fun _ z => z.elim⟩
theorem pt_ifea {c' a b : E} {t x y : Expr} {pos : Pos} (hc : PT X t (Tt l W c')) (ha : PT X x (Tt l W a)) (hb : PT X y (Tt l W b)) : PT X (.IfExp t x y pos) (Tt l W (.ife c' a b)) := by
  refine ⟨fun pins s σ H Q I h => ?_⟩
  obtain ⟨e, F, er, h⟩ := h
  have z : testOf (ev l.G l.cl (.ife c' a b)) e = M.bind (testOf (ev l.G l.cl c')) (fun t => if t then testOf (ev l.G l.cl a) else testOf (ev l.G l.cl b)) e := by
    rw [ev_ife]
    show M.bind (M.bind _ _) _ e = _
    rw [bind_assoc]
    congr 1
    funext t
    cases t <;> rfl
  rw [z] at h
  refine isTrue_IfExp (thn (hc.run pins s σ H _ I (⟨e, F, er, (h.bind er).mono fun bb F1 H1 e1 p1 h1 => ?_⟩ : Tt l W c' σ H fun bb H1 => if bb = true then Tt l W a σ H1 Q else Tt l W b σ H1 Q)) fun d s1 ⟨H1, I1, q1⟩ => ?_)
  · cases bb with
    | true => exact tt_next p1 h1
    | false => exact tt_next p1 h1
  · cases d with
    | true => exact ha.run pins s1 σ H1 Q I1 q1
    | false => exact hb.run pins s1 σ H1 Q I1 q1

/-! ### and, or -/
def Ttn (l : Lk) (W : WX) (cs : Es) : TT := fun σ H Q => ∃ e F, Er l.K F H σ e ∧ Wp l W Non σ F H e (testOf (evAn l.G l.cl cs) e) fun b F' H' e' => Q b H'
def Tto (l : Lk) (W : WX) (cs : Es) : TT := fun σ H Q => ∃ e F, Er l.K F H σ e ∧ Wp l W Non σ F H e (testOf (evOr l.G l.cl cs) e) fun b F' H' e' => Q b H'
theorem evAn_one {G : List D} {cl : Cl} {a : E} : evAn G cl (.cons a .nil) e = ev G cl a e := by
  rw [evAn]
  cases q : ev G cl a e with
  | ok x e1 => rw [bind_at q]; rfl
  | ex x e1 => rw [bind_ex q]
  | no => rw [bind_no q]
theorem evOr_one {G : List D} {cl : Cl} {a : E} : evOr G cl (.cons a .nil) e = ev G cl a e := by
  rw [evOr]
  cases q : ev G cl a e with
  | ok x e1 => rw [bind_at q]; rfl
  | ex x e1 => rw [bind_ex q]
  | no => rw [bind_no q]
theorem testOf_congr {x y : M EV} (h : ∀ e, x e = y e) : testOf x e = testOf y e := by
  rw [show x = y from funext h]
theorem evAn_two {G : List D} {cl : Cl} {a b : E} {r : Es} : evAn G cl (.cons a (.cons b r)) = M.bind (ev G cl a) fun x => M.bind (rd x) fun d => M.bind (M.lift (truth d)) fun t => if t then evAn G cl (.cons b r) else M.pure x := by
  rw [evAn]; rfl
theorem evOr_two {G : List D} {cl : Cl} {a b : E} {r : Es} : evOr G cl (.cons a (.cons b r)) = M.bind (ev G cl a) fun x => M.bind (rd x) fun d => M.bind (M.lift (truth d)) fun t => if t then M.pure x else evOr G cl (.cons b r) := by
  rw [evOr]; rfl
theorem bind_eq {α β : Type} {x y : M α} {f : α → M β} {e1 : En} (h : x e = y e1) : M.bind x f e = M.bind y f e1 := by
  unfold M.bind; rw [h]
theorem test_an {G : List D} {cl : Cl} {a b : E} {r : Es} : testOf (evAn G cl (.cons a (.cons b r))) e = M.bind (testOf (ev G cl a)) (fun t => if t then testOf (evAn G cl (.cons b r)) else M.pure false) e := by
  rw [evAn_two]
  cases q0 : ev G cl a e with
  | ok x e1 =>
    cases q : look e1 x with
    | none =>
      have B1 : M.bind (ev G cl a) (fun x => M.bind (rd x) fun d => M.bind (M.lift (truth d)) fun t => if t then evAn G cl (.cons b r) else M.pure x) e = .no := (bind_at q0).trans (bind_no (rd_no q))
      have B2 : testOf (ev G cl a) e = .no := (bind_at q0).trans (bind_no (rd_no q))
      rw [bind_no B2]; exact bind_no B1
    | some d =>
      cases q1 : truth d with
      | none =>
        have B1 : M.bind (ev G cl a) (fun x => M.bind (rd x) fun d => M.bind (M.lift (truth d)) fun t => if t then evAn G cl (.cons b r) else M.pure x) e = .no := (bind_at q0).trans ((bind_at (rd_at q)).trans (bind_no (lift_no q1)))
        have B2 : testOf (ev G cl a) e = .no := (bind_at q0).trans ((bind_at (rd_at q)).trans (lift_no q1))
        rw [bind_no B2]; exact bind_no B1
      | some t =>
        have B1 : M.bind (ev G cl a) (fun x => M.bind (rd x) fun d => M.bind (M.lift (truth d)) fun t => if t then evAn G cl (.cons b r) else M.pure x) e = (if t then evAn G cl (.cons b r) else M.pure x) e1 := (bind_at q0).trans ((bind_at (rd_at q)).trans (bind_at (lift_at q1)))
        have B2 : testOf (ev G cl a) e = .ok t e1 := (bind_at q0).trans ((bind_at (rd_at q)).trans (lift_at q1))
        rw [bind_at B2]
        refine (bind_eq B1).trans ?_
        cases t with
        | true => rfl
        | false =>
          show M.bind (rd x) (fun d => M.lift (truth d)) e1 = _
          rw [bind_at (rd_at q), lift_at q1]; rfl
  | ex y e1 => rw [bind_ex (show testOf (ev G cl a) e = _ from bind_ex q0)]; exact bind_ex (bind_ex q0)
  | no => rw [bind_no (show testOf (ev G cl a) e = _ from bind_no q0)]; exact bind_no (bind_no q0)
theorem test_or {G : List D} {cl : Cl} {a b : E} {r : Es} : testOf (evOr G cl (.cons a (.cons b r))) e = M.bind (testOf (ev G cl a)) (fun t => if t then M.pure true else testOf (evOr G cl (.cons b r))) e := by
  rw [evOr_two]
  cases q0 : ev G cl a e with
  | ok x e1 =>
    cases q : look e1 x with
    | none =>
      have B1 : M.bind (ev G cl a) (fun x => M.bind (rd x) fun d => M.bind (M.lift (truth d)) fun t => if t then M.pure x else evOr G cl (.cons b r)) e = .no := (bind_at q0).trans (bind_no (rd_no q))
      have B2 : testOf (ev G cl a) e = .no := (bind_at q0).trans (bind_no (rd_no q))
      rw [bind_no B2]; exact bind_no B1
    | some d =>
      cases q1 : truth d with
      | none =>
        have B1 : M.bind (ev G cl a) (fun x => M.bind (rd x) fun d => M.bind (M.lift (truth d)) fun t => if t then M.pure x else evOr G cl (.cons b r)) e = .no := (bind_at q0).trans ((bind_at (rd_at q)).trans (bind_no (lift_no q1)))
        have B2 : testOf (ev G cl a) e = .no := (bind_at q0).trans ((bind_at (rd_at q)).trans (lift_no q1))
        rw [bind_no B2]; exact bind_no B1
      | some t =>
        have B1 : M.bind (ev G cl a) (fun x => M.bind (rd x) fun d => M.bind (M.lift (truth d)) fun t => if t then M.pure x else evOr G cl (.cons b r)) e = (if t then M.pure x else evOr G cl (.cons b r)) e1 := (bind_at q0).trans ((bind_at (rd_at q)).trans (bind_at (lift_at q1)))
        have B2 : testOf (ev G cl a) e = .ok t e1 := (bind_at q0).trans ((bind_at (rd_at q)).trans (lift_at q1))
        rw [bind_at B2]
        refine (bind_eq B1).trans ?_
        cases t with
        | false => rfl
        | true =>
          show M.bind (rd x) (fun d => M.lift (truth d)) e1 = _
          rw [bind_at (rd_at q), lift_at q1]; rfl
  | ex y e1 => rw [bind_ex (show testOf (ev G cl a) e = _ from bind_ex q0)]; exact bind_ex (bind_ex q0)
  | no => rw [bind_no (show testOf (ev G cl a) e = _ from bind_no q0)]; exact bind_no (bind_no q0)
theorem pw_one_an {a : E} {x : Expr} {pos : Pos} (ha : PT X x (Tt l W a)) : PW X (.BoolOp .And [x] pos) (Ttn l W (.cons a .nil)) := by
  refine ⟨fun wh pins s σ H Q I h => (pw_and1 ha).run wh pins s σ H Q I ?_⟩
  obtain ⟨e, F, er, h⟩ := h
  rw [testOf_congr fun e => evAn_one] at h
  exact ⟨e, F, er, h⟩
theorem pw_one_or {a : E} {x : Expr} {pos : Pos} (ha : PT X x (Tt l W a)) : PW X (.BoolOp .Or [x] pos) (Tto l W (.cons a .nil)) := by
  refine ⟨fun wh pins s σ H Q I h => (pw_or1 ha).run wh pins s σ H Q I ?_⟩
  obtain ⟨e, F, er, h⟩ := h
  rw [testOf_congr fun e => evOr_one] at h
  exact ⟨e, F, er, h⟩
theorem pw_two_an {a b : E} {r : Es} {x y : Expr} {ys : List Expr} {pos : Pos} (ha : PT X x (Tt l W a)) (hb : PW X (.BoolOp .And (y :: ys) pos) (Ttn l W (.cons b r))) : PW X (.BoolOp .And (x :: y :: ys) pos) (Ttn l W (.cons a (.cons b r))) := by
  refine ⟨fun wh pins s σ H Q I h => (pw_and ha hb).run wh pins s σ H Q I ?_⟩
  obtain ⟨e, F, er, h⟩ := h
  rw [test_an] at h
  refine ⟨e, F, er, (h.bind er).mono fun t F1 H1 e1 p1 h1 => ?_⟩
  cases t with
  | true => exact ⟨e1, F1, p1.rel, Wp.less h1 fun _ z => z.elim⟩
  | false => exact h1 F1 H1 (Po.refl p1.rel)
theorem pw_two_or {a b : E} {r : Es} {x y : Expr} {ys : List Expr} {pos : Pos} (ha : PT X x (Tt l W a)) (hb : PW X (.BoolOp .Or (y :: ys) pos) (Tto l W (.cons b r))) : PW X (.BoolOp .Or (x :: y :: ys) pos) (Tto l W (.cons a (.cons b r))) := by
  refine ⟨fun wh pins s σ H Q I h => (pw_or ha hb).run wh pins s σ H Q I ?_⟩
  obtain ⟨e, F, er, h⟩ := h
  rw [test_or] at h
  refine ⟨e, F, er, (h.bind er).mono fun t F1 H1 e1 p1 h1 => ?_⟩
  cases t with
  | false => exact ⟨e1, F1, p1.rel, Wp.less h1 fun _ z => z.elim⟩
  | true => exact h1 F1 H1 (Po.refl p1.rel)
theorem pe_one_an {a : E} {x : Expr} {pos : Pos} (ha : PE X x (Tx l W a)) : PE X (.BoolOp .And [x] pos) (Tn l W (.cons a .nil)) := by
  refine pe_imp (pe_one ha) ?_
  rintro σ H Q ⟨e, F, er, h⟩
  rw [evAn_one] at h
  exact ⟨e, F, er, h⟩
theorem pe_one_or {a : E} {x : Expr} {pos : Pos} (ha : PE X x (Tx l W a)) : PE X (.BoolOp .Or [x] pos) (To l W (.cons a .nil)) := by
  refine pe_imp (pe_one ha) ?_
  rintro σ H Q ⟨e, F, er, h⟩
  rw [evOr_one] at h
  exact ⟨e, F, er, h⟩
theorem pe_two_an {a b : E} {r : Es} {x y : Expr} {ys : List Expr} {pos : Pos} (c : Cc X n sc l k W) (ha : PE X x (Tx l W a)) (hb : PE X (.BoolOp .And (y :: ys) pos) (Tn l W (.cons b r))) : PE X (.BoolOp .And (x :: y :: ys) pos) (Tn l W (.cons a (.cons b r))) := by
  refine pe_imp (pe_andT ha hb) ?_
  rintro σ H Q ⟨e, F, er, h⟩
  rw [evAn_two] at h
  refine ⟨e, F, er, (h.bind er).mono fun x F1 H1 e1 p1 h1 v rv => ?_⟩
  obtain ⟨d, q, h2⟩ := h1.rd
  obtain ⟨t, qt, h3⟩ := h2.liftB
  rw [← c.K]
  refine ⟨t, (rv.read p1.rel q).tru qt, ?_⟩
  cases t with
  | true => exact ⟨e1, F1, p1.rel, (Wp.less h3 fun _ z => z.elim).mono fun r F' H' e' _ q v rv => q v (rv.less p1.free)⟩
  | false => exact h3 F1 H1 (Po.refl p1.rel) v rv
theorem pe_two_or {a b : E} {r : Es} {x y : Expr} {ys : List Expr} {pos : Pos} (c : Cc X n sc l k W) (ha : PE X x (Tx l W a)) (hb : PE X (.BoolOp .Or (y :: ys) pos) (To l W (.cons b r))) : PE X (.BoolOp .Or (x :: y :: ys) pos) (To l W (.cons a (.cons b r))) := by
  refine pe_imp (pe_orT ha hb) ?_
  rintro σ H Q ⟨e, F, er, h⟩
  rw [evOr_two] at h
  refine ⟨e, F, er, (h.bind er).mono fun x F1 H1 e1 p1 h1 v rv => ?_⟩
  obtain ⟨d, q, h2⟩ := h1.rd
  obtain ⟨t, qt, h3⟩ := h2.liftB
  rw [← c.K]
  refine ⟨t, (rv.read p1.rel q).tru qt, ?_⟩
  cases t with
  | false => exact ⟨e1, F1, p1.rel, (Wp.less h3 fun _ z => z.elim).mono fun r F' H' e' _ q v rv => q v (rv.less p1.free)⟩
  | true => exact h3 F1 H1 (Po.refl p1.rel) v rv

/-! ### calls -/
theorem pe_calla {f : Nat} {as : Es} {x : Str} {xs : List Expr} {p pos : Pos} (c : Cc X n sc l k W) (hf : n.fnm[f]? = some x) (hg : gl sc x = true) (hc : ckL n sc as xs = true) (ha : PA X xs (Ta l W as)) : PE X (.Call (.Name x p) xs [] pos) (Tx l W (.call f as)) := by
  obtain ⟨g, hd, hn⟩ := c.gl hg
  obtain ⟨a, fd, ps, h1, h2, h3, h4⟩ := c.fns f x hf
  have key : ∀ σ H Q, Tx l W (.call f as) σ H Q → tFk (Sf l f) W (Ta l W as) σ H Q := by
    rintro σ H Q ⟨e, F, er, h⟩
    refine ⟨e, F, er, ?_⟩
    rw [ev] at h
    exact (h.bind er).mono fun rs F1 H1 e1 p1 h1 vs rvs => call_ok p1.rel p1.free rvs h1 fun r F' H' e' q => q
  cases xs with
  | nil =>
    cases as with
    | cons _ _ => cases hc
    | nil =>
      refine pe_imp (pe_fk0 h4 c.gx g h1 h2 h3 c.tk hd) fun σ H Q h => ?_
      obtain ⟨e, F, er, h⟩ := key σ H Q h
      exact h F H (Po.refl er) [] .nil
  | cons y ys =>
    cases as with
    | nil => cases hc
    | cons a r =>
      have hc' : ck n sc a y = true ∧ ckL n sc r ys = true := by simpa [ckL] using hc
      exact pe_imp (pe_fk h4 c.gx g h1 h2 h3 c.tk ha hd (not_star (ck_plain hc'.1).2.1 _) (ckL_stars _ _ hc'.2)) key
theorem stars0 (pos : Pos) (env : Env) : (backTo pos (starEach [] env)).any (·.1) = false := rfl
theorem pe_bf {id : String} {P : P1} {a : E} {x : Str} {y : Expr} {p pos : Pos} (c : Cc X n sc l k W) (hx : x ∈ bltNames) (hv : bootBuiltins x = some (.builtin id)) (hr : CallR X (.builtin id) (rP1 X.K P)) (hg : gl sc x = true) (hs : isStar y = false) (ha : PE X y (Tx l W a)) : PE X (.Call (.Name x p) [y] [] pos) (Tx l W (.p1 P a)) := by
  obtain ⟨g, hd, hn⟩ := c.gl hg
  refine pe_imp (pe_callB hr g (c.blt x hx) hv (pa_cons ha pa_nil (not_star hs [])) hn hd (not_star hs []) (stars0 _ _)) ?_
  rintro σ H Q ⟨e, F, er, h⟩
  refine (one er h).mono ?_
  rintro v H1 ⟨e1, F1, d, r, L⟩
  obtain ⟨w, q, L⟩ := L.lift
  rw [← c.K]
  exact ⟨F1, v, d, w, rfl, r, q, L.fin⟩
theorem pe_bt {T : String} {P : P1} {a : E} {x : Str} {y : Expr} {p pos : Pos} (c : Cc X n sc l k W) (hx : x ∈ bltNames) (hv : bootBuiltins x = some (.type T)) (hr : CallR X (.type T) (rP1 X.K P)) (hg : gl sc x = true) (hs : isStar y = false) (ha : PE X y (Tx l W a)) : PE X (.Call (.Name x p) [y] [] pos) (Tx l W (.p1 P a)) := by
  obtain ⟨g, hd, hn⟩ := c.gl hg
  refine pe_imp (pe_callTy hr g (c.blt x hx) hv (pa_cons ha pa_nil (not_star hs [])) hn hd (not_star hs []) (stars0 _ _)) ?_
  rintro σ H Q ⟨e, F, er, h⟩
  refine (one er h).mono ?_
  rintro v H1 ⟨e1, F1, d, r, L⟩
  obtain ⟨w, q, L⟩ := L.lift
  rw [← c.K]
  exact ⟨F1, v, d, w, rfl, r, q, L.fin⟩
theorem pe_p1a {P : P1} {a : E} {x : Str} {y : Expr} {p pos : Pos} (c : Cc X n sc l k W) (hp : P.nm = some x) (hg : gl sc x = true) (hs : isStar y = false) (ha : PE X y (Tx l W a)) : PE X (.Call (.Name x p) [y] [] pos) (Tx l W (.p1 P a)) := by
  cases P <;> simp only [P1.nm] at hp <;> first | (cases hp; done) | cases hp
  · exact pe_bf c (by decide) (by decide +kernel) c_len hg hs ha
  · exact pe_bt c (by decide) (by decide +kernel) c_tuple hg hs ha
  · exact pe_bt c (by decide) (by decide +kernel) c_list hg hs ha
  · exact pe_bf c (by decide) (by decide +kernel) (c_all c.gx.calm) hg hs ha
  · exact pe_bf c (by decide) (by decide +kernel) (c_any c.gx.calm) hg hs ha
  · exact pe_bf c (by decide) (by decide +kernel) c_abs hg hs ha
  · exact pe_bt c (by decide) (by decide +kernel) c_int hg hs ha
  · exact pe_bf c (by decide) (by decide +kernel) (c_sum c.gx.calm) hg hs ha
  · exact pe_bf c (by decide) (by decide +kernel) (c_max c.gx.calm) hg hs ha
  · exact pe_bf c (by decide) (by decide +kernel) (c_min c.gx.calm) hg hs ha
  · exact pe_bf c (by decide) (by decide +kernel) (c_sorted c.u67) hg hs ha
  · exact pe_bf c (by decide) (by decide +kernel) (c_repr c.gx.gd (by have := c.u67; omega)) hg hs ha
theorem tset_of {P : P1} {a : E} {σ : St} {H : Hp} {Q : VK} (hK : l.K = X.K) : Tx l W (.p1 P a) σ H Q → tSetD X.K P (Tx l W a) σ H Q := by
  rintro ⟨e, F, er, h⟩
  refine (one er h).mono ?_
  rintro v H1 ⟨e1, F1, d, r, L⟩
  obtain ⟨w, q, L⟩ := L.lift
  rw [← hK]
  exact ⟨F1, d, w, r, q, L.fin⟩
theorem pe_p1s {P : P1} {a : E} {x : Str} {y : Expr} {p p2 q pos : Pos} (c : Cc X n sc l k W) (hp : P.nm2 = some x) (hg : gl sc x = true) (hg2 : gl sc "set" = true) (hs : isStar y = false) (ha : PE X y (Tx l W a)) : PE X (.Call (.Name x p) [.Call (.Name "set" p2) [y] [] q] [] pos) (Tx l W (.p1 P a)) := by
  obtain ⟨g, hd, hn⟩ := c.gl hg
  obtain ⟨g2, hd2, hn2⟩ := c.gl hg2
  cases P <;> simp only [P1.nm2] at hp <;> first | (cases hp; done) | cases hp
  · exact pe_imp (pe_lsetD c.gx.calm c.u67 g (c.blt _ (by decide)) g2 (c.blt _ (by decide)) ha (not_star hs [])) fun σ H Q => tset_of c.K
  · exact pe_imp (pe_ssetD c.gx.calm c.u67 g (c.blt _ (by decide)) g2 (c.blt _ (by decide)) ha (not_star hs []) (by decide +kernel)) fun σ H Q => tset_of c.K
theorem pe_reva {a : E} {y : Expr} {k0 : Nat} {p1 p2 p3 pos : Pos} (c : Cc X n sc l k W) (ha : PE X y (Tx l W a)) : PE X (.Subscript y (.Slice none none (some (.UnaryOp .USub (.Constant (.int 1) k0 p1) p2)) p3) pos) (Tx l W (.rev a)) := by
  refine pe_imp (pe_revD ha) ?_
  rintro σ H Q ⟨e, F, er, h⟩
  refine (one er h).mono ?_
  rintro v H1 ⟨e1, F1, d, r, L⟩
  obtain ⟨w, q, L⟩ := L.lift
  rw [← c.K]
  exact ⟨F1, d, w, r, q, L.fin⟩
end
end Zv

set_option Elab.async false
set_option autoImplicit false
set_option linter.all false
set_option maxRecDepth 100000
/-! expressions: what is walked; comprehensions; all of them -/
namespace Zv
open PySem PySem.Spec L2
open PyProof.Rows hiding St
section
variable {l : Lk} {W : WX} {σ : St} {B F : Addr → Prop} {H : Hp} {e : En} {Q Q' : VK} {H0 : Hp}
variable {X : Cx} {n : Nm} {sc : Scope} {k : Nat} {tg : Expr}
theorem pi_sqa {a : E} {y : Expr} (c : Cc X n sc l k W) (ha : PE X y (Tx l W a)) : PI X tg y (Ti l W (.sq a)) := by
  refine pi_imp (pi_seq ha) ?_
  rintro σ H R ⟨e, F, er, h⟩
  refine ⟨e, F, er, (h.bind er).mono fun x F1 H1 e1 p1 h1 v rv => ?_⟩
  obtain ⟨d, q, h2⟩ := h1.rd
  obtain ⟨xs, q2, h3⟩ := h2.liftB
  obtain ⟨a, rfl, hj⟩ := jat_seq (rv.read p1.rel q) q2
  refine ⟨a, rfl, ?_⟩
  rw [← c.K]
  have later : ∀ (Dx : Addr → Prop), (∀ a, Dx a → ¬ F1 a ∧ H a ≠ none) → ∀ σ' F' H' e', Lat l.K Dx σ F1 H1 e1 [x] σ' F' H' e' → stands x d e' = true → Rt l.K F' H' (.ref a) d := fun Dx hD σ' F' H' e' t ok =>
    Rt.later p1.rel rv q hD t (fun i hi => by rw [hi]; exact List.mem_singleton.mpr rfl) ok
  rcases hj with ⟨h4, _, ds, hd⟩ | ⟨h4, _, ds, hd⟩
  · refine .inl ⟨h4, h3 F1 H1 (Po.refl p1.rel) _ fun Dx hD σ' F' H' e' t ok => ?_⟩
    obtain ⟨a', e', hj⟩ := jat_seq (later Dx hD σ' F' H' e' t ok) q2
    cases e'
    rcases hj with ⟨_, j, _⟩ | ⟨_, _, ds', hd'⟩
    · exact j
    · rw [hd] at hd'; cases hd'
  · refine .inr ⟨h4, h3 F1 H1 (Po.refl p1.rel) _ fun Dx hD σ' F' H' e' t ok => ?_⟩
    obtain ⟨a', e', hj⟩ := jat_seq (later Dx hD σ' F' H' e' t ok) q2
    cases e'
    rcases hj with ⟨_, _, ds', hd'⟩ | ⟨_, j, _⟩
    · rw [hd] at hd'; cases hd'
    · exact j
theorem inR_of {i : Int} (h : inR i = true) : -(2 ^ 62) ≤ i ∧ i < 2 ^ 62 := by simpa [inR] using h
theorem pi_rga {a : E} {y : Expr} {p pos : Pos} (c : Cc X n sc l k W) (hg : gl sc "range" = true) (hs : isStar y = false) (ha : PE X y (Tx l W a)) : PI X tg (.Call (.Name "range" p) [y] [] pos) (Ti l W (.rg a)) := by
  refine pi_imp (pi_range1 (c.gl hg).1 (c.blt _ (by decide)) (pa_cons ha pa_nil (not_star hs [])) (not_star hs [])) ?_
  rintro σ H R ⟨e, F, er, h⟩
  refine ⟨e, F, er, (h.bind er).mono fun x F1 H1 e1 p1 h1 v rv => ?_⟩
  obtain ⟨d, q, h2⟩ := h1.rd
  have r := rv.read p1.rel q
  cases d <;> first | (exact h2.elim) | skip
  cases r.int
  rename_i i
  dsimp only at h2
  cases hi : inR i with
  | false => rw [if_neg (by rw [hi]; decide)] at h2; exact h2.elim
  | true =>
    rw [if_pos hi] at h2
    obtain ⟨b1, b2⟩ := inR_of hi
    exact ⟨i, rfl, b1, b2, h2 F1 H1 (Po.refl p1.rel) _ fun _ _ _ _ _ _ _ _ => jat_range 0 _⟩
theorem pi_rg2a {a b : E} {y z : Expr} {p pos : Pos} (c : Cc X n sc l k W) (hg : gl sc "range" = true) (hs : isStar y = false) (hs2 : isStar z = false) (ha : PE X y (Tx l W a)) (hb : PE X z (Tx l W b)) : PI X tg (.Call (.Name "range" p) [y, z] [] pos) (Ti l W (.rg2 a b)) := by
  refine pi_imp (pi_range2 (c.gl hg).1 (c.blt _ (by decide)) (pa_cons ha (pa_cons hb pa_nil (not_star hs2 [])) (not_star hs [z])) ((not_star hs [z]).trans (by rw [not_star hs2]; rfl)) (not_star hs2 [])) ?_
  rintro σ H R ⟨e, F, er, h⟩
  refine ⟨e, F, er, (h.bind er).mono fun x F1 H1 e1 p1 h1 v rv => ⟨e1, F1, p1.rel, ((h1.bind p1.rel).less fun _ z => z.elim).mono fun y F2 H2 e2 p2 h2 w rw_ => ?_⟩⟩
  obtain ⟨d, q, h3⟩ := h2.rd
  obtain ⟨d', q', h4⟩ := h3.rd
  have r1 := (rv.mono p1.rel p2).read p2.rel q
  have r2 := rw_.read p2.rel q'
  cases d <;> first | (exact h4.elim) | skip
  cases d' <;> first | (exact h4.elim) | skip
  cases r1.int
  cases r2.int
  rename_i i j
  dsimp only at h4
  cases hi : inR i && inR j with
  | false => rw [if_neg (by rw [hi]; decide)] at h4; exact h4.elim
  | true =>
    rw [if_pos hi] at h4
    rw [Bool.and_eq_true] at hi
    obtain ⟨b1, b2⟩ := inR_of hi.1
    obtain ⟨b3, b4⟩ := inR_of hi.2
    exact ⟨i, j, rfl, ⟨b1, b2, b3, b4⟩, h4 F2 H2 (Po.refl p2.rel) _ fun _ _ _ _ _ _ _ _ => jat_range i _⟩
theorem zips_items {d d' : D} {xs : List D} (h : zipsOf d d' = some xs) : ∃ a b, itemsOf d = some a ∧ itemsOf d' = some b ∧ xs = zipD a b ∧ ((∃ ds ds', d = .list ds ∧ d' = .list ds') ∨ ∃ ds ds', d = .tuple ds ∧ d' = .tuple ds') := by
  cases d <;> cases d' <;> first | (cases h; done) | skip
  · cases h; exact ⟨_, _, rfl, rfl, rfl, .inl ⟨_, _, rfl, rfl⟩⟩
  · cases h; exact ⟨_, _, rfl, rfl, rfl, .inr ⟨_, _, rfl, rfl⟩⟩
theorem pi_zipa {a b : E} {y z : Expr} {p pos tpos : Pos} {elts : List Expr} {kk : Nat} (c : Cc X n sc l k W) (hg : gl sc "zip" = true) (hs : isStar y = false) (hs2 : isStar z = false) (ha : PE X y (Tx l W a)) (hb : PE X z (Tx l W b)) : PI X (.Tuple elts kk tpos) (.Call (.Name "zip" p) [y, z] [] pos) (Ti l W (.zip a b)) := by
  refine pi_imp (RZ.pi_zipA (c.gl hg).1 (c.blt _ (by decide)) (pa_cons ha (pa_cons hb pa_nil (not_star hs2 [])) (not_star hs [z])) (not_star hs [z]) (by rw [not_star hs2]; rfl)) ?_
  rintro σ H R ⟨e, F, er, h⟩
  refine ⟨e, F, er, (h.bind er).mono fun x F1 H1 e1 p1 h1 v rv => ⟨e1, F1, p1.rel, ((h1.bind p1.rel).less fun _ z => z.elim).mono fun y F2 H2 e2 p2 h2 w rw_ => ?_⟩⟩
  obtain ⟨d, q, h3⟩ := h2.rd
  obtain ⟨d', q', h4⟩ := h3.rd
  obtain ⟨xs, q3, h5⟩ := h4.liftB
  obtain ⟨as, bs, i1, i2, rfl, kind⟩ := zips_items q3
  have rv2 := rv.mono p1.rel p2
  have r1 := rv2.read p2.rel q
  have r2 := rw_.read p2.rel q'
  rw [← c.K]
  have l1 : ∀ (Dx : Addr → Prop), (∀ a, Dx a → ¬ F2 a ∧ H a ≠ none) → ∀ σ' F' H' e', Lat l.K Dx σ F2 H2 e2 [x, y] σ' F' H' e' → stands x d e' = true → Rt l.K F' H' v d := fun Dx hD σ' F' H' e' t ok =>
    Rt.later p2.rel rv2 q hD t (fun i hi => by rw [hi]; simp) ok
  have l2 : ∀ (Dx : Addr → Prop), (∀ a, Dx a → ¬ F2 a ∧ H a ≠ none) → ∀ σ' F' H' e', Lat l.K Dx σ F2 H2 e2 [x, y] σ' F' H' e' → stands y d' e' = true → Rt l.K F' H' w d' := fun Dx hD σ' F' H' e' t ok =>
    Rt.later p2.rel rw_ q' (fun a z => ⟨(hD a z).1, fun z2 => (hD a z).2 (p1.free a z2)⟩) t (fun i hi => by rw [hi]; simp) ok
  rcases kind with ⟨ds, ds', hd, hd'⟩ | ⟨ds, ds', hd, hd'⟩
  · obtain ⟨a1, vs, rfl, _⟩ := (hd ▸ r1 : Rt l.K F2 H2 v (.list ds)).lst
    obtain ⟨b1, ws, rfl, _⟩ := (hd' ▸ r2 : Rt l.K F2 H2 w (.list ds')).lst
    obtain ⟨⟨vs, ws, s1, s2⟩, _⟩ := (jat_zip r1 r2 i1 i2).1 a1 b1 ds ds' rfl rfl hd hd'
    refine ⟨a1, b1, vs, ws, rfl, .inl ⟨s1, s2, h5 F2 H2 (Po.refl p2.rel) _ fun Dx hD σ' F' H' e' t ok => ?_⟩⟩
    have ok' : stands x d e' = true ∧ stands y d' e' = true := by rw [← Bool.and_eq_true]; exact ok
    exact ((jat_zip (l1 Dx hD σ' F' H' e' t ok'.1) (l2 Dx hD σ' F' H' e' t ok'.2) i1 i2).1 a1 b1 ds ds' rfl rfl hd hd').2
  · obtain ⟨a1, vs, rfl, _⟩ := (hd ▸ r1 : Rt l.K F2 H2 v (.tuple ds)).tup
    obtain ⟨b1, ws, rfl, _⟩ := (hd' ▸ r2 : Rt l.K F2 H2 w (.tuple ds')).tup
    obtain ⟨⟨vs, ws, s1, s2⟩, _⟩ := (jat_zip r1 r2 i1 i2).2 a1 b1 ds ds' rfl rfl hd hd'
    refine ⟨a1, b1, vs, ws, rfl, .inr ⟨s1, s2, h5 F2 H2 (Po.refl p2.rel) _ fun Dx hD σ' F' H' e' t ok => ?_⟩⟩
    have ok' : stands x d e' = true ∧ stands y d' e' = true := by rw [← Bool.and_eq_true]; exact ok
    exact ((jat_zip (l1 Dx hD σ' F' H' e' t ok'.1) (l2 Dx hD σ' F' H' e' t ok'.2) i1 i2).2 a1 b1 ds ds' rfl rfl hd hd').2
theorem enum_items {d : D} {xs : List D} (h : enumOf d = some xs) : ∃ ds, (d = .list ds ∨ d = .tuple ds) ∧ xs = enumD ds := by
  cases d <;> first | (cases h; done) | skip
  · cases h; exact ⟨_, .inl rfl, rfl⟩
  · cases h; exact ⟨_, .inr rfl, rfl⟩
theorem pi_enma {a : E} {y : Expr} {p pos tpos : Pos} {elts : List Expr} {kk : Nat} (c : Cc X n sc l k W) (hg : gl sc "enumerate" = true) (hs : isStar y = false) (ha : PE X y (Tx l W a)) : PI X (.Tuple elts kk tpos) (.Call (.Name "enumerate" p) [y] [] pos) (Ti l W (.enm a)) := by
  refine pi_imp (pi_enumA (c.gl hg).1 (c.blt _ (by decide)) (pa_cons ha pa_nil (not_star hs [])) (not_star hs [])) ?_
  rintro σ H R ⟨e, F, er, h⟩
  refine ⟨e, F, er, (h.bind er).mono fun x F1 H1 e1 p1 h1 v rv => ?_⟩
  obtain ⟨d, q, h2⟩ := h1.rd
  obtain ⟨xs, q2, h3⟩ := h2.liftB
  obtain ⟨ds, rfl | rfl, rfl⟩ := enum_items q2
  rotate_left
  · obtain ⟨a1, vs, rfl, _⟩ := (rv.read p1.rel q).tup
    obtain ⟨⟨vs, s1⟩, _⟩ := jat_enumT (rv.read p1.rel q) rfl a1 ds rfl rfl
    rw [← c.K]
    exact ⟨a1, vs, rfl, .inr ⟨s1, h3 F1 H1 (Po.refl p1.rel) _ fun Dx hD σ' F' H' e' t ok => (jat_enumT (Rt.later p1.rel rv q hD t (fun i hi => by rw [hi]; simp) ok) rfl a1 ds rfl rfl).2⟩⟩
  obtain ⟨a1, vs, rfl, _⟩ := (rv.read p1.rel q).lst
  obtain ⟨⟨vs, s1⟩, _⟩ := jat_enum (rv.read p1.rel q) rfl a1 ds rfl rfl
  rw [← c.K]
  exact ⟨a1, vs, rfl, .inl ⟨s1, h3 F1 H1 (Po.refl p1.rel) _ fun Dx hD σ' F' H' e' t ok => (jat_enum (Rt.later p1.rel rv q hD t (fun i hi => by rw [hi]; simp) ok) rfl a1 ds rfl rfl).2⟩⟩
theorem pe_isia {t : Ty} {a : E} {y : Expr} {p p2 pos : Pos} (c : Cc X n sc l k W) (hg : gl sc "isinstance" = true) (hz : gl sc t.nm = true) (hs : isStar y = false) (ha : PE X y (Tx l W a)) : PE X (.Call (.Name "isinstance" p) [y, .Name t.nm p2] [] pos) (Tx l W (.isi t a)) := by
  obtain ⟨g, hd, hn⟩ := c.gl hg
  obtain ⟨g2, hd2, hn2⟩ := c.gl hz
  have hb : PE X (.Name t.nm p2) (tC (.ty t.name)) := by
    refine pe_bltn g2 (c.blt _ ?_) (u := .type t.name) ?_ rfl hn2 hd2
    · cases t <;> decide
    · cases t <;> decide +kernel
  refine pe_imp (pe_callB (c_isi t) g (c.blt _ (by decide)) (by decide +kernel) (pa_cons ha (pa_cons hb pa_nil) (not_star hs _)) hn hd (not_star hs _) rfl) ?_
  rintro σ H Q ⟨e, F, er, h⟩
  refine (one er h).mono ?_
  rintro v H1 ⟨e1, F1, d, r, L⟩
  rw [← c.K]
  exact ⟨F1, v, d, rfl, r, L.val (.bl _)⟩
theorem own_snd (n : Nm) (own : List Nat) : (ownN n own).map (·.2) = own := by
  unfold ownN
  rw [List.map_map]
  exact List.map_id _

/-! ### comprehensions -/
theorem fz_ok {r : EV} {d : D} {e e' : En} (h : fz r e = .ok d e') : frz e r = some (d, e') := by
  unfold fz at h
  split at h
  · next d' e1 q => cases h; exact q
  · cases h
/-- one more item is put behind -/
theorem el_more {own ow : List Nat} {F1 F2 : Addr → Prop} {H1 H2 : Hp} {e1 e2 e3 : En} {D : Addr} {acc dn : List Zv.D} {el : E} {σ2 : St} {Nx : Hp → Prop} (er1 : Er l.K F1 H1 σ e1) (hD : H1 D = none) (hw : L2.wipe σ2 own = L2.wipe σ own) (er2 : Er l.K F2 H2 σ2 e2) (a : Acc l.K own σ F1 H1 e1 D acc F2 H2 e2) (nown : NoOwn e2 own)
    (run : M.bind (ev l.G l.cl el) (fun r => M.bind (fz r) fun d => M.pure [d]) e2 = .ok dn e3) (hl : acc.length + dn.length ≤ line)
    (hN : ∀ F' H', Acc l.K own σ F1 H1 e1 D (acc ++ dn) F' H' e3 → Pq l.K D own ow σ2 F2 H2 e2 F' H' e3 → Nx H') :
    Tx l W0 el σ2 H2 fun y H4 => ∃ acc, H4 D = some (.lst acc) ∧ acc.length < sizeLine ∧ Nx (upd H4 D (.lst (acc ++ [y]))) := by
  obtain ⟨r, e2', r1, run⟩ := R.bind_ok run
  obtain ⟨d, e3', r2, run⟩ := R.bind_ok run
  cases run
  refine ⟨e2, F2, er2, wp_of r1 fun F' H' p v rv => ?_⟩
  obtain ⟨F'', pf, rp, _⟩ := Rv.fz (x := true) (B := More Non H2) p.rel rv (fun a z => .inr z) (fz_ok r2)
  have pp := p.trans er2 pf
  obtain ⟨a3, n3⟩ := a.step er1 hw nown pp
  obtain ⟨vs, h1, h2, h3⟩ := a3.push hD rp
  refine ⟨vs, h1, ?_, hN F'' _ h3 (Pd.pq (Pd.write pp.pd a3.nf fun z => a3.no ?_) n3)⟩
  · rw [h2, ← line_eq]
    simp only [List.length_cons, List.length_nil] at hl
    omega
  · have := Own.to_wipe n3 z
    rwa [hw] at this
theorem lst_ok {own : List Nat} {x : M (List D)} {Q0 : EV → (Addr → Prop) → Hp → En → Prop} (h : Wp l W B σ F H e (lstM own x e) Q0) : ∃ ds eE, x e = .ok ds eE ∧ ds.length ≤ line ∧ ∀ F' H', Po l.K true B F H σ e F' H' σ (mergeE e eE own) → Q0 (.fr (.list ds)) F' H' (mergeE e eE own) := by
  unfold lstM at h
  cases q : x e with
  | ok ds e' =>
    simp only [q] at h
    split at h
    · next hl => exact ⟨ds, e', rfl, hl, h⟩
    · exact h.elim
  | ex _ _ => simp only [q] at h; exact h.elim
  | no => simp only [q] at h; exact h.elim
theorem lc_end {own : List Nat} {F1 : Addr → Prop} {H1 : Hp} {e1 eE : En} {D : Addr} {ds : List Zv.D} {F' : Addr → Prop} {H' : Hp} (er1 : Er l.K F1 H1 σ e1) (hf : ∀ a, Fre H1 a → Fre H a) (hD : H1 D = none) (a : Acc l.K own σ F1 H1 e1 D ds F' H' eE)
    (hQ : ∀ F' H', Po l.K true (More Non H) F1 H1 σ e1 F' H' σ (mergeE e1 eE own) → ∀ v, Rv l.K (Fre H) F' H' σ (mergeE e1 eE own) v (.fr (.list ds)) → Q v H') : Q (.ref D) H' := by
  have pm := Po.merge er1 a.po
  obtain ⟨vs, h1, h2⟩ := a.here
  refine hQ F' H' (pm.wide fun _ z => z.elim) _ (Rv.fr (o := .lst ds) (hf _ hD) a.nf (fun z => ?_) (.lst h1 h2))
  obtain ⟨i, b, o, z1, z2⟩ := z
  rcases pm.own i b o z1 with ⟨o', z3, _⟩ | ⟨z3, _⟩
  · exact er1.od ⟨i, b, o', z3, z2⟩ hD
  · cases z3
theorem at_init {own : List Nat} {F1 : Addr → Prop} {H1 : Hp} {e1 : En} {D : Addr} (er1 : Er l.K F1 H1 σ e1) (hD : H1 D = none) : At l.K own own σ F1 H1 e1 D σ F1 H1 e1 [] F1 (upd H1 D (.lst [])) e1 :=
  ⟨Acc.init er1 hD, fun i hi b o h => wipeE_in hi h, (Po.made (x := true) (B := Non) (er1.wipe own) hD).rel, fun _ h => h, fun a o c h _ => by rw [upd_ne c]; exact h, fun _ h => h.of_wipe⟩
theorem lc_tx {own : List Nat} {el : E} {t : Tg} {it : Zv.It} {ifs : Es} (ht : ∀ j ∈ tgS t, j ∈ own) (h : Tx l W (.lc own el t it ifs) σ H Q) : tLc (Ti l W it) (Gt l t) (Tif l W0 ifs) (Tx l W0 el) own σ H Q := by
  obtain ⟨e, F, er, h⟩ := h
  rw [ev] at h
  refine ⟨e, F, er, (h.bind er).mono fun s F1 H1 e1 p1 h1 J hJ D hD => ?_⟩
  obtain ⟨ds, eE, run, hl, hQ⟩ := lst_ok h1
  have er1 := p1.rel
  refine lc_turns (MO := fun σ2 H3 Nx => Tx l W0 el σ2 H3 fun y H4 => ∃ acc, H4 D = some (.lst acc) ∧ acc.length < sizeLine ∧ Nx (upd H4 D (.lst (acc ++ [y])))) er1 hD ⟨fun z => er1.fok D z hD, .inl hD⟩ rfl (fun _ h => h) ht hJ
    (fun acc σ2 F2 H2 e2 dn e3 Nx hw er2 a nown run hl hN => el_more er1 hD hw er2 a nown run hl hN) (at_init er1 hD) run (by simpa using hl) fun F' H' A => ?_
  exact lc_end er1 p1.free hD A.acc hQ
theorem lc2_tx {own own1 : List Nat} {el : E} {t t1 : Tg} {it it1 : Zv.It} {ifs ifs1 : Es} (ht : ∀ j ∈ tgS t, j ∈ own) (ht1 : ∀ j ∈ tgS t1, j ∈ own1) (hs : ∀ j ∈ own1, j ∈ own) (h : Tx l W (.lc2 own own1 el t it ifs t1 it1 ifs1) σ H Q) :
    tLc2 (Ti l W it) (Gt l t) (Tif l W0 ifs) (Ti l W0 it1) (Gt l t1) (Tif l W0 ifs1) (Tx l W0 el) own own1 σ H Q := by
  obtain ⟨e, F, er, h⟩ := h
  rw [ev] at h
  refine ⟨e, F, er, (h.bind er).mono fun s F1 H1 e1 p1 h1 J hJ D hD => ?_⟩
  obtain ⟨ds, eE, run, hl, hQ⟩ := lst_ok h1
  have er1 := p1.rel
  refine lc_turns (MO := fun σ2 H3 Nx => Ti l W0 it1 σ2 H3 fun J1 H4 => ∃ W1 : Nat → Nat → Hp → Prop, (∃ m, W1 0 m H4) ∧ ∀ j k H, W1 j k H →
      (J1.stop j H ∧ Nx H) ∨ (J1.go j H ∧ ∃ Nx1 : Hp → Prop, (∀ H', Nx1 H' → ∃ k', k' < k ∧ W1 (j + 1) k' H') ∧ ∀ x H', J1.yld j H x H' → Gt l t1 x (L2.wipe σ2 own1) H' fun σ3 H5 => L2.wipe σ3 own1 = L2.wipe σ2 own1 ∧ Tif l W0 ifs1 σ3 H5 fun b H6 =>
        if b = true then Tx l W0 el σ3 H6 fun y H7 => ∃ acc, H7 D = some (.lst acc) ∧ acc.length < sizeLine ∧ Nx1 (upd H7 D (.lst (acc ++ [y]))) else Nx1 H6)) er1 hD ⟨fun z => er1.fok D z hD, .inl hD⟩ rfl (fun _ h => h) ht hJ
    (fun acc σ2 F2 H2 e2 dn e3 Nx hw er2 a nown run hl hN => ?_) (at_init er1 hD) run (by simpa using hl) fun F' H' A => lc_end er1 p1.free hD A.acc hQ
  obtain ⟨s1, e2', r1, run⟩ := R.bind_ok run
  refine ⟨e2, F2, er2, wp_of r1 fun F' H' p J1 hJ1 => ?_⟩
  obtain ⟨a3, n3⟩ := a.step er1 hw nown p
  have hH2 : H2 D ≠ none := by obtain ⟨vs, h, _⟩ := a.here; rw [h]; simp
  refine lc_turns (MO := fun σ3 H6 Nx1 => Tx l W0 el σ3 H6 fun y H7 => ∃ acc, H7 D = some (.lst acc) ∧ acc.length < sizeLine ∧ Nx1 (upd H7 D (.lst (acc ++ [y])))) er1 hD ⟨a3.nf, .inr hH2⟩ hw hs ht1 hJ1
    (fun acc σ2 F2 H2 e2 dn e3 Nx hw er2 a nown run hl hN => el_more er1 hD hw er2 a nown run hl hN) (⟨a3, fun i hi b o h => n3 i hi b o (wipeE_sl h).2, p.rel.wipe own1, fun _ h => h, fun _ _ _ h _ => h, fun _ h => h.of_wipe⟩ : At l.K own own1 σ F1 H1 e1 D σ2 F' H' e2' acc F' H' e2') run hl fun F'' H'' A => ?_
  have w1 : L2.wipe (L2.wipe σ2 own1) own = L2.wipe σ2 own := wipe_ext (by rw [wipe_length]) fun j hj => wipe_out fun z => hj (hs j z)
  have w2 : wipeE (wipeE e3 own1) own = wipeE e3 own := wipeE_ext (by rw [wipeE_len]) fun j hj => wipeE_out fun z => hj (hs j z)
  refine hN F'' H'' A.acc ⟨fun i hi b o h => wipeE_in hi h, ?_, fun a h => A.inc a (p.inc a h), fun a o c h nn => A.keep a o c (p.keep a o h nn) fun z => ?_, fun a h => ?_⟩
  · have := A.er.wipe own
    rwa [w1, w2] at this
  · rcases p.own' z with z | z
    · exact nn z
    · rw [h] at z; cases z
  · have h2 : Own (L2.wipe (L2.wipe σ2 own1) own) (wipeE (wipeE e3 own1) own) a := by rw [w1, w2]; exact h
    exact (Po.pd (D := D) p).own a (A.sub a h2.of_wipe)
end
end Zv

set_option Elab.async false
set_option autoImplicit false
set_option linter.all false
set_option maxRecDepth 100000
namespace Zv
open PySem PySem.Spec L2
open PyProof.Rows hiding St
/-! ### all expressions -/
theorem opt_ok {n : Nm} {sc : Scope} {c : Eo} {o : Option Expr} (h : ckO n sc c o = true) : (c = .none ∧ o = none) ∨ ∃ a x, c = .some a ∧ o = some x ∧ ck n sc a x = true := by
  cases c <;> cases o <;> first | (cases h; done) | skip
  · exact .inl ⟨rfl, rfl⟩
  · exact .inr ⟨_, _, rfl, rfl, h⟩
theorem pts_imp {X : Cx} {ifs : List Expr} {t t' : TT} (h : PTs X ifs t) (m : ∀ σ H Q, t' σ H Q → t σ H Q) : PTs X ifs t' := ⟨fun pins s σ H Q I q => h.run pins s σ H Q I (m σ H Q q)⟩
theorem all_in {a b : List Nat} (h : a.all b.contains = true) : ∀ j ∈ a, j ∈ b := fun j hj => by
  have := List.all_eq_true.mp h j hj
  simpa using this
theorem pe_no {X : Cx} {e : Expr} {t : TE} (h : ∀ σ H Q, t σ H Q → False) : PE X e t := ⟨fun _ _ σ H Q _ q => (h σ H Q q).elim⟩
theorem pt_no {X : Cx} {e : Expr} {t : TT} (h : ∀ σ H Q, t σ H Q → False) : PT X e t := ⟨fun _ _ σ H Q _ q => (h σ H Q q).elim⟩
theorem tup_tg {n : Nm} {sc : Scope} {t : Tg} {tg : Expr} (h : isTupT t = true) (ht : ckT n sc t tg = true) : ∃ elts kk tpos, tg = .Tuple elts kk tpos := by
  cases t <;> first | (cases h; done) | skip
  cases tg <;> first | (cases ht; done) | skip
  exact ⟨_, _, _, rfl⟩
theorem it_folded {n : Nm} {sc : Scope} {tup : Bool} {it : Zv.It} {y : Expr} (h : ckIt n sc tup it y = true) (env : Env) : ∀ x, foldedSetIterable y env x = pure x := fun x => by
  cases it with
  | sq a => exact not_folded (ck_plain (show ck n sc a y = true from h)).2.2 env x
  | _ => cases y <;> first | rfl | cases h
theorem evIf_one {G : List D} {cl : Cl} {a : E} {e : En} : evIf G cl (.cons a .nil) e = testOf (ev G cl a) e := by
  rw [evIf]
  unfold testOf
  congr 1
  funext x
  congr 1
  funext d
  funext e1
  cases q : truth d with
  | none => rw [bind_no (lift_no rfl), lift_no rfl]
  | some t =>
    rw [bind_at (lift_at rfl), lift_at rfl]
    cases t <;> rfl
section
variable {n : Nm} {sc : Scope} {e : Expr}
theorem ck_bin {o : Bop} {a b : E} (h : ck n sc (.bin o a b) e = true) : ∃ x y pos, e = .BinOp x o.op y pos ∧ ck n sc a x = true ∧ ck n sc b y = true := by
  cases e <;> first | (cases h; done) | skip
  simp only [ck, Bool.and_eq_true, decide_eq_true_eq] at h
  obtain ⟨⟨rfl, h1⟩, h2⟩ := h
  exact ⟨_, _, _, rfl, h1, h2⟩
theorem ck_neg {a : E} (h : ck n sc (.neg a) e = true) : ∃ x pos, e = .UnaryOp .USub x pos ∧ ck n sc a x = true := by
  cases e <;> first | (cases h; done) | skip
  rename_i op x pos
  cases op <;> first | (cases h; done) | skip
  exact ⟨_, _, rfl, h⟩
theorem ck_inv {a : E} (h : ck n sc (.inv a) e = true) : ∃ x pos, e = .UnaryOp .Invert x pos ∧ ck n sc a x = true := by
  cases e <;> first | (cases h; done) | skip
  rename_i op x pos
  cases op <;> first | (cases h; done) | skip
  exact ⟨_, _, rfl, h⟩
theorem ck_nt {a : E} (h : ck n sc (.nt a) e = true) : ∃ x pos, e = .UnaryOp .Not x pos ∧ ck n sc a x = true := by
  cases e <;> first | (cases h; done) | skip
  rename_i op x pos
  cases op <;> first | (cases h; done) | skip
  exact ⟨_, _, rfl, h⟩
theorem ck_cmp {o : Cop} {a b : E} (h : ck n sc (.cmp o a b) e = true) : ∃ x y pos, e = .Compare x [o.op] [y] pos ∧ ck n sc a x = true ∧ ck n sc b y = true := by
  cases e <;> first | (cases h; done) | skip
  rename_i x ops ys pos
  rcases ops with _ | ⟨p, _ | ⟨q, ops⟩⟩ <;> rcases ys with _ | ⟨y, _ | ⟨z, ys⟩⟩ <;> first | (cases h; done) | skip
  simp only [ck, Bool.and_eq_true, decide_eq_true_eq] at h
  obtain ⟨⟨rfl, h1⟩, h2⟩ := h
  exact ⟨_, _, _, rfl, h1, h2⟩
theorem ck_chain {o p : Cop} {a b c : E} (h : ck n sc (.chain o p a b c) e = true) : ∃ x y z pos, e = .Compare x [o.op, p.op] [y, z] pos ∧ ck n sc a x = true ∧ ck n sc b y = true ∧ ck n sc c z = true := by
  cases e <;> first | (cases h; done) | skip
  rename_i x ops ys pos
  rcases ops with _ | ⟨p, _ | ⟨q, _ | ⟨r, ops⟩⟩⟩ <;> rcases ys with _ | ⟨y, _ | ⟨z, _ | ⟨u, ys⟩⟩⟩ <;> first | (cases h; done) | skip
  simp only [ck, Bool.and_eq_true, decide_eq_true_eq] at h
  obtain ⟨⟨⟨⟨rfl, rfl⟩, h1⟩, h2⟩, h3⟩ := h
  exact ⟨_, _, _, _, rfl, h1, h2, h3⟩
theorem ck_an {es : Es} (h : ck n sc (.an es) e = true) : ∃ xs pos, e = .BoolOp .And xs pos ∧ ckL n sc es xs = true := by
  cases e <;> first | (cases h; done) | skip
  rename_i op xs pos
  cases op <;> first | (cases h; done) | skip
  exact ⟨_, _, rfl, h⟩
theorem ck_orr {es : Es} (h : ck n sc (.orr es) e = true) : ∃ xs pos, e = .BoolOp .Or xs pos ∧ ckL n sc es xs = true := by
  cases e <;> first | (cases h; done) | skip
  rename_i op xs pos
  cases op <;> first | (cases h; done) | skip
  exact ⟨_, _, rfl, h⟩
theorem ck_ife {c a b : E} (h : ck n sc (.ife c a b) e = true) : ∃ u x y pos, e = .IfExp u x y pos ∧ ck n sc c u = true ∧ ck n sc a x = true ∧ ck n sc b y = true := by
  cases e <;> first | (cases h; done) | skip
  simp only [ck, Bool.and_eq_true] at h
  exact ⟨_, _, _, _, rfl, h.1.1, h.1.2, h.2⟩
theorem ck_tup {es : Es} (h : ck n sc (.tup es) e = true) : ∃ xs j pos, e = .Tuple xs j pos ∧ ckL n sc es xs = true ∧ xs.length ≤ 1000 := by
  cases e <;> first | (cases h; done) | skip
  simp only [ck, Bool.and_eq_true, decide_eq_true_eq] at h
  exact ⟨_, _, _, rfl, h.1, h.2⟩
theorem ck_lst {es : Es} (h : ck n sc (.lst es) e = true) : ∃ xs pos, e = .List xs pos ∧ ckL n sc es xs = true ∧ xs.length ≤ 1000 := by
  cases e <;> first | (cases h; done) | skip
  simp only [ck, Bool.and_eq_true, decide_eq_true_eq] at h
  exact ⟨_, _, rfl, h.1, h.2⟩
theorem ck_idx {a i : E} (h : ck n sc (.idx a i) e = true) : ∃ x y pos, e = .Subscript x y pos ∧ isSlice y = false ∧ ck n sc a x = true ∧ ck n sc i y = true := by
  cases e <;> first | (cases h; done) | skip
  simp only [ck, Bool.and_eq_true, Bool.not_eq_true'] at h
  exact ⟨_, _, _, rfl, h.1.1, h.1.2, h.2⟩
theorem ck_cut {a : E} {lo hi : Eo} (h : ck n sc (.cut a lo hi) e = true) : ∃ x u v p2 pos, e = .Subscript x (.Slice u v none p2) pos ∧ ck n sc a x = true ∧ ckO n sc lo u = true ∧ ckO n sc hi v = true := by
  cases e <;> first | (cases h; done) | skip
  rename_i x y pos
  cases y <;> first | (cases h; done) | skip
  rename_i u v w p2
  cases w <;> first | (cases h; done) | skip
  simp only [ck, Bool.and_eq_true] at h
  exact ⟨_, _, _, _, _, rfl, h.1.1, h.1.2, h.2⟩
theorem ck_call {f : Nat} {as : Es} (h : ck n sc (.call f as) e = true) : ∃ x p xs pos, e = .Call (.Name x p) xs [] pos ∧ n.fnm[f]? = some x ∧ gl sc x = true ∧ ckL n sc as xs = true := by
  cases e <;> first | (cases h; done) | skip
  rename_i g xs kw pos
  cases g <;> first | (cases h; done) | skip
  cases kw <;> first | (cases h; done) | skip
  simp only [ck, Bool.and_eq_true, decide_eq_true_eq] at h
  exact ⟨_, _, _, _, rfl, h.1.1, h.1.2, h.2⟩
theorem ck_rev {a : E} (h : ck n sc (.rev a) e = true) : ∃ x k0 p1 p2 p3 pos, e = .Subscript x (.Slice none none (some (.UnaryOp .USub (.Constant (.int 1) k0 p1) p2)) p3) pos ∧ ck n sc a x = true := by
  unfold ck at h
  split at h <;> first | (cases h; done) | skip
  all_goals (first | exact ⟨_, _, _, _, _, _, rfl, h⟩ | (rename_i q; cases q; exact ⟨_, _, _, _, _, _, rfl, h⟩) | simp_all)
theorem ck_p1 {P : P1} {a : E} (h : ck n sc (.p1 P a) e = true) : (∃ x p y pos, e = .Call (.Name x p) [y] [] pos ∧ P.nm = some x ∧ gl sc x = true ∧ ck n sc a y = true) ∨
    ∃ x p p2 y q pos, e = .Call (.Name x p) [.Call (.Name "set" p2) [y] [] q] [] pos ∧ P.nm2 = some x ∧ gl sc x = true ∧ gl sc "set" = true ∧ ck n sc a y = true := by
  cases e <;> first | (cases h; done) | skip
  rename_i g xs kw pos
  cases g <;> first | (cases h; done) | skip
  rcases xs with _ | ⟨y, _ | ⟨z, xs⟩⟩ <;> cases kw <;> first | (cases h; done) | skip
  simp only [ck, Bool.or_eq_true] at h
  rcases h with h | h
  · simp only [Bool.and_eq_true, decide_eq_true_eq] at h
    exact .inl ⟨_, _, _, _, rfl, h.1.1, h.1.2, h.2⟩
  · split at h
    · simp only [Bool.and_eq_true, decide_eq_true_eq] at h
      obtain ⟨⟨⟨⟨h1, h2⟩, rfl⟩, h3⟩, h4⟩ := h
      exact .inr ⟨_, _, _, _, _, _, rfl, h1, h2, h3, h4⟩
    · cases h
theorem ck_isi {t : Ty} {a : E} (h : ck n sc (.isi t a) e = true) : ∃ p y p2 pos, e = .Call (.Name "isinstance" p) [y, .Name t.nm p2] [] pos ∧ gl sc "isinstance" = true ∧ gl sc t.nm = true ∧ ck n sc a y = true := by
  cases e <;> first | (cases h; done) | skip
  rename_i g xs kw pos
  cases g <;> first | (cases h; done) | skip
  rcases xs with _ | ⟨y, _ | ⟨z, _ | ⟨u, xs⟩⟩⟩ <;> cases kw <;> first | (cases h; done) | (cases z <;> first | (cases h; done) | skip)
  simp only [ck, Bool.and_eq_true, decide_eq_true_eq] at h
  obtain ⟨⟨⟨⟨rfl, h1⟩, rfl⟩, h2⟩, h3⟩ := h
  exact ⟨_, _, _, _, rfl, h1, h2, h3⟩
theorem ck_splt {a b : E} (h : ck n sc (.splt a b) e = true) : ∃ o ap y cp, e = .Call (.Attribute o "split" ap) [y] [] cp ∧ (ap.endLine == cp.line) = true ∧ isCall o = false ∧ ck n sc a o = true ∧ ck n sc b y = true := by
  cases e <;> first | (cases h; done) | skip
  rename_i g xs kw pos
  cases g <;> first | (cases h; done) | skip
  rcases xs with _ | ⟨y, _ | ⟨z, xs⟩⟩ <;> cases kw <;> first | (cases h; done) | skip
  simp only [ck, Bool.and_eq_true, decide_eq_true_eq, Bool.not_eq_true'] at h
  obtain ⟨⟨⟨⟨rfl, h1⟩, h2⟩, h3⟩, h4⟩ := h
  exact ⟨_, _, _, _, rfl, h1, h2, h3, h4⟩
theorem ck_pit {P : P1} {it : Zv.It} (h : ck n sc (.pit P it) e = true) : ∃ x p y pos, e = .Call (.Name x p) [y] [] pos ∧ P.rgNm = some x ∧ gl sc x = true ∧ isRg it = true ∧ ckIt n sc false it y = true := by
  cases e <;> first | (cases h; done) | skip
  rename_i g xs kw pos
  cases g <;> first | (cases h; done) | skip
  rcases xs with _ | ⟨y, _ | ⟨z, xs⟩⟩ <;> cases kw <;> first | (cases h; done) | skip
  simp only [ck, Bool.and_eq_true, decide_eq_true_eq] at h
  obtain ⟨⟨⟨h1, h2⟩, h3⟩, h4⟩ := h
  exact ⟨_, _, _, _, rfl, h1, h2, h3, h4⟩
theorem ckL_cons {a : E} {r : Es} {es : List Expr} (h : ckL n sc (.cons a r) es = true) : ∃ y ys, es = y :: ys ∧ ck n sc a y = true ∧ ckL n sc r ys = true := by
  cases es <;> first | (cases h; done) | skip
  simp only [ckL, Bool.and_eq_true] at h
  exact ⟨_, _, rfl, h.1, h.2⟩
theorem ckL_nil {es : List Expr} (h : ckL n sc .nil es = true) : es = [] := by
  cases es <;> first | (cases h; done) | rfl
variable {tup : Bool}
theorem ck_rg {a : E} (h : ckIt n sc tup (.rg a) e = true) : ∃ p y pos, e = .Call (.Name "range" p) [y] [] pos ∧ gl sc "range" = true ∧ ck n sc a y = true := by
  cases e <;> first | (cases h; done) | skip
  rename_i g xs kw pos
  cases g <;> first | (cases h; done) | skip
  rcases xs with _ | ⟨y, _ | ⟨z, xs⟩⟩ <;> cases kw <;> first | (cases h; done) | skip
  simp only [ckIt, Bool.and_eq_true, decide_eq_true_eq] at h
  obtain ⟨⟨rfl, h1⟩, h2⟩ := h
  exact ⟨_, _, _, rfl, h1, h2⟩
theorem ck_rg2 {a b : E} (h : ckIt n sc tup (.rg2 a b) e = true) : ∃ p y z pos, e = .Call (.Name "range" p) [y, z] [] pos ∧ gl sc "range" = true ∧ ck n sc a y = true ∧ ck n sc b z = true := by
  cases e <;> first | (cases h; done) | skip
  rename_i g xs kw pos
  cases g <;> first | (cases h; done) | skip
  rcases xs with _ | ⟨y, _ | ⟨z, _ | ⟨u, xs⟩⟩⟩ <;> cases kw <;> first | (cases h; done) | skip
  simp only [ckIt, Bool.and_eq_true, decide_eq_true_eq] at h
  obtain ⟨⟨⟨rfl, h1⟩, h2⟩, h3⟩ := h
  exact ⟨_, _, _, _, rfl, h1, h2, h3⟩
theorem ck_zip {a b : E} (h : ckIt n sc tup (.zip a b) e = true) : ∃ p y z pos, e = .Call (.Name "zip" p) [y, z] [] pos ∧ tup = true ∧ gl sc "zip" = true ∧ ck n sc a y = true ∧ ck n sc b z = true := by
  cases e <;> first | (cases h; done) | skip
  rename_i g xs kw pos
  cases g <;> first | (cases h; done) | skip
  rcases xs with _ | ⟨y, _ | ⟨z, _ | ⟨u, xs⟩⟩⟩ <;> cases kw <;> first | (cases h; done) | skip
  simp only [ckIt, Bool.and_eq_true, decide_eq_true_eq] at h
  obtain ⟨⟨⟨⟨h0, rfl⟩, h1⟩, h2⟩, h3⟩ := h
  exact ⟨_, _, _, _, rfl, h0, h1, h2, h3⟩
theorem ck_enm {a : E} (h : ckIt n sc tup (.enm a) e = true) : ∃ p y pos, e = .Call (.Name "enumerate" p) [y] [] pos ∧ tup = true ∧ gl sc "enumerate" = true ∧ ck n sc a y = true := by
  cases e <;> first | (cases h; done) | skip
  rename_i g xs kw pos
  cases g <;> first | (cases h; done) | skip
  rcases xs with _ | ⟨y, _ | ⟨z, xs⟩⟩ <;> cases kw <;> first | (cases h; done) | skip
  simp only [ckIt, Bool.and_eq_true, decide_eq_true_eq] at h
  obtain ⟨⟨⟨h0, rfl⟩, h1⟩, h2⟩ := h
  exact ⟨_, _, _, rfl, h0, h1, h2⟩
theorem ck_lc {own : List Nat} {el : E} {t : Tg} {it : Zv.It} {ifs : Es} (h : ck n sc (.lc own el t it ifs) e = true) : ∃ x tg y fs scope pos, e = .ListComp x [⟨tg, y, fs, 0⟩] scope pos ∧
    blkC n.N sc scope (ownN n own) = true ∧ ckIt n sc (isTupT t) it y = true ∧ ckT n scope t tg = true ∧ (tgS t).all own.contains = true ∧ ckL n scope ifs fs = true ∧ fs.length ≤ 1 ∧ ck n scope el x = true := by
  cases e <;> first | (cases h; done) | skip
  rename_i x gs scope pos
  rcases gs with _ | ⟨⟨tg, y, fs, m⟩, _ | ⟨⟨tg1, y1, fs1, m1⟩, gs⟩⟩
  · cases h
  · by_cases hm : m = 0
    · subst hm
      simp only [ck, Bool.and_eq_true, decide_eq_true_eq] at h
      obtain ⟨⟨⟨⟨⟨⟨h1, h2⟩, h3⟩, h4⟩, h5⟩, h6⟩, h7⟩ := h
      exact ⟨_, _, _, _, _, _, rfl, h1, h2, h3, h4, h5, h6, h7⟩
    · unfold ck at h
      split at h <;> simp_all
  · unfold ck at h
    split at h <;> simp_all
theorem ck_lc2 {own own1 : List Nat} {el : E} {t t1 : Tg} {it it1 : Zv.It} {ifs ifs1 : Es} (h : ck n sc (.lc2 own own1 el t it ifs t1 it1 ifs1) e = true) : ∃ x tg y fs tg1 y1 fs1 scope pos, e = .ListComp x [⟨tg, y, fs, 0⟩, ⟨tg1, y1, fs1, 0⟩] scope pos ∧
    blkC n.N sc scope (ownN n own) = true ∧ ckIt n sc (isTupT t) it y = true ∧ ckT n scope t tg = true ∧ (tgS t).all own.contains = true ∧ ckL n scope ifs fs = true ∧ fs.length ≤ 1 ∧
    ckIt n scope (isTupT t1) it1 y1 = true ∧ ckT n scope t1 tg1 = true ∧ (tgS t1).all own1.contains = true ∧ own1.all own.contains = true ∧ ckL n scope ifs1 fs1 = true ∧ fs1.length ≤ 1 ∧ ck n scope el x = true := by
  cases e <;> first | (cases h; done) | skip
  rename_i x gs scope pos
  rcases gs with _ | ⟨⟨tg, y, fs, m⟩, _ | ⟨⟨tg1, y1, fs1, m1⟩, _ | ⟨g3, gs⟩⟩⟩
  · cases h
  · unfold ck at h
    split at h <;> simp_all
  · by_cases hm : m = 0
    · by_cases hm1 : m1 = 0
      · subst hm
        subst hm1
        simp only [ck, Bool.and_eq_true, decide_eq_true_eq] at h
        obtain ⟨⟨⟨⟨⟨⟨⟨⟨⟨⟨⟨⟨h1, h2⟩, h3⟩, h4⟩, h5⟩, h6⟩, g2⟩, g3⟩, g4⟩, g0⟩, g5⟩, g6⟩, h7⟩ := h
        exact ⟨_, _, _, _, _, _, _, _, _, rfl, h1, h2, h3, h4, h5, h6, g2, g3, g4, g0, g5, g6, h7⟩
      · unfold ck at h
        split at h <;> simp_all
    · unfold ck at h
      split at h <;> simp_all
  · unfold ck at h
    split at h <;> simp_all
end
section
variable {l : Lk} {W : WX} {X : Cx} {n : Nm} {sc : Scope} {k : Nat}
theorem base_plain {o : Expr} (h : isCall o = false) (m : Str) (env : Env) : attributeBase o m env (eval o env) = eval o env := by
  cases o <;> first | rfl | cases h
theorem strs_rpl {K : PySem.W.Frag} {F : Addr → Prop} {H : Hp} : ∀ xs : List Str, RpL K F H (xs.map V.str) (xs.map PyData.str)
  | [] => .nil
  | x :: r => .cons (.str x) (strs_rpl r)
theorem pe_splta {a b : E} {o y : Expr} {ap cp : Pos} (c : Cc X n sc l k W) (ho : isCall o = false) (hl : (ap.endLine == cp.line) = true) (hs : isStar y = false) (ha : PE X o (Tx l W a)) (hb : PE X y (Tx l W b)) : PE X (.Call (.Attribute o "split" ap) [y] [] cp) (Tx l W (.splt a b)) := by
  refine pe_imp (pe_bm PySem.F.plainAttrs_str PySem.F.slot_str_split PySem.F.type_str_split mt_split ha (pa_cons hb pa_nil (not_star hs [])) (base_plain ho _ _) (by rw [not_star hs]; rfl) hl (not_star hs []) rfl) ?_
  rintro σ H Q ⟨e, F, er, h⟩
  rw [ev] at h
  refine ⟨e, F, er, (h.bind er).mono fun x F1 H1 e1 p1 h1 v rv => ?_⟩
  obtain ⟨d, q, h2⟩ := h1.rd
  have r := rv.read p1.rel q
  cases d <;> first | (exact h2.elim) | skip
  rename_i z
  cases r.str
  refine ⟨rfl, e1, F1, p1.rel, ((h2.bind p1.rel).less fun _ z => z.elim).mono fun y F2 H2 e2 p2 h3 w rw_ => ?_⟩
  obtain ⟨d', q', h4⟩ := h3.rd
  have r' := rw_.read p2.rel q'
  obtain ⟨t, qt, h5⟩ := h4.lift
  cases d' <;> simp only [splD] at qt <;> first | (cases qt; done) | skip
  rename_i z'
  split at qt
  · next hc =>
    cases qt
    cases r'.str
    have L : Ls l W σ H Q F2 H2 e2 (.ok (.fr (.list ((Txt.split z z').map PyData.str))) e2) := ⟨p2.rel, fun a z => p1.free a (p2.free a z), _, fun a z => .inl (.inr z), h5⟩
    exact ⟨z, z', rfl, rfl, hc.1, by rw [← line_eq]; exact hc.2, fun p hp => L.lst (strs_rpl _) hp⟩
  · cases qt
theorem rg_rpl {K : PySem.W.Frag} {F : Addr → Prop} {H : Hp} (a : Int) : ∀ xs : List Nat, RpL K F H (xs.map fun i => V.int (a + (i : Nat))) (xs.map fun i => PyData.int (a + (i : Nat)))
  | [] => .nil
  | x :: r => .cons (.int _) (rg_rpl a r)
/-- how a run behind a range goes on -/
def RgQ (l : Lk) (W : WX) (P : P1) (σ : St) (H : Hp) (Q : VK) (lo hi : Int) (H2 : Hp) : Prop := ∃ F2 e2, (RgOk lo hi) ∧ ∃ r, p1 P (.list (rangeD lo (hi - lo).toNat)) = some r ∧ Ls l W σ H Q F2 H2 e2 (.ok r e2)
theorem rg_end {P : P1} {σ : St} {H : Hp} {Q : VK} {lo hi : Int} {F2 : Addr → Prop} {H2 : Hp} {e2 : En} (er2 : Er l.K F2 H2 σ e2) (fr : ∀ a, Fre H2 a → Fre H a) {B : Addr → Prop} (hB : ∀ a, Fre H a → B a) (b1 : inR lo = true) (b2 : inR hi = true)
    (h : Wp l W B σ F2 H2 e2 ((if (rangeD lo (hi - lo).toNat).length ≤ line then M.lift (p1 P (.list (rangeD lo (hi - lo).toNat))) else fun _ => .no) e2) fun r F' H' e' => ∀ v, Rv l.K (Fre H) F' H' σ e' v r → Q v H') : RgQ l W P σ H Q lo hi H2 := by
  by_cases hl : (rangeD lo (hi - lo).toNat).length ≤ line
  · rw [if_pos hl] at h
    obtain ⟨r, q, h2⟩ := h.lift
    obtain ⟨c1, c2⟩ := inR_of b1
    obtain ⟨c3, c4⟩ := inR_of b2
    refine ⟨F2, e2, ⟨c1, c2, c3, c4, ?_⟩, r, q, er2, fr, B, hB, h2⟩
    unfold rangeD at hl
    rw [List.length_map, List.length_range] at hl
    exact hl
  · rw [if_neg hl] at h
    exact h.elim
theorem rg_tx {P : P1} {a : E} {σ : St} {H : Hp} {Q : VK} (h : Tx l W (.pit P (.rg a)) σ H Q) : tRg1 (Tx l W a) σ H (RgQ l W P σ H Q) := by
  obtain ⟨e, F, er, h⟩ := h
  rw [ev, evIt, bind_assoc] at h
  refine ⟨e, F, er, (h.bind er).mono fun x F1 H1 e1 p1 h1 v rv => ?_⟩
  rw [bind_assoc] at h1
  obtain ⟨d, q, h2⟩ := h1.rd
  have r := rv.read p1.rel q
  cases d <;> first | (exact h2.elim) | skip
  rename_i i
  cases r.int
  dsimp only at h2
  cases hi : inR i with
  | false => rw [if_neg (by rw [hi]; decide)] at h2; exact h2.elim
  | true =>
    rw [if_pos hi] at h2
    refine ⟨i, rfl, rg_end (B := More Non H) p1.rel p1.free (fun a z => .inr z) (by decide) hi ?_⟩
    rw [Int.sub_zero]
    exact h2
theorem rg2_tx {P : P1} {a b : E} {σ : St} {H : Hp} {Q : VK} (h : Tx l W (.pit P (.rg2 a b)) σ H Q) : tRg2 (Tx l W a) (Tx l W b) σ H (RgQ l W P σ H Q) := by
  obtain ⟨e, F, er, h⟩ := h
  rw [ev, evIt, bind_assoc] at h
  refine ⟨e, F, er, (h.bind er).mono fun x F1 H1 e1 p1 h1 v rv => ?_⟩
  rw [bind_assoc] at h1
  refine ⟨e1, F1, p1.rel, ((h1.bind p1.rel).less fun _ z => z.elim).mono fun y F2 H2 e2 p2 h2 w rw_ => ?_⟩
  rw [bind_assoc] at h2
  obtain ⟨d, q, h3⟩ := h2.rd
  rw [bind_assoc] at h3
  obtain ⟨d', q', h4⟩ := h3.rd
  have r1 := (rv.mono p1.rel p2).read p2.rel q
  have r2 := rw_.read p2.rel q'
  cases d <;> first | (exact h4.elim) | skip
  cases d' <;> first | (exact h4.elim) | skip
  rename_i i j
  cases r1.int
  cases r2.int
  dsimp only at h4
  cases hi : inR i && inR j with
  | false => rw [if_neg (by rw [hi]; decide)] at h4; exact h4.elim
  | true =>
    rw [if_pos hi] at h4
    rw [Bool.and_eq_true] at hi
    exact ⟨i, j, rfl, rfl, rg_end (B := More (More Non H) H1) p2.rel (fun a z => p1.free a (p2.free a z)) (fun a z => .inl (.inr z)) hi.1 hi.2 h4⟩
theorem pe_rgs {P : P1} {it : Zv.It} {x : Str} {y : Expr} {p pos : Pos} {te : St → Hp → (Int → Int → Hp → Prop) → Prop} (c : Cc X n sc l k W) (hp : P.rgNm = some x) (hg : gl sc x = true) (hy : PRg X y te) (hs : isStar y = false)
    (ht : ∀ σ H Q, Tx l W (.pit P it) σ H Q → te σ H (RgQ l W P σ H Q)) (hm : ∀ σ H R R', te σ H R → (∀ a b H', R a b H' → R' a b H') → te σ H R') : PE X (.Call (.Name x p) [y] [] pos) (Tx l W (.pit P it)) := by
  cases P <;> simp only [P1.rgNm] at hp <;> first | (cases hp; done) | cases hp
  · refine pe_imp (pe_tupRg c.gx.calm (c.gl hg).1 (c.blt _ (by decide)) hy (not_star hs [])) fun σ H Q h => hm _ _ _ _ (ht _ _ _ h) ?_
    rintro lo hi H2 ⟨F2, e2, ok, r, q, L⟩
    cases q
    exact ⟨ok, fun p hp => L.tup (rg_rpl lo _) hp⟩
  · refine pe_imp (pe_listRg c.gx.calm (c.gl hg).1 (c.blt _ (by decide)) hy (not_star hs [])) fun σ H Q h => hm _ _ _ _ (ht _ _ _ h) ?_
    rintro lo hi H2 ⟨F2, e2, ok, r, q, L⟩
    cases q
    exact ⟨ok, fun p hp => L.lst (rg_rpl lo _) hp⟩
end
mutual
theorem pe_all {l : Lk} : ∀ (a : E) {X : Cx} {n : Nm} {sc : Scope} {k : Nat} {W : WX} (e : Expr), Cc X n sc l k W → ck n sc a e = true → PE X e (Tx l W a) ∧ PT X e (Tt l W a)
  | .nev, X, n, sc, k, W, e, c, h => ⟨pe_no (by intro σ H Q ⟨e, F, er, q⟩; rw [ev] at q; exact q), pt_no (by intro σ H Q ⟨e, F, er, q⟩; unfold testOf at q; rw [ev] at q; exact q)⟩
  | .k d, X, n, sc, k, W, e, c, h => ⟨pe_k c h, pt_any c (pe_k c h) (by cases e <;> first | rfl | cases h)⟩
  | .g j, X, n, sc, k, W, e, c, h => ⟨pe_g c h, pt_any c (pe_g c h) (by cases e <;> first | rfl | cases h)⟩
  | .v i, X, n, sc, k, W, e, c, h => ⟨pe_v c h, pt_any c (pe_v c h) (by cases e <;> first | rfl | cases h)⟩
  | .bin o a b, X, n, sc, k, W, e, c, h => by
    obtain ⟨x, y, pos, rfl, h1, h2⟩ := ck_bin h
    have P := pe_bina (o := o) (pos := pos) c (pe_all a x c h1).1 (pe_all b y c h2).1
    exact ⟨P, pt_any c P rfl⟩
  | .neg a, X, n, sc, k, W, e, c, h => by
    obtain ⟨x, pos, rfl, h⟩ := ck_neg h
    have P := pe_nega (pos := pos) (pe_all a x c h).1
    exact ⟨P, pt_any c P rfl⟩
  | .inv a, X, n, sc, k, W, e, c, h => by
    obtain ⟨x, pos, rfl, h⟩ := ck_inv h
    have P := pe_inva (pos := pos) (pe_all a x c h).1
    exact ⟨P, pt_any c P rfl⟩
  | .nt a, X, n, sc, k, W, e, c, h => by
    obtain ⟨x, pos, rfl, h⟩ := ck_nt h
    have P := pe_all a x c h
    exact ⟨pe_nta c P.1, pt_nta P.2⟩
  | .cmp o a b, X, n, sc, k, W, e, c, h => by
    obtain ⟨x, y, pos, rfl, h1, h2⟩ := ck_cmp h
    have P1 := (pe_all a x c h1).1
    have P2 := (pe_all b y c h2).1
    exact ⟨pe_cmpa c P1 P2 (ck_plain h2).2.2, pt_cmpa c P1 P2 (ck_plain h2).2.2⟩
  | .chain o p a b c', X, n, sc, k, W, e, c, h => by
    obtain ⟨x, y, z, pos, rfl, h1, h2, h3⟩ := ck_chain h
    have P1 := (pe_all a x c h1).1
    have P2 := (pe_all b y c h2).1
    have P3 := (pe_all c' z c h3).1
    exact ⟨pe_chaina c P1 P2 P3 (ck_plain h3).2.2, pt_chaina c P1 P2 P3 (ck_plain h3).2.2⟩
  | .an es, X, n, sc, k, W, e, c, h => by
    obtain ⟨xs, pos, rfl, h⟩ := ck_an h
    have P := pn_all es xs pos c h
    exact ⟨pe_imp P.1 fun σ H Q ⟨e, F, er, q⟩ => ⟨e, F, er, by rw [ev] at q; exact q⟩, pt_imp P.2.pt fun σ H Q ⟨e, F, er, q⟩ => ⟨e, F, er, by rw [ev] at q; exact q⟩⟩
  | .orr es, X, n, sc, k, W, e, c, h => by
    obtain ⟨xs, pos, rfl, h⟩ := ck_orr h
    have P := po_all es xs pos c h
    exact ⟨pe_imp P.1 fun σ H Q ⟨e, F, er, q⟩ => ⟨e, F, er, by rw [ev] at q; exact q⟩, pt_imp P.2.pt fun σ H Q ⟨e, F, er, q⟩ => ⟨e, F, er, by rw [ev] at q; exact q⟩⟩
  | .ife t a b, X, n, sc, k, W, e, c, h => by
    obtain ⟨u, x, y, pos, rfl, h0, h1, h2⟩ := ck_ife h
    have P0 := (pe_all t u c h0).2
    have P1 := pe_all a x c h1
    have P2 := pe_all b y c h2
    exact ⟨pe_ifea P0 P1.1 P2.1, pt_ifea P0 P1.2 P2.2⟩
  | .tup es, X, n, sc, k, W, e, c, h => by
    obtain ⟨xs, j, pos, rfl, h1, h2⟩ := ck_tup h
    have P := pe_tupa (j := j) (pos := pos) (pa_all es xs c h1) h2 (evs_len h1)
    exact ⟨P, pt_any c P rfl⟩
  | .lst es, X, n, sc, k, W, e, c, h => by
    obtain ⟨xs, pos, rfl, h1, h2⟩ := ck_lst h
    have P := pe_lsta (pos := pos) (pa_all es xs c h1) h2 (evs_len h1)
    exact ⟨P, pt_any c P rfl⟩
  | .idx a i, X, n, sc, k, W, e, c, h => by
    obtain ⟨x, y, pos, rfl, h0, h1, h2⟩ := ck_idx h
    have P := pe_idxa (pos := pos) c (pe_all a x c h1).1 (pe_all i y c h2).1 h0
    exact ⟨P, pt_any c P rfl⟩
  | .cut a lo hi, X, n, sc, k, W, e, c, h => by
    obtain ⟨x, u, v, p2, pos, rfl, h0, h1, h2⟩ := ck_cut h
    have P := pe_cuta (p2 := p2) (pos := pos) c (pe_all a x c h0).1 (pp_all lo u c h1) (pp_all hi v c h2)
    exact ⟨P, pt_any c P rfl⟩
  | .call f as, X, n, sc, k, W, e, c, h => by
    obtain ⟨x, p, xs, pos, rfl, h0, h1, h2⟩ := ck_call h
    have P := pe_calla (p := p) (pos := pos) c h0 h1 h2 (pa_all as xs c h2)
    exact ⟨P, pt_any c P rfl⟩
  | .rev a, X, n, sc, k, W, e, c, h => by
    obtain ⟨x, k0, p1, p2, p3, pos, rfl, h0⟩ := ck_rev h
    have P := pe_reva (k0 := k0) (p1 := p1) (p2 := p2) (p3 := p3) (pos := pos) c (pe_all a x c h0).1
    exact ⟨P, pt_any c P rfl⟩
  | .p1 P a, X, n, sc, k, W, e, c, h => by
    rcases ck_p1 h with ⟨x, p, y, pos, rfl, h0, h1, h2⟩ | ⟨x, p, p2, y, q, pos, rfl, h0, h1, h2, h3⟩
    · have P := pe_p1a (p := p) (pos := pos) c h0 h1 (ck_plain h2).2.1 (pe_all a y c h2).1
      exact ⟨P, pt_any c P rfl⟩
    · have P := pe_p1s (p := p) (p2 := p2) (q := q) (pos := pos) c h0 h1 h2 (ck_plain h3).2.1 (pe_all a y c h3).1
      exact ⟨P, pt_any c P rfl⟩
  | .pit P it, X, n, sc, k, W, e, c, h => by
    obtain ⟨x, p, y, pos, rfl, h0, h1, h2, h3⟩ := ck_pit h
    have Q : PE X (.Call (.Name x p) [y] [] pos) (Tx l W (.pit P it)) := by
      cases it with
      | rg a =>
        obtain ⟨p2, z, pos2, rfl, g1, g2⟩ := ck_rg h3
        exact pe_rgs c h0 h1 (prg_1 (c.gl g1).1 (c.blt _ (by decide)) (pe_all a z c g2).1 (not_star (ck_plain g2).2.1 [])) rfl (fun σ H Q => rg_tx) fun σ H R R' h m => Tx.mono h fun v H' ⟨n, e, q⟩ => ⟨n, e, m _ _ _ q⟩
      | rg2 a b =>
        obtain ⟨p2, z, z2, pos2, rfl, g1, g2, g3⟩ := ck_rg2 h3
        exact pe_rgs c h0 h1 (prg_2 (c.gl g1).1 (c.blt _ (by decide)) (pe_all a z c g2).1 (pe_all b z2 c g3).1 (not_star (ck_plain g2).2.1 [z2]) (not_star (ck_plain g3).2.1 []) (by rw [not_star (ck_plain g3).2.1]; rfl)) rfl (fun σ H Q => rg2_tx) fun σ H R R' h m => Tx.mono h fun v H' t => t.mono fun w H2 ⟨i, j, e1, e2, q⟩ => ⟨i, j, e1, e2, m _ _ _ q⟩
      | sq _ => cases h2
      | zip _ _ => cases h2
      | enm _ => cases h2
    exact ⟨Q, pt_any c Q rfl⟩
  | .splt a b, X, n, sc, k, W, e, c, h => by
    obtain ⟨o, ap, y, cp, rfl, h0, h1, h2, h3⟩ := ck_splt h
    have P := pe_splta c h1 h0 (ck_plain h3).2.1 (pe_all a o c h2).1 (pe_all b y c h3).1
    exact ⟨P, pt_any c P rfl⟩
  | .isi t a, X, n, sc, k, W, e, c, h => by
    obtain ⟨p, y, p2, pos, rfl, h1, h2, h3⟩ := ck_isi h
    have P := pe_isia (p := p) (p2 := p2) (pos := pos) c h1 h2 (ck_plain h3).2.1 (pe_all a y c h3).1
    exact ⟨P, pt_any c P rfl⟩
  | .lc own el t it ifs, X, n, sc, k, W, e, c, h => by
    obtain ⟨x, tg, y, fs, scope, pos, rfl, h1, h2, h3, h4, h5, h6, h7⟩ := ck_lc h
    have N : ∀ (s : Shared) (H : Hp) (C : Addr) (cl : List (Str × Addr)) (fp : List Addr), Cc (X.blk s H scope (compEnvC scope cl C X.env) fp) n scope l k (fun _ _ _ _ => False) := fun s H C cl fp => c.blk h1 s H C cl fp
    have P : PE X (.ListComp x [⟨tg, y, fs, 0⟩] scope pos) (Tx l W (.lc own el t it ifs)) := by
      refine pe_imp (pe_lc c.gx.calm (by rw [c.names]; exact c.nd) (pi_all it y tg t c h2 h3) (c.blkOk h1) (fun s H C cl fp => pg_all (N s H C cl fp) t tg h3) (fun s H C cl fp => pif_all ifs fs (N s H C cl fp) h5 h6) (fun s H C cl fp => (pe_all el x (N s H C cl fp) h7).1) (it_folded h2 X.env)) fun σ H Q q => ?_
      rw [own_snd]
      exact lc_tx (all_in h4) q
    exact ⟨P, pt_any c P rfl⟩
  | .lc2 own own1 el t it ifs t1 it1 ifs1, X, n, sc, k, W, e, c, h => by
    obtain ⟨x, tg, y, fs, tg1, y1, fs1, scope, pos, rfl, h1, h2, h3, h4, h5, h6, g2, g3, g4, g0, g5, g6, h7⟩ := ck_lc2 h
    have N : ∀ (s : Shared) (H : Hp) (C : Addr) (cl : List (Str × Addr)) (fp : List Addr), Cc (X.blk s H scope (compEnvC scope cl C X.env) fp) n scope l k (fun _ _ _ _ => False) := fun s H C cl fp => c.blk h1 s H C cl fp
    have P : PE X (.ListComp x [⟨tg, y, fs, 0⟩, ⟨tg1, y1, fs1, 0⟩] scope pos) (Tx l W (.lc2 own own1 el t it ifs t1 it1 ifs1)) := by
      refine pe_imp (pe_lc2 (vs1 := own1) c.gx.calm (by rw [c.names]; exact c.nd) (pi_all it y tg t c h2 h3) (c.blkOk h1) (by rw [own_snd]; exact all_in g0) (fun s H C cl fp => pg_all (N s H C cl fp) t tg h3) (fun s H C cl fp => pif_all ifs fs (N s H C cl fp) h5 h6)
        (fun s H C cl fp => pi_all it1 y1 tg1 t1 (N s H C cl fp) g2 g3) (fun s H C cl fp => pg_all (N s H C cl fp) t1 tg1 g3) (fun s H C cl fp => pif_all ifs1 fs1 (N s H C cl fp) g5 g6) (fun s H C cl fp => (pe_all el x (N s H C cl fp) h7).1) (it_folded h2 X.env) (fun env => it_folded g2 env)) fun σ H Q q => ?_
      rw [own_snd]
      exact lc2_tx (all_in h4) (all_in g4) (all_in g0) q
    exact ⟨P, pt_any c P rfl⟩
theorem pa_all {l : Lk} : ∀ (a : Es) {X : Cx} {n : Nm} {sc : Scope} {k : Nat} {W : WX} (es : List Expr), Cc X n sc l k W → ckL n sc a es = true → PA X es (Ta l W a)
  | .nil, X, n, sc, k, W, es, c, h => by
    obtain rfl := ckL_nil h
    exact pa_nila
  | .cons a r, X, n, sc, k, W, es, c, h => by
    obtain ⟨y, ys, rfl, h1, h2⟩ := ckL_cons h
    exact pa_consa (pe_all a y c h1).1 (pa_all r ys c h2) (ck_plain h1).2.1
theorem pn_all {l : Lk} : ∀ (a : Es) {X : Cx} {n : Nm} {sc : Scope} {k : Nat} {W : WX} (es : List Expr) (pos : Pos), Cc X n sc l k W → ckL n sc a es = true → PE X (.BoolOp .And es pos) (Tn l W a) ∧ PW X (.BoolOp .And es pos) (Ttn l W a)
  | .nil, X, n, sc, k, W, es, pos, c, h => ⟨pe_no (by intro σ H Q ⟨e, F, er, q⟩; rw [evAn] at q; exact q), ⟨fun _ _ _ _ _ _ _ q => by obtain ⟨e, F, er, q⟩ := q; unfold testOf at q; rw [evAn] at q; exact q.elim⟩⟩
  | .cons a .nil, X, n, sc, k, W, es, pos, c, h => by
    obtain ⟨y, ys, rfl, h1, h2⟩ := ckL_cons h
    obtain rfl := ckL_nil h2
    have P := pe_all a y c h1
    exact ⟨pe_one_an P.1, pw_one_an P.2⟩
  | .cons a (.cons b r), X, n, sc, k, W, es, pos, c, h => by
    obtain ⟨y, ys, rfl, h1, h2⟩ := ckL_cons h
    have h3 := pn_all (.cons b r) ys pos c h2
    have P := pe_all a y c h1
    obtain ⟨z, zs, rfl, _, _⟩ := ckL_cons h2
    exact ⟨pe_two_an c P.1 h3.1, pw_two_an P.2 h3.2⟩
theorem po_all {l : Lk} : ∀ (a : Es) {X : Cx} {n : Nm} {sc : Scope} {k : Nat} {W : WX} (es : List Expr) (pos : Pos), Cc X n sc l k W → ckL n sc a es = true → PE X (.BoolOp .Or es pos) (To l W a) ∧ PW X (.BoolOp .Or es pos) (Tto l W a)
  | .nil, X, n, sc, k, W, es, pos, c, h => ⟨pe_no (by intro σ H Q ⟨e, F, er, q⟩; rw [evOr] at q; exact q), ⟨fun _ _ _ _ _ _ _ q => by obtain ⟨e, F, er, q⟩ := q; unfold testOf at q; rw [evOr] at q; exact q.elim⟩⟩
  | .cons a .nil, X, n, sc, k, W, es, pos, c, h => by
    obtain ⟨y, ys, rfl, h1, h2⟩ := ckL_cons h
    obtain rfl := ckL_nil h2
    have P := pe_all a y c h1
    exact ⟨pe_one_or P.1, pw_one_or P.2⟩
  | .cons a (.cons b r), X, n, sc, k, W, es, pos, c, h => by
    obtain ⟨y, ys, rfl, h1, h2⟩ := ckL_cons h
    have h3 := po_all (.cons b r) ys pos c h2
    have P := pe_all a y c h1
    obtain ⟨z, zs, rfl, _, _⟩ := ckL_cons h2
    exact ⟨pe_two_or c P.1 h3.1, pw_two_or P.2 h3.2⟩
theorem pp_all {l : Lk} : ∀ (a : Eo) {X : Cx} {n : Nm} {sc : Scope} {k : Nat} {W : WX} (e : Option Expr), Cc X n sc l k W → ckO n sc a e = true → PO X e (Tpo l W a)
  | .none, X, n, sc, k, W, e, c, h => by
    cases e <;> first | (cases h; done) | exact po_nonea
  | .some a, X, n, sc, k, W, e, c, h => by
    cases e with
    | none => cases h
    | some x => exact po_somea (pe_all a x c h).1
theorem pif_all {l : Lk} : ∀ (a : Es) {X : Cx} {n : Nm} {sc : Scope} {k : Nat} {W : WX} (es : List Expr), Cc X n sc l k W → ckL n sc a es = true → es.length ≤ 1 → PTs X es (Tif l W a)
  | .nil, X, n, sc, k, W, es, c, h, _ => by
    obtain rfl := ckL_nil h
    exact pts_imp pts_nil fun σ H Q ⟨e, F, er, q⟩ => by rw [evIf] at q; exact q F H (Po.refl er)
  | .cons a .nil, X, n, sc, k, W, es, c, h, _ => by
    obtain ⟨y, ys, rfl, h1, h2⟩ := ckL_cons h
    obtain rfl := ckL_nil h2
    refine pts_imp (pts_one (pe_all a y c h1).2) fun σ H Q ⟨e, F, er, q⟩ => ⟨e, F, er, ?_⟩
    rw [evIf_one] at q
    exact q
  | .cons a (.cons b r), X, n, sc, k, W, es, c, h, hl => by
    obtain ⟨y, ys, rfl, h1, h2⟩ := ckL_cons h
    obtain ⟨z, zs, rfl, _, _⟩ := ckL_cons h2
    simp at hl
theorem pi_all {l : Lk} : ∀ (a : Zv.It) {X : Cx} {n : Nm} {sc sc2 : Scope} {k : Nat} {W : WX} (e tg : Expr) (t : Tg), Cc X n sc l k W → ckIt n sc (isTupT t) a e = true → ckT n sc2 t tg = true → PI X tg e (Ti l W a)
  | .sq a, X, n, sc, sc2, k, W, e, tg, t, c, h, _ => pi_sqa c (pe_all a e c h).1
  | .rg a, X, n, sc, sc2, k, W, e, tg, t, c, h, _ => by
    obtain ⟨p, y, pos, rfl, h1, h2⟩ := ck_rg h
    exact pi_rga c h1 (ck_plain h2).2.1 (pe_all a y c h2).1
  | .rg2 a b, X, n, sc, sc2, k, W, e, tg, t, c, h, _ => by
    obtain ⟨p, y, z, pos, rfl, h1, h2, h3⟩ := ck_rg2 h
    exact pi_rg2a c h1 (ck_plain h2).2.1 (ck_plain h3).2.1 (pe_all a y c h2).1 (pe_all b z c h3).1
  | .zip a b, X, n, sc, sc2, k, W, e, tg, t, c, h, ht => by
    obtain ⟨p, y, z, pos, rfl, h0, h1, h2, h3⟩ := ck_zip h
    obtain ⟨elts, kk, tpos, rfl⟩ := tup_tg h0 ht
    exact pi_zipa c h1 (ck_plain h2).2.1 (ck_plain h3).2.1 (pe_all a y c h2).1 (pe_all b z c h3).1
  | .enm a, X, n, sc, sc2, k, W, e, tg, t, c, h, ht => by
    obtain ⟨p, y, pos, rfl, h0, h1, h2⟩ := ck_enm h
    obtain ⟨elts, kk, tpos, rfl⟩ := tup_tg h0 ht
    exact pi_enma c h1 (ck_plain h2).2.1 (pe_all a y c h2).1
end
end Zv

set_option Elab.async false
set_option autoImplicit false
set_option linter.all false
set_option maxRecDepth 100000
/-! statements: the model's run by the evaluator -/
namespace Zv
open PySem PySem.Spec L2
open PyProof.Rows hiding St

/-- what is wanted behind a statement -/
structure Ec where
  nx : (Addr → Prop) → Hp → St → En → Prop
  bk : (Addr → Prop) → Hp → St → En → Prop
  ct : (Addr → Prop) → Hp → St → En → Prop
  rt : VK
/-- what holds of a statement's run; N: what was made within the def -/
def Sw (l : Lk) (W : WX) (N B : Addr → Prop) (σ : St) (F : Addr → Prop) (H : Hp) (e : En) (r : SR) (q : Ec) : Prop := match r with
  | .nx e' => ∀ F' H' σ', Po l.K false B F H σ e F' H' σ' e' → q.nx F' H' σ' e'
  | .bk e' => ∀ F' H' σ', Po l.K false B F H σ e F' H' σ' e' → q.bk F' H' σ' e'
  | .ct e' => ∀ F' H' σ', Po l.K false B F H σ e F' H' σ' e' → q.ct F' H' σ' e'
  | .rt d fr e' => ∀ F' H' σ' v, Po l.K false B F H σ e F' H' σ' e' → Rv l.K N F' H' σ' e' v (if fr then .fr d else .v d) → q.rt v H'
  | .ex x e' => ∀ F' H' σ' cls d, Po l.K false B F H σ e F' H' σ' e' → Xr l F' H' x cls d → W cls d σ' H'
  | .no => False
/-- own objects of a def were made within it -/
def Nw (N : Addr → Prop) (σ : St) (e : En) : Prop := ∀ i o a, Sl e i (.own false o) → Vl σ i (.ref a) → N a
section
variable {l : Lk} {W : WX} {σ σ' : St} {B B' N F F' : Addr → Prop} {H H' : Hp} {e e' : En} {α β : Type} {q q' : Ec}
theorem Sw.mono {r : SR} (h : Sw l W N B σ F H e r q)
    (m1 : ∀ F' H' σ' e', Po l.K false B F H σ e F' H' σ' e' → q.nx F' H' σ' e' → q'.nx F' H' σ' e') (m2 : ∀ F' H' σ' e', Po l.K false B F H σ e F' H' σ' e' → q.bk F' H' σ' e' → q'.bk F' H' σ' e')
    (m3 : ∀ F' H' σ' e', Po l.K false B F H σ e F' H' σ' e' → q.ct F' H' σ' e' → q'.ct F' H' σ' e') (m4 : ∀ v H', q.rt v H' → q'.rt v H') : Sw l W N B σ F H e r q' := by
  cases r with
  | nx e' => exact fun F' H' σ' p => m1 _ _ _ _ p (h F' H' σ' p)
  | bk e' => exact fun F' H' σ' p => m2 _ _ _ _ p (h F' H' σ' p)
  | ct e' => exact fun F' H' σ' p => m3 _ _ _ _ p (h F' H' σ' p)
  | rt d fr e' => exact fun F' H' σ' v p r => m4 _ _ (h F' H' σ' v p r)
  | ex x e' => exact h
  | no => exact h
theorem Sw.less {r : SR} (h : Sw l W N B σ F H e r q) (hb : ∀ a, B' a → B a) : Sw l W N B' σ F H e r q := by
  cases r with
  | nx e' => exact fun F' H' σ' p => h F' H' σ' (p.wide hb)
  | bk e' => exact fun F' H' σ' p => h F' H' σ' (p.wide hb)
  | ct e' => exact fun F' H' σ' p => h F' H' σ' (p.wide hb)
  | rt d fr e' => exact fun F' H' σ' v p r => h F' H' σ' v (p.wide hb) r
  | ex x e' => exact fun F' H' σ' cls d p hx => h F' H' σ' cls d (p.wide hb) hx
  | no => exact h
/-- from further on -/
theorem Sw.step {r : SR} {F1 : Addr → Prop} {H1 : Hp} {σ1 : St} {e1 : En} (er : Er l.K F H σ e) (p : Po l.K false B F H σ e F1 H1 σ1 e1) (h : Sw l W N B σ F H e r q) : Sw l W N (More B H) σ1 F1 H1 e1 r q := by
  cases r with
  | nx e' => exact fun F' H' σ' p' => h F' H' σ' (p.trans er p')
  | bk e' => exact fun F' H' σ' p' => h F' H' σ' (p.trans er p')
  | ct e' => exact fun F' H' σ' p' => h F' H' σ' (p.trans er p')
  | rt d fr e' => exact fun F' H' σ' v p' r => h F' H' σ' v (p.trans er p') r
  | ex x e' => exact fun F' H' σ' cls d p' hx => h F' H' σ' cls d (p.trans er p') hx
  | no => exact h
theorem Sw.of {x : R α} {f : α → En → SR} (er : Er l.K F H σ e) (h : Sw l W N B σ F H e (SR.of x f) q) : Wp l W B σ F H e x fun a F1 H1 e1 => Sw l W N (More B H) σ F1 H1 e1 (f a e1) q := by
  cases x with
  | ok a e1 => exact fun F1 H1 p1 => Sw.step er p1.loose h
  | ex y e1 => exact fun F' H' cls d p hx => h F' H' σ cls d p.loose hx
  | no => exact h
/-- .. as it stands at the start -/
theorem Sw.of0 {x : R α} {f : α → En → SR} (h : Sw l W N B σ F H e (SR.of x f) q) : Wp l W B σ F H e x fun a F1 H1 e1 => Sw l W N B σ F H e (f a e1) q := by
  cases x with
  | ok a e1 => exact fun F1 H1 p1 => h
  | ex y e1 => exact fun F' H' cls d p hx => h F' H' σ cls d p.loose hx
  | no => exact h
theorem of_bind {x : M α} {f : α → M β} {g : β → En → SR} : SR.of (M.bind x f e) g = SR.of (x e) fun a e1 => SR.of (f a e1) g := by
  unfold M.bind
  cases x e <;> rfl
theorem of_rd {x : EV} {f : D → M β} {g : β → En → SR} (h : Sw l W N B σ F H e (SR.of (M.bind (rd x) f e) g) q) : ∃ d, look e x = some d ∧ Sw l W N B σ F H e (SR.of (f d e) g) q := by
  rw [of_bind] at h
  cases c : look e x with
  | none => rw [rd_no c] at h; exact h.elim
  | some d => rw [rd_at c] at h; exact ⟨d, rfl, h⟩
theorem of_fz {x : EV} {f : D → M β} {g : β → En → SR} (h : Sw l W N B σ F H e (SR.of (M.bind (fz x) f e) g) q) : ∃ d e1, frz e x = some (d, e1) ∧ Sw l W N B σ F H e (SR.of (f d e1) g) q := by
  rw [of_bind] at h
  unfold fz at h
  cases c : frz e x with
  | none => rw [c] at h; exact h.elim
  | some y => obtain ⟨d, e1⟩ := y; rw [c] at h; exact ⟨d, e1, rfl, h⟩
theorem of_lift {o : Option α} {f : α → M β} {g : β → En → SR} (h : Sw l W N B σ F H e (SR.of (M.bind (M.lift o) f e) g) q) : ∃ a, o = some a ∧ Sw l W N B σ F H e (SR.of (f a e) g) q := by
  rw [of_bind] at h
  cases o with
  | none => exact h.elim
  | some a => exact ⟨a, rfl, h⟩
theorem Sw.then {x : SR} {f : En → SR} (er : Er l.K F H σ e) (h : Sw l W N B σ F H e (SR.then x f) q) : Sw l W N B σ F H e x { q with nx := fun F1 H1 σ1 e1 => Sw l W N (More B H) σ1 F1 H1 e1 (f e1) q } := by
  cases x with
  | nx e1 => exact fun F1 H1 σ1 p1 => Sw.step er p1 h
  | _ => exact h
theorem Nw.go (n : Nw N σ e) (p : Po l.K false B F H σ e F' H' σ' e') (hN : ∀ a, Fre H a → N a) : Nw N σ' e' := fun i o a h hv => by
  rcases p.own i _ o h with ⟨o', h1, h2⟩ | ⟨_, _, a', h1, h2⟩
  · exact n i o' a h1 (h2.symm.trans hv)
  · cases hv.symm.trans h1; exact hN _ h2
/-- a statement's reading -/
def Ends.ec (D : Ends) : Ec := ⟨fun _ H' σ' _ => D.nx σ' H', fun _ H' σ' _ => D.bk σ' H', fun _ H' σ' _ => D.ct σ' H', D.rt⟩
structure At0 (l : Lk) (N : Addr → Prop) (σ : St) (F : Addr → Prop) (H : Hp) (e : En) : Prop where
  er : Er l.K F H σ e
  fre : ∀ a, Fre H a → N a
  nw : Nw N σ e
theorem At0.go (a : At0 l N σ F H e) (p : Po l.K false B F H σ e F' H' σ' e') : At0 l N σ' F' H' e' := ⟨p.rel, fun b h => a.fre b (p.free b h), a.nw.go p a.fre⟩
def Ts (l : Lk) (W : WX) (c : S) : TS := fun D σ H => ∃ e F N, At0 l N σ F H e ∧ Sw l W N Non σ F H e (evS l.G l.cl c e) (Ends.ec D)
def Tss (l : Lk) (W : WX) (c : Ss) : TS := fun D σ H => ∃ e F N, At0 l N σ F H e ∧ Sw l W N Non σ F H e (evSs l.G l.cl c e) (Ends.ec D)
variable {X : Cx} {n : Nm} {sc : Scope} {k : Nat}
theorem pss_nila : PSs X [] (Tss l W .nil) := by
  refine pss_imp pss_nil ?_
  rintro D σ H ⟨e, F, N, a, h⟩
  rw [evSs] at h
  exact h F H σ (Po.refl a.er)
theorem pss_consa {c : S} {r : Ss} {s : Stmt} {ss : List Stmt} (h1 : PS X s (Ts l W c)) (h2 : PSs X ss (Tss l W r)) : PSs X (s :: ss) (Tss l W (.cons c r)) := by
  refine pss_imp (pss_cons h1 h2) ?_
  rintro D σ H ⟨e, F, N, a, h⟩
  rw [evSs] at h
  refine ⟨e, F, N, a, (Sw.then a.er h).mono (fun F' H' σ' e' p q => ?_) (fun _ _ _ _ _ q => q) (fun _ _ _ _ _ q => q) fun _ _ q => q⟩
  exact ⟨e', F', N, a.go p, Sw.less q fun _ z => z.elim⟩
/-- a statement that starts with an expression -/
theorem sw_tx {c : E} {f : EV → En → SR} {D : Ends} {Q : VK} (a : At0 l N σ F H e) (h : Sw l W N Non σ F H e (SR.of (ev l.G l.cl c e) f) (Ends.ec D))
    (m : ∀ r F1 H1 e1 v, Po l.K true Non F H σ e F1 H1 σ e1 → At0 l N σ F1 H1 e1 → Rv l.K (Fre H) F1 H1 σ e1 v r → Sw l W N Non σ F H e (f r e1) (Ends.ec D) → Sw l W N (More Non H) σ F1 H1 e1 (f r e1) (Ends.ec D) → Q v H1) : Tx l W c σ H Q :=
  ⟨e, F, a.er, (Sw.of0 h).mono fun r F1 H1 e1 p1 h1 v rv => m r F1 H1 e1 v p1 (a.go p1.loose) rv h1 (Sw.step a.er p1.loose h1)⟩
theorem ps_reta {c : E} {y : Expr} {pos : Pos} (hy : PE X y (Tx l W c)) : PS X (.Return (some y) pos) (Ts l W (.ret c)) := by
  refine ps_imp (ps_ret hy) ?_
  rintro D σ H ⟨e, F, N, a, h⟩
  rw [evS] at h
  refine sw_tx a h fun r F1 H1 e1 v p1 a1 rv h0 h1 => ?_
  cases rv with
  | v rp => exact h1 F1 H1 σ v (Po.refl a1.er) (.v rp)
  | fr nn nf no ro => exact h1 F1 H1 σ _ (Po.refl a1.er) (Rv.fr (a.fre _ nn) nf no ro)
  | sl hv =>
    rename_i i
    simp only [retOf] at h1
    split at h1
    · next d e2 =>
      obtain ⟨w, z1, z2⟩ := a1.er.val i d e2
      cases hv.symm.trans z1
      exact h1 F1 H1 σ _ (Po.refl a1.er) (.v z2)
    · next d e2 =>
      obtain ⟨w, z1, z2⟩ := a1.er.kept i d e2
      cases hv.symm.trans z1
      exact h1 F1 H1 σ _ (Po.refl a1.er) (.v z2)
    · next o e2 =>
      obtain ⟨b, z1, z2, z3⟩ := a1.er.own i false o e2
      cases hv.symm.trans z1
      -- the slot gives its object up
      have sub : ∀ {j s}, Sl (e1.set i none) j s → i ≠ j ∧ Sl e1 j s := fun {j s} z => by
        by_cases c : i = j
        · subst c
          have z' : (e1.set i none)[i]? = some (some s) := z
          rw [List.getElem?_set_self (Sl.lt e2)] at z'
          cases z'
        · exact ⟨c, by have z' : (e1.set i none)[j]? = some (some s) := z; rwa [List.getElem?_set_ne c] at z'⟩
      have up : ∀ {j s}, i ≠ j → Sl e1 j s → Sl (e1.set i none) j s := fun {j s} c z => by
        show (e1.set i none)[j]? = _
        rw [List.getElem?_set_ne c]; exact z
      have pd : Po l.K false (More Non H) F1 H1 σ e1 F1 H1 σ (e1.set i none) := by
        refine ⟨⟨by rw [List.length_set]; exact a1.er.len, a1.er.fok, fun j d z => a1.er.val j d (sub z).2, fun j d z => a1.er.kept j d (sub z).2, fun j b o z => a1.er.own j b o (sub z).2, fun j j' b c o p a z z' => a1.er.apart j j' b c o p a (sub z).2 (sub z').2⟩, fun _ z => z, fun _ _ z _ => z, fun _ z => z, fun _ z => .inl z,
          fun j b o z => .inl ⟨o, (sub z).2, rfl⟩, fun j o z => ⟨rfl, .inl ⟨o, up (fun c => ?_) z⟩⟩, fun j d z => ⟨rfl, up (fun c => ?_) z⟩, fun j z => ⟨rfl, up (fun c => ?_) z⟩⟩
        · subst c; cases (Eq.symm (show e1[i]? = _ from e2)).trans z
        · subst c; cases (Eq.symm (show e1[i]? = _ from e2)).trans z
        · subst c; cases (Eq.symm (show e1[i]? = _ from e2)).trans z
      refine h1 F1 H1 σ _ pd (Rv.fr (a1.nw i o _ e2 hv) z2 (fun w => ?_) z3)
      obtain ⟨j, b', o', w1, w2⟩ := w
      obtain ⟨c, w1⟩ := sub w1
      exact c (a1.er.apart _ _ _ _ _ _ _ e2 w1 hv w2)
    · next o e2 =>
      obtain ⟨b, z1, z2, z3⟩ := a1.er.own i true o e2
      cases hv.symm.trans z1
      exact h1 _ H1 σ _ (Po.frzSlot a1.er e2 hv (.inr ⟨rfl, rfl⟩)) (.v z3.fz)
    · exact h1.elim
theorem ps_retna {pos : Pos} : PS X (.Return none pos) (Ts l W .retN) := by
  refine ps_imp ps_retN ?_
  rintro D σ H ⟨e, F, N, a, h⟩
  rw [evS] at h
  exact h F H σ .non (Po.refl a.er) (.v .non)
theorem ps_passa {pos : Pos} : PS X (.Pass pos) (Ts l W .pass) := by
  refine ps_imp ps_pass ?_
  rintro D σ H ⟨e, F, N, a, h⟩
  rw [evS] at h
  exact h F H σ (Po.refl a.er)
theorem ps_brka {pos : Pos} : PS X (.Break pos) (Ts l W .brk) := by
  refine ps_imp ps_break ?_
  rintro D σ H ⟨e, F, N, a, h⟩
  rw [evS] at h
  exact h F H σ (Po.refl a.er)
theorem ps_cnta {pos : Pos} : PS X (.Continue pos) (Ts l W .cnt) := by
  refine ps_imp ps_continue ?_
  rintro D σ H ⟨e, F, N, a, h⟩
  rw [evS] at h
  exact h F H σ (Po.refl a.er)
theorem ps_doca {x : Str} {j : Nat} {p pos : Pos} : PS X (.Expr (.Constant (.str x) j p) pos) (Ts l W .doc) := by
  refine ps_imp ps_doc ?_
  rintro D σ H ⟨e, F, N, a, h⟩
  rw [evS] at h
  exact h F H σ (Po.refl a.er)
theorem ps_neva {s : Stmt} : PS X s (Ts l W .nev) := by
  refine ps_imp ps_never ?_
  rintro D σ H ⟨e, F, N, a, h⟩
  rw [evS] at h
  exact h
theorem ps_iffa {c : E} {a b : Ss} {y : Expr} {s t : List Stmt} {pos : Pos} (hc : PT X y (Tt l W c)) (ha : PSs X s (Tss l W a)) (hb : PSs X t (Tss l W b)) : PS X (.If y s t pos) (Ts l W (.iff c a b)) := by
  refine ps_imp (ps_if hc ha hb) ?_
  rintro D σ H ⟨e, F, N, a0, h⟩
  rw [evS] at h
  refine ⟨e, F, a0.er, (Sw.of a0.er h).mono fun t F1 H1 e1 p1 h1 => ?_⟩
  cases t with
  | true => exact ⟨e1, F1, N, a0.go p1.loose, Sw.less h1 fun _ z => z.elim⟩
  | false => exact ⟨e1, F1, N, a0.go p1.loose, Sw.less h1 fun _ z => z.elim⟩
def swapsSafe : Expr → Bool
  | .ListComp _ _ _ _ => false
  | .SetComp _ _ _ _ => false
  | .DictComp _ _ _ _ _ => false
  | _ => true
theorem swaps_safe {y : Expr} (h : swapsSafe y = true) (tg : Option Expr) (line : Nat) (env : Env) : swapsWith y tg line env = pure false := by
  cases y <;> first | rfl | cases h
theorem ps_exa {c : E} {y : Expr} {pos : Pos} (hy : PE X y (Tx l W c)) (hs : swapsSafe y = true) : PS X (.Expr y pos) (Ts l W (.ex c)) := by
  refine ps_imp (ps_expr hy (swaps_safe hs _ _ _)) ?_
  rintro D σ H ⟨e, F, N, a, h⟩
  rw [evS] at h
  refine sw_tx a h fun r F1 H1 e1 v p1 a1 rv h0 _ => h0 F1 H1 σ p1.loose

/-! ### stores -/
/-- a new object goes into a slot -/
theorem Po.store {i : Nat} {ad : Addr} {o : Ob} {F1 : Addr → Prop} {H1 : Hp} {σ1 : St} {e1 e2 : En} (er : Er l.K F H σ e) (p : Po l.K false B F H σ e F1 H1 σ1 e1) (nn : Fre H ad) (nf : ¬ F1 ad) (no : ¬ Own σ1 e1 ad) (ro : RpO l.K F1 H1 ad o) (h : putS i (.own false o) e1 = some e2) :
    Po l.K false B F H σ e F1 H1 (σ1.set i (some (.ref ad))) e2 ∧ e2 = e1.set i (some (.own false o)) := by
  have key : ∀ b, e1[i]? = some b → (∀ o, b ≠ some (.own true o)) → (∀ d, b ≠ some (.kept d)) → b ≠ some .dead → e2 = e1.set i (some (.own false o)) → Po l.K false B F H σ e F1 H1 (σ1.set i (some (.ref ad))) e2 ∧ e2 = e1.set i (some (.own false o)) := by
    intro b hb n1 n2 n3 he
    have er1 := p.rel
    have hi : i < e1.length := (List.getElem?_eq_some_iff.mp hb).1
    have hs : i < σ1.length := by rw [← er1.len]; exact hi
    have ne : ∀ {j}, i ≠ j → (σ1.set i (some (.ref ad)))[j]? = σ1[j]? := fun c => List.getElem?_set_ne c
    have me : (σ1.set i (some (.ref ad)))[i]? = some (some (.ref ad)) := List.getElem?_set_self hs
    subst he
    refine ⟨⟨⟨by simp [er1.len], er1.fok, fun j c q => ?_, fun j c q => ?_, fun j c u q => ?_, fun j k c1 u1 c2 u2 y q1 q2 w1 w2 => ?_⟩, p.inc, p.keep, p.dom, p.new, fun j c u q => ?_, fun j u q => ?_, fun j c q => ?_, fun j q => ?_⟩, rfl⟩
    · rcases sl_set q with ⟨z, w, _⟩ | ⟨z, w⟩
      · cases w
      · obtain ⟨w', a1, a2⟩ := er1.val j c w; exact ⟨w', (ne z).trans a1, a2⟩
    · rcases sl_set q with ⟨z, w, _⟩ | ⟨z, w⟩
      · cases w
      · obtain ⟨w', a1, a2⟩ := er1.kept j c w; exact ⟨w', (ne z).trans a1, a2⟩
    · rcases sl_set q with ⟨z, w, _⟩ | ⟨z, w⟩
      · subst z; cases w; exact ⟨ad, me, nf, ro⟩
      · obtain ⟨w', a1, a2⟩ := er1.own j c u w; exact ⟨w', (ne z).trans a1, a2⟩
    · rcases sl_set q1 with ⟨z1, w, _⟩ | ⟨z1, y1⟩
      · rcases sl_set q2 with ⟨z2, w', _⟩ | ⟨z2, y2⟩
        · exact z1.symm.trans z2
        · subst z1
          cases me.symm.trans w1
          exact absurd ⟨k, _, _, y2, (ne z2).symm.trans w2⟩ no
      · rcases sl_set q2 with ⟨z2, w', _⟩ | ⟨z2, y2⟩
        · subst z2
          cases me.symm.trans w2
          exact absurd ⟨j, _, _, y1, (ne z1).symm.trans w1⟩ no
        · exact er1.apart _ _ _ _ _ _ _ y1 y2 ((ne z1).symm.trans w1) ((ne z2).symm.trans w2)
    · rcases sl_set q with ⟨z, w, _⟩ | ⟨z, w⟩
      · subst z; cases w; exact .inr ⟨rfl, rfl, ad, me, nn⟩
      · rcases p.own j c u w with ⟨o', w1, w2⟩ | ⟨_, w1, a', w2, w3⟩
        · exact .inl ⟨o', w1, (ne z).trans w2⟩
        · exact .inr ⟨rfl, w1, a', (ne z).trans w2, w3⟩
    · by_cases z : i = j
      · subst z
        rcases (p.lent i u q).2 with ⟨o', w⟩ | ⟨d, w⟩ | w
        · exact absurd (Option.some.inj (hb.symm.trans w)) (n1 o')
        · exact absurd (Option.some.inj (hb.symm.trans w)) (n2 d)
        · exact absurd (Option.some.inj (hb.symm.trans w)) n3
      · refine ⟨(ne z).trans (p.lent j u q).1, ?_⟩
        rcases (p.lent j u q).2 with ⟨o', w⟩ | ⟨d, w⟩ | w
        · exact .inl ⟨o', sl_ne w z⟩
        · exact .inr (.inl ⟨d, sl_ne w z⟩)
        · exact .inr (.inr (sl_ne w z))
    · obtain ⟨w0, w⟩ := p.kept j c q
      by_cases z : i = j
      · subst z; exact absurd (Option.some.inj (hb.symm.trans w)) (n2 c)
      · exact ⟨(ne z).trans w0, sl_ne w z⟩
    · obtain ⟨w0, w⟩ := p.dead j q
      by_cases z : i = j
      · subst z; exact absurd (Option.some.inj (hb.symm.trans w)) n3
      · exact ⟨(ne z).trans w0, sl_ne w z⟩
  simp only [putS] at h
  split at h
  · next q => cases h; exact key _ q (by simp) (by simp) (by simp) rfl
  · next q => cases h; exact key _ q (by simp) (by simp) (by simp) rfl
  · next q => cases h; exact key _ q (by simp) (by simp) (by simp) rfl
  · cases h
/-- a value into slot t -/
theorem asg_one {t : Tg} {i : Nat} {r : EV} {v : V} {F1 : Addr → Prop} {H1 : Hp} {e1 : En} {g : Unit → En → SR} {q : Ec} (ht : t = .nm i ∨ t = .ow i) (er : Er l.K F H σ e) (p1 : Po l.K true B F H σ e F1 H1 σ e1) (rv : Rv l.K (Fre H) F1 H1 σ e1 v r) (h : Sw l W N B σ F H e (SR.of (asgT t r e1) g) q) :
    ∃ F2 e2, Po l.K false B F H σ e F2 H1 (σ.set i (some v)) e2 ∧ Sw l W N B σ F H e (g () e2) q := by
  rcases ht with rfl | rfl
  · rw [show asgT (.nm i) r = M.bind (fz r) (fun d e => match putS i (.val d) e with | some e' => R.ok () e' | none => R.no) from by cases r <;> rfl] at h
    rw [of_bind] at h
    unfold fz at h
    cases c : frz e1 r with
    | none => rw [c] at h; exact h.elim
    | some y =>
      obtain ⟨d, e2⟩ := y
      rw [c] at h
      dsimp only [SR.of] at h
      cases c2 : putS i (.val d) e2 with
      | none => rw [c2] at h; exact h.elim
      | some e3 =>
        rw [c2] at h
        obtain ⟨F2, pf, rp, _⟩ := Rv.fz (x := true) (B := More B H) p1.rel rv (fun a z => .inr z) c
        obtain ⟨pp, _, _⟩ := Po.put (x := false) (B := More B H) pf.rel c2 rp
        exact ⟨F2, e3, (p1.trans er pf).loose.trans er pp, h⟩
  · cases r with
    | v d => exact h.elim
    | sl j => exact h.elim
    | fr d =>
      generalize hr : EV.fr d = rr at rv
      cases rv with
      | v _ => cases hr
      | sl _ => cases hr
      | fr nn nf no ro =>
        cases hr
        cases ro with
        | lst h1 h2 =>
          dsimp only [Ob.d, asgT] at h
          cases c : putS i (.own false (.lst _)) e1 with
          | none => rw [c] at h; exact h.elim
          | some e2 =>
            rw [c] at h
            obtain ⟨pp, _⟩ := Po.store er p1.loose nn nf no (.lst h1 h2) c
            exact ⟨F1, e2, pp, h⟩
end
end Zv

set_option Elab.async false
set_option autoImplicit false
set_option linter.all false
set_option maxRecDepth 100000
/-! statements: stores, methods -/
namespace Zv
open PySem PySem.Spec L2
open PyProof.Rows hiding St
section
variable {l : Lk} {W : WX} {σ σ' : St} {B B' N F F' : Addr → Prop} {H H' : Hp} {e e' : En} {α β : Type} {q q' : Ec}
variable {X : Cx} {n : Nm} {sc : Scope} {k : Nat}
theorem of_fz' {x : EV} {e1 : En} {f : D → M β} {g : β → En → SR} (h : Sw l W N B σ F H e (SR.of (M.bind (fz x) f e1) g) q) : ∃ d e2, frz e1 x = some (d, e2) ∧ Sw l W N B σ F H e (SR.of (f d e2) g) q := by
  rw [of_bind] at h
  unfold fz at h
  cases c : frz e1 x with
  | none => rw [c] at h; exact h.elim
  | some y => obtain ⟨d, e2⟩ := y; rw [c] at h; exact ⟨d, e2, rfl, h⟩
theorem asg_tx {t : Tg} {i : Nat} {c : E} {D : Ends} (ht : t = .nm i ∨ t = .ow i) (h : Ts l W (.asg t c) D σ H) : tAsg (Tx l W c) (gName i) D σ H := by
  obtain ⟨e, F, N, a, h⟩ := h
  rw [evS] at h
  dsimp only at h
  rw [of_bind] at h
  refine sw_tx a h fun r F1 H1 e1 v p1 a1 rv h0 _ => ?_
  obtain ⟨F2, e2, pp, h2⟩ := asg_one ht a.er p1 rv h0
  exact h2 F2 H1 _ pp
/-- does a comprehension that is stored on the same line swap? -/
def lcSw (sc scope : Scope) (x : Str) (px pos : Pos) : Bool := decide (sc.names.lookup x = some .local) && px.line == pos.line && !(scope.names.any fun (n, k) => n == x && (k == .local || k == .cell))
theorem Cc.kindOf (c : Cc X n sc l k W) {x : Str} (h : Zv.loc sc x = true) : (X.env.kindOf x == some .local) = decide (sc.names.lookup x = some .local) := by
  unfold Zv.loc at h
  show (X.env.scope.names.lookup x == some .local) = _
  split at h
  · next q => rw [c.keep x _ (by decide) q, q]; rfl
  · next q => rw [c.keep x _ (by decide) q, q]; rfl
  · cases h
theorem Cc.block (c : Cc X n sc l k W) : X.env.blockKind = .function := by
  unfold Env.blockKind
  rw [c.kind]; rfl
theorem swaps_lc (c : Cc X n sc l k W) {x : Str} {px pos : Pos} {el : Expr} {gs : List Comprehension} {scope : Scope} {line : Nat} (h : loc sc x = true) : swapsWith (.ListComp el gs scope pos) (some (.Name x px)) line X.env = pure (lcSw sc scope x px pos) := by
  unfold swapsWith lcSw
  show (pure _ : Sem Bool) = pure _
  rw [c.kindOf h, c.block]
  congr 1
theorem ps_asga {t : Tg} {i : Nat} {c' : E} {x : Str} {y : Expr} {px pos : Pos} (c : Cc X n sc l k W) (ht : t = .nm i ∨ t = .ow i) (hi : n.N[i]? = some x) (hx : loc sc x = true) (hs : swapsWith y (some (.Name x px)) pos.line X.env = pure false) (hy : PE X y (Tx l W c')) :
    PS X (.Assign [.Name x px] y pos) (Ts l W (.asg t c')) :=
  ps_imp (ps_set (by rw [c.names]; exact c.nd) (by rw [c.names]; exact hi) (c.loc hx).1 hy hs (c.loc hx).2) fun D σ H h => asg_tx ht h
/-- a, b, .. = value -/
theorem ps_asgt {ts : Tgs} {c' : E} {es : List Expr} {j : Nat} {p pos : Pos} {y : Expr} (c : Cc X n sc l k W) (ht : ckTs n sc ts es = true) (hw : swappedStores [.Tuple es j p] y X.env = pure none) (hy : PE X y (Tx l W c')) :
    PS X (.Assign [.Tuple es j p] y pos) (Ts l W (.asg (.tup ts) c')) := by
  refine ps_imp (ps_asg hy (pg_all c (.tup ts) (.Tuple es j p) ht) (by cases y <;> rfl) hw rfl) ?_
  rintro D σ H ⟨e, F, N, a, h⟩
  rw [evS] at h
  dsimp only at h
  rw [of_bind] at h
  refine sw_tx a h fun r F1 H1 e1 v p1 a1 rv h0 _ => ?_
  rw [show asgT (.tup ts) r = M.bind (fz r) (fun d e => match bindT (.tup ts) d e with | some e' => R.ok () e' | none => R.no) from by cases r <;> rfl] at h0
  obtain ⟨d, e2, hf, h0⟩ := of_fz' h0
  cases hb : bindT (.tup ts) d e2 with
  | none => rw [hb] at h0; exact h0.elim
  | some e3 =>
    rw [hb] at h0
    obtain ⟨F2, pf, rp, _⟩ := Rv.fz (x := true) (B := More Non H) p1.rel rv (fun a z => .inr z) hf
    exact ⟨e2, F2, d, e3, pf.rel, rp, hb, fun σ' pp _ => h0 F2 H1 σ' ((p1.trans a.er pf).loose.trans a.er (pp.wide fun _ z => z.elim))⟩

/-! ### several stores at once -/
def tgI : Tg → Nat
  | .nm i => i
  | .ow i => i
  | .tup _ => 0
def flatT : Tgs → Bool
  | .nil => true
  | .cons (.tup _) _ => false
  | .cons _ r => flatT r
def gsOf : Tgs → TGs
  | .nil => gNil
  | .cons t r => gCons (gName (tgI t)) (gsOf r)
/-- a value that is no slot's -/
theorem asg_ns {t : Tg} {i : Nat} {r : EV} {v : V} {F1 : Addr → Prop} {H1 : Hp} {σ1 : St} {e1 : En} {g : Unit → En → SR} (ht : t = .nm i ∨ t = .ow i) (hr : ∀ j, r ≠ .sl j) (er : Er l.K F H σ e) (p : Po l.K false B F H σ e F1 H1 σ1 e1) (rv : Rv l.K (Fre H) F1 H1 σ1 e1 v r) (h : Sw l W N B σ F H e (SR.of (asgT t r e1) g) q) :
    ∃ F2 e2, Po l.K false B F H σ e F2 H1 (σ1.set i (some v)) e2 ∧ (∀ a, F1 a → F2 a) ∧ (∀ a, F2 a → F1 a ∨ frA v r = some a) ∧ (∀ a, Own (σ1.set i (some v)) e2 a → Own σ1 e1 a ∨ frA v r = some a) ∧ Sw l W N B σ F H e (g () e2) q := by
  have ownS : ∀ {w : V} {s : SV} {a : Addr}, Own (σ1.set i (some w)) (e1.set i (some s)) a → Own σ1 e1 a ∨ (∃ b o, s = .own b o ∧ w = .ref a) := fun {w s a} ⟨j, b, o, z1, z2⟩ => by
    rcases sl_set z1 with ⟨c, c2, c3⟩ | ⟨c, c2⟩
    · subst c
      have hs : i < σ1.length := by rw [← p.rel.len]; exact c3
      have me : (σ1.set i (some w))[i]? = some (some w) := List.getElem?_set_self hs
      have : w = .ref a := Option.some.inj (Option.some.inj (me.symm.trans z2))
      exact .inr ⟨b, o, c2, this⟩
    · exact .inl ⟨j, b, o, c2, by have z3 : (σ1.set i (some w))[j]? = some (some (.ref a)) := z2; rwa [List.getElem?_set_ne c] at z3⟩
  rcases ht with rfl | rfl
  · rw [show asgT (.nm i) r = M.bind (fz r) (fun d e => match putS i (.val d) e with | some e' => R.ok () e' | none => R.no) from by cases r <;> rfl] at h
    obtain ⟨d, e2, hf, h2⟩ := of_fz' h
    cases c2 : putS i (.val d) e2 with
    | none => rw [c2] at h2; exact h2.elim
    | some e3 =>
      rw [c2] at h2
      cases rv with
      | v rp =>
        cases hf
        obtain ⟨pp, he, _⟩ := Po.put (x := false) (B := More B H) p.rel c2 rp
        refine ⟨F1, e3, p.trans er pp, fun _ z => z, fun _ z => .inl z, fun a z => ?_, h2⟩
        rw [he] at z
        rcases ownS z with z | ⟨_, _, z, _⟩
        · exact .inl z
        · cases z
      | fr nn nf no ro =>
        cases hf
        have pf := Po.frzNew (x := false) (B := More B H) p.rel ro.has no (.inr nn)
        obtain ⟨pp, he, _⟩ := Po.put (x := false) (B := More B H) pf.rel c2 ro.fz
        refine ⟨_, e3, p.trans er (pf.trans p.rel (pp.wide fun _ z => .inl z)), fun _ z => .inl z, fun _ z => z.elim .inl fun z => .inr (by rw [z]; rfl), fun a z => ?_, h2⟩
        rw [he] at z
        rcases ownS z with z | ⟨_, _, z, _⟩
        · exact .inl z
        · cases z
      | sl _ => exact absurd rfl (hr _)
  · cases r with
    | v d => exact h.elim
    | sl j => exact h.elim
    | fr d =>
      generalize hr : EV.fr d = rr at rv
      cases rv with
      | v _ => cases hr
      | sl _ => cases hr
      | fr nn nf no ro =>
        cases hr
        cases ro with
        | lst h1 h2 =>
          dsimp only [Ob.d, asgT] at h
          cases c : putS i (.own false (.lst _)) e1 with
          | none => rw [c] at h; exact h.elim
          | some e2 =>
            rw [c] at h
            obtain ⟨pp, he⟩ := Po.store er p nn nf no (.lst h1 h2) c
            refine ⟨F1, e2, pp, fun _ z => z, fun _ z => .inl z, fun a z => ?_, h⟩
            rw [he] at z
            rcases ownS z with z | ⟨_, _, _, z⟩
            · exact .inl z
            · cases z; exact .inr rfl
theorem RvL.stored {K : PySem.W.Frag} {M F1 F2 : Addr → Prop} {H1 : Hp} {σ1 σ2 : St} {e1 e2 : En} {y : Option Addr} {vs : List V} {rs : List EV} (h : RvL K M F1 H1 σ1 e1 vs rs) (ns : ∀ r ∈ rs, ∀ j, r ≠ .sl j) (inc : ∀ a, F1 a → F2 a) (hF : ∀ a, F2 a → F1 a ∨ y = some a) (hO : ∀ a, Own σ2 e2 a → Own σ1 e1 a ∨ y = some a)
    (ap : ∀ a, y = some a → ∀ p ∈ vs.zip rs, frA p.1 p.2 ≠ some a) : RvL K M F2 H1 σ2 e2 vs rs := by
  induction h with
  | nil => exact .nil
  | cons a b _ ih =>
    refine .cons ?_ b (ih (fun r hr => ns r (List.mem_cons_of_mem _ hr)) fun a z p hp => ap a z p (List.mem_cons_of_mem _ hp))
    have ap0 := fun a z => ap a z _ (by rw [List.zip_cons_cons]; exact List.mem_cons_self)
    cases a with
    | v rp => exact .v (rp.mono inc fun _ _ _ z => z)
    | fr nn nf no ro =>
      refine .fr nn (fun z => ?_) (fun z => ?_) (ro.same inc)
      · rcases hF _ z with z | z
        · exact nf z
        · exact ap0 _ z rfl
      · rcases hO _ z with z | z
        · exact no z
        · exact ap0 _ z rfl
    | sl _ => exact absurd rfl (ns _ List.mem_cons_self _)
theorem stores : ∀ {ts : Tgs} {vs : List V} {rs : List EV} {F1 : Addr → Prop} {H1 : Hp} {σ1 : St} {e1 : En} {Q : St → Hp → Prop}, flatT ts = true → Er l.K F H σ e → Po l.K false B F H σ e F1 H1 σ1 e1 → RvL l.K (Fre H) F1 H1 σ1 e1 vs rs → (∀ r ∈ rs, ∀ j, r ≠ .sl j) →
    Sw l W N B σ F H e (SR.of (asgTs ts rs e1) fun _ => .nx) q → (∀ F' σ' e', Po l.K false B F H σ e F' H1 σ' e' → q.nx F' H1 σ' e' → Q σ' H1) → gsOf ts vs σ1 H1 Q
  | .nil, _, _, F1, H1, σ1, e1, Q, _, er, p, .nil, _, h, m => ⟨rfl, m _ _ _ p (h _ _ _ p)⟩
  | .nil, _, _, F1, H1, σ1, e1, Q, _, er, p, .cons _ _ _, _, h, m => h.elim
  | .cons t r, _, _, F1, H1, σ1, e1, Q, _, er, p, .nil, _, h, m => h.elim
  | .cons t ts, _, _, F1, H1, σ1, e1, Q, hf, er, p, .cons (v := v) (r := r) (vs := vs) (rs := rs) rv ap rest, ns, h, m => by
    have ht : t = .nm (tgI t) ∨ t = .ow (tgI t) := by
      cases t with
      | nm i => exact .inl rfl
      | ow i => exact .inr rfl
      | tup _ => cases hf
    have hf' : flatT ts = true := by cases t <;> first | exact hf | cases hf
    have h' : Sw l W N B σ F H e (SR.of (asgT t r e1) fun _ e2 => SR.of (asgTs ts rs e2) fun _ => .nx) q := by
      rw [← of_bind]; exact h
    obtain ⟨F2, e2, pp, i1, i2, i3, h2⟩ := asg_ns ht (ns r List.mem_cons_self) er p rv h'
    exact ⟨v, vs, rfl, stores hf' er pp (rest.stored (fun r hr => ns r (List.mem_cons_of_mem _ hr)) i1 i2 i3 ap) (fun r hr => ns r (List.mem_cons_of_mem _ hr)) h2 m⟩
theorem RvL.frozen {K : PySem.W.Frag} {M F1 F2 : Addr → Prop} {H1 : Hp} {σ1 : St} {e1 e2 : En} {B : Addr → Prop} {vs : List V} {rs : List EV} (h : RvL K M F1 H1 σ1 e1 vs rs) (er : Er K F1 H1 σ1 e1) (p : Po K true B F1 H1 σ1 e1 F2 H1 σ1 e2) (hF : ∀ a, F2 a → F1 a ∨ Own σ1 e1 a) (hO : ∀ a, Own σ1 e2 a → Own σ1 e1 a) : RvL K M F2 H1 σ1 e2 vs rs := by
  induction h with
  | nil => exact .nil
  | cons a b _ ih =>
    refine .cons ?_ b ih
    cases a with
    | v h => exact .v (p.rp er h)
    | fr nn nf no ro =>
      refine .fr nn (fun z => ?_) (fun z => no (hO _ z)) (ro.same p.inc)
      rcases hF _ z with z | z
      · exact nf z
      · exact no z
    | sl h => exact .sl h
theorem frz_no_ex : ∀ {rs : List EV} {e e' : En} {y : Xn}, frzAll rs e ≠ .ex y e'
  | [], _, _, _, h => by cases h
  | .fr d :: rs, e, e', y, h => by
    simp only [frzAll] at h
    cases q : frzAll rs e with
    | ok a e1 => rw [bind_at q] at h; cases h
    | ex a e1 => exact frz_no_ex q
    | no => rw [bind_no q] at h; cases h
  | .v d :: rs, e, e', y, h => by
    simp only [frzAll] at h
    unfold M.bind at h
    rw [show fz (.v d) e = .ok d e from rfl] at h
    cases q : frzAll rs e with
    | ok a e1 => simp only [M.bind, q] at h; cases h
    | ex a e1 => exact frz_no_ex q
    | no => simp only [M.bind, q] at h; cases h
  | .sl i :: rs, e, e', y, h => by
    simp only [frzAll] at h
    cases q0 : fz (.sl i) e with
    | ok a e1 =>
      rw [bind_at q0] at h
      cases q : frzAll rs e1 with
      | ok a e1 => rw [bind_at q] at h; cases h
      | ex a e1 => exact frz_no_ex q
      | no => rw [bind_no q] at h; cases h
    | ex a e1 => unfold fz at q0; split at q0 <;> cases q0
    | no => rw [bind_no q0] at h; cases h
theorem frz_all : ∀ {rs rs' : List EV} {vs : List V} {F : Addr → Prop} {e e' : En} {x : Bool} {B Mz : Addr → Prop}, Er l.K F H σ e → RvL l.K Mz F H σ e vs rs → (∀ a, Mz a → B a) → frzAll rs e = .ok rs' e' →
    ∃ F', Po l.K x B F H σ e F' H σ e' ∧ RvL l.K Mz F' H σ e' vs rs' ∧ (∀ r ∈ rs', ∀ j, r ≠ .sl j) ∧ (∀ a, F' a → F a ∨ Own σ e a) ∧ ∀ p ∈ vs.zip rs', frA p.1 p.2 = none ∨ p ∈ vs.zip rs
  | [], _, _, F, e, e', x, B, Mz, er, .nil, _, q => by
    cases q
    exact ⟨F, Po.refl er, .nil, by simp, fun _ z => .inl z, by simp⟩
  | r :: rs, rs', _, F, e, e', x, B, Mz, er, .cons (v := v) (vs := vs) h ap t, hN, q => by
    have ownE : ∀ {F' : Addr → Prop} {e1 : En}, Po l.K true B F H σ e F' H σ e1 → ∀ a, Own σ e1 a → Own σ e a := fun p a ⟨i, b, o, z1, z2⟩ => by
      rcases p.own i b o z1 with ⟨o', z3, _⟩ | ⟨z3, _⟩
      · exact ⟨i, b, o', z3, z2⟩
      · cases z3
    by_cases hr : ∃ d, r = .fr d
    · obtain ⟨d, rfl⟩ := hr
      simp only [frzAll] at q
      obtain ⟨ds, e1, q1, q2⟩ := R.bind_ok q
      cases q2
      obtain ⟨F1, p1, t1, n1, w1, z1⟩ := frz_all (x := true) er t hN q1
      refine ⟨F1, p1.loose, .cons ?_ (fun a ha p hp => ?_) t1, fun r hr => ?_, w1, fun p hp => ?_⟩
      · generalize hd : EV.fr d = rr at h ⊢
        cases h with
        | v _ => cases hd
        | sl _ => cases hd
        | fr nn nf no ro =>
          refine .fr nn (fun z => ?_) (fun z => no (ownE p1 _ z)) (ro.same p1.inc)
          rcases w1 _ z with z | z
          · exact nf z
          · exact no z
      · rcases z1 p hp with z | z
        · rw [z]; simp
        · exact ap a ha p z
      · rcases List.mem_cons.mp hr with z | z
        · subst z; intro j; simp
        · exact n1 r z
      · rw [List.zip_cons_cons] at hp ⊢
        rcases List.mem_cons.mp hp with z | z
        · exact .inr (by rw [z]; exact List.mem_cons_self)
        · exact (z1 p z).imp id fun z => List.mem_cons_of_mem _ z
    · have q' : M.bind (fz r) (fun d => M.bind (frzAll rs) fun ds => M.pure (EV.v d :: ds)) e = .ok rs' e' := by
        cases r with
        | fr d => exact absurd ⟨d, rfl⟩ hr
        | _ => exact q
      obtain ⟨d, e1, q1, q2⟩ := R.bind_ok q'
      obtain ⟨ds, e2, q2, q3⟩ := R.bind_ok q2
      cases q3
      obtain ⟨F0, pf, rp, w0⟩ := Rv.fz (x := true) (B := B) er h hN (fz_ok q1)
      have fno : ∀ a, frA v r ≠ some a := fun a z => by
        cases r with
        | fr d => exact hr ⟨d, rfl⟩
        | _ => cases v <;> simp [frA] at z
      have w0' : ∀ a, F0 a → F a ∨ Own σ e a := fun a z => by
        rcases w0 a z with z | z | z
        · exact .inl z
        · exact .inr z
        · exact absurd z (fno a)
      have t0 : RvL l.K Mz F0 H σ e1 vs rs := t.frozen er pf w0' (ownE pf)
      obtain ⟨F1, p1, t1, n1, w1, z1⟩ := frz_all (x := true) pf.rel t0 hN q2
      refine ⟨F1, (pf.trans er (p1.wide fun _ z => .inl z)).loose, .cons (.v (p1.rp pf.rel rp)) (fun a ha => by cases v <;> simp [frA] at ha) t1, fun r hr => ?_, fun a z => ?_, fun p hp => ?_⟩
      · rcases List.mem_cons.mp hr with z | z
        · subst z; intro j; simp
        · exact n1 r z
      · rcases w1 a z with z | z
        · rcases w0 a z with z | z | z
          · exact .inl z
          · exact .inr z
          · exact absurd z (fno a)
        · exact .inr (ownE pf a z)
      · rw [List.zip_cons_cons] at hp ⊢
        rcases List.mem_cons.mp hp with z | z
        · exact .inl (by rw [z]; cases v <;> rfl)
        · exact (z1 p z).imp id fun z => List.mem_cons_of_mem _ z
/-- a, b = x, y: what is stored -/
theorem par_tx {ts : Tgs} {cs : Es} {D : Ends} (hf : flatT ts = true) (h : Ts l W (.par ts cs) D σ H) : Ta l W cs σ H fun vs H1 => gsOf ts vs σ H1 D.nx := by
  obtain ⟨e, F, N, a, h⟩ := h
  rw [evS] at h
  dsimp only at h
  rw [of_bind] at h
  refine ⟨e, F, a.er, (Sw.of0 h).mono fun rs F1 H1 e1 p1 h1 vs rvs => ?_⟩
  rw [of_bind] at h1
  cases c : frzAll rs e1 with
  | ok rs' e2 =>
    rw [c] at h1
    obtain ⟨F2, pf, r2, ns, _, _⟩ := frz_all (x := false) (B := More Non H) p1.rel rvs (fun a z => .inr z) c
    exact stores hf a.er (p1.loose.trans a.er pf) r2 ns h1 fun F' σ' e' _ q => q
  | ex y e2 => rw [c] at h1; exact absurd c frz_no_ex
  | no => rw [c] at h1; exact h1.elim
/-- .. by a tuple that is laid and unpacked -/
theorem par_tup {ts : Tgs} {cs : Es} {D : Ends} (hf : flatT ts = true) (h : Ts l W (.par ts cs) D σ H) : Ta l W cs σ H fun vs H1 => ∀ p, H1 p = none → gsOf ts vs σ (upd H1 p (.tup vs)) D.nx := by
  obtain ⟨e, F, N, a, h⟩ := h
  rw [evS] at h
  dsimp only at h
  rw [of_bind] at h
  refine ⟨e, F, a.er, (Sw.of0 h).mono fun rs F1 H1 e1 p1 h1 vs rvs p hp => ?_⟩
  rw [of_bind] at h1
  have pm : Po l.K true Non F1 H1 σ e1 F1 (upd H1 p (.tup vs)) σ e1 := Po.made p1.rel hp
  have p2 := p1.trans a.er (pm.wide (B' := More Non H) fun _ z => z.elim)
  have rvs2 := rvs.go p1.rel pm
  cases c : frzAll rs e1 with
  | ok rs' e2 =>
    rw [c] at h1
    obtain ⟨F2, pf, r2, ns, _, _⟩ := frz_all (x := false) (B := More Non H) p2.rel rvs2 (fun a z => .inr z) c
    exact stores hf a.er (p2.loose.trans a.er pf) r2 ns h1 fun F' σ' e' _ q => q
  | ex y e2 => rw [c] at h1; exact absurd c frz_no_ex
  | no => rw [c] at h1; exact h1.elim
end
end Zv

set_option Elab.async false
set_option autoImplicit false
set_option linter.all false
set_option maxRecDepth 100000
/-! statements: objects that change, loops, exceptions -/
namespace Zv
open PySem PySem.Spec L2
open PyProof.Rows hiding St
section
variable {l : Lk} {W : WX} {σ σ' : St} {B B' N F F' : Addr → Prop} {H H' : Hp} {e e' : En} {α β : Type} {q q' : Ec}
variable {X : Cx} {n : Nm} {sc : Scope} {k : Nat}
/-- an own list changes -/
theorem Po.write {K : PySem.W.Frag} {i : Nat} {b : Bool} {o : Ob} {ad : Addr} {vs : List V} {ds : List D} (er : Er K F H σ e) (h : Sl e i (.own b o)) (hv : Vl σ i (.ref ad)) (r : RpL K F H vs ds) :
    Po K false B F H σ e F (upd H ad (.lst vs)) σ (e.set i (some (.own b (.lst ds)))) := by
  obtain ⟨a', hv', nf, ro⟩ := er.own i b o h
  cases hv.symm.trans hv'
  have k : ∀ a u, F a → H a = some u → upd H ad (.lst vs) a = some u := fun a u f q => by rw [upd_ne (fun z => nf (by rw [← z]; exact f))]; exact q
  have hi := h.lt
  refine ⟨⟨by rw [List.length_set]; exact er.len, fun a f z => ?_, fun j d q => ?_, fun j d q => ?_, fun j c u q => ?_, fun j j' c1 c2 u1 u2 y q1 q2 w1 w2 => ?_⟩, fun _ q => q, fun a u q no => ?_, fun a q => ?_, fun _ q => .inl q, fun j c u q => ?_, fun j u q => ?_, fun j d q => ?_, fun j q => ?_⟩
  · cases q : H a with
    | none => exact er.fok a f q
    | some u => rw [k a u f q] at z; cases z
  · rcases sl_set q with ⟨_, w, _⟩ | ⟨_, w⟩
    · cases w
    · obtain ⟨v, a1, a2⟩ := er.val j d w; exact ⟨v, a1, a2.mono (fun _ q => q) k⟩
  · rcases sl_set q with ⟨_, w, _⟩ | ⟨_, w⟩
    · cases w
    · obtain ⟨v, a1, a2⟩ := er.kept j d w; exact ⟨v, a1, a2.mono (fun _ q => q) k⟩
  · rcases sl_set q with ⟨c', w, _⟩ | ⟨c', w⟩
    · subst c'; cases w
      exact ⟨ad, hv, nf, .lst upd_same (r.mono (fun _ q => q) k)⟩
    · obtain ⟨a, a1, a2, a3⟩ := er.own j c u w
      have ne : a ≠ ad := fun z => c' (er.apart _ _ _ _ _ _ _ h w hv (by rw [← z]; exact a1))
      exact ⟨a, a1, a2, a3.mono (fun _ q => q) k fun u q => by rw [upd_ne ne]; exact q⟩
  · have src : ∀ {j c u}, Sl (e.set i (some (.own b (.lst ds)))) j (.own c u) → ∃ u', Sl e j (.own c u') := fun {j c u} q => by
      rcases sl_set q with ⟨c', w, _⟩ | ⟨c', w⟩
      · subst c'; cases w; exact ⟨o, h⟩
      · exact ⟨u, w⟩
    obtain ⟨_, s1⟩ := src q1
    obtain ⟨_, s2⟩ := src q2
    exact er.apart _ _ _ _ _ _ _ s1 s2 w1 w2
  · have ne : a ≠ ad := fun z => no ⟨i, b, o, h, by rw [z]; exact hv⟩
    rw [upd_ne ne]; exact q
  · by_cases c : a = ad
    · rw [c, upd_same]; simp
    · rw [upd_ne c]; exact q
  · rcases sl_set q with ⟨c', w, _⟩ | ⟨c', w⟩
    · subst c'; cases w; exact .inl ⟨o, h, rfl⟩
    · exact .inl ⟨u, w, rfl⟩
  · refine ⟨rfl, .inl ?_⟩
    by_cases c : i = j
    · subst c; cases h.symm.trans q; exact ⟨_, sl_self h⟩
    · exact ⟨u, sl_ne q c⟩
  · refine ⟨rfl, ?_⟩
    by_cases c : i = j
    · subst c; cases h.symm.trans q
    · exact sl_ne q c
  · refine ⟨rfl, ?_⟩
    by_cases c : i = j
    · subst c; cases h.symm.trans q
    · exact sl_ne q c
theorem isOwn_at {i : Nat} (h : isOwn e i = true) : ∃ b o, Sl e i (.own b o) := by
  unfold isOwn at h
  split at h
  · next b o z => exact ⟨b, o, z⟩
  · cases h
theorem sw_if {c : Prop} [Decidable c] {x : SR} (h : Sw l W N B σ F H e (if c then x else .no) q) : c ∧ Sw l W N B σ F H e x q := by
  split at h
  · next z => exact ⟨z, h⟩
  · exact h.elim
theorem if_fun {c : Bool} {x : SR} : (if c then x else SR.no) = (if c = true then x else .no) := rfl
/-- slot i's object, at the end of a run -/
theorem own_here {ad : Addr} {i : Nat} {b : Bool} {o : Ob} {F1 : Addr → Prop} {H1 : Hp} {e1 : En} (hv : Vl σ i (.ref ad)) (er1 : Er l.K F1 H1 σ e1) (h : Sl e1 i (.own b o)) : RpO l.K F1 H1 ad o := by
  obtain ⟨a', hv', _, ro⟩ := er1.own i b o h
  cases hv.symm.trans hv'
  exact ro
def rAddr (σ : St) (i : Nat) (ad : Addr) : Prop := Vl σ i (.ref ad)
theorem ps_appa {i : Nat} {c' : E} {x : Str} {y : Expr} {p ap cp pos : Pos} (c : Cc X n sc l k W) (hi : n.N[i]? = some x) (hx : vis sc x = true) (hd : (x == ("__debug__" : Str)) = false) (hd2 : (x == ("__classdict__" : Str)) = false) (hl : (ap.endLine == cp.line) = true) (hs : isStar y = false) (hy : PE X y (Tx l W c')) :
    PS X (.Expr (.Call (.Attribute (.Name x p) "append" ap) [y] [] cp) pos) (Ts l W (.app i c')) := by
  refine ps_imp (ps_expr (pe_bm PySem.F.plainAttrs_list PySem.F.slot_list_append PySem.F.type_list_append mt_append (pe_var (by rw [c.names]; exact hi) (c.vis hx) hd hd2) (pa_cons hy pa_nil (not_star hs [])) rfl (by rw [not_star hs]; rfl) hl (not_star hs []) rfl) rfl) ?_
  rintro D σ H ⟨e, F, N, a, h⟩
  rw [evS] at h
  obtain ⟨ho, h⟩ := sw_if h
  obtain ⟨b, o, so⟩ := isOwn_at ho
  obtain ⟨ad, hv, _, ro⟩ := a.er.own i b o so
  refine ⟨.ref ad, hv, .inl ⟨rfl, ?_⟩, ?_⟩
  · cases ro with | lst h1 _ => exact ⟨_, .inl (.inl h1)⟩
  rw [of_bind] at h
  refine sw_tx a h fun r F1 H1 e1 v p1 a1 rv h0 _ => ?_
  obtain ⟨d, e2, hf, h2⟩ := of_fz' h0
  obtain ⟨F2, pf, rp, _⟩ := Rv.fz (x := true) (B := More Non H) p1.rel rv (fun a z => .inr z) hf
  split at h2
  · next b2 xs s2 =>
    split at h2
    · next hlt =>
      have ro2 := own_here hv pf.rel s2
      cases ro2 with
      | lst g1 g2 =>
        refine ⟨ad, _, v, rfl, rfl, g1, by rw [g2.length, ← line_eq]; exact hlt, ?_⟩
        exact h2 F2 _ σ ((p1.trans a.er pf).loose.trans a.er (Po.write pf.rel s2 hv (g2.append (.cons rp .nil))))
    · exact h2.elim
  · exact h2.elim
def rExtR (K : PySem.W.Frag) : V → List V → Hp → VK → Prop := fun x vs H Q => ∃ l b xs zs, x = .ref l ∧ vs = [.ref b] ∧ H l = some (.lst xs) ∧ RdK K H b zs ∧ xs.length + zs.length ≤ sizeLine ∧ Q .non (upd H l (.lst (xs ++ zs)))
theorem mt_extR : MtM X "list.extend" (rExtR X.K) := by
  intro pins s σ H x vs v us Q I rx rv ⟨l, b, xs, zs, e1, e2, hH, hB, hz, q⟩
  subst e1 e2
  cases rx
  obtain ⟨u, rfl, ru⟩ := rv.one
  cases ru
  obtain ⟨_, js, m, r, len1, at1⟩ := I.lstM hH
  obtain ⟨_, ks, m', r', at2⟩ := Inv.rd I hB
  have len2 := r'.length
  have fits : js.toArray.size + ks.toArray.size ≤ sizeLine := by simp only [List.size_toArray]; omega
  have short : ¬ (!js.toArray.isEmpty && Builtin.List.listTooLong (js.toArray.size + ks.toArray.size)) = true := by rw [notLongL fits, Bool.and_false]; decide
  have K := AutoSeq1.list_extend_list_list_0 l js.toArray m b ks.toArray m' short (by simp only [List.size_toArray]; omega) (by simp only [List.size_toArray]; omega)
  exact call_meets F.slot_list_extend ⟨_, at1, rfl⟩ F.entry_list_extend (F.args_list_extend_2 _ _) K ⟨at1, at2, .non, _, I.lset (its' := js ++ ks) hH at1 (by simp) (r.append r') (by rw [List.length_append]; exact hz), rfl, q⟩
theorem ps_exta {i : Nat} {c' : E} {x : Str} {y : Expr} {p ap cp pos : Pos} (c : Cc X n sc l k W) (hi : n.N[i]? = some x) (hx : vis sc x = true) (hd : (x == ("__debug__" : Str)) = false) (hd2 : (x == ("__classdict__" : Str)) = false) (hl : (ap.endLine == cp.line) = true) (hs : isStar y = false) (hy : PE X y (Tx l W c')) :
    PS X (.Expr (.Call (.Attribute (.Name x p) "extend" ap) [y] [] cp) pos) (Ts l W (.ext i c')) := by
  refine ps_imp (ps_expr (pe_bm PySem.F.plainAttrs_list PySem.F.slot_list_extend PySem.F.type_list_extend mt_extR (pe_var (by rw [c.names]; exact hi) (c.vis hx) hd hd2) (pa_cons hy pa_nil (not_star hs [])) rfl (by rw [not_star hs]; rfl) hl (not_star hs []) rfl) rfl) ?_
  rintro D σ H ⟨e, F, N, a, h⟩
  rw [evS] at h
  obtain ⟨ho, h⟩ := sw_if h
  obtain ⟨b, o, so⟩ := isOwn_at ho
  obtain ⟨ad, hv, _, ro⟩ := a.er.own i b o so
  refine ⟨.ref ad, hv, .inl ⟨rfl, ?_⟩, ?_⟩
  · cases ro with | lst h1 _ => exact ⟨_, .inl (.inl h1)⟩
  rw [of_bind] at h
  refine sw_tx a h fun r F1 H1 e1 v p1 a1 rv h0 _ => ?_
  rw [of_bind] at h0
  cases c2 : look e1 r with
  | none => rw [rd_no c2] at h0; exact h0.elim
  | some d =>
    rw [rd_at c2] at h0
    dsimp only [SR.of] at h0
    have rt := rv.read p1.rel c2
    split at h0
    · next a' e'' he =>
      split at he
      · next b2 xs ys s2 =>
        split at he
        · next hlt =>
          cases he
          obtain ⟨ad2, zs, rfl, g3, g4⟩ := rt.lst
          have ro2 := own_here hv a1.er s2
          cases ro2 with
          | lst g1 g2 =>
            refine ⟨ad, ad2, _, zs, rfl, rfl, g1, by rw [← c.K]; exact g3, by rw [g2.length, g4.length, ← line_eq]; exact hlt, ?_⟩
            exact h0 F1 _ σ (p1.loose.trans a.er (Po.write a1.er s2 hv (g2.append g4)))
        · cases he
      · cases he
    · next he =>
      split at he
      · split at he <;> cases he
      · cases he
    · exact h0.elim
theorem assign_sub {x : Str} {i : Expr} {p pos : Pos} {env : Env} (h : isSlice i = false) : ∀ v, assign (.Subscript (.Name x p) i pos) env v = (do
      let ov ← holding [v] (eval (.Name x p) env)
      let iv ← holding [v, ov] (eval i env)
      standAt pos
      holding [v, ov, iv] (setItem ov iv v)
      release [v, ov, iv] []) := by
  intro v
  cases i <;> first | rfl | cases h
theorem ps_seta {i : Nat} {ci c' : E} {x : Str} {y z : Expr} {p sp pos : Pos} (c : Cc X n sc l k W) (hi : n.N[i]? = some x) (hx : vis sc x = true) (hd : (x == ("__debug__" : Str)) = false) (hd2 : (x == ("__classdict__" : Str)) = false) (hz : isSlice z = false) (hy : PE X y (Tx l W c')) (hiz : PE X z (Tx l W ci)) :
    PS X (.Assign [.Subscript (.Name x p) z sp] y pos) (Ts l W (.setI i ci c')) := by
  refine ps_imp (ps_asg hy (pg_sub (pe_var (by rw [c.names]; exact hi) (c.vis hx) hd hd2) hiz set_list (assign_sub hz)) (by cases y <;> rfl) (by cases y <;> rfl) rfl) ?_
  rintro D σ H ⟨e, F, N, a, h⟩
  rw [evS] at h
  obtain ⟨ho, h⟩ := sw_if h
  obtain ⟨b, o, so⟩ := isOwn_at ho
  obtain ⟨ad, hv, _, ro⟩ := a.er.own i b o so
  rw [of_bind] at h
  refine sw_tx a h fun r F1 H1 e1 v p1 a1 rv h0 h1 => ?_
  refine ⟨.ref ad, hv, ?_⟩
  rw [of_bind] at h0
  refine ⟨e1, F1, a1.er, ((Sw.of a1.er (Sw.step a.er p1.loose h0)).less fun _ z => z.elim).mono fun s F2 H2 e2 p2 h3 w rw_ => ?_⟩
  obtain ⟨d, e3, hf, h4⟩ := of_fz' h3
  have rv2 := rv.mono a1.er p2
  obtain ⟨F3, pf, rp, _⟩ := Rv.fz (x := true) (B := More (More Non H) H1) p2.rel rv2 (fun a z => .inl (.inr z)) hf
  rw [of_bind] at h4
  cases c2 : look e3 s with
  | none => rw [rd_no c2] at h4; exact h4.elim
  | some d' =>
    rw [rd_at c2] at h4
    dsimp only [SR.of] at h4
    have dd : look e2 s = some d' := by
      cases rw_ with
      | v _ => exact c2
      | fr _ _ _ _ => exact c2
      | sl hs =>
        rename_i j
        -- the slot's reading is the same when r is frozen
        cases r with
        | v _ => cases hf; exact c2
        | fr _ => cases hf; exact c2
        | sl i2 =>
          simp only [frz] at hf
          split at hf
          · cases hf; exact c2
          · next o2 e4 =>
            cases hf
            simp only [look] at c2 ⊢
            by_cases cj : i2 = j
            · subst cj
              rw [List.getElem?_set_self (Sl.lt e4)] at c2
              rw [e4]; exact c2
            · rw [List.getElem?_set_ne cj] at c2; exact c2
          · next o2 e4 =>
            cases hf
            simp only [look] at c2 ⊢
            by_cases cj : i2 = j
            · subst cj
              rw [List.getElem?_set_self (Sl.lt e4)] at c2
              rw [e4]; exact c2
            · rw [List.getElem?_set_ne cj] at c2; exact c2
          · cases hf; exact c2
          · cases hf
    have rt := rw_.read p2.rel dd
    split at h4
    · next a' e'' he =>
      split at he
      · next b2 o2 s2 =>
        split at he
        · next o3 so3 =>
          cases he
          have ro2 := own_here hv pf.rel s2
          cases ro2 with
          | lst g1 g2 =>
            rename_i vs ds
            cases d' <;> simp only [setOb] at so3 <;> first | (cases so3; done) | skip
            rename_i m
            rw [Option.map_eq_some_iff] at so3
            obtain ⟨j, hj, rfl⟩ := so3
            cases rt.int
            refine ⟨ad, vs, m, j, rfl, rfl, g1, ?_, ?_⟩
            · rw [g2.length]; exact hj
            · exact h4 F3 _ σ (pf.loose.trans p2.rel (Po.write pf.rel s2 hv (g2.set rp j)))
        · cases he
      · cases he
    · next he =>
      split at he
      · split at he <;> cases he
      · cases he
    · exact h4.elim
end
end Zv

set_option Elab.async false
set_option autoImplicit false
set_option linter.all false
set_option maxRecDepth 100000
/-! statements: op=, several names, loops -/
namespace Zv
open PySem PySem.Spec L2
open PyProof.Rows hiding St
section
variable {l : Lk} {W : WX} {σ σ' : St} {B B' N F F' : Addr → Prop} {H H' : Hp} {e e' : En} {α β : Type} {q q' : Ec}
variable {X : Cx} {n : Nm} {sc : Scope} {k : Nat}
def rIop (o : Bop) : R2 := fun x y H Q => ∃ i j k, x = .int i ∧ y = .int j ∧ intBop o i j = some k ∧ Q (.int k) H
def augOk : Bop → Bool
  | .pow => false
  | _ => true
theorem op_iop (o : Bop) (ho : augOk o = true) : OpR X (inplaceOp o.op) (rIop o) := by
  intro pins s σ H x y v u Q I rx ry h
  obtain ⟨i, j, k, rfl, rfl, q, g⟩ := h
  cases o <;> simp only [intBop] at q <;> (try split at q) <;> first | (cases q; done) | (cases ho; done) | cases q
  · exact iop_add pins s σ H _ _ v u Q I rx ry ⟨i, j, rfl, rfl, g⟩
  · exact iop_sub pins s σ H _ _ v u Q I rx ry ⟨i, j, rfl, rfl, g⟩
  · exact iop_mul pins s σ H _ _ v u Q I rx ry ⟨i, j, rfl, rfl, by assumption, g⟩
  · exact iop_fdiv pins s σ H _ _ v u Q I rx ry ⟨i, j, rfl, rfl, by assumption, g⟩
  · exact iop_mod pins s σ H _ _ v u Q I rx ry ⟨i, j, rfl, rfl, by assumption, g⟩
  · exact iop_shl pins s σ H _ _ v u Q I rx ry ⟨i, j, rfl, rfl, by assumption, g⟩
  · exact iop_shr pins s σ H _ _ v u Q I rx ry ⟨i, j, rfl, rfl, by assumption, g⟩
  · exact iop_and pins s σ H _ _ v u Q I rx ry ⟨i, j, rfl, rfl, g⟩
  · exact iop_or pins s σ H _ _ v u Q I rx ry ⟨i, j, rfl, rfl, g⟩
theorem ps_auga {i : Nat} {o : Bop} {c' : E} {x : Str} {y : Expr} {px pos : Pos} (c : Cc X n sc l k W) (ho : augOk o = true) (hi : n.N[i]? = some x) (hx : loc sc x = true) (hy : PE X y (Tx l W c')) : PS X (.AugAssign (.Name x px) o.op y pos) (Ts l W (.aug i o c')) := by
  refine ps_imp (ps_aug (by rw [c.names]; exact c.nd) (by rw [c.names]; exact hi) (c.loc hx).1 hy (op_iop o ho) (c.loc hx).2) ?_
  rintro D σ H ⟨e, F, N, a, h⟩
  rw [evS] at h
  dsimp only at h
  split at h
  · next m sm =>
    obtain ⟨w, hv, rw_⟩ := a.er.val i _ sm
    cases rw_
    refine ⟨_, hv, ?_⟩
    rw [of_bind] at h
    refine sw_tx a h fun r F1 H1 e1 v p1 a1 rv h0 _ => ?_
    rw [of_bind] at h0
    cases c2 : look e1 r with
    | none => rw [rd_no c2] at h0; exact h0.elim
    | some d =>
      rw [rd_at c2] at h0
      dsimp only [SR.of] at h0
      have rt := rv.read p1.rel c2
      cases d <;> first | (exact h0.elim) | skip
      rename_i j
      cases rt.int
      cases c3 : intBop o m j with
      | none => simp only [M.bind, M.lift, c3] at h0; exact h0.elim
      | some kk =>
        have h0' : Sw l W N Non σ F H e (SR.of (M.bind (M.lift (some kk)) (fun k => asgT (.nm i) (.v (.int k))) e1) fun _ => .nx) (Ends.ec D) := by rw [← c3]; exact h0
        rw [bind_at (show M.lift (some kk) e1 = .ok kk e1 from rfl)] at h0'
        obtain ⟨F2, e2, pp, h2⟩ := asg_one (r := .v (.int kk)) (v := .int kk) (.inl rfl) a.er p1 (.v (.int kk)) h0'
        exact ⟨m, j, kk, rfl, rfl, c3, h2 F2 H1 _ pp⟩
  · exact h.elim

/-! ### a, b = x, y -/
def ckF (n : Nm) (sc : Scope) : Tgs → List Expr → Bool
  | .nil, [] => true
  | .cons t r, .Name x _ :: es => decide (n.N[tgI t]? = some x) && loc sc x && ckF n sc r es
  | _, _ => false
theorem pgs_flat (c : Cc X n sc l k W) : ∀ {ts : Tgs} {es : List Expr}, ckF n sc ts es = true → PGs X es (gsOf ts) ∧ (assignEach es X.env).length = es.length ∧ (assignEach es X.env).findIdx? (·.1) = none
  | .nil, [], _ => ⟨pgs_nil, rfl, rfl⟩
  | .nil, _ :: _, h => by cases h
  | .cons _ _, [], h => by cases h
  | .cons t r, e :: es, h => by
    cases e <;> first | (cases h; done) | skip
    simp only [ckF, Bool.and_eq_true, decide_eq_true_eq] at h
    obtain ⟨h1, h2, h3⟩ := pgs_flat c h.2
    refine ⟨pgs_cons (pg_name (by rw [c.names]; exact c.nd) (by rw [c.names]; exact h.1.1) (c.loc h.1.2).1 (c.loc h.1.2).2) h1 rfl, ?_, ?_⟩
    · show (_ :: assignEach es X.env).length = _
      simp [h2]
    · show List.findIdx? _ ((false, _) :: assignEach es X.env) = none
      rw [List.findIdx?_cons, h3]; rfl
theorem ps_part {ts : Tgs} {cs : Es} {es ys : List Expr} {j j2 : Nat} {p p2 pos : Pos} (c : Cc X n sc l k W) (hf : flatT ts = true) (ht : ckF n sc ts es = true) (hl : ys.length = es.length) (hw : swappedStores [.Tuple es j p] (.Tuple ys j2 p2) X.env = pure none) (hl2 : ys.length ≤ 1000) (hy : PA X ys (Ta l W cs)) (hn : ∀ {e e' rs}, evs l.G l.cl cs e = .ok rs e' → rs.length = ys.length) :
    PS X (.Assign [.Tuple es j p] (.Tuple ys j2 p2) pos) (Ts l W (.par ts cs)) := by
  obtain ⟨g1, g2, g3⟩ := pgs_flat c ht
  refine ps_imp (ps_asg (pe_tup hy) (pg_tup c.gx.calm g1 g2 g3) rfl hw rfl) ?_
  intro D σ H h
  obtain ⟨e, F, er, hh⟩ := par_tup hf h
  refine ⟨e, F, er, ?_⟩
  have hn' : ∀ {e' rs}, evs l.G l.cl cs e = .ok rs e' → rs.length = ys.length := hn
  cases q : evs l.G l.cl cs e with
  | ok rs e1 =>
    rw [q] at hh
    intro F1 H1 p1 vs rvs
    have len : vs.length = ys.length := by rw [rvs.len, hn' q]
    refine ⟨by rw [len, ← line_eq]; unfold line; omega, fun pp hp => ⟨pp, vs, rfl, .inl (.inl upd_same), by rw [len, hl], hh F1 H1 p1 vs rvs pp hp⟩⟩
  | ex y e1 => rw [q] at hh; exact hh
  | no => rw [q] at hh; exact hh
def isLcl (sc : Scope) (x : Str) : Bool := decide (sc.names.lookup x = some .local)
/-- two plain names -/
def swap2 (sc : Scope) (es ys : List Expr) : Bool := match es, ys with
  | [.Name x px, .Name y py], [a, b] => isLcl sc x && isLcl sc y && px.line == py.line && !(x == y) && !isStar a && !isStar b && !((foldedForSure 8 a) && foldedForSure 8 b) && !((constantsAlone 8 a) && constantsAlone 8 b)
  | _, _ => false
def swap3 (sc : Scope) (es ys : List Expr) : Bool := match es, ys with
  | [.Name x px, .Name y py, .Name z pz], [a, b, c] => isLcl sc x && isLcl sc y && isLcl sc z && px.line == py.line && px.line == pz.line && !(x == y) && !(x == z) && !(y == z) && !isStar a && !isStar b && !isStar c && !((foldedForSure 8 a) && (foldedForSure 8 b) && foldedForSure 8 c) && !((constantsAlone 8 a) && (constantsAlone 8 b) && constantsAlone 8 c)
  | _, _ => false
/-- no swap -/
def noSwap (es : List Expr) : Expr → Bool
  | .Tuple ys _ _ => !(es.length == 2 || es.length == 3) || (ys.all (foldedForSure 8) && !ys.any fun | .Starred .. => true | _ => false)
  | _ => true
theorem noSwap_ok {es : List Expr} {j : Nat} {p : Pos} {y : Expr} {env : Env} (h : noSwap es y = true) : swappedStores [.Tuple es j p] y env = pure none := by
  cases y with
  | Tuple ys j2 p2 =>
    unfold swappedStores
    dsimp only
    by_cases h1 : (!(es.length == 2 || es.length == 3) || ys.length != es.length || env.blockKind != .function) = true
    · rw [if_pos h1]
    · rw [if_neg h1]
      simp only [noSwap, Bool.or_eq_true, Bool.and_eq_true, Bool.not_eq_true'] at h
      rcases h with h | ⟨h2, h3⟩
      · exfalso; apply h1; rw [h]; rfl
      · split
        · rfl
        · split
          · rfl
          · first | rfl | (rw [if_pos h2])
  | _ => rfl
/-- no swap: a name that is not a plain local one -/
def noSwapC (sc : Scope) (es : List Expr) : Bool := es.any fun e => match e with
  | .Name x _ => decide (sc.names.lookup x = some .cell)
  | _ => false
theorem filterMap_lt {α β : Type} {f : α → Option β} : ∀ {l : List α}, (∃ x ∈ l, f x = none) → (l.filterMap f).length < l.length
  | [], ⟨x, h, _⟩ => by cases h
  | a :: r, ⟨x, h, hx⟩ => by
    rcases List.mem_cons.mp h with rfl | h
    · rw [List.filterMap_cons, hx]
      exact Nat.lt_succ_of_le (List.length_filterMap_le f r)
    · have ih := filterMap_lt (f := f) ⟨x, h, hx⟩
      rw [List.filterMap_cons]
      split
      · exact Nat.lt_succ_of_lt ih
      · simp only [List.length_cons]; omega
theorem noSwapC_ok (c : Cc X n sc l k W) {es : List Expr} {j : Nat} {p : Pos} {y : Expr} (h : noSwapC sc es = true) : swappedStores [.Tuple es j p] y X.env = pure none := by
  cases y with
  | Tuple ys j2 p2 =>
    unfold swappedStores
    dsimp only
    split
    · rfl
    · split
      · rfl
      · rw [if_pos]
        rw [Bool.or_eq_true]
        left
        rw [bne_iff_ne]
        apply Nat.ne_of_lt
        apply filterMap_lt
        unfold noSwapC at h
        rw [List.any_eq_true] at h
        obtain ⟨e, he, hx⟩ := h
        refine ⟨e, he, ?_⟩
        cases e <;> first | (cases hx; done) | skip
        rename_i x px
        have hc : sc.names.lookup x = some .cell := of_decide_eq_true hx
        have k1 : (X.env.kindOf x == some NameKind.local) = false := by
          show (X.env.scope.names.lookup x == _) = false
          rw [c.keep x _ (by decide) hc]; rfl
        simp only [k1, Bool.false_and]
        rfl
  | _ => rfl
theorem swap2_ok (c : Cc X n sc l k W) {es ys : List Expr} {j j2 : Nat} {p p2 : Pos} (h : swap2 sc es ys = true) : ∃ x y px py a b, es = [.Name x px, .Name y py] ∧ ys = [a, b] ∧ X.env.scope.names.lookup x = some .local ∧ X.env.scope.names.lookup y = some .local ∧ x ≠ y ∧ isStar a = false ∧ isStar b = false ∧
    swappedStores [.Tuple es j p] (.Tuple ys j2 p2) X.env = pure (some [x, y]) := by
  unfold swap2 at h
  split at h
  · next x px y py a b =>
    simp only [Bool.and_eq_true, Bool.not_eq_true', isLcl, decide_eq_true_eq] at h
    obtain ⟨⟨⟨⟨⟨⟨⟨h1, h2⟩, h3⟩, h4⟩, h5⟩, h6⟩, h7⟩, h8⟩ := h
    have e1 := c.keep x _ (by decide) h1
    have e2 := c.keep y _ (by decide) h2
    have ne : x ≠ y := fun z => by rw [z] at h4; simp at h4
    refine ⟨x, y, px, py, a, b, rfl, rfl, e1, e2, ne, h5, h6, ?_⟩
    have k1 : (X.env.kindOf x == some NameKind.local) = true := by show (X.env.scope.names.lookup x == _) = true; rw [e1]; rfl
    have k2 : (X.env.kindOf y == some NameKind.local) = true := by show (X.env.scope.names.lookup y == _) = true; rw [e2]; rfl
    unfold swappedStores
    dsimp only
    rw [c.block]
    have l1 : (px.line == ((([Expr.Name x px, Expr.Name y py].head?.map (·.pos.line)).getD 0))) = true := by show (px.line == px.line) = true; simp
    have l2 : (py.line == ((([Expr.Name x px, Expr.Name y py].head?.map (·.pos.line)).getD 0))) = true := by show (py.line == px.line) = true; rw [beq_iff_eq] at h3 ⊢; exact h3.symm
    simp only [List.filterMap_cons, List.filterMap_nil, k1, k2, l1, l2, Bool.and_self, if_true]
    rw [if_neg (by simp)]
    split
    · next hh =>
      exfalso
      revert hh
      cases a <;> first | (cases h5; done) | (cases b <;> first | (cases h6; done) | (intro hh; cases hh))
    · have ne' : (y == x) = false := by rw [beq_eq_false_iff_ne]; exact fun z => ne z.symm
      rw [if_neg (by simp [List.eraseDups_cons, h4, ne']), if_neg (by simp only [List.all_cons, List.all_nil, Bool.and_true, h7]; decide), if_neg (by simp only [List.all_cons, List.all_nil, Bool.and_true, h8]; decide)]
  · cases h
end
end Zv

set_option Elab.async false
set_option autoImplicit false
set_option linter.all false
set_option maxRecDepth 100000
/-! statements: several names, loops -/
namespace Zv
open PySem PySem.Spec L2
open PyProof.Rows hiding St
section
variable {l : Lk} {W : WX} {σ σ' : St} {B B' N F F' : Addr → Prop} {H H' : Hp} {e e' : En} {α β : Type} {q q' : Ec}
variable {X : Cx} {n : Nm} {sc : Scope} {k : Nat}
theorem swap3_ok (c : Cc X n sc l k W) {es ys : List Expr} {j j2 : Nat} {p p2 : Pos} (h : swap3 sc es ys = true) : ∃ x y z px py pz a b d, es = [.Name x px, .Name y py, .Name z pz] ∧ ys = [a, b, d] ∧ X.env.scope.names.lookup x = some .local ∧ X.env.scope.names.lookup y = some .local ∧ X.env.scope.names.lookup z = some .local ∧ x ≠ y ∧ x ≠ z ∧ y ≠ z ∧
    swappedStores [.Tuple es j p] (.Tuple ys j2 p2) X.env = pure (some [x, y, z]) := by
  unfold swap3 at h
  split at h
  · next x px y py z pz a b d =>
    simp only [Bool.and_eq_true, Bool.not_eq_true', isLcl, decide_eq_true_eq] at h
    obtain ⟨⟨⟨⟨⟨⟨⟨⟨⟨⟨⟨⟨h1, h2⟩, h2'⟩, h3⟩, h3'⟩, h4⟩, h4'⟩, h4''⟩, h5⟩, h6⟩, h6'⟩, h7⟩, h8⟩ := h
    have e1 := c.keep x _ (by decide) h1
    have e2 := c.keep y _ (by decide) h2
    have e3 := c.keep z _ (by decide) h2'
    have ne : x ≠ y := fun z => by rw [z] at h4; simp at h4
    have ne2 : x ≠ z := fun z => by rw [z] at h4'; simp at h4'
    have ne3 : y ≠ z := fun z => by rw [z] at h4''; simp at h4''
    refine ⟨x, y, z, px, py, pz, a, b, d, rfl, rfl, e1, e2, e3, ne, ne2, ne3, ?_⟩
    have k1 : (X.env.kindOf x == some NameKind.local) = true := by show (X.env.scope.names.lookup x == _) = true; rw [e1]; rfl
    have k2 : (X.env.kindOf y == some NameKind.local) = true := by show (X.env.scope.names.lookup y == _) = true; rw [e2]; rfl
    have k3 : (X.env.kindOf z == some NameKind.local) = true := by show (X.env.scope.names.lookup z == _) = true; rw [e3]; rfl
    unfold swappedStores
    dsimp only
    rw [c.block]
    have l1 : (px.line == ((([Expr.Name x px, Expr.Name y py, Expr.Name z pz].head?.map (·.pos.line)).getD 0))) = true := by show (px.line == px.line) = true; simp
    have l2 : (py.line == ((([Expr.Name x px, Expr.Name y py, Expr.Name z pz].head?.map (·.pos.line)).getD 0))) = true := by show (py.line == px.line) = true; rw [beq_iff_eq] at h3 ⊢; exact h3.symm
    have l3 : (pz.line == ((([Expr.Name x px, Expr.Name y py, Expr.Name z pz].head?.map (·.pos.line)).getD 0))) = true := by show (pz.line == px.line) = true; rw [beq_iff_eq] at h3' ⊢; exact h3'.symm
    simp only [List.filterMap_cons, List.filterMap_nil, k1, k2, k3, l1, l2, l3, Bool.and_self, if_true]
    rw [if_neg (by simp)]
    split
    · next hh =>
      exfalso
      simp only [List.any_cons, List.any_nil, Bool.or_false, Bool.or_eq_true] at hh
      rcases hh with hh | hh | hh
      · cases a <;> first | (cases h5; done) | (cases hh)
      · cases b <;> first | (cases h6; done) | (cases hh)
      · cases d <;> first | (cases h6'; done) | (cases hh)
    · have n1 : (y == x) = false := by rw [beq_eq_false_iff_ne]; exact fun z => ne z.symm
      have n2 : (z == x) = false := by rw [beq_eq_false_iff_ne]; exact fun z => ne2 z.symm
      have n3 : (z == y) = false := by rw [beq_eq_false_iff_ne]; exact fun z => ne3 z.symm
      have g7 : (foldedForSure 8 a && (foldedForSure 8 b && foldedForSure 8 d)) = false := by rw [← Bool.and_assoc]; exact h7
      have g8 : (constantsAlone 8 a && (constantsAlone 8 b && constantsAlone 8 d)) = false := by rw [← Bool.and_assoc]; exact h8
      rw [if_neg (by simp [List.eraseDups_cons, h4, h4', h4'', n1, n2, n3]), if_neg (by simp only [List.all_cons, List.all_nil, Bool.and_true, g7]; decide), if_neg (by simp only [List.all_cons, List.all_nil, Bool.and_true, g8]; decide)]
  · cases h
theorem ps_par2a {ts : Tgs} {cs : Es} {es ys : List Expr} {j j2 : Nat} {p p2 pos : Pos} (c : Cc X n sc l k W) (hf : flatT ts = true) (ht : ckF n sc ts es = true) (hw : swap2 sc es ys = true) (hy : PA X ys (Ta l W cs)) :
    PS X (.Assign [.Tuple es j p] (.Tuple ys j2 p2) pos) (Ts l W (.par ts cs)) := by
  obtain ⟨x, y, px, py, a, b, rfl, rfl, e1, e2, ne, _, _, hsw⟩ := swap2_ok (j := j) (j2 := j2) (p := p) (p2 := p2) c hw
  rcases ts with _ | ⟨t1, _ | ⟨t2, _ | ⟨t3, r⟩⟩⟩ <;> first | (cases ht; done) | skip
  · simp only [ckF, Bool.and_eq_true] at ht; cases ht.2
  · simp only [ckF, Bool.and_eq_true, decide_eq_true_eq] at ht
    obtain ⟨⟨h1, h1'⟩, ⟨h2, h2'⟩, _⟩ := ht
    have hij : tgI t1 ≠ tgI t2 := fun z => by rw [z] at h1; exact ne (Option.some.inj (h1.symm.trans h2))
    refine ps_imp (ps_par c.gx.calm (by rw [c.names]; exact c.nd) (by rw [c.names]; exact h1) (by rw [c.names]; exact h2) hij e1 e2 hy hsw) fun D σ H h => (par_tx hf h).mono ?_
    rintro vs H1 ⟨v, r, rfl, w, r', rfl, rfl, g⟩
    exact ⟨v, w, rfl, g⟩
  · simp only [ckF, Bool.and_eq_true] at ht; cases ht.2.2
theorem ps_par3a {ts : Tgs} {cs : Es} {es ys : List Expr} {j j2 : Nat} {p p2 pos : Pos} (c : Cc X n sc l k W) (hf : flatT ts = true) (ht : ckF n sc ts es = true) (hw : swap3 sc es ys = true) (hy : PA X ys (Ta l W cs)) :
    PS X (.Assign [.Tuple es j p] (.Tuple ys j2 p2) pos) (Ts l W (.par ts cs)) := by
  obtain ⟨x, y, z, px, py, pz, a, b, d, rfl, rfl, e1, e2, e3, ne, ne2, ne3, hsw⟩ := swap3_ok (j := j) (j2 := j2) (p := p) (p2 := p2) c hw
  rcases ts with _ | ⟨t1, _ | ⟨t2, _ | ⟨t3, _ | ⟨t4, r⟩⟩⟩⟩ <;> first | (cases ht; done) | skip
  · simp only [ckF, Bool.and_eq_true] at ht; cases ht.2
  · simp only [ckF, Bool.and_eq_true] at ht; cases ht.2.2
  · simp only [ckF, Bool.and_eq_true, decide_eq_true_eq] at ht
    obtain ⟨⟨h1, h1'⟩, ⟨h2, h2'⟩, ⟨h3, h3'⟩, _⟩ := ht
    have hij : tgI t1 ≠ tgI t2 := fun z => by rw [z] at h1; exact ne (Option.some.inj (h1.symm.trans h2))
    have hil : tgI t1 ≠ tgI t3 := fun z => by rw [z] at h1; exact ne2 (Option.some.inj (h1.symm.trans h3))
    have hjl : tgI t2 ≠ tgI t3 := fun z => by rw [z] at h2; exact ne3 (Option.some.inj (h2.symm.trans h3))
    refine ps_imp (ps_par3 c.gx.calm (by rw [c.names]; exact c.nd) (by rw [c.names]; exact h1) (by rw [c.names]; exact h2) (by rw [c.names]; exact h3) hij hil hjl e1 e2 e3 hy hsw) fun D σ H h => (par_tx hf h).mono ?_
    rintro vs H1 ⟨u, r, rfl, v, r', rfl, w, r'', rfl, rfl, g⟩
    exact ⟨u, v, w, rfl, g⟩
  · simp only [ckF, Bool.and_eq_true] at ht; cases ht.2.2.2

/-! ### while -/
theorem Sw.body {x : SR} {f : En → SR} (er : Er l.K F H σ e) (h : Sw l W N B σ F H e (match x with | .nx e2 => f e2 | .ct e2 => f e2 | .bk e2 => .nx e2 | r => r) q) :
    Sw l W N B σ F H e x ⟨fun F1 H1 σ1 e1 => Sw l W N (More B H) σ1 F1 H1 e1 (f e1) q, q.nx, fun F1 H1 σ1 e1 => Sw l W N (More B H) σ1 F1 H1 e1 (f e1) q, q.rt⟩ := by
  cases x with
  | nx e1 => exact fun F1 H1 σ1 p1 => Sw.step er p1 h
  | ct e1 => exact fun F1 H1 σ1 p1 => Sw.step er p1 h
  | bk e1 => exact h
  | _ => exact h
theorem ps_whla {c' : E} {b : Ss} {y : Expr} {s : List Stmt} {pos : Pos} (po : PassesOwn (model X.prog X.w) X.A X.env X.xe) (hc : PT X y (Tt l W c')) (hb : PSs X s (Tss l W b)) : PS X (.While y s [] pos) (Ts l W (.whl c' b)) := by
  refine ps_imp (ps_while po hc hb) ?_
  rintro D σ H ⟨e, F, N, a, h⟩
  rw [evS] at h
  refine ⟨fun m σ H => ∃ e F N, At0 l N σ F H e ∧ Sw l W N Non σ F H e (whL (testOf (ev l.G l.cl c')) (evSs l.G l.cl b) m e) (Ends.ec D), ⟨turns, e, F, N, a, h⟩, ?_⟩
  rintro m σ H ⟨e, F, N, a, h⟩
  cases m with
  | zero => exact h.elim
  | succ m =>
    unfold whL at h
    refine ⟨e, F, a.er, (Sw.of a.er h).mono fun t F1 H1 e1 p1 h1 => ?_⟩
    have a1 := a.go p1.loose
    cases t with
    | false => exact h1 F1 H1 σ (Po.refl a1.er)
    | true =>
      refine ⟨fun σ' H' => ∃ e F N, At0 l N σ' F H' e ∧ Sw l W N Non σ' F H' e (whL (testOf (ev l.G l.cl c')) (evSs l.G l.cl b) m e) (Ends.ec D), fun σ' H' z => ⟨m, Nat.lt_succ_self m, z⟩, e1, F1, N, a1, ?_⟩
      have h2 := (Sw.body (f := whL (testOf (ev l.G l.cl c')) (evSs l.G l.cl b) m) a1.er (show Sw l W N (More Non H) σ F1 H1 e1 _ _ from h1)).less (B' := Non) fun _ z => z.elim
      exact h2.mono (fun F' H' σ' e' p z => ⟨e', F', N, a1.go p, z.less fun _ z => z.elim⟩) (fun _ _ _ _ _ z => z) (fun F' H' σ' e' p z => ⟨e', F', N, a1.go p, z.less fun _ z => z.elim⟩) fun _ _ z => z
end
end Zv

set_option Elab.async false
set_option autoImplicit false
set_option linter.all false
set_option maxRecDepth 100000
/-! statements: for -/
namespace Zv
open PySem PySem.Spec L2
open PyProof.Rows hiding St
/-- how a slot stands under the lock -/
inductive Lk1 : SV → SV → Prop
  | same {s : SV} : Lk1 s s
  | own {o : Ob} : Lk1 (.own false o) (.own true o)
/-- .. and how it comes out of it: what it was, what it is locked, what it is opened -/
inductive Op1 : SV → SV → SV → Prop
  | same {s t : SV} : Op1 s t t
  | own {o o' : Ob} : Op1 (.own false o) (.own true o') (.own false o')
  | kept {o : Ob} {d : D} : Op1 (.own false o) (.kept d) (.val d)
theorem lockE_len (e : En) : ∀ rs : List EV, (lockE e rs).length = e.length
  | [] => rfl
  | .v _ :: r => lockE_len e r
  | .fr _ :: r => lockE_len e r
  | .sl i :: r => by
    simp only [lockE]
    split
    · rw [List.length_set]; exact lockE_len e r
    · exact lockE_len e r
theorem openE_len (e0 e : En) : ∀ rs : List EV, (openE e0 e rs).length = e.length
  | [] => rfl
  | .v _ :: r => openE_len e0 e r
  | .fr _ :: r => openE_len e0 e r
  | .sl i :: r => by
    simp only [openE]
    split
    · rw [List.length_set]; exact openE_len e0 e r
    · rw [List.length_set]; exact openE_len e0 e r
    · exact openE_len e0 e r
theorem Lk1.trans {a b c : SV} (h : Lk1 a b) (h' : Lk1 b c) : Lk1 a c := by
  cases h with
  | same => exact h'
  | own => cases h' with
    | same => exact .own
/-- each slot under the lock -/
theorem lock_sl {e : En} : ∀ {rs : List EV} {j : Nat}, (∀ s, Sl (lockE e rs) j s → ∃ s0, Sl e j s0 ∧ Lk1 s0 s) ∧ (∀ s0, Sl e j s0 → ∃ s, Sl (lockE e rs) j s ∧ Lk1 s0 s)
  | [], j => ⟨fun s h => ⟨s, h, .same⟩, fun s h => ⟨s, h, .same⟩⟩
  | .v _ :: r, j => lock_sl (rs := r)
  | .fr _ :: r, j => lock_sl (rs := r)
  | .sl i :: r, j => by
    obtain ⟨h1, h2⟩ := lock_sl (e := e) (rs := r) (j := j)
    simp only [lockE]
    split
    · next b o q =>
      have lk : Lk1 (.own b o) (.own true o) := by cases b; exact .own; exact .same
      refine ⟨fun s h => ?_, fun s0 h => ?_⟩
      · rcases sl_set h with ⟨c, c2, _⟩ | ⟨c, c2⟩
        · subst c; subst c2
          obtain ⟨s0, g1, g2⟩ := h1 _ q
          exact ⟨s0, g1, g2.trans lk⟩
        · exact h1 s c2
      · obtain ⟨s, g1, g2⟩ := h2 s0 h
        by_cases c : i = j
        · subst c
          cases (Option.some.inj (Option.some.inj (Eq.trans (Eq.symm (show (lockE e r)[i]? = _ from q)) g1)))
          exact ⟨_, sl_self g1, g2.trans lk⟩
        · exact ⟨s, sl_ne g1 c, g2⟩
    · exact ⟨h1, h2⟩
/-- what is walked is locked -/
theorem lock_in {e : En} : ∀ {rs : List EV} {i : Nat}, lockOk e rs = true → EV.sl i ∈ rs → ∃ o, Sl (lockE e rs) i (.own true o)
  | .v _ :: r, i, h, m => lock_in (rs := r) h (by simpa using m)
  | .fr _ :: r, i, h, m => lock_in (rs := r) h (by simpa using m)
  | .sl j :: r, i, h, m => by
    simp only [lockOk, Bool.and_eq_true] at h
    have key : ∃ b o, Sl (lockE e r) j (.own b o) := by
      have h0 := h.1
      unfold isOwn at h0
      split at h0
      · next b o q =>
        obtain ⟨s, g1, g2⟩ := (lock_sl (e := e) (rs := r) (j := j)).2 _ q
        cases g2 with
        | same => exact ⟨b, o, g1⟩
        | own => exact ⟨true, o, g1⟩
      · cases h0
    obtain ⟨b, o, q⟩ := key
    have q' : (lockE e r)[j]? = some (some (.own b o)) := q
    simp only [lockE, q']
    by_cases c : j = i
    · subst c; exact ⟨o, sl_self q⟩
    · have m' : EV.sl i ∈ r := by
        rcases List.mem_cons.mp m with z | z
        · cases z; exact absurd rfl c
        · exact z
      obtain ⟨o', q2⟩ := lock_in h.2 m'
      exact ⟨o', sl_ne q2 c⟩
/-- each slot behind the lock -/
theorem open_sl {e0 e : En} : ∀ {rs : List EV} {j : Nat}, (∀ s, Sl (openE e0 e rs) j s → ∃ s1, Sl e j s1 ∧ (s1 = s ∨ ∃ s0, Sl e0 j s0 ∧ EV.sl j ∈ rs ∧ Op1 s0 s1 s)) ∧ (∀ s1, Sl e j s1 → ∃ s, Sl (openE e0 e rs) j s ∧ (s1 = s ∨ ∃ s0, Sl e0 j s0 ∧ EV.sl j ∈ rs ∧ Op1 s0 s1 s))
  | [], j => ⟨fun s h => ⟨s, h, .inl rfl⟩, fun s h => ⟨s, h, .inl rfl⟩⟩
  | .v _ :: r, j => by
    obtain ⟨h1, h2⟩ := open_sl (e0 := e0) (e := e) (rs := r) (j := j)
    refine ⟨fun s h => ?_, fun s h => ?_⟩
    · obtain ⟨s1, g1, g2⟩ := h1 s h
      exact ⟨s1, g1, g2.imp id fun ⟨s0, a, b, c⟩ => ⟨s0, a, List.mem_cons_of_mem _ b, c⟩⟩
    · obtain ⟨s1, g1, g2⟩ := h2 s h
      exact ⟨s1, g1, g2.imp id fun ⟨s0, a, b, c⟩ => ⟨s0, a, List.mem_cons_of_mem _ b, c⟩⟩
  | .fr _ :: r, j => by
    obtain ⟨h1, h2⟩ := open_sl (e0 := e0) (e := e) (rs := r) (j := j)
    refine ⟨fun s h => ?_, fun s h => ?_⟩
    · obtain ⟨s1, g1, g2⟩ := h1 s h
      exact ⟨s1, g1, g2.imp id fun ⟨s0, a, b, c⟩ => ⟨s0, a, List.mem_cons_of_mem _ b, c⟩⟩
    · obtain ⟨s1, g1, g2⟩ := h2 s h
      exact ⟨s1, g1, g2.imp id fun ⟨s0, a, b, c⟩ => ⟨s0, a, List.mem_cons_of_mem _ b, c⟩⟩
  | .sl i :: r, j => by
    obtain ⟨h1, h2⟩ := open_sl (e0 := e0) (e := e) (rs := r) (j := j)
    have up : ∀ {s1 s : SV}, (s1 = s ∨ ∃ s0, Sl e0 j s0 ∧ EV.sl j ∈ r ∧ Op1 s0 s1 s) → (s1 = s ∨ ∃ s0, Sl e0 j s0 ∧ EV.sl j ∈ EV.sl i :: r ∧ Op1 s0 s1 s) := fun h => h.imp id fun ⟨s0, a, b, c⟩ => ⟨s0, a, List.mem_cons_of_mem _ b, c⟩
    -- one more slot is opened
    have one : ∀ (t t' : SV) (o0 : Ob), Sl e0 i (.own false o0) → Sl (openE e0 e r) i t → Op1 (.own false o0) t t' → t ≠ t' → (∀ o, t ≠ .own false o) → (∀ d, t ≠ .val d) →
        (∀ s, Sl ((openE e0 e r).set i (some t')) j s → ∃ s1, Sl e j s1 ∧ (s1 = s ∨ ∃ s0, Sl e0 j s0 ∧ EV.sl j ∈ EV.sl i :: r ∧ Op1 s0 s1 s)) ∧ (∀ s1, Sl e j s1 → ∃ s, Sl ((openE e0 e r).set i (some t')) j s ∧ (s1 = s ∨ ∃ s0, Sl e0 j s0 ∧ EV.sl j ∈ EV.sl i :: r ∧ Op1 s0 s1 s)) := by
      intro t t' o0 q0 q1 op _ n1 n2
      have fix : ∀ {s1 : SV} {s : SV}, (s1 = s ∨ ∃ s0, Sl e0 j s0 ∧ EV.sl j ∈ r ∧ Op1 s0 s1 s) → s = t → s1 = t := fun h e => by
        subst e
        rcases h with h | ⟨s0, _, _, c⟩
        · exact h
        · cases c with
          | same => rfl
          | own => exact absurd rfl (n1 _)
          | kept => exact absurd rfl (n2 _)
      refine ⟨fun s h => ?_, fun s1 h => ?_⟩
      · rcases sl_set h with ⟨c, c2, _⟩ | ⟨c, c2⟩
        · subst c; subst c2
          obtain ⟨s1, g1, g2⟩ := h1 _ q1
          have := fix g2 rfl
          subst this
          exact ⟨_, g1, .inr ⟨_, q0, List.mem_cons_self, op⟩⟩
        · obtain ⟨s1, g1, g2⟩ := h1 s c2
          exact ⟨s1, g1, up g2⟩
      · obtain ⟨s, g1, g2⟩ := h2 s1 h
        by_cases c : i = j
        · subst c
          have e1 : t = s := Option.some.inj (Option.some.inj (Eq.trans (Eq.symm (show (openE e0 e r)[i]? = _ from q1)) g1))
          have := fix g2 e1.symm
          subst this
          exact ⟨t', sl_self g1, .inr ⟨_, q0, List.mem_cons_self, op⟩⟩
        · exact ⟨s, sl_ne g1 c, up g2⟩
    simp only [openE]
    split
    · next b0 o0 b1 o1 q0 q1 => exact one _ _ _ q0 q1 .own (by simp) (by simp) (by simp)
    · next b0 o0 d1 q0 q1 => exact one _ _ _ q0 q1 .kept (by simp) (by simp) (by simp)
    · refine ⟨fun s h => ?_, fun s h => ?_⟩
      · obtain ⟨s1, g1, g2⟩ := h1 s h; exact ⟨s1, g1, up g2⟩
      · obtain ⟨s1, g1, g2⟩ := h2 s h; exact ⟨s1, g1, up g2⟩
/-- a locked slot is opened -/
theorem open_own {e0 e : En} {o0 o : Ob} : ∀ {rs : List EV} {i : Nat}, EV.sl i ∈ rs → Sl e0 i (.own false o0) → Sl e i (.own true o) → ∃ o', Sl (openE e0 e rs) i (.own false o')
  | .v _ :: r, i, m, h0, h => open_own (rs := r) (by simpa using m) h0 h
  | .fr _ :: r, i, m, h0, h => open_own (rs := r) (by simpa using m) h0 h
  | .sl j :: r, i, m, h0, h => by
    by_cases c : EV.sl i ∈ r
    · obtain ⟨o', q⟩ := open_own c h0 h
      simp only [openE]
      split
      · next b0 o0' b1 o1 q0 q1 =>
        by_cases cj : j = i
        · subst cj; cases (Eq.symm (show (openE e0 e r)[j]? = _ from q)).trans q1
        · exact ⟨o', sl_ne q cj⟩
      · next b0 o0' d1 q0 q1 =>
        by_cases cj : j = i
        · subst cj; cases (Eq.symm (show (openE e0 e r)[j]? = _ from q)).trans q1
        · exact ⟨o', sl_ne q cj⟩
      · exact ⟨o', q⟩
    · have cj : j = i := by
        rcases List.mem_cons.mp m with z | z
        · cases z; rfl
        · exact absurd z c
      subst cj
      have q : Sl (openE e0 e r) j (.own true o) := by
        obtain ⟨s, g1, g2⟩ := (open_sl (e0 := e0) (rs := r)).2 _ h
        rcases g2 with g2 | ⟨_, _, g3, _⟩
        · subst g2; exact g1
        · exact absurd g3 c
      have q' : (openE e0 e r)[j]? = some (some (.own true o)) := q
      have h0' : e0[j]? = some (some (.own false o0)) := h0
      simp only [openE, h0', q']
      exact ⟨o, sl_self q⟩
theorem lock_changed {e : En} {o : Ob} : ∀ {rs : List EV} {i : Nat}, Sl e i (.own false o) → Sl (lockE e rs) i (.own true o) → EV.sl i ∈ rs
  | [], i, h, h' => by cases h.symm.trans h'
  | .v _ :: r, i, h, h' => List.mem_cons_of_mem _ (lock_changed (rs := r) h h')
  | .fr _ :: r, i, h, h' => List.mem_cons_of_mem _ (lock_changed (rs := r) h h')
  | .sl j :: r, i, h, h' => by
    by_cases c : j = i
    · subst c; exact List.mem_cons_self
    · refine List.mem_cons_of_mem _ (lock_changed (rs := r) h ?_)
      simp only [lockE] at h'
      split at h'
      · rcases sl_set h' with ⟨z, _, _⟩ | ⟨_, z⟩
        · exact absurd z c
        · exact z
      · exact h'
theorem lock_opened {e e' : En} {rs : List EV} {i : Nat} {o o1 o2 : Ob} (h0 : Sl e i (.own false o)) (h1 : Sl (lockE e rs) i (.own true o)) (h2 : Sl e' i (.own true o1)) (h3 : Sl (openE e e' rs) i (.own true o2)) : False := by
  obtain ⟨o', q⟩ := open_own (lock_changed h0 h1) h0 h2
  cases (Eq.symm (show (openE e e' rs)[i]? = _ from q)).trans h3
section
variable {l : Lk} {W : WX} {σ σ' : St} {B B' N F F' : Addr → Prop} {H H' : Hp} {e e' : En} {α β : Type} {q q' : Ec} {K : PySem.W.Frag} {rs : List EV}
theorem lock_own {a : Addr} : Own σ (lockE e rs) a ↔ Own σ e a := by
  constructor
  · rintro ⟨i, b, o, h1, h2⟩
    obtain ⟨s0, g1, g2⟩ := lock_sl.1 _ h1
    cases g2 with
    | same => exact ⟨i, b, o, g1, h2⟩
    | own => exact ⟨i, false, o, g1, h2⟩
  · rintro ⟨i, b, o, h1, h2⟩
    obtain ⟨s, g1, g2⟩ := (lock_sl (rs := rs)).2 _ h1
    cases g2 with
    | same => exact ⟨i, b, o, g1, h2⟩
    | own => exact ⟨i, true, o, g1, h2⟩
theorem Er.lock (er : Er K F H σ e) (rs : List EV) : Er K F H σ (lockE e rs) := by
  refine ⟨by rw [lockE_len]; exact er.len, er.fok, fun i d h => ?_, fun i d h => ?_, fun i b o h => ?_, fun i j b c o p a h1 h2 => ?_⟩
  · obtain ⟨s0, g1, g2⟩ := lock_sl.1 _ h; cases g2; exact er.val i d g1
  · obtain ⟨s0, g1, g2⟩ := lock_sl.1 _ h; cases g2; exact er.kept i d g1
  · obtain ⟨s0, g1, g2⟩ := lock_sl.1 _ h
    cases g2 with
    | same => exact er.own i b o g1
    | own => exact er.own i false o g1
  · obtain ⟨s1, g1, k1⟩ := lock_sl.1 _ h1
    obtain ⟨s2, g2, k2⟩ := lock_sl.1 _ h2
    cases k1 <;> cases k2 <;> exact er.apart _ _ _ _ _ _ _ g1 g2
/-- behind the lock -/
theorem Po.opened (er : Er K F H σ e) (p : Po K false B F H σ (lockE e rs) F' H' σ' e') : Po K false B F H σ e F' H' σ' (openE e e' rs) ∧ ∀ a, Own σ' (openE e e' rs) a → Own σ' e' a := by
  have er' := p.rel
  have ow : ∀ a, Own σ' (openE e e' rs) a → Own σ' e' a := fun a ⟨i, b, o, h1, h2⟩ => by
    obtain ⟨s1, g1, g2⟩ := open_sl.1 _ h1
    rcases g2 with g2 | ⟨s0, _, _, g2⟩
    · subst g2; exact ⟨i, b, o, g1, h2⟩
    · cases g2 with
      | same => exact ⟨i, b, o, g1, h2⟩
      | own => exact ⟨i, true, o, g1, h2⟩
  -- a slot that was lent, kept, dead ahead of the lock
  have stay : ∀ {j : Nat} {s0 : SV}, Sl e j s0 → (∀ o, s0 ≠ .own false o) → Sl (lockE e rs) j s0 ∧ ∀ s1, Sl e' j s1 → Sl (openE e e' rs) j s1 := fun {j s0} h n => by
    obtain ⟨s, g1, g2⟩ := (lock_sl (rs := rs)).2 _ h
    have es : s0 = s := by
      cases g2 with
      | same => rfl
      | own => exact absurd rfl (n _)
    subst es
    refine ⟨g1, fun s1 h1 => ?_⟩
    obtain ⟨s, k1, k2⟩ := (open_sl (e0 := e) (rs := rs)).2 _ h1
    rcases k2 with k2 | ⟨s0', k3, _, k4⟩
    · subst k2; exact k1
    · cases h.symm.trans k3
      cases k4 with
      | same => exact k1
      | own => exact absurd rfl (n _)
      | kept => exact absurd rfl (n _)
  refine ⟨⟨⟨by rw [openE_len]; exact er'.len, er'.fok, fun i d h => ?_, fun i d h => ?_, fun i b o h => ?_, fun i j b c o p a h1 h2 => ?_⟩, p.inc, fun a o h no => p.keep a o h fun z => no (lock_own.mp z), p.dom, fun a z => (p.new a z).imp id (Or.imp id (Or.imp lock_own.mp id)), fun i b o h => ?_, fun i o h => ?_, fun i d h => ?_, fun i h => ?_⟩, ow⟩
  · obtain ⟨s1, g1, g2⟩ := open_sl.1 _ h
    rcases g2 with g2 | ⟨s0, _, _, g2⟩
    · subst g2; exact er'.val i d g1
    · cases g2 with
      | same => exact er'.val i d g1
      | kept => exact er'.kept i d g1
  · obtain ⟨s1, g1, g2⟩ := open_sl.1 _ h
    rcases g2 with g2 | ⟨s0, _, _, g2⟩
    · subst g2; exact er'.kept i d g1
    · cases g2 with
      | same => exact er'.kept i d g1
  · obtain ⟨s1, g1, g2⟩ := open_sl.1 _ h
    rcases g2 with g2 | ⟨s0, _, _, g2⟩
    · subst g2; exact er'.own i b o g1
    · cases g2 with
      | same => exact er'.own i b o g1
      | own => exact er'.own i true o g1
  · have src : ∀ {j : Nat} {c : Bool} {u : Ob}, Sl (openE e e' rs) j (.own c u) → ∃ c', Sl e' j (.own c' u) := fun {j c u} h => by
      obtain ⟨s1, g1, g2⟩ := open_sl.1 _ h
      rcases g2 with g2 | ⟨s0, _, _, g2⟩
      · subst g2; exact ⟨c, g1⟩
      · cases g2 with
        | same => exact ⟨c, g1⟩
        | own => exact ⟨true, g1⟩
    obtain ⟨_, k1⟩ := src h1
    obtain ⟨_, k2⟩ := src h2
    exact er'.apart _ _ _ _ _ _ _ k1 k2
  · -- own
    obtain ⟨s1, g1, g2⟩ := open_sl.1 _ h
    rcases g2 with g2 | ⟨s0, k0, km, g2⟩
    · subst g2
      rcases p.own i b o g1 with ⟨o', w1, w2⟩ | w
      · obtain ⟨s0, k1, k2⟩ := lock_sl.1 _ w1
        cases k2 with
        | same => exact .inl ⟨o', k1, w2⟩
        | own =>
          -- opened must have taken it: the slot is locked here, so it is opened
          exfalso
          obtain ⟨s, m1, m2⟩ := (open_sl (e0 := e) (rs := rs)).2 _ g1
          cases (h.symm.trans m1)
          exact lock_opened k1 w1 g1 h
      · exact .inr w
    · cases g2 with
      | same =>
        rcases p.own i b o g1 with ⟨o', w1, w2⟩ | w
        · obtain ⟨s0', k1, k2⟩ := lock_sl.1 _ w1
          cases k2 with
          | same => exact .inl ⟨o', k1, w2⟩
          | own => exact (lock_opened k1 w1 g1 h).elim
        · exact .inr w
      | own =>
        rcases p.own i true _ g1 with ⟨o', w1, w2⟩ | ⟨_, w, _⟩
        · exact .inl ⟨_, k0, w2⟩
        · cases w
  · obtain ⟨h1, h2⟩ := stay h (by simp)
    obtain ⟨e1, h3⟩ := p.lent i o h1
    refine ⟨e1, ?_⟩
    rcases h3 with ⟨o', h3⟩ | ⟨d, h3⟩ | h3
    · exact .inl ⟨o', h2 _ h3⟩
    · exact .inr (.inl ⟨d, h2 _ h3⟩)
    · exact .inr (.inr (h2 _ h3))
  · obtain ⟨h1, h2⟩ := stay h (by simp)
    obtain ⟨e1, h3⟩ := p.kept i d h1
    exact ⟨e1, h2 _ h3⟩
  · obtain ⟨h1, h2⟩ := stay h (by simp)
    obtain ⟨e1, h3⟩ := p.dead i h1
    exact ⟨e1, h2 _ h3⟩
end
end Zv

set_option Elab.async false
set_option autoImplicit false
set_option linter.all false
set_option maxRecDepth 100000
/-! statements: for, raise, try -/
namespace Zv
open PySem PySem.Spec L2
open PyProof.Rows hiding St
section
variable {l : Lk} {W : WX} {σ σ' : St} {B B' N F F' : Addr → Prop} {H H' : Hp} {e e' : En} {α β : Type} {q q' : Ec}
variable {X : Cx} {n : Nm} {sc : Scope} {k : Nat}
/-- what is wanted behind the lock -/
theorem Sw.locked {rs : List EV} {r : SR} (er : Er l.K F H σ e) (h : Sw l W N B σ F H e (SR.map (fun e2 => openE e e2 rs) r) q) :
    Sw l W N B σ F H (lockE e rs) r ⟨fun F' H' σ' e' => q.nx F' H' σ' (openE e e' rs), fun F' H' σ' e' => q.bk F' H' σ' (openE e e' rs), fun F' H' σ' e' => q.ct F' H' σ' (openE e e' rs), q.rt⟩ := by
  cases r with
  | nx e' => exact fun F' H' σ' p => h F' H' σ' (p.opened er).1
  | bk e' => exact fun F' H' σ' p => h F' H' σ' (p.opened er).1
  | ct e' => exact fun F' H' σ' p => h F' H' σ' (p.opened er).1
  | rt d fr e' =>
    intro F' H' σ' v p rv
    obtain ⟨p2, ow⟩ := p.opened er
    refine h F' H' σ' v p2 ?_
    cases fr with
    | false => cases rv with | v r => exact .v r
    | true =>
      simp only [if_true] at rv ⊢
      generalize hd : EV.fr d = r at rv ⊢
      cases rv with
      | v r => cases hd
      | fr n nf no ro => exact .fr n nf (fun z => no (ow _ z)) ro
      | sl _ => cases hd
  | ex x e' => exact fun F' H' σ' cls d p hx => h F' H' σ' cls d (p.opened er).1 hx
  | no => exact h
theorem Nw.lock (n : Nw N σ e) (rs : List EV) : Nw N σ (lockE e rs) := fun i o a h hv => by
  obtain ⟨s0, g1, g2⟩ := lock_sl.1 _ h
  cases g2
  exact n i o a g1 hv
theorem ps_fora {t : Tg} {it : Zv.It} {b : Ss} {tg y : Expr} {s : List Stmt} {pos : Pos} (po : PassesOwn (model X.prog X.w) X.A X.env X.xe) (c : Cc X n sc l k W) (hi : PI X tg y (Ti l W it)) (hg : PG X tg (Gt l t)) (hb : PSs X s (Tss l W b)) (hs : ∀ x, foldedSetIterable y X.env x = pure x) : PS X (.For tg y s [] pos) (Ts l W (.for t it b)) := by
  refine ps_imp (ps_for po c.gx.calm hi hg hb hs) ?_
  rintro D σ H ⟨e, F, N, a, h⟩
  rw [evS] at h
  refine ⟨e, F, a.er, (Sw.of a.er h).mono fun sr F1 H1 e1 p1 h1 J hJ => ?_⟩
  obtain ⟨hlk, h1⟩ := sw_if h1
  have a1 := a.go p1.loose
  have er1 := a1.er
  have h2 := (Sw.locked er1 h1).less (B' := Non) fun _ z => z.elim
  refine ⟨fun i m σ' H' => i + m = sr.items.length ∧ ∃ F' e', At0 l N σ' F' H' e' ∧ Po l.K false Non F1 H1 σ (lockE e1 sr.rs) F' H' σ' e' ∧ Sw l W N Non σ' F' H' e' (forL (bindT t) (evSs l.G l.cl b) sr.ok (sr.items.drop i) e') ⟨fun _ H' σ' _ => D.nx σ' H', fun _ H' σ' _ => D.bk σ' H', fun _ H' σ' _ => D.ct σ' H', D.rt⟩,
    ⟨sr.items.length, by omega, F1, lockE e1 sr.rs, ⟨er1.lock _, a1.fre, a1.nw.lock _⟩, Po.refl (er1.lock _), by rw [List.drop_zero]; exact h2⟩, ?_⟩
  rintro i m σ' H' ⟨him, F', e', a', p', run⟩
  have hok : sr.ok e' = true := by
    cases q : sr.items.drop i with
    | nil =>
      rw [q] at run
      simp only [forL] at run
      split at run
      · assumption
      · exact run.elim
    | cons x xs =>
      rw [q] at run
      simp only [forL] at run
      split at run
      · assumption
      · exact run.elim
  have jat : Jat l.K J sr.items F' H' := hJ Non (fun a q => q.elim) σ' F' H' e' ⟨a'.er, p'.inc, fun a o _ h nn => p'.keep a o h fun z => nn (lock_own.mp z), fun j hj => by
    obtain ⟨o, so⟩ := lock_in hlk hj
    exact .inl (p'.lent j o so).1⟩ hok
  cases hd : sr.items.drop i with
  | nil =>
    have hi : sr.items.length ≤ i := List.drop_eq_nil_iff.mp hd
    rw [hd] at run
    simp only [forL, hok, if_true] at run
    exact .inl ⟨(jat i).2 hi, run F' H' σ' (Po.refl a'.er)⟩
  | cons d0 xs =>
    have hi : i < sr.items.length := by
      have := congrArg List.length hd
      rw [List.length_drop, List.length_cons] at this
      omega
    have hget : sr.items[i]? = some d0 := by
      have := congrArg (·[0]?) hd
      simpa using this
    have hxs : sr.items.drop (i + 1) = xs := by
      have := congrArg (List.drop 1) hd
      simpa [List.drop_drop, Nat.add_comm] using this
    rw [hd] at run
    simp only [forL, hok, if_true] at run
    cases hb2 : bindT t d0 e' with
    | none => rw [hb2] at run; exact run.elim
    | some e2 =>
      rw [hb2] at run
      dsimp only at run
      obtain ⟨go, yl⟩ := (jat i).1 d0 hget
      refine .inr ⟨go, fun σ3 H3 => ∃ F3 e3, At0 l N σ3 F3 H3 e3 ∧ Po l.K false Non F1 H1 σ (lockE e1 sr.rs) F3 H3 σ3 e3 ∧ Sw l W N Non σ3 F3 H3 e3 (forL (bindT t) (evSs l.G l.cl b) sr.ok xs e3) ⟨fun _ H' σ' _ => D.nx σ' H', fun _ H' σ' _ => D.bk σ' H', fun _ H' σ' _ => D.ct σ' H', D.rt⟩, ?_, ?_⟩
      · rintro σ3 H3 ⟨F3, e3, g1, g2, g3⟩
        exact ⟨m - 1, by omega, by omega, F3, e3, g1, g2, by rw [hxs]; exact g3⟩
      intro xv Hy hy
      have base : ∃ Fy, Po l.K false Non F' H' σ' e' Fy Hy σ' e' ∧ Rp l.K Fy Hy xv d0 := by
        rcases yl xv Hy hy with ⟨rfl, r⟩ | ⟨T, vs, dz, rfl, hT, rfl, rfl, r⟩
        · exact ⟨F', Po.refl a'.er, r⟩
        · have p : Po l.K false Non F' H' σ' e' (ins F' T) (upd H' T (.tup vs)) σ' e' := Po.laid a'.er hT
          exact ⟨_, p, .tup (.inl ⟨.inr rfl, upd_same⟩) (p.rpL a'.er r)⟩
      obtain ⟨Fy, py, ry⟩ := base
      refine ⟨e', Fy, d0, e2, py.rel, ry, hb2, fun σ2 p2 _ => ?_⟩
      have p3 : Po l.K false Non F' H' σ' e' Fy Hy σ2 e2 := py.trans a'.er (p2.wide fun _ z => z.elim)
      have a3 := a'.go p3
      have h3 := (Sw.body (f := forL (bindT t) (evSs l.G l.cl b) sr.ok xs) a3.er (Sw.step a'.er p3 run)).less (B' := Non) fun _ z => z.elim
      have pb := p'.trans (er1.lock _) (p3.wide fun _ z => z.elim)
      refine ⟨e2, Fy, N, a3, h3.mono (fun F4 H4 σ4 e4 p4 z => ?_) (fun _ _ _ _ _ z => z) (fun F4 H4 σ4 e4 p4 z => ?_) fun _ _ z => z⟩
      · exact ⟨F4, e4, a3.go p4, pb.trans (er1.lock _) (p4.wide fun _ z => z.elim), z.less fun _ z => z.elim⟩
      · exact ⟨F4, e4, a3.go p4, pb.trans (er1.lock _) (p4.wide fun _ z => z.elim), z.less fun _ z => z.elim⟩
/-! ### exceptions -/
/-- a class that is raised by X('..') -/
structure Rz (X : Cx) (l : Lk) (j : Nat) (x : Str) : Prop where
  raise : ∀ {m : Str} {i : Nat} {p p2 pos : Pos}, ∃ C, l.xt j = some (C, none) ∧ PMk X (.Call (.Name x p) [.Constant (.str m) i p2] [] pos) (fun _ H Q => Q (.ref C) none H)
theorem ps_raisea {j i : Nat} {x m : Str} {p p2 p3 pos : Pos} (c : Cc X n sc l k W) (hr : Rz X l j x) : PS X (.Raise (some (.Call (.Name x p) [.Constant (.str m) i p2] [] p3)) none pos) (Ts l W (.raise j none)) := by
  obtain ⟨C, h1, h2⟩ := hr.raise (m := m) (i := i) (p := p) (p2 := p2) (pos := p3)
  refine ps_imp (ps_raise c.gx.calm c.tk h2) ?_
  rintro D σ H ⟨e, F, N, a, h⟩
  rw [evS] at h
  exact h F H σ (.ref C) none (Po.refl a.er) ⟨C, none, h1, rfl, fun n hn => by cases hn⟩
/-- a clause: its class by number and name, what it returns -/
structure Hz (X : Cx) (l : Lk) (j : Nat) (x : Str) : Prop where
  names : ∃ C, Names X x (.ref C) ∧ ∀ (y : Xn) (C' : Addr) (f : Option Str), l.xt y.cls = some (C', f) → PySem.W.exmOne X.K (.ref C') (.ref C) = some (takesX j y)
def constOk (d : D) : Expr → Bool
  | .Constant c _ _ => kOk d c
  | _ => false
def constV : D → V
  | .none => .non
  | .bool b => .bl b
  | .int i => .int i
  | .str x => .str x
  | _ => .non
theorem constOk_pe {Y : Cx} {d : D} {e : Expr} (h : constOk d e = true) : PE Y e (tC (constV d)) ∧ ∀ K F H, Rp K F H (constV d) d := by
  cases e <;> first | (cases h; done) | skip
  rename_i c i p
  cases c <;> cases d <;> first | (cases h; done) | skip
  · exact ⟨pe_non, fun _ _ _ => .non⟩
  · rename_i b a
    have z : a = b := by simpa [constOk, kOk] using h
    subst z
    exact ⟨pe_bl, fun _ _ _ => .bl _⟩
  · rename_i b a
    have z : a = b := by simpa [constOk, kOk] using h
    subst z
    exact ⟨pe_int, fun _ _ _ => .int _⟩
  · rename_i b a
    have z : a = b := by simpa [constOk, kOk] using h
    subst z
    exact ⟨pe_str, fun _ _ _ => .str _⟩
/-- the clauses, as readings -/
inductive Hc (X : Cx) (l : Lk) : Hs → List ExceptHandler → List (Value × (Addr → Value → Option Addr → TS)) → Prop
  | nil : Hc X l .nil [] []
  | cons {j : Nat} {d : D} {r : Hs} {x : Str} {C : Addr} {ye : Expr} {np pp pos : Pos} {hds : List ExceptHandler} {ls : List (Value × (Addr → Value → Option Addr → TS))} (hn : Names X x (.ref C))
      (hx : ∀ (y : Xn) (C' : Addr) (f : Option Str), l.xt y.cls = some (C', f) → PySem.W.exmOne X.K (.ref C') (.ref C) = some (takesX j y)) (hd : constOk d ye = true) (t : Hc X l r hds ls) :
      Hc X l (.cons j (.k d) r) (.ExceptHandler (some (.Name x np)) none [.Return (some ye) pp] pos :: hds) ((.ref C, fun _ _ _ => tRet (tC (constV d))) :: ls)
theorem Hc.ok {hs : Hs} {hds : List ExceptHandler} {ls : List (Value × (Addr → Value → Option Addr → TS))} (h : Hc X l hs hds ls) : HdsOk X hds ls := by
  induction h with
  | nil => exact .nil
  | cons hn hx hd t ih => exact .cons hn (fun a oe cls d pn _ _ => pss_one (ps_ret (constOk_pe hd).1)) ih
theorem Hc.many {hs : Hs} {hds : List ExceptHandler} {ls : List (Value × (Addr → Value → Option Addr → TS))} (hc : Hc X l hs hds ls) {x : Xn} {cls : Value} {d : Option Addr} {D : Ends} {F1 : Addr → Prop} {H1 : Hp} {σ1 : St} {e1 : En} (er1 : Er l.K F1 H1 σ1 e1) (hx : Xr l F1 H1 x cls d)
    (h : Sw l W N B σ1 F1 H1 e1 (evHs x e1 hs) (Ends.ec D)) : wMany X.K W D ls cls d σ1 H1 := by
  induction hc with
  | nil => exact h F1 H1 σ1 cls d (Po.refl er1) hx
  | cons hn hxx hd t ih =>
    obtain ⟨C', f, x1, x2, x3⟩ := id hx
    refine ⟨_, by rw [x2]; exact hxx x C' f x1, fun hb a ha => ?_, fun hb => ih ?_⟩
    · unfold evHs at h
      rw [if_pos hb] at h
      exact h F1 H1 σ1 _ (Po.refl er1) (.v ((constOk_pe (Y := X) hd).2 _ _ _))
    · unfold evHs at h
      rw [if_neg (by rw [hb]; decide)] at h
      exact h
theorem ps_trya {b : Ss} {hs : Hs} {s : List Stmt} {h0 : ExceptHandler} {hds : List ExceptHandler} {ls : List (Value × (Addr → Value → Option Addr → TS))} {pos : Pos} (c : Cc X n sc l k W) (hst : X.stack = X.env :: X.outer) (hf : X.env.frame = some X.env.locals)
    (hb : ∀ (W' : WX) (pn : List (Addr × Obj)) (xe : Value → Shared → Prop), Takes (X.tr pn xe) W' → PassesOwn (model X.prog X.w) X.A X.env xe → PSs (X.tr pn xe) s (Tss l W' b)) (hc : Hc X l hs (h0 :: hds) ls) : PS X (.Try s (h0 :: hds) [] [] pos) (Ts l W (.try b hs)) := by
  refine ps_imp (ps_try_many hst hf c.tk hb hc.ok) ?_
  rintro D σ H ⟨e, F, N, a, h⟩
  rw [evS] at h
  refine ⟨e, F, N, a, ?_⟩
  cases q : evSs l.G l.cl b e with
  | ex x e1 =>
    simp only [q] at h
    exact fun F1 H1 σ1 cls d p hx => hc.many p.rel hx (Sw.step a.er p h)
  | nx e1 => simp only [q] at h; exact h
  | bk e1 => simp only [q] at h; exact h
  | ct e1 => simp only [q] at h; exact h
  | rt d fr e1 => simp only [q] at h; exact h
  | no => simp only [q] at h; exact h
end
end Zv

set_option Elab.async false
set_option autoImplicit false
set_option linter.all false
set_option maxRecDepth 100000
/-! all statements -/
namespace Zv
open PySem PySem.Spec L2
open PyProof.Rows hiding St
/-- facts of an exception's class -/
def Xz (K : PySem.W.Frag) (mg : Str → Option Value) (l : Lk) (j : Nat) (x : Str) : Prop :=
  ∃ (C : Addr) (B newId initId : String) (bmB : List Value), l.xt j = some (C, none) ∧ ExcBaseFacts B newId initId bmB ∧ PySem.W.excIn K C bmB newId = true ∧ mg x = some (.ref C) ∧ PySem.W.keepIn K (.ref C) = true ∧ PySem.W.subIn K (.ref C) (.type "BaseException") = some true ∧ PySem.W.typeIn K (.ref C) = some (.type "type")
def Yz (K : PySem.W.Frag) (mg : Str → Option Value) (l : Lk) (j : Nat) (x : Str) : Prop :=
  ∃ C : Addr, mg x = some (.ref C) ∧ ∀ (y : Xn) (C' : Addr) (f : Option Str), l.xt y.cls = some (C', f) → PySem.W.exmOne K (.ref C') (.ref C) = some (takesX j y)
structure Cs (X : Cx) (n : Nm) (sc : Scope) (l : Lk) (k : Nat) (W : WX) : Prop where
  cc : Cc X n sc l k W
  po : PassesOwn (model X.prog X.w) X.A X.env X.xe
  st : X.stack = X.env :: X.outer
  fr : X.env.frame = some X.env.locals
  rz : ∀ j x, n.rn.contains j = true → n.xn[j]? = some x → Xz X.K X.mg l j x
  hz : ∀ j x, n.xn[j]? = some x → Yz X.K X.mg l j x
def dbg (x : Str) : Bool := !(x == ("__debug__" : Str)) && !(x == ("__classdict__" : Str))
def ckH (n : Nm) (sc : Scope) : Hs → List ExceptHandler → Bool
  | .nil, [] => true
  | .cons j (.k d) r, .ExceptHandler (some (.Name x _)) none [.Return (some ye) _] _ :: hds => decide (n.xn[j]? = some x) && gl sc x && constOk d ye && ckH n sc r hds
  | _, _ => false
mutual
def ckS (n : Nm) (sc : Scope) : S → Stmt → Bool
  | .nev, _ => true
  | .doc, .Expr (.Constant (.str _) _ _) _ => true
  | .asg (.nm i) a, .Assign [.Name x _] y _ => decide (n.N[i]? = some x) && loc sc x && ck n sc a y
  | .asg (.ow i) a, .Assign [.Name x _] y _ => decide (n.N[i]? = some x) && loc sc x && ck n sc a y
  | .asg (.tup ts) a, .Assign [.Tuple es _ _] y _ => ckTs n sc ts es && (noSwap es y || noSwapC sc es) && ck n sc a y
  | .par ts cs, .Assign [.Tuple es _ _] (.Tuple ys k p) _ => flatT ts && ckF n sc ts es && ckL n sc cs ys && decide (ys.length = es.length) && decide (ys.length ≤ 1000) && (swap2 sc es ys || swap3 sc es ys || noSwap es (.Tuple ys k p) || noSwapC sc es)
  | .setI i ix a, .Assign [.Subscript (.Name x _) z _] y _ => decide (n.N[i]? = some x) && vis sc x && dbg x && ck n sc ix z && !isSlice z && ck n sc a y
  | .aug i o a, .AugAssign (.Name x _) p y _ => decide (p = o.op) && augOk o && decide (n.N[i]? = some x) && loc sc x && ck n sc a y
  | .app i a, .Expr (.Call (.Attribute (.Name x _) m ap) [y] [] cp) _ => decide (m = ("append" : Str)) && decide (n.N[i]? = some x) && vis sc x && dbg x && (ap.endLine == cp.line) && ck n sc a y
  | .ext i a, .Expr (.Call (.Attribute (.Name x _) m ap) [y] [] cp) _ => decide (m = ("extend" : Str)) && decide (n.N[i]? = some x) && vis sc x && dbg x && (ap.endLine == cp.line) && ck n sc a y
  | .ex a, .Expr y _ => ck n sc a y && swapsSafe y
  | .iff c a b, .If y s t _ => ck n sc c y && ckSs n sc a s && ckSs n sc b t
  | .whl c b, .While y s [] _ => ck n sc c y && ckSs n sc b s
  | .for t it b, .For tg y s [] _ => ckT n sc t tg && ckIt n sc (isTupT t) it y && ckSs n sc b s
  | .ret a, .Return (some y) _ => ck n sc a y
  | .retN, .Return none _ => true
  | .brk, .Break _ => true
  | .cnt, .Continue _ => true
  | .pass, .Pass _ => true
  | .raise j none, .Raise (some (.Call (.Name x _) [.Constant (.str _) _ _] [] _)) none _ => decide (n.xn[j]? = some x) && n.rn.contains j && gl sc x
  | .try b hs, .Try s (h0 :: hds) [] [] _ => ckSs n sc b s && ckH n sc hs (h0 :: hds)
  | _, _ => false
def ckSs (n : Nm) (sc : Scope) : Ss → List Stmt → Bool
  | .nil, [] => true
  | .cons s r, x :: xs => ckS n sc s x && ckSs n sc r xs
  | _, _ => false
end
section
variable {l : Lk} {W : WX} {X : Cx} {n : Nm} {sc : Scope} {k : Nat}
theorem Cs.tr (c : Cs X n sc l k W) {W' : WX} {pn : List (Addr × Obj)} {xe : Value → Shared → Prop} (tk : Takes (X.tr pn xe) W') (po : PassesOwn (model X.prog X.w) X.A X.env xe) : Cs (X.tr pn xe) n sc l k W' :=
  ⟨⟨c.cc.names, c.cc.nd, c.cc.keep, c.cc.fre, c.cc.kind, c.cc.K, ⟨c.cc.gx.calm, c.cc.gx.room, c.cc.gx.gd⟩, tk, c.cc.fn, c.cc.blt, c.cc.glob, c.cc.fns⟩, po, c.st, c.fr, c.rz, c.hz⟩
theorem Cs.rzz (c : Cs X n sc l k W) {j : Nat} {x : Str} (h1 : n.xn[j]? = some x) (h2 : n.rn.contains j = true) (h3 : gl sc x = true) : Rz X l j x := by
  obtain ⟨C, B, newId, initId, bmB, g1, g2, g3, g4, g5, g6, g7⟩ := c.rz j x h2 h1
  exact ⟨⟨C, g1, pmk_own g2 g3 g4 g5 (raises_own g6 g7) (c.cc.gl h3).1 (c.cc.gl h3).2.1⟩⟩
theorem hc_all (c : Cs X n sc l k W) : ∀ {hs : Hs} {hds : List ExceptHandler}, ckH n sc hs hds = true → ∃ ls, Hc X l hs hds ls
  | .nil, [], _ => ⟨[], .nil⟩
  | .nil, _ :: _, h => by cases h
  | .cons j (.k d) r, [], h => by cases h
  | .cons j (.k d) r, .ExceptHandler ty nm body pos :: hds, h => by
    rcases ty with _ | ty
    · cases h
    cases ty <;> first | (cases h; done) | skip
    rcases nm with _ | nm
    · rcases body with _ | ⟨s, _ | ⟨s2, r2⟩⟩
      · cases h
      · cases s <;> first | (cases h; done) | skip
        rename_i ye pp
        cases ye <;> first | (cases h; done) | skip
        simp only [ckH, Bool.and_eq_true, decide_eq_true_eq] at h
        obtain ⟨⟨⟨h1, h2⟩, h3⟩, h4⟩ := h
        obtain ⟨ls, hl⟩ := hc_all c h4
        obtain ⟨C, g1, g2⟩ := c.hz _ _ h1
        obtain ⟨k1, k2, k3⟩ := c.cc.gl h2
        exact ⟨_, .cons ⟨k1, k2, .inl g1⟩ g2 h3 hl⟩
      · cases s <;> first | (cases h; done) | (rename_i ye pp; cases ye <;> cases h)
    · cases h
theorem dbg_ok {x : Str} (h : dbg x = true) : (x == ("__debug__" : Str)) = false ∧ (x == ("__classdict__" : Str)) = false := by
  simp only [dbg, Bool.and_eq_true, Bool.not_eq_true'] at h
  exact h
/-- name = value -/
theorem ps_set_any {t : Tg} {i : Nat} {a : E} {x : Str} {y : Expr} {px pos : Pos} (c : Cs X n sc l k W) (ht : t = .nm i ∨ t = .ow i) (hi : n.N[i]? = some x) (hx : loc sc x = true) (hy : ck n sc a y = true) : PS X (.Assign [.Name x px] y pos) (Ts l W (.asg t a)) := by
  have P := (pe_all (l := l) a y c.cc hy).1
  have nv : a = .nev → PS X (.Assign [.Name x px] y pos) (Ts l W (.asg t a)) := fun e => by
    subst e
    refine ps_imp ps_never ?_
    rintro D σ H ⟨e, F, N, a, h⟩
    rw [evS] at h
    dsimp only at h
    rw [of_bind, ev] at h
    exact h
  by_cases hs : swapsSafe y = true
  · exact ps_asga c.cc ht hi hx (swaps_safe hs _ _ _) P
  · cases y <;> first | exact absurd rfl hs | skip
    · rename_i el gs scope p
      by_cases hsw : lcSw sc scope x px p = true
      · have hl : X.env.scope.names.lookup x = some .local := by
          unfold lcSw at hsw
          simp only [Bool.and_eq_true, decide_eq_true_eq] at hsw
          exact c.cc.keep x _ (by decide) hsw.1.1
        have sw : ∀ line, swapsWith (.ListComp el gs scope p) (some (.Name x px)) line X.env = pure true := fun line => by rw [swaps_lc c.cc hx, hsw]
        cases a <;> first | (cases hy; done) | skip
        · exact nv rfl
        · obtain ⟨_, tg, y, fs, _, _, he, h1, h2, h3, h4, h5, h6, h7⟩ := ck_lc hy
          cases he
          have N := fun s H C cl fp => c.cc.blk h1 s H C cl fp
          refine ps_imp (ps_setLc c.cc.gx.calm (by rw [c.cc.names]; exact c.cc.nd) (by rw [c.cc.names]; exact hi) hl (sw _) (pi_all (l := l) _ y tg _ c.cc h2 h3) (c.cc.blkOk h1) (fun s H C cl fp => pg_all (N s H C cl fp) _ tg h3) (fun s H C cl fp => pif_all _ fs (N s H C cl fp) h5 h6) (fun s H C cl fp => (pe_all _ _ (N s H C cl fp) h7).1) (it_folded h2 X.env)) fun D σ H q => ?_
          rw [own_snd]
          exact lc_tx (all_in h4) (asg_tx ht q)
        · rename_i own own1 el2 t0 it0 ifs0 t1 it1 ifs1
          obtain ⟨_, tg, y, fs, tg1, y1, fs1, _, _, he, h1, h2, h3, h4, h5, h6, g2, g3, g4, g0, g5, g6, h7⟩ := ck_lc2 hy
          cases he
          have N := fun s H C cl fp => c.cc.blk h1 s H C cl fp
          refine ps_imp (ps_setLc2 (vs1 := own1) c.cc.gx.calm (by rw [c.cc.names]; exact c.cc.nd) (by rw [c.cc.names]; exact hi) hl (sw _) (pi_all (l := l) _ y tg _ c.cc h2 h3) (c.cc.blkOk h1) (by rw [own_snd]; exact all_in g0) (fun s H C cl fp => pg_all (N s H C cl fp) _ tg h3) (fun s H C cl fp => pif_all _ fs (N s H C cl fp) h5 h6)
            (fun s H C cl fp => pi_all _ y1 tg1 _ (N s H C cl fp) g2 g3) (fun s H C cl fp => pg_all (N s H C cl fp) _ tg1 g3) (fun s H C cl fp => pif_all _ fs1 (N s H C cl fp) g5 g6) (fun s H C cl fp => (pe_all _ _ (N s H C cl fp) h7).1) (it_folded h2 X.env) (fun env => it_folded g2 env)) fun D σ H q => ?_
          rw [own_snd]
          exact lc2_tx (all_in h4) (all_in g4) (all_in g0) (asg_tx ht q)
      · exact ps_asga c.cc ht hi hx (by rw [swaps_lc c.cc hx]; simp only [Bool.not_eq_true] at hsw; rw [hsw]) P
    · cases a <;> first | exact nv rfl | cases hy
    · cases a <;> first | exact nv rfl | cases hy
end
end Zv

set_option Elab.async false
set_option autoImplicit false
set_option linter.all false
set_option maxRecDepth 100000
namespace Zv
open PySem PySem.Spec L2
open PyProof.Rows hiding St
mutual
theorem ps_all {l : Lk} : ∀ (c : S) {X : Cx} {n : Nm} {sc : Scope} {k : Nat} {W : WX} (s : Stmt), Cs X n sc l k W → ckS n sc c s = true → PS X s (Ts l W c)
  | .nev, X, n, sc, k, W, s, c, h => ps_neva
  | .doc, X, n, sc, k, W, s, c, h => by
    cases s <;> first | (cases h; done) | skip
    rename_i y pos
    cases y <;> first | (cases h; done) | skip
    rename_i d j p
    cases d <;> first | (cases h; done) | skip
    exact ps_doca
  | .asg (.nm i) a, X, n, sc, k, W, s, c, h => by
    cases s <;> first | (cases h; done) | skip
    rename_i ts y pos
    rcases ts with _ | ⟨t, _ | ⟨t2, ts⟩⟩ <;> first | (cases h; done) | (cases t <;> first | (cases h; done) | skip)
    simp only [ckS, Bool.and_eq_true, decide_eq_true_eq] at h
    exact ps_set_any c (.inl rfl) h.1.1 h.1.2 h.2
  | .asg (.ow i) a, X, n, sc, k, W, s, c, h => by
    cases s <;> first | (cases h; done) | skip
    rename_i ts y pos
    rcases ts with _ | ⟨t, _ | ⟨t2, ts⟩⟩ <;> first | (cases h; done) | (cases t <;> first | (cases h; done) | skip)
    simp only [ckS, Bool.and_eq_true, decide_eq_true_eq] at h
    exact ps_set_any c (.inr rfl) h.1.1 h.1.2 h.2
  | .asg (.tup ts) a, X, n, sc, k, W, s, c, h => by
    cases s <;> first | (cases h; done) | skip
    rename_i tgs y pos
    rcases tgs with _ | ⟨t, _ | ⟨t2, tgs⟩⟩ <;> first | (cases h; done) | (cases t <;> first | (cases h; done) | skip)
    simp only [ckS, Bool.and_eq_true, Bool.or_eq_true] at h
    exact ps_asgt c.cc h.1.1 (h.1.2.elim noSwap_ok (noSwapC_ok c.cc)) (pe_all a y c.cc h.2).1
  | .par ts cs, X, n, sc, k, W, s, c, h => by
    cases s <;> first | (cases h; done) | skip
    rename_i tgs y pos
    rcases tgs with _ | ⟨t, _ | ⟨t2, tgs⟩⟩ <;> first | (cases h; done) | (cases t <;> first | (cases h; done) | (cases y <;> first | (cases h; done) | skip))
    simp only [ckS, Bool.and_eq_true, Bool.or_eq_true, decide_eq_true_eq] at h
    obtain ⟨⟨⟨⟨⟨h1, h2⟩, h3⟩, h4⟩, h5⟩, h6⟩ := h
    have P := pa_all cs _ c.cc h3
    rcases h6 with ((h6 | h6) | h6) | h6
    · exact ps_par2a c.cc h1 h2 h6 P
    · exact ps_par3a c.cc h1 h2 h6 P
    · exact ps_part c.cc h1 h2 h4 (noSwap_ok h6) h5 P (evs_len h3)
    · exact ps_part c.cc h1 h2 h4 (noSwapC_ok c.cc h6) h5 P (evs_len h3)
  | .setI i ix a, X, n, sc, k, W, s, c, h => by
    cases s <;> first | (cases h; done) | skip
    rename_i tgs y pos
    rcases tgs with _ | ⟨t, _ | ⟨t2, tgs⟩⟩ <;> first | (cases h; done) | (cases t <;> first | (cases h; done) | (rename_i x z sp; cases x <;> first | (cases h; done) | skip))
    simp only [ckS, Bool.and_eq_true, decide_eq_true_eq, Bool.not_eq_true'] at h
    obtain ⟨⟨⟨⟨⟨h1, h2⟩, h3⟩, h4⟩, h5⟩, h6⟩ := h
    exact ps_seta c.cc h1 h2 (dbg_ok h3).1 (dbg_ok h3).2 h5 (pe_all a y c.cc h6).1 (pe_all ix z c.cc h4).1
  | .aug i o a, X, n, sc, k, W, s, c, h => by
    cases s <;> first | (cases h; done) | skip
    rename_i t p y pos
    cases t <;> first | (cases h; done) | skip
    simp only [ckS, Bool.and_eq_true, decide_eq_true_eq] at h
    obtain ⟨⟨⟨⟨rfl, h1⟩, h2⟩, h3⟩, h4⟩ := h
    exact ps_auga c.cc h1 h2 h3 (pe_all a y c.cc h4).1
  | .app i a, X, n, sc, k, W, s, c, h => by
    cases s <;> first | (cases h; done) | skip
    rename_i y pos
    cases y <;> first | (cases h; done) | skip
    rename_i g xs kw cp
    cases g <;> first | (cases h; done) | skip
    rename_i o m ap
    rcases xs with _ | ⟨y, _ | ⟨z, xs⟩⟩ <;> cases kw <;> first | (cases h; done) | (cases o <;> first | (cases h; done) | skip)
    simp only [ckS, Bool.and_eq_true, decide_eq_true_eq] at h
    obtain ⟨⟨⟨⟨⟨rfl, h1⟩, h2⟩, h3⟩, h4⟩, h5⟩ := h
    exact ps_appa c.cc h1 h2 (dbg_ok h3).1 (dbg_ok h3).2 h4 (ck_plain h5).2.1 (pe_all a y c.cc h5).1
  | .ext i a, X, n, sc, k, W, s, c, h => by
    cases s <;> first | (cases h; done) | skip
    rename_i y pos
    cases y <;> first | (cases h; done) | skip
    rename_i g xs kw cp
    cases g <;> first | (cases h; done) | skip
    rename_i o m ap
    rcases xs with _ | ⟨y, _ | ⟨z, xs⟩⟩ <;> cases kw <;> first | (cases h; done) | (cases o <;> first | (cases h; done) | skip)
    simp only [ckS, Bool.and_eq_true, decide_eq_true_eq] at h
    obtain ⟨⟨⟨⟨⟨rfl, h1⟩, h2⟩, h3⟩, h4⟩, h5⟩ := h
    exact ps_exta c.cc h1 h2 (dbg_ok h3).1 (dbg_ok h3).2 h4 (ck_plain h5).2.1 (pe_all a y c.cc h5).1
  | .ex a, X, n, sc, k, W, s, c, h => by
    cases s <;> first | (cases h; done) | skip
    simp only [ckS, Bool.and_eq_true] at h
    exact ps_exa (pe_all a _ c.cc h.1).1 h.2
  | .iff t a b, X, n, sc, k, W, s, c, h => by
    cases s <;> first | (cases h; done) | skip
    simp only [ckS, Bool.and_eq_true] at h
    exact ps_iffa (pe_all t _ c.cc h.1.1).2 (pss_all a _ c h.1.2) (pss_all b _ c h.2)
  | .whl t b, X, n, sc, k, W, s, c, h => by
    cases s <;> first | (cases h; done) | skip
    rename_i y ss oe pos
    cases oe <;> first | (cases h; done) | skip
    simp only [ckS, Bool.and_eq_true] at h
    exact ps_whla c.po (pe_all t _ c.cc h.1).2 (pss_all b _ c h.2)
  | .for t it b, X, n, sc, k, W, s, c, h => by
    cases s <;> first | (cases h; done) | skip
    rename_i tg y ss oe pos
    cases oe <;> first | (cases h; done) | skip
    simp only [ckS, Bool.and_eq_true] at h
    exact ps_fora c.po c.cc (pi_all it y tg t c.cc h.1.2 h.1.1) (pg_all c.cc t tg h.1.1) (pss_all b _ c h.2) (it_folded h.1.2 X.env)
  | .ret a, X, n, sc, k, W, s, c, h => by
    cases s <;> first | (cases h; done) | skip
    rename_i y pos
    cases y <;> first | (cases h; done) | skip
    exact ps_reta (pe_all a _ c.cc h).1
  | .retN, X, n, sc, k, W, s, c, h => by
    cases s <;> first | (cases h; done) | skip
    rename_i y pos
    cases y <;> first | (cases h; done) | skip
    exact ps_retna
  | .brk, X, n, sc, k, W, s, c, h => by
    cases s <;> first | (cases h; done) | skip
    exact ps_brka
  | .cnt, X, n, sc, k, W, s, c, h => by
    cases s <;> first | (cases h; done) | skip
    exact ps_cnta
  | .pass, X, n, sc, k, W, s, c, h => by
    cases s <;> first | (cases h; done) | skip
    exact ps_passa
  | .raise j (some a), X, n, sc, k, W, s, c, h => by cases s <;> cases h
  | .raise j none, X, n, sc, k, W, s, c, h => by
    cases s <;> first | (cases h; done) | skip
    rename_i y z pos
    cases y <;> first | (cases h; done) | skip
    rename_i y
    cases y <;> first | (cases h; done) | skip
    rename_i g xs kw cp
    cases g <;> first | (cases h; done) | skip
    rcases xs with _ | ⟨y, _ | ⟨z2, xs⟩⟩ <;> cases kw <;> cases z <;> first | (cases h; done) | (cases y <;> first | (cases h; done) | (rename_i d i p2; cases d <;> first | (cases h; done) | skip))
    simp only [ckS, Bool.and_eq_true, decide_eq_true_eq] at h
    exact ps_raisea c.cc (c.rzz h.1.1 h.1.2 h.2)
  | .try b hs, X, n, sc, k, W, s, c, h => by
    cases s <;> first | (cases h; done) | skip
    rename_i ss hds oe fb pos
    cases hds <;> cases oe <;> cases fb <;> first | (cases h; done) | skip
    simp only [ckS, Bool.and_eq_true] at h
    obtain ⟨ls, hl⟩ := hc_all c h.2
    exact ps_trya c.cc c.st c.fr (fun W' pn xe tk po => pss_all b ss (c.tr tk po) h.1) hl
theorem pss_all {l : Lk} : ∀ (c : Ss) {X : Cx} {n : Nm} {sc : Scope} {k : Nat} {W : WX} (s : List Stmt), Cs X n sc l k W → ckSs n sc c s = true → PSs X s (Tss l W c)
  | .nil, X, n, sc, k, W, s, c, h => by
    cases s <;> first | (cases h; done) | skip
    exact pss_nila
  | .cons s r, X, n, sc, k, W, ss, c, h => by
    cases ss <;> first | (cases h; done) | skip
    simp only [ckSs, Bool.and_eq_true] at h
    exact pss_consa (ps_all s _ c h.1) (pss_all r _ c h.2)
end
end Zv

set_option Elab.async false
set_option autoImplicit false
set_option linter.all false
set_option maxRecDepth 100000
/-! defs -/
namespace Zv
open PySem PySem.Spec L2
open PyProof.Rows hiding St
theorem noMine_at : ∀ {as : List SV} {i : Nat} {o : Ob}, noMine as = true → as[i]? ≠ some (.own false o)
  | [], i, o, _, h => by simp at h
  | .val _ :: r, 0, o, _, h => by simp at h
  | .kept _ :: r, 0, o, _, h => by simp at h
  | .dead :: r, 0, o, _, h => by simp at h
  | .own true _ :: r, 0, o, _, h => by simp at h
  | .own false _ :: r, _, o, n, _ => by simp [noMine] at n
  | .val _ :: r, i + 1, o, n, h => noMine_at (as := r) (i := i) (o := o) (by simpa [noMine] using n) (by simpa using h)
  | .kept _ :: r, i + 1, o, n, h => noMine_at (as := r) (i := i) (o := o) (by simpa [noMine] using n) (by simpa using h)
  | .dead :: r, i + 1, o, n, h => noMine_at (as := r) (i := i) (o := o) (by simpa [noMine] using n) (by simpa using h)
  | .own true _ :: r, i + 1, o, n, h => noMine_at (as := r) (i := i) (o := o) (by simpa [noMine] using n) (by simpa using h)
/-- what comes back of the arguments -/
def Outs (as : List SV) (e' outs : En) : Prop := outs.length = as.length ∧ ∀ (p : Nat) (a : SV), as[p]? = some a → (∃ b o, a = .own b o ∧ (outs[p]? = e'[p]? ∨ outs[p]? = some (some .dead))) ∨ ((∀ b o, a ≠ .own b o) ∧ outs[p]? = some (some a))
theorem outs_of : ∀ {as : List SV} {e' : En}, Outs as e' (outsOf as e')
  | [], e' => ⟨by simp [outsOf], fun p a h => by simp at h⟩
  | a :: r, e' => by
    obtain ⟨h1, h2⟩ := outs_of (as := r) (e' := e'.drop 1)
    have key : ∃ y, outsOf (a :: r) e' = y :: outsOf r (e'.drop 1) ∧ ((∃ b o, a = .own b o ∧ (some y = e'[0]? ∨ y = some .dead)) ∨ ((∀ b o, a ≠ .own b o) ∧ y = some a)) := by
      cases a with
      | own b o =>
        cases e' with
        | nil => exact ⟨_, rfl, .inl ⟨b, o, rfl, .inr rfl⟩⟩
        | cons x e => exact ⟨x, rfl, .inl ⟨b, o, rfl, .inl rfl⟩⟩
      | val d => exact ⟨_, by simp [outsOf], .inr ⟨by simp, rfl⟩⟩
      | kept d => exact ⟨_, by simp [outsOf], .inr ⟨by simp, rfl⟩⟩
      | dead => exact ⟨_, by simp [outsOf], .inr ⟨by simp, rfl⟩⟩
    obtain ⟨y, k1, k2⟩ := key
    refine ⟨by rw [k1, List.length_cons, h1, List.length_cons], fun p b hb => ?_⟩
    rw [k1]
    cases p with
    | zero =>
      simp at hb
      subst hb
      rcases k2 with ⟨b, o, k3, k4⟩ | ⟨k3, k4⟩
      · exact .inl ⟨b, o, k3, k4.imp (fun z => by simpa using z) fun z => by simp [z]⟩
      · exact .inr ⟨k3, by simp [k4]⟩
    | succ p =>
      have := h2 p b (by simpa using hb)
      simpa [Nat.add_comm] using this
theorem outs_lose : ∀ {as : List SV} {e' : En}, Outs as e' (loseA as)
  | [], e' => ⟨rfl, fun p a h => by simp at h⟩
  | a :: r, e' => by
    obtain ⟨h1, h2⟩ := outs_lose (as := r) (e' := e'.drop 1)
    have key : ∃ y, loseA (a :: r) = y :: loseA r ∧ ((∃ b o, a = .own b o ∧ y = some .dead) ∨ ((∀ b o, a ≠ .own b o) ∧ y = some a)) := by
      cases a with
      | own b o => exact ⟨_, rfl, .inl ⟨b, o, rfl, rfl⟩⟩
      | val d => exact ⟨_, rfl, .inr ⟨by simp, rfl⟩⟩
      | kept d => exact ⟨_, rfl, .inr ⟨by simp, rfl⟩⟩
      | dead => exact ⟨_, rfl, .inr ⟨by simp, rfl⟩⟩
    obtain ⟨y, k1, k2⟩ := key
    refine ⟨by rw [k1]; simp [h1], fun p b hb => ?_⟩
    rw [k1]
    cases p with
    | zero =>
      simp at hb
      subst hb
      rcases k2 with ⟨b, o, k3, k4⟩ | ⟨k3, k4⟩
      · exact .inl ⟨b, o, k3, .inr (by simp [k4])⟩
      · exact .inr ⟨k3, by simp [k4]⟩
    | succ p =>
      have := h2 p b (by simpa using hb)
      simpa [Nat.add_comm] using this
section
variable {K : PySem.W.Frag} {F F' : Addr → Prop} {H H' : Hp} {vs : List V} {as : List SV} {m m2 : Nat} {σ' : St} {e' outs : En}
theorem ext_sl {i : Nat} {s : SV} : Sl (as.map some ++ List.replicate m none) i s ↔ Sl (as.map some) i s := by
  unfold Sl
  by_cases h : i < (as.map some).length
  · rw [List.getElem?_append_left h]
  · constructor
    · intro q
      rw [List.getElem?_append_right (by omega), List.getElem?_replicate] at q
      split at q <;> cases q
    · intro q
      rw [List.getElem?_eq_none (by omega)] at q
      cases q
theorem ext_vl {i : Nat} {v : V} : Vl (vs.map some ++ List.replicate m none) i v ↔ Vl (vs.map some) i v := by
  unfold Vl
  by_cases h : i < (vs.map some).length
  · rw [List.getElem?_append_left h]
  · constructor
    · intro q
      rw [List.getElem?_append_right (by omega), List.getElem?_replicate] at q
      split at q <;> cases q
    · intro q
      rw [List.getElem?_eq_none (by omega)] at q
      cases q
theorem ext_own {a : Addr} : Own (vs.map some ++ List.replicate m none) (as.map some ++ List.replicate m2 none) a ↔ Own (vs.map some) (as.map some) a :=
  ⟨fun ⟨i, b, o, h1, h2⟩ => ⟨i, b, o, ext_sl.mp h1, ext_vl.mp h2⟩, fun ⟨i, b, o, h1, h2⟩ => ⟨i, b, o, ext_sl.mpr h1, ext_vl.mpr h2⟩⟩
theorem Er.ext (er : Er K F H (vs.map some) (as.map some)) (h : m = m2) : Er K F H (vs.map some ++ List.replicate m none) (as.map some ++ List.replicate m2 none) := by
  subst h
  refine ⟨by simp only [List.length_append, List.length_replicate]; rw [er.len], er.fok, fun i d h => ?_, fun i d h => ?_, fun i b o h => ?_, fun i j b c o p a h1 h2 h3 h4 => er.apart _ _ _ _ _ _ _ (ext_sl.mp h1) (ext_sl.mp h2) (ext_vl.mp h3) (ext_vl.mp h4)⟩
  · obtain ⟨v, a, r⟩ := er.val i d (ext_sl.mp h); exact ⟨v, ext_vl.mpr a, r⟩
  · obtain ⟨v, a, r⟩ := er.kept i d (ext_sl.mp h); exact ⟨v, ext_vl.mpr a, r⟩
  · obtain ⟨v, a, r⟩ := er.own i b o (ext_sl.mp h); exact ⟨v, ext_vl.mpr a, r⟩
theorem Po.back (er : Er K F H (vs.map some) (as.map some)) (nm : noMine as = true) (p : Po K false Non F H (vs.map some ++ List.replicate m none) (as.map some ++ List.replicate m2 none) F' H' σ' e') (ho : Outs as e' outs) :
    Po K false Non F H (vs.map some) (as.map some) F' H' (vs.map some) outs ∧ ∀ a, Own (vs.map some) outs a → Own σ' e' a := by
  have kf : ∀ a o, F a → H a = some o → H' a = some o := fun a o f h => p.keep a o h fun z => er.nf (ext_own.mp z) f
  have rp : ∀ {v d}, Rp K F H v d → Rp K F' H' v d := fun r => r.mono p.inc kf
  have lt : ∀ {i : Nat} {x : Option SV}, outs[i]? = some x → ∃ a, as[i]? = some a := fun {i x} h => by
    have := (List.getElem?_eq_some_iff.mp h).1
    rw [ho.1] at this
    exact ⟨_, List.getElem?_eq_getElem this⟩
  have asl : ∀ {i : Nat} {a : SV}, as[i]? = some a → Sl (as.map some) i a := fun h => by unfold Sl; rw [List.getElem?_map, h]; rfl
  have sla : ∀ {i : Nat} {a : SV}, Sl (as.map some) i a → as[i]? = some a := fun h => by
    obtain ⟨a', h1, h2⟩ := map_at h
    cases h2; exact h1
  have sg : ∀ {i : Nat} {v : V}, σ'[i]? = (vs.map some ++ List.replicate m none)[i]? → Vl σ' i v → Vl (vs.map some) i v := fun h q => ext_vl.mp (h.symm.trans q)
  -- where an item that comes back is from
  have src : ∀ {i : Nat} {s : SV}, Sl outs i s → (∃ o0, Sl (as.map some) i (.own true o0) ∧ σ'[i]? = (vs.map some ++ List.replicate m none)[i]? ∧ ((Sl e' i s ∧ ((∃ o', s = .own true o') ∨ ∃ d, s = .kept d)) ∨ s = .dead)) ∨ (Sl (as.map some) i s ∧ ∀ b o, s ≠ .own b o) := fun {i s} h => by
    obtain ⟨a, ha⟩ := lt h
    rcases ho.2 i a ha with ⟨b, o, rfl, h2⟩ | ⟨n, h2⟩
    · have hb : b = true := by
        cases b with
        | true => rfl
        | false => exact absurd ha (noMine_at nm)
      subst hb
      obtain ⟨z1, z2⟩ := p.lent i o (ext_sl.mpr (asl ha))
      refine .inl ⟨o, asl ha, z1, ?_⟩
      rcases h2 with h2 | h2
      · have h3 : Sl e' i s := h2.symm.trans h
        rcases z2 with ⟨o', z2⟩ | ⟨d, z2⟩ | z2
        · cases h3.symm.trans z2; exact .inl ⟨h3, .inl ⟨o', rfl⟩⟩
        · cases h3.symm.trans z2; exact .inl ⟨h3, .inr ⟨d, rfl⟩⟩
        · cases h3.symm.trans z2; exact .inr rfl
      · cases h.symm.trans h2; exact .inr rfl
    · cases h.symm.trans h2
      exact .inr ⟨asl ha, n⟩
  have ownO : ∀ {i : Nat} {b : Bool} {o : Ob}, Sl outs i (.own b o) → b = true ∧ Sl e' i (.own true o) ∧ σ'[i]? = (vs.map some ++ List.replicate m none)[i]? ∧ ∃ o0, Sl (as.map some) i (.own true o0) := fun {i b o} h => by
    rcases src h with ⟨o0, h1, h2, h3⟩ | ⟨_, n⟩
    · rcases h3 with ⟨h3, h4⟩ | h3
      · rcases h4 with ⟨o', h4⟩ | ⟨d, h4⟩
        · cases h4; exact ⟨rfl, h3, h2, o0, h1⟩
        · cases h4
      · cases h3
    · exact absurd rfl (n b o)
  refine ⟨⟨⟨by rw [ho.1]; have := er.len; simpa using this, p.rel.fok, fun i d h => ?_, fun i d h => ?_, fun i b o h => ?_, fun i j b c o q a h1 h2 w1 w2 => ?_⟩, p.inc, fun a o h n => p.keep a o h fun z => n (ext_own.mp z), p.dom, fun a h => (p.new a h).imp id (Or.imp id (Or.imp ext_own.mp id)), fun i b o h => ?_, fun i o h => ?_, fun i d h => ?_, fun i h => ?_⟩, fun a ⟨i, b, o, h1, h2⟩ => ?_⟩
  · rcases src h with ⟨o0, _, _, h3⟩ | ⟨h1, _⟩
    · rcases h3 with ⟨_, ⟨_, h4⟩ | ⟨_, h4⟩⟩ | h3 <;> first | cases h4 | cases h3
    · obtain ⟨v, a1, a2⟩ := er.val i d h1
      exact ⟨v, a1, rp a2⟩
  · rcases src h with ⟨o0, _, h2, h3⟩ | ⟨h1, _⟩
    · rcases h3 with ⟨h3, _⟩ | h3
      · obtain ⟨v, a1, a2⟩ := p.rel.kept i d h3
        exact ⟨v, sg h2 a1, a2⟩
      · cases h3
    · obtain ⟨v, a1, a2⟩ := er.kept i d h1
      exact ⟨v, a1, rp a2⟩
  · obtain ⟨_, h1, h2, _⟩ := ownO h
    obtain ⟨a, a1, a2, a3⟩ := p.rel.own i _ o h1
    exact ⟨a, sg h2 a1, a2, a3⟩
  · obtain ⟨_, k1, k2, _⟩ := ownO h1
    obtain ⟨_, k3, k4, _⟩ := ownO h2
    exact p.rel.apart _ _ _ _ _ _ _ k1 k3 (k2.trans (ext_vl.mpr w1)) (k4.trans (ext_vl.mpr w2))
  · obtain ⟨hb, _, _, o0, h1⟩ := ownO h
    subst hb
    exact .inl ⟨o0, h1, rfl⟩
  · refine ⟨rfl, ?_⟩
    rcases ho.2 i _ (sla h) with ⟨b, o2, h1, h2⟩ | ⟨n, _⟩
    · cases h1
      rcases h2 with h2 | h2
      · rcases (p.lent i o (ext_sl.mpr h)).2 with ⟨o', z⟩ | ⟨d, z⟩ | z
        · exact .inl ⟨o', h2.trans z⟩
        · exact .inr (.inl ⟨d, h2.trans z⟩)
        · exact .inr (.inr (h2.trans z))
      · exact .inr (.inr h2)
    · exact absurd rfl (n _ _)
  · refine ⟨rfl, ?_⟩
    rcases ho.2 i _ (sla h) with ⟨b, o2, h1, h2⟩ | ⟨n, h2⟩
    · cases h1
    · exact h2
  · refine ⟨rfl, ?_⟩
    rcases ho.2 i _ (sla h) with ⟨b, o2, h1, h2⟩ | ⟨n, h2⟩
    · cases h1
    · exact h2
  · obtain ⟨_, k1, k2, _⟩ := ownO h1
    exact ⟨i, true, o, k1, k2.trans (ext_vl.mpr h2)⟩
end
/-- the readings of the defs at depth k -/
def lk (K : PySem.W.Frag) (G : List D) (T : List Fn) (xt : Nat → Option (Addr × Option Str)) (k : Nat) : Lk := ⟨K, G, callAt G T k, xt⟩
/-- a def against its core -/
structure DefOk (K : PySem.W.Frag) (mg : Str → Option Value) (gn fnm xn : List Str) (rn : List Nat) (fn : Fn) (x : Str) : Prop where
  ok : ∃ (f : Addr) (name qual : Str) (params : Arguments) (body : List Stmt) (scope : Scope) (dV kV doc pm cdv ct oc : Value) (an od : Option Addr) (osl : Array (Option Value)) (N ps : List Str),
    K.lookup f = some ⟨oc, od, .func (PySem.W.fnOf name qual params body scope dV kV doc pm an cdv ct), osl⟩ ∧ PySem.W.codeIn K cdv qual = true ∧ FnScope N ps scope ∧ mg x = some (.ref f) ∧ PySem.W.keepIn K (.ref f) = true ∧
    Binds K (PySem.W.fnOf name qual params body scope dV kV doc pm an cdv ct) ps [] ∧ fn.np = ps.length ∧ fn.ns = N.length ∧ ckSs ⟨N, gn, fnm, xn, rn⟩ scope fn.body body = true
section
variable {P : Program} {w : World} {K : PySem.W.Frag} {mg : Str → Option Value} {base : Heap} {G : List D} {T : List Fn} {gn fnm xn : List Str} {rn : List Nat} {xt : Nat → Option (Addr × Option Str)}
/-- a body's run -/
theorem body_tx {fn : Fn} {i k : Nat} {vs : List V} {H : Hp} {Q : VK} {E : XK} {N : List Str} (hi : T[i]? = some fn) (hN : fn.ns = N.length) (h : Sf (lk K G T xt (k + 1)) i vs H Q E) :
    vs.length = fn.np ∧ Tss (lk K G T xt k) (fun cls d _ H => E cls d H) fn.body { nx := fun _ H' => Q .non H', rt := Q } (start N vs) H := by
  obtain ⟨as, F, er, h⟩ := h
  have hlen : vs.length = as.length := by have := er.len; simpa using this.symm
  have e0 : callAt G T (k + 1) i as = (if as.length = fn.np ∧ noMine as = true then fnEnd as (evSs G (callAt G T k) fn.body (as.map some ++ List.replicate (fn.ns - fn.np) none)) else .no) := by
    rw [callAt]; rw [hi]
  rw [show (lk K G T xt (k + 1)).cl i as = _ from e0] at h
  by_cases hc : as.length = fn.np ∧ noMine as = true
  · rw [if_pos hc] at h
    have er2 : Er K F H (start N vs) (as.map some ++ List.replicate (fn.ns - fn.np) none) := Er.ext er (by rw [hlen, hc.1, hN])
    refine ⟨hlen.trans hc.1, _, F, Fre H, ⟨er2, fun _ z => z, fun j o a z _ => ?_⟩, ?_⟩
    · obtain ⟨a', z1, z2⟩ := map_at (ext_sl.mp z)
      cases z2
      exact absurd z1 (noMine_at hc.2)
    show Sw (lk K G T xt k) _ _ _ _ _ _ _ (evSs G (callAt G T k) fn.body _) _
    cases r : evSs G (callAt G T k) fn.body (as.map some ++ List.replicate (fn.ns - fn.np) none) with
    | nx e' =>
      rw [r] at h
      intro F' H' σ' p
      exact h F' H' .non (Po.back er hc.2 p outs_of).1 (.v .non)
    | rt d fr e' =>
      rw [r] at h
      intro F' H' σ' v p rv
      obtain ⟨p2, ow⟩ := Po.back er hc.2 p outs_of
      refine h F' H' v p2 ?_
      cases fr with
      | false => cases rv with | v r => exact .v r
      | true =>
        simp only [if_true] at rv ⊢
        generalize hd : EV.fr d = rr at rv ⊢
        cases rv with
        | v r => cases hd
        | fr n nf no ro => exact .fr n nf (fun z => no (ow _ z)) ro
        | sl _ => cases hd
    | ex x e' =>
      rw [r] at h
      intro F' H' σ' cls d p hx
      exact h F' H' cls d (Po.back er hc.2 p outs_lose).1 hx
    | bk e' => rw [r] at h; exact h.elim
    | ct e' => rw [r] at h; exact h.elim
    | no => rw [r] at h; exact h.elim
  · rw [if_neg hc] at h
    exact h.elim
/-- all defs, at each depth -/
theorem fk_all (hblt : ∀ x ∈ bltNames, mg x = none) (hglob : ∀ (j : Nat) (x : Str), gn[j]? = some x → ∃ (d : D) (v : V) (u : Value), G[j]? = some d ∧ mg x = some u ∧ RelV v u ∧ ∀ F H, Rp K F H v d)
    (hdef : ∀ (i : Nat) (x : Str), fnm[i]? = some x → ∃ fn, T[i]? = some fn ∧ DefOk K mg gn fnm xn rn fn x)
    (hrz : ∀ j x, rn.contains j = true → xn[j]? = some x → Xz K mg (lk K G T xt 0) j x) (hhz : ∀ j x, xn[j]? = some x → Yz K mg (lk K G T xt 0) j x) :
    ∀ (k i : Nat) (x : Str), fnm[i]? = some x → ∃ f fd ps, mg x = some (.ref f) ∧ PySem.W.keepIn K (.ref f) = true ∧ Binds K fd ps [] ∧ Fk P w K mg base k f fd ps (Sf (lk K G T xt k) i)
  | 0, i, x, hx => by
    obtain ⟨fn, hi, ⟨f, name, qual, params, body, scope, dV, kV, doc, pm, cdv, ct, oc, an, od, osl, N, ps, g1, g2, g3, g4, g5, g6, g7, g8, g9⟩⟩ := hdef i x hx
    have no : ∀ vs H Q E, Sf (lk K G T xt 0) i vs H Q E → False := fun vs H Q E ⟨as, F, er, h⟩ => by
      rw [show (lk K G T xt 0).cl i as = .no from rfl] at h
      exact h
    exact ⟨f, _, ps, g4, g5, g6, ⟨fun vs H Q E h => (no vs H Q E h).elim, fun A outer s H args us vs Q E _ _ _ _ _ h => (no vs H Q E h).elim⟩⟩
  | k + 1, i, x, hx => by
    obtain ⟨fn, hi, ⟨f, name, qual, params, body, scope, dV, kV, doc, pm, cdv, ct, oc, an, od, osl, N, ps, g1, g2, g3, g4, g5, g6, g7, g8, g9⟩⟩ := hdef i x hx
    refine ⟨f, _, ps, g4, g5, g6, fk_of (N := N) g1 g2 g3 (fun vs H Q E h => (body_tx hi g8 h).1.trans g7) fun A outer s H vs Q E hr hg h => ⟨_, ?_, (body_tx hi g8 h).2⟩⟩
    refine pss_all fn.body body (n := ⟨N, gn, fnm, xn, rn⟩) (sc := scope) (k := k) ⟨⟨rfl, g3.nd, fun x kk _ z => z, fun x z => absurd rfl (g3.nofree _ (PySem.mem_of_lookup z)), g3.kind, rfl, ⟨rfl, hr, hg⟩, takes_of rfl rfl rfl rfl, fun _ _ => rfl, hblt, hglob, fk_all hblt hglob hdef hrz hhz k⟩, passes_of rfl, rfl, rfl, hrz, hhz⟩ g9
end
end Zv

set_option Elab.async false
set_option autoImplicit false
set_option linter.all false
set_option maxRecDepth 100000
/-! the top: the law's own call -/
namespace Zv
open PySem PySem.Spec L2
open PyProof.Rows hiding St
section
variable {P : Program} {w : World} {K : PySem.W.Frag} {mg mb : Str → Option Value} {k : Nat} {fa a : Addr} {fd : FuncData} {x : Str} {sp : Sp} {s₁ : Shared} {vs : List Value} {ns : List Int}
/-- the call of the law, from an abstract heap H of the script alone -/
theorem top_core (KX : K.In s₁.heap) (gn : s₁.heap.Ns mainGlobals mg) (bn : s₁.heap.Ns builtinsNs mb) (bb : ∀ x : Str, x ≠ "__name__" → mb x = bootBuiltins x) (lim : s₁.heap.NoLimit) (hg : s₁.gens = #[]) (hr : Room k callerA)
    (F : ∀ base : Heap, ∃ fd ps, Binds K fd ps [] ∧ Fk P w K mg base k fa fd ps sp)
    {H : Hp} (hok : HOk P w H s₁.heap) (frozen : ∀ b u, H b = some u → ∃ o v, u = .frz o v ∧ s₁.heap.get? b = some o ∧ K.lookup b = none ∧ ∀ es ep, o.data ≠ .dict es ep)
    (h : sp [.ref a] H (fun v _ => v = .bl true) fun _ _ _ => False) :
    codeAny (model P w) callerA (.call (.ref fa) ⟨[.ref a], []⟩) (fun r s' => r = .ok (.ret (.bool true)) ∧ OldK s₁.heap s'.heap ∧ s'.os = s₁.os ∧ AllBare s'.gens) s₁ := by
  have seen : ∀ {b : Addr} {m : Str → Option Value}, s₁.heap.Ns b m → (hidT s₁.heap H).Ns b m := by
    rintro b m ⟨o, es, ep, e, d, r⟩
    refine ⟨o, es, ep, hidT_get e ?_, d, r⟩
    cases q : H b with
    | none => rfl
    | some u =>
      obtain ⟨o', v, _, e', _, nd⟩ := frozen b u q
      cases e.symm.trans e'
      exact absurd d (nd es ep)
  have kin : K.In (hidT s₁.heap H) := fun b o e => hidT_get (KX b o e) (by
    cases q : H b with
    | none => rfl
    | some u =>
      obtain ⟨_, _, _, _, z, _⟩ := frozen b u q
      rw [z] at e; cases e)
  have nolim : (hidT s₁.heap H).NoLimit := by
    obtain ⟨mc, h1, h2⟩ := lim
    exact ⟨mc, seen h1, h2⟩
  have e0 : Env0 P w K mg (hidT s₁.heap H) callerA [] s₁ H :=
    ⟨rfl, ⟨kin, seen gn, ⟨mb, seen bn, bb⟩, nolim⟩, fun b o e => of_hidT e, Nat.le_of_eq (hidT_size _ _), trivial, (fun b hb => nomatch hb), hok, .of_eq hg⟩
  obtain ⟨fd, ps, hb, F0⟩ := F (hidT s₁.heap H)
  have len : 1 = ps.length := F0.size _ _ _ _ h
  have bind : BindsTo s₁ fd ⟨[.ref a], []⟩ (ps.zip [.ref a]) := by
    have z := hb s₁ [.ref a] KX (by rw [List.append_nil]; exact len)
    rwa [List.append_nil] at z
  have run := F0.goes callerA [] s₁ H ⟨[.ref a], []⟩ [.ref a] [.ref a] _ _ hr rfl e0 bind (.cons rfl .nil) h
  refine codeAny_mono run ?_
  rintro (e | fl) s' q
  · obtain ⟨_, _, _, _, _, _, _, _, _, _, _, _, z⟩ := q
    exact z.elim
  · cases fl with
    | ret u =>
      obtain ⟨v, H', os, bare, un, hok', rv, hv⟩ := q
      have hv' : v = .bl true := hv
      subst hv'
      have hu : u = Value.bool true := rv
      refine ⟨by rw [hu], OldK.of_keep fun b o e => ?_, os, bare⟩
      cases q : H b with
      | none => exact un.keep b o e q (fun z => nomatch z) (by simp)
      | some u' =>
        obtain ⟨o', v', hu', e', _, _⟩ := frozen b u' q
        subst hu'
        cases e.symm.trans e'
        exact (hok' b _ (un.frzs b _ _ q)).1
    | _ => exact False.elim q
/-- the script as the evaluator has it -/
def scr (ns : List Int) : D := .list (ns.map PyData.int)
theorem scr_rpl {F : Addr → Prop} {H : Hp} : ∀ ns : List Int, RpL K F H (ns.map V.int) (ns.map PyData.int)
  | [] => .nil
  | n :: r => .cons (.int n) (scr_rpl r)
theorem top_sf {G : List D} {T : List Fn} {xt : Nat → Option (Addr × Option Str)} {i : Nat} {F : Addr → Prop} {H : Hp} {fr : Bool} {outs : En} (fok : ∀ a, F a → H a ≠ none) (h : (F a ∧ Rd H a (.lst (ns.map V.int))) ∨ KLst K a (ns.map V.int)) (run : callAt G T k i [.val (scr ns)] = .ok (.bool true) fr outs) :
    Sf (lk K G T xt k) i [.ref a] H (fun v _ => v = .bl true) fun _ _ _ => False := by
  have rp : Rp K F H (.ref a) (scr ns) := .lst h (scr_rpl ns)
  have one_ : ∀ {j : Nat} {s : SV}, Sl ([SV.val (scr ns)].map some) j s → j = 0 ∧ s = .val (scr ns) := fun {j s} z => by
    cases j with
    | zero => cases z; exact ⟨rfl, rfl⟩
    | succ j => cases z
  refine ⟨[.val (scr ns)], F, ⟨rfl, fok, fun j d z => ?_, fun j d z => ?_, fun j b o z => ?_, fun j j' b c o p y z => ?_⟩, ?_⟩
  · obtain ⟨rfl, e⟩ := one_ z
    cases e
    exact ⟨_, rfl, rp⟩
  · cases (one_ z).2
  · cases (one_ z).2
  · cases (one_ z).2
  · show match callAt G T k i [.val (scr ns)] with | .ok d fr outs => _ | .ex x => _ | .no => _
    rw [run]
    intro F' H' v p rv
    cases fr with
    | false =>
      cases rv with
      | v r => cases r; rfl
    | true =>
      simp only [if_true] at rv
      generalize hd : EV.fr (PyData.bool true) = r at rv
      cases rv with
      | v _ => cases hd
      | sl _ => cases hd
      | fr _ _ _ ro => cases ro; cases hd
theorem top_law (KX : K.In s₁.heap) (gn : s₁.heap.Ns mainGlobals mg) (bn : s₁.heap.Ns builtinsNs mb) (bb : ∀ x : Str, x ≠ "__name__" → mb x = bootBuiltins x) (lim : s₁.heap.NoLimit) (hg : s₁.gens = #[]) (hr : Room k callerA)
    (ha : s₁.heap.get? a = some { cls := .type "list", data := .seq vs.toArray }) (hi : IntsAre vs ns) (hl : ns.length ≤ sizeLine) {G : List D} {T : List Fn} {xt : Nat → Option (Addr × Option Str)} {i : Nat}
    (F : ∀ base : Heap, ∃ fd ps, Binds K fd ps [] ∧ Fk P w K mg base k fa fd ps (Sf (lk K G T xt k) i)) {fr : Bool} {outs : En} (run : callAt G T k i [.val (scr ns)] = .ok (.bool true) fr outs) :
    codeAny (model P w) callerA (.call (.ref fa) ⟨[.ref a], []⟩) (fun r s' => r = .ok (.ret (.bool true)) ∧ OldK s₁.heap s'.heap ∧ s'.os = s₁.os ∧ AllBare s'.gens) s₁ := by
  have rv := vals_ints hi
  cases hk : K.lookup a with
  | some o =>
    have eo : o = { cls := .type "list", data := .seq vs.toArray } := Option.some.inj ((KX a o hk).symm.trans ha)
    subst eo
    exact top_core KX gn bn bb lim hg hr F (H := fun _ => none) (fun b u z => nomatch z) (fun b u z => nomatch z) (top_sf (F := Non) (fun _ z => z.elim) (.inr ⟨vs, _, hk, by rw [List.length_map]; exact hl, rv⟩) run)
  | none =>
    have at_ : ∀ {b : Addr} {u : HO}, (if b = a then some (HO.frz { cls := .type "list", data := .seq vs.toArray } (.lst (ns.map V.int))) else none) = some u → b = a ∧ u = .frz { cls := .type "list", data := .seq vs.toArray } (.lst (ns.map V.int)) := fun {b u} z => by
      by_cases c : b = a
      · rw [if_pos c] at z; cases z; exact ⟨c, rfl⟩
      · rw [if_neg c] at z; cases z
    refine top_core KX gn bn bb lim hg hr F (H := fun b => if b = a then some (HO.frz { cls := .type "list", data := .seq vs.toArray } (.lst (ns.map V.int))) else none) (fun b u z => ?_) (fun b u z => ?_) (top_sf (F := (· = a)) (fun b z => by rw [z]; simp) (.inl ⟨rfl, .inr ⟨_, if_pos rfl⟩⟩) run)
    · obtain ⟨rfl, rfl⟩ := at_ z
      exact ⟨ha, by rw [List.length_map]; exact hl, vs, _, rv, ha⟩
    · obtain ⟨rfl, rfl⟩ := at_ z
      exact ⟨_, _, rfl, ha, hk, fun es ep => by simp⟩
end
/-- THE END: a law by its evaluator -/
theorem walk_z {l : PySem.W.OpenLaw} {n k : Nat} {q : Program} {loose : List Str} {XP : (Str → Option Value) → Heap → Prop} {YP : World → Heap → Prop} {d : DefRec} {K : Params → PySem.W.Frag} {G : List D} {T : List Fn} {i : Nat}
    (most : l.most = some n) (fits : n ≤ sizeLine) (nodef : d.params.defaults = []) (room : Room k callerA) (inn : ∀ (w : World) (h : Heap), YP w h → (K w.params).In h)
    (F : ∀ (w : World) (mg : Str → Option Value) (fa : Addr) (h : Heap), (K w.params).In h → h.Ns mainGlobals mg → mg d.name = some (.ref fa) →
      ∃ xt : Nat → Option (Addr × Option Str), ∀ base : Heap, ∃ fd ps, Binds (K w.params) fd ps [] ∧ Fk l.prog w (K w.params) mg base k fa fd ps (Sf (lk (K w.params) G T xt k) i))
    (run : ∀ ns : List Int, ns.length ≤ n → ∃ fr outs, callAt G T k i [.val (scr ns)] = .ok (.bool true) fr outs) :
    PySem.W.WalkO q loose XP YP l.row.toRowW d [] (fun f vs => PySem.call f vs) := by
  apply Att.attach_call most nodef
  intro w s0 s1 mg mb fa o pm cd doc a vs ns G0 Y h1 h2 h3 hm ho hi hl hg
  obtain ⟨xt, hF⟩ := F w mg fa _ (inn w _ Y) G0.T.g hm
  obtain ⟨fr, outs, hr⟩ := run ns hl
  exact top_law (inn w _ Y) G0.T.g G0.T.b G0.T.builtins G0.T.nolimit hg room ho hi (Nat.le_trans hl fits) hF hr
end Zv

set_option Elab.async false
set_option autoImplicit false
set_option linter.all false
set_option maxRecDepth 100000
/-! what the top has written -/
namespace Zv
open PySem PySem.Spec L2
open PyProof.Rows hiding St
section
variable {K : PySem.W.Frag} {h : Heap} {mg : Str → Option Value} {gn fnm xn : List Str} {rn : List Nat}
theorem def_mk {x y : Str} {f : Addr} {st : Stmt} {oc kV dc pm cd ct : Value} {od an : Option Addr} {sl : Array (Option Value)} {N ps : List Str} {fn : Fn} (KX : K.In h) (G : h.Ns mainGlobals mg)
    (a : PySem.W.nsIn K mainGlobals x = some (some (.ref f))) (l : K.lookup f = some ⟨oc, od, .func (PySem.W.fnOf y y (defArgs st) (defBody st) (defScope st) .none kV dc pm an cd ct), sl⟩) (c : PySem.W.codeIn K cd y = true) (kp : PySem.W.keepIn K (.ref f) = true)
    (S : FnScope N ps (defScope st)) (hb : ∀ (kV doc pm : Value) (an : Option Addr) (cdv ct : Value) (us : List Value), us.length = ps.length → bindArgs (PySem.W.fnOf y y (defArgs st) (defBody st) (defScope st) .none kV doc pm an cdv ct) ⟨us, []⟩ = pure (ps.zip us))
    (np : fn.np = ps.length) (ns : fn.ns = N.length) (ck : ckSs ⟨N, gn, fnm, xn, rn⟩ (defScope st) fn.body (defBody st) = true) : DefOk K mg gn fnm xn rn fn x :=
  ⟨f, y, y, defArgs st, defBody st, defScope st, .none, kV, dc, pm, cd, ct, oc, an, od, sl, N, ps, l, c, S, PySem.W.mg_of KX G a, kp, (fun_mk (st := st) l c kp).binds hb, np, ns, ck⟩
/-- a constant of the module, by its place -/
def Gk (K : PySem.W.Frag) (d : D) (u : Value) : Prop := ∃ v, RelV v u ∧ ∀ F H, Rp K F H v d
theorem gk_int (i : Int) (t : Tok) : Gk K (.int i) (.int i t) := ⟨.int i, ⟨t, rfl⟩, fun _ _ => .int i⟩
theorem gk_str (x : Str) (t : Tok) : Gk K (.str x) (.str x t) := ⟨.str x, ⟨t, rfl⟩, fun _ _ => .str x⟩
theorem gk_non : Gk K .none .none := ⟨.non, rfl, fun _ _ => .non⟩
theorem gk_bl (b : Bool) : Gk K (.bool b) (.bool b) := ⟨.bl b, rfl, fun _ _ => .bl b⟩
inductive GkL (K : PySem.W.Frag) : List D → List Value → Prop
  | nil : GkL K [] []
  | cons {d : D} {u : Value} {ds : List D} {us : List Value} : Gk K d u → GkL K ds us → GkL K (d :: ds) (u :: us)
theorem GkL.vals {ds : List D} {us : List Value} (h : GkL K ds us) : ∃ vs, Vals vs us ∧ ∀ F H, RpL K F H vs ds := by
  induction h with
  | nil => exact ⟨[], .nil, fun _ _ => .nil⟩
  | cons a _ ih =>
    obtain ⟨v, r, p⟩ := a
    obtain ⟨vs, rs, ps⟩ := ih
    exact ⟨v :: vs, .cons r rs, fun F H => .cons (p F H) (ps F H)⟩
theorem gk_tup {ds : List D} {a : Addr} {od : Option Addr} {sl : Array (Option Value)} {its : Array Value} {n : Nat} (l : K.lookup a = some ⟨.type "tuple", od, .seq its n, sl⟩) (hz : its.size ≤ sizeLine) (h : GkL K ds its.toList) : Gk K (.tuple ds) (.ref a) := by
  obtain ⟨vs, rv, p⟩ := h.vals
  exact ⟨.ref a, rfl, fun F H => .tup (.inr ⟨_, its, n, l, rfl, rfl, hz, rv⟩) (p F H)⟩
theorem exm_own {S : Addr} (b : PySem.W.subIn K (.ref S) (.type "BaseException") = some true) (i : PySem.W.isClsIn K S = true) (t : PySem.W.typeIn K (.ref S) = some (.type "type")) (s : PySem.W.subIn K (.ref S) (.ref S) = some true) : PySem.W.exmOne K (.ref S) (.ref S) = some true := by
  have i' : (PySem.W.clsIn K S).isSome = true := i
  unfold PySem.W.exmOne
  rw [if_pos (by rw [b]; rfl)]
  show (if ((PySem.W.clsIn K S).isSome && PySem.W.typeIn K (.ref S) == some (.type "type")) = true then PySem.W.subIn K (.ref S) (.ref S) else none) = some true
  rw [if_pos (by rw [i', t]; rfl), s]
end
end Zv

set_option Elab.async false
set_option autoImplicit false
set_option linter.all false
set_option maxRecDepth 100000
/-! ZL: the evaluator step by step: what a def's body computes, by rewriting. -/
namespace Zv
open PySem
section
variable {α β : Type}
/-- what follows stands in a box: rewriting leaves it as it is -/
class Bx {T : Type} (f : T) : Type where
  u : Unit
instance {T : Type} (f : T) : Bx f := ⟨()⟩
def R.bd (x : R α) (f : α → En → R β) [Bx f] : R β := match x with
  | .ok a e => f a e
  | .ex x e => .ex x e
  | .no => .no
theorem R.bd_ext {x : R α} {f g : α → En → R β} {u : Bx f} {v : Bx g} (h : ∀ a e, f a e = g a e) : @R.bd α β x f u = @R.bd α β x g v := by
  cases x with
  | ok a e => exact h a e
  | _ => rfl
theorem R.bd_ok (a : α) (e : En) (f : α → En → R β) {u : Bx f} : @R.bd α β (R.ok a e) f u = f a e := (rfl)
theorem R.bd_ex (x : Xn) (e : En) (f : α → En → R β) {u : Bx f} : @R.bd α β (R.ex x e : R α) f u = .ex x e := (rfl)
theorem R.bd_no (f : α → En → R β) {u : Bx f} : @R.bd α β (R.no : R α) f u = .no := (rfl)
theorem R.bd_ite {c : Prop} [Decidable c] (x y : R α) (f : α → En → R β) {u : Bx f} : @R.bd α β (if c then x else y) f u = if c then @R.bd α β x f u else @R.bd α β y f u := by split <;> rfl
theorem z_bind_at (x : M α) (f : α → M β) (e : En) : M.bind x f e = (x e).bd f := by
  unfold M.bind R.bd; rfl
theorem bind_fn (x : M α) (f : α → M β) : M.bind x f = fun e => (x e).bd fun a e => f a e := by
  funext e; exact z_bind_at x f e
theorem pure_at (a : α) (e : En) : M.pure a e = .ok a e := (rfl)
def liR (o : Option α) (e : En) : R α := match o with
  | some a => .ok a e
  | none => .no
theorem liR_some (a : α) (e : En) : liR (some a) e = .ok a e := (rfl)
theorem liR_none (e : En) : liR (none : Option α) e = .no := (rfl)
theorem z_lift_at (o : Option α) (e : En) : M.lift o e = liR o e := (rfl)
theorem lift_fn (o : Option α) : M.lift o = fun e => liR o e := (rfl)
theorem pure_fn (a : α) : M.pure a = fun e => .ok a e := (rfl)

def SR.ob (x : R α) (f : α → En → SR) [Bx f] : SR := SR.of x f
def SR.tn (x : SR) (f : En → SR) [Bx f] : SR := SR.then x f
theorem SR.of_ob (x : R α) (f : α → En → SR) : SR.of x f = SR.ob x f := (rfl)
theorem SR.then_tn (x : SR) (f : En → SR) : SR.then x f = SR.tn x f := (rfl)
theorem SR.ob_ok (a : α) (e : En) (f : α → En → SR) {u : Bx f} : @SR.ob α (.ok a e) f u = f a e := (rfl)
theorem SR.ob_ex (x : Xn) (e : En) (f : α → En → SR) {u : Bx f} : @SR.ob α (.ex x e : R α) f u = .ex x e := (rfl)
theorem SR.ob_no (f : α → En → SR) {u : Bx f} : @SR.ob α (.no : R α) f u = .no := (rfl)
theorem SR.ob_ite {c : Prop} [Decidable c] (x y : R α) (f : α → En → SR) {u : Bx f} : @SR.ob α (if c then x else y) f u = if c then @SR.ob α x f u else @SR.ob α y f u := by split <;> rfl
theorem SR.tn_nx (e : En) (f : En → SR) {u : Bx f} : @SR.tn (.nx e) f u = f e := (rfl)
theorem SR.tn_rt (d : D) (b : Bool) (e : En) (f : En → SR) {u : Bx f} : @SR.tn (.rt d b e) f u = .rt d b e := (rfl)
theorem SR.tn_bk (e : En) (f : En → SR) {u : Bx f} : @SR.tn (.bk e) f u = .bk e := (rfl)
theorem SR.tn_ct (e : En) (f : En → SR) {u : Bx f} : @SR.tn (.ct e) f u = .ct e := (rfl)
theorem SR.tn_ex (x : Xn) (e : En) (f : En → SR) {u : Bx f} : @SR.tn (.ex x e) f u = .ex x e := (rfl)
theorem SR.tn_no (f : En → SR) {u : Bx f} : @SR.tn .no f u = .no := (rfl)
theorem SR.tn_ite {c : Prop} [Decidable c] (x y : SR) (f : En → SR) {u : Bx f} : @SR.tn (if c then x else y) f u = if c then @SR.tn x f u else @SR.tn y f u := by split <;> rfl
end

/-! slots -/
def slD (o : Option (Option SV)) : Option D := match o with
  | some (some (.val d)) => some d
  | some (some (.own _ o)) => some o.d
  | some (some (.kept d)) => some d
  | _ => none
theorem slD_val (d : D) : slD (some (some (.val d))) = some d := (rfl)
theorem slD_own (b : Bool) (o : Ob) : slD (some (some (.own b o))) = some o.d := (rfl)
theorem slD_kept (d : D) : slD (some (some (.kept d))) = some d := (rfl)
theorem look_v (e : En) (d : D) : look e (.v d) = some d := (rfl)
theorem look_fr (e : En) (d : D) : look e (.fr d) = some d := (rfl)
theorem look_sl (e : En) (i : Nat) : look e (.sl i) = slD (e[i]?) := by
  unfold look slD
  try dsimp only
  all_goals (generalize e[i]? = o; rcases o with _ | _ | d | ⟨b, o⟩ | d | _ <;> try rfl)
  all_goals (cases b <;> rfl)
theorem rd_v (d : D) (e : En) : rd (.v d) e = .ok d e := (rfl)
theorem rd_fr (d : D) (e : En) : rd (.fr d) e = .ok d e := (rfl)
theorem rd_sl (i : Nat) (e : En) : rd (.sl i) e = liR (slD (e[i]?)) e := by
  unfold rd
  rw [look_sl]
  cases slD e[i]? <;> rfl
def fzK (i : Nat) (o : Option (Option SV)) (e : En) : R D := match o with
  | some (some (.val d)) => .ok d e
  | some (some (.own false o)) => .ok o.d (e.set i (some (.val o.d)))
  | some (some (.own true o)) => .ok o.d (e.set i (some (.kept o.d)))
  | some (some (.kept d)) => .ok d e
  | _ => .no
theorem fzK_val (i : Nat) (d : D) (e : En) : fzK i (some (some (.val d))) e = .ok d e := (rfl)
theorem fzK_kept (i : Nat) (d : D) (e : En) : fzK i (some (some (.kept d))) e = .ok d e := (rfl)
theorem fzK_own (i : Nat) (o : Ob) (e : En) : fzK i (some (some (.own false o))) e = .ok o.d (e.set i (some (.val o.d))) := (rfl)
theorem fzK_lent (i : Nat) (o : Ob) (e : En) : fzK i (some (some (.own true o))) e = .ok o.d (e.set i (some (.kept o.d))) := (rfl)
theorem fz_v (d : D) (e : En) : fz (.v d) e = .ok d e := (rfl)
theorem fz_fr (d : D) (e : En) : fz (.fr d) e = .ok d e := (rfl)
theorem fz_sl (i : Nat) (e : En) : fz (.sl i) e = fzK i (e[i]?) e := by
  unfold fz fzK frz
  try dsimp only
  all_goals (generalize e[i]? = o; rcases o with _ | _ | d | ⟨b, o⟩ | d | _ <;> try rfl)
  all_goals (cases b <;> rfl)
def putK (i : Nat) (a : SV) (o : Option (Option SV)) (e : En) : R Unit := match o with
  | some none => .ok () (e.set i (some a))
  | some (some (.val _)) => .ok () (e.set i (some a))
  | some (some (.own false _)) => .ok () (e.set i (some a))
  | _ => .no
theorem putK_none (i : Nat) (a : SV) (e : En) : putK i a (some none) e = .ok () (e.set i (some a)) := (rfl)
theorem putK_val (i : Nat) (a : SV) (d : D) (e : En) : putK i a (some (some (.val d))) e = .ok () (e.set i (some a)) := (rfl)
theorem putK_own (i : Nat) (a : SV) (o : Ob) (e : En) : putK i a (some (some (.own false o))) e = .ok () (e.set i (some a)) := (rfl)
def bdR (o : Option En) : R Unit := match o with
  | some e => .ok () e
  | none => .no
theorem bdR_some (e : En) : bdR (some e) = .ok () e := (rfl)
theorem bdR_put (i : Nat) (a : SV) (e : En) : bdR (putS i a e) = putK i a (e[i]?) e := by
  unfold putS putK
  try dsimp only
  all_goals (generalize e[i]? = o; rcases o with _ | _ | d | ⟨b, o⟩ | d | _ <;> try rfl)
  all_goals (cases b <;> rfl)

/-! expressions -/
section
variable {G : List D} {cl : Cl} {e : En}
theorem ev_k (d : D) : ev G cl (.k d) e = .ok (.v d) e := by simp only [ev]; rfl
theorem ev_g (j : Nat) : ev G cl (.g j) e = liR ((G[j]?).map .v) e := by simp only [ev]; rfl
def vK (i : Nat) (o : Option (Option SV)) (e : En) : R EV := match o with
  | some (some (.val d)) => .ok (.v d) e
  | some (some (.kept d)) => .ok (.v d) e
  | some (some (.own _ _)) => .ok (.sl i) e
  | _ => .no
theorem vK_val (i : Nat) (d : D) (e : En) : vK i (some (some (.val d))) e = .ok (.v d) e := (rfl)
theorem vK_kept (i : Nat) (d : D) (e : En) : vK i (some (some (.kept d))) e = .ok (.v d) e := (rfl)
theorem vK_own (i : Nat) (b : Bool) (o : Ob) (e : En) : vK i (some (some (.own b o))) e = .ok (.sl i) e := (rfl)
theorem ev_v (i : Nat) : ev G cl (.v i) e = vK i (e[i]?) e := by
  rw [ev]; unfold vK
  try dsimp only
  all_goals (generalize e[i]? = o; rcases o with _ | _ | d | ⟨b, o⟩ | d | _ <;> try rfl)
  all_goals (cases b <;> rfl)
theorem ev_bin (o : Bop) (a b : E) : ev G cl (.bin o a b) e = (ev G cl a e).bd fun x e => (ev G cl b e).bd fun y e => (rd x e).bd fun d e => (rd y e).bd fun d' e => liR (bop o d d') e := by
  simp only [ev, bind_fn, lift_fn]
def negD : D → Option EV
  | .int i => some (.v (.int (-i)))
  | _ => none
theorem negD_int (i : Int) : negD (.int i) = some (.v (.int (-i))) := (rfl)
theorem ev_neg (a : E) : ev G cl (.neg a) e = (ev G cl a e).bd fun x e => (rd x e).bd fun d e => liR (negD d) e := by
  simp only [ev, bind_fn]
  refine R.bd_ext fun x e => ?_; refine R.bd_ext fun d e => ?_
  cases d <;> rfl
def invD : D → Option EV
  | .int i => some (.v (.int (Builtin.bitNot i)))
  | _ => none
theorem invD_int (i : Int) : invD (.int i) = some (.v (.int (Builtin.bitNot i))) := (rfl)
theorem ev_inv (a : E) : ev G cl (.inv a) e = (ev G cl a e).bd fun x e => (rd x e).bd fun d e => liR (invD d) e := by
  simp only [ev, bind_fn]
  refine R.bd_ext fun x e => ?_; refine R.bd_ext fun d e => ?_
  cases d <;> rfl
theorem ev_cmp (o : Cop) (a b : E) : ev G cl (.cmp o a b) e = (ev G cl a e).bd fun x e => (ev G cl b e).bd fun y e => (rd x e).bd fun d e => (rd y e).bd fun d' e => liR ((cop o d d').map fun b => .v (.bool b)) e := by
  simp only [ev, bind_fn, lift_fn]
theorem ev_chain (o p : Cop) (a b c : E) : ev G cl (.chain o p a b c) e = (ev G cl a e).bd fun x e => (ev G cl b e).bd fun y e => (rd x e).bd fun d e => (rd y e).bd fun d' e => (liR (cop o d d') e).bd fun t e =>
      if t = true then (ev G cl c e).bd fun z e => (rd y e).bd fun d' e => (rd z e).bd fun d'' e => liR ((cop p d' d'').map fun b => .v (.bool b)) e else .ok (.v (.bool false)) e := by
  simp only [ev, bind_fn, lift_fn]
  refine R.bd_ext fun x e => ?_; refine R.bd_ext fun y e => ?_; refine R.bd_ext fun d e => ?_; refine R.bd_ext fun d' e => ?_; refine R.bd_ext fun t e => ?_
  cases t <;> rfl
theorem ev_nt (a : E) : ev G cl (.nt a) e = (ev G cl a e).bd fun x e => (rd x e).bd fun d e => (liR (truth d) e).bd fun t e => .ok (.v (.bool (!t))) e := by
  simp only [ev, bind_fn, lift_fn, pure_fn]
theorem ev_an (es : Es) : ev G cl (.an es) e = evAn G cl es e := by simp only [ev]
theorem ev_or (es : Es) : ev G cl (.orr es) e = evOr G cl es e := by simp only [ev]
theorem z_ev_ife (c a b : E) : ev G cl (.ife c a b) e = (ev G cl c e).bd fun x e => (rd x e).bd fun d e => (liR (truth d) e).bd fun t e => if t = true then ev G cl a e else ev G cl b e := by
  simp only [ev, bind_fn, lift_fn]
  refine R.bd_ext fun x e => ?_; refine R.bd_ext fun d e => ?_; refine R.bd_ext fun t e => ?_
  cases t <;> rfl
theorem ev_tup (es : Es) : ev G cl (.tup es) e = (evs G cl es e).bd fun xs e => (fzAll xs e).bd fun ds e => .ok (.v (.tuple ds)) e := by
  simp only [ev, bind_fn, pure_fn]
theorem ev_lst (es : Es) : ev G cl (.lst es) e = (evs G cl es e).bd fun xs e => (fzAll xs e).bd fun ds e => .ok (.fr (.list ds)) e := by
  simp only [ev, bind_fn, pure_fn]
theorem ev_idx (a i : E) : ev G cl (.idx a i) e = (ev G cl a e).bd fun x e => (ev G cl i e).bd fun y e => (rd x e).bd fun d e => (rd y e).bd fun d' e => liR ((idxD d d').map .v) e := by
  simp only [ev, bind_fn, lift_fn]
theorem ev_cut (a : E) (lo hi : Eo) : ev G cl (.cut a lo hi) e = (ev G cl a e).bd fun x e => (evO G cl lo e).bd fun l e => (evO G cl hi e).bd fun h e => (rd x e).bd fun d e => liR (cutD l h d) e := by
  simp only [ev, bind_fn, lift_fn]
theorem ev_call (f : Nat) (as : Es) : ev G cl (.call f as) e = (evs G cl as e).bd fun xs e => callM cl f xs e := by
  simp only [ev, bind_fn]
theorem ev_p1 (p : P1) (a : E) : ev G cl (.p1 p a) e = (ev G cl a e).bd fun x e => (rd x e).bd fun d e => liR (Zv.p1 p d) e := by
  simp only [ev, bind_fn, lift_fn]
theorem ev_rev (a : E) : ev G cl (.rev a) e = (ev G cl a e).bd fun x e => (rd x e).bd fun d e => liR (revD d) e := by
  simp only [ev, bind_fn, lift_fn]
theorem ev_isi (t : Ty) (a : E) : ev G cl (.isi t a) e = (ev G cl a e).bd fun x e => (rd x e).bd fun d e => .ok (.v (.bool (isTy t d))) e := by
  simp only [ev, bind_fn, pure_fn]
def pitK (p : P1) (s : Src) (e : En) : R EV := if s.items.length ≤ line then liR (Zv.p1 p (.list s.items)) e else .no
theorem pitK_at (p : P1) (xs : List D) (rs : List EV) (ok : En → Bool) (e : En) : pitK p ⟨xs, rs, ok⟩ e = if xs.length ≤ line then liR (Zv.p1 p (.list xs)) e else .no := (rfl)
theorem ev_pit (p : P1) (it : It) : ev G cl (.pit p it) e = (evIt G cl it e).bd fun s e => pitK p s e := by
  simp only [ev, bind_fn]
  refine R.bd_ext fun s e => ?_
  unfold pitK
  split <;> rfl
def strO : D → Option Unit
  | .str _ => some ()
  | _ => none
theorem strO_str (x : Str) : strO (.str x) = some () := (rfl)
theorem ev_splt (a b : E) : ev G cl (.splt a b) e = (ev G cl a e).bd fun x e => (rd x e).bd fun d e => (liR (strO d) e).bd fun _ e => (ev G cl b e).bd fun y e => (rd y e).bd fun d' e => liR (splD d d') e := by
  simp only [ev, bind_fn]
  refine R.bd_ext fun x e => ?_; refine R.bd_ext fun d e => ?_
  cases d <;> rfl
theorem evO_none : evO G cl .none e = .ok none e := by simp only [evO]; rfl
def intD : D → Option Int
  | .int i => some i
  | _ => none
theorem intD_int (i : Int) : intD (.int i) = some i := (rfl)
theorem evO_some (a : E) : evO G cl (.some a) e = (ev G cl a e).bd fun x e => (rd x e).bd fun d e => (liR (intD d) e).bd fun i e => .ok (some i) e := by
  simp only [evO, bind_fn]
  refine R.bd_ext fun x e => ?_; refine R.bd_ext fun d e => ?_
  cases d <;> rfl
theorem evs_nil : evs G cl .nil e = .ok [] e := by simp only [evs]; rfl
theorem evs_cons (a : E) (r : Es) : evs G cl (.cons a r) e = (ev G cl a e).bd fun x e => (evs G cl r e).bd fun xs e => .ok (x :: xs) e := by
  simp only [evs, bind_fn, pure_fn]
theorem z_evAn_one (a : E) : evAn G cl (.cons a .nil) e = ev G cl a e := by
  simp only [evAn, z_bind_at, Es.none, if_true, pure_at]
  cases ev G cl a e <;> rfl
theorem evAn_cons (a b : E) (r : Es) : evAn G cl (.cons a (.cons b r)) e = (ev G cl a e).bd fun x e => (rd x e).bd fun d e => (liR (truth d) e).bd fun t e => if t = true then evAn G cl (.cons b r) e else .ok x e := by
  rw [evAn]
  simp only [z_bind_at, Es.none]
  refine R.bd_ext fun x e => ?_
  show M.bind _ _ e = _
  rw [z_bind_at]
  refine R.bd_ext fun d e => ?_
  rw [z_bind_at]
  show (liR _ e).bd _ = _
  refine R.bd_ext fun t e => ?_
  cases t <;> rfl
theorem z_evOr_one (a : E) : evOr G cl (.cons a .nil) e = ev G cl a e := by
  simp only [evOr, z_bind_at, Es.none, if_true, pure_at]
  cases ev G cl a e <;> rfl
theorem evOr_cons (a b : E) (r : Es) : evOr G cl (.cons a (.cons b r)) e = (ev G cl a e).bd fun x e => (rd x e).bd fun d e => (liR (truth d) e).bd fun t e => if t = true then .ok x e else evOr G cl (.cons b r) e := by
  rw [evOr]
  simp only [z_bind_at, Es.none]
  refine R.bd_ext fun x e => ?_
  show M.bind _ _ e = _
  rw [z_bind_at]
  refine R.bd_ext fun d e => ?_
  rw [z_bind_at]
  show (liR _ e).bd _ = _
  refine R.bd_ext fun t e => ?_
  cases t <;> rfl
theorem evIf_nil : evIf G cl .nil e = .ok true e := by simp only [evIf]; rfl
theorem evIf_cons (a : E) (r : Es) : evIf G cl (.cons a r) e = (ev G cl a e).bd fun x e => (rd x e).bd fun d e => (liR (truth d) e).bd fun t e => if t = true then evIf G cl r e else .ok false e := by
  simp only [evIf, bind_fn, lift_fn]
  refine R.bd_ext fun x e => ?_; refine R.bd_ext fun d e => ?_; refine R.bd_ext fun t e => ?_
  cases t <;> rfl
theorem fzAll_nil : fzAll [] e = .ok [] e := (rfl)
theorem fzAll_cons (x : EV) (r : List EV) : fzAll (x :: r) e = (fz x e).bd fun d e => (fzAll r e).bd fun ds e => .ok (d :: ds) e := by
  simp only [fzAll, bind_fn, pure_fn]
theorem frzAll_nil : frzAll [] e = .ok [] e := (rfl)
theorem frzAll_fr (d : D) (r : List EV) : frzAll (.fr d :: r) e = (frzAll r e).bd fun ds e => .ok (.fr d :: ds) e := by
  simp only [frzAll, bind_fn, pure_fn]
theorem frzAll_v (d : D) (r : List EV) : frzAll (.v d :: r) e = (frzAll r e).bd fun ds e => .ok (.v d :: ds) e := by
  simp only [frzAll, bind_fn, pure_fn, fz_v, R.bd_ok]
theorem frzAll_sl (i : Nat) (r : List EV) : frzAll (.sl i :: r) e = (fz (.sl i) e).bd fun d e => (frzAll r e).bd fun ds e => .ok (.v d :: ds) e := by
  simp only [frzAll, bind_fn, pure_fn]
/-! calls -/
def argK : Option (Option SV) → Option SV
  | some (some (.val d)) => some (.val d)
  | some (some (.kept d)) => some (.val d)
  | some (some (.own _ o)) => some (.own true o)
  | _ => none
theorem argK_val (d : D) : argK (some (some (.val d))) = some (.val d) := (rfl)
theorem argK_kept (d : D) : argK (some (some (.kept d))) = some (.val d) := (rfl)
theorem argK_own (b : Bool) (o : Ob) : argK (some (some (.own b o))) = some (.own true o) := (rfl)
theorem argOf_v (d : D) : argOf e (.v d) = some (.val d) := (rfl)
theorem argOf_fr (d : D) : argOf e (.fr d) = some (.val d) := (rfl)
theorem argOf_sl (i : Nat) : argOf e (.sl i) = argK (e[i]?) := by
  unfold argOf argK
  try dsimp only
  all_goals (generalize e[i]? = o; rcases o with _ | _ | d | ⟨b, o⟩ | d | _ <;> try rfl)
  all_goals (cases b <;> rfl)
theorem argsOf_nil : argsOf e [] = some [] := (rfl)
def consO {α : Type} (a : Option α) (r : Option (List α)) : Option (List α) := match a, r with
  | some a, some r => some (a :: r)
  | _, _ => none
theorem consO_some {α : Type} (a : α) (r : List α) : consO (some a) (some r) = some (a :: r) := (rfl)
theorem argsOf_cons (x : EV) (r : List EV) : argsOf e (x :: r) = consO (argOf e x) (argsOf e r) := by
  simp only [argsOf, consO]
  cases argOf e x <;> cases argsOf e r <;> rfl
def callK (r : Cres) (xs : List EV) (e : En) : R EV := match r with
  | .ok d fr outs => .ok (if fr = true then .fr d else .v d) (backOf e xs outs)
  | .ex x => .ex x (loseOf e xs)
  | .no => .no
theorem callK_ok (d : D) (fr : Bool) (outs : En) (xs : List EV) (e : En) : callK (.ok d fr outs) xs e = .ok (if fr = true then .fr d else .v d) (backOf e xs outs) := (rfl)
theorem callK_ex (x : Xn) (xs : List EV) (e : En) : callK (.ex x) xs e = .ex x (loseOf e xs) := (rfl)
def callA (cl : Cl) (f : Nat) (as : Option (List SV)) (xs : List EV) (e : En) : R EV := match as with
  | none => .no
  | some as => callK (cl f as) xs e
theorem callA_some (cl : Cl) (f : Nat) (as : List SV) (xs : List EV) (e : En) : callA cl f (some as) xs e = callK (cl f as) xs e := (rfl)
theorem callM_at (f : Nat) (xs : List EV) (e : En) : callM cl f xs e = if onceN (slotsOf xs) = true then callA cl f (argsOf e xs) xs e else .no := by
  unfold callM callA callK
  split
  · cases argsOf e xs with
    | none => rfl
    | some as =>
      cases cl f as with
      | ok d fr outs => cases fr <;> rfl
      | _ => rfl
  · rfl
theorem callK_ite {c : Prop} [Decidable c] (x y : Cres) (xs : List EV) (e : En) : callK (if c then x else y) xs e = if c then callK x xs e else callK y xs e := by split <;> rfl
def backK (i : Nat) (o : Option (Option SV)) (x : Option SV) (e : En) : En := match o with
  | some (some (.own b _)) => e.set i (some (backSlot b x))
  | _ => e
theorem backK_own (i : Nat) (b : Bool) (o : Ob) (x : Option SV) (e : En) : backK i (some (some (.own b o))) x e = e.set i (some (backSlot b x)) := (rfl)
theorem backOf_nil (os : En) : backOf e [] os = e := by cases os <;> rfl
theorem backOf_v (d : D) (r : List EV) (o : Option SV) (os : En) : backOf e (.v d :: r) (o :: os) = backOf e r os := (rfl)
theorem backOf_fr (d : D) (r : List EV) (o : Option SV) (os : En) : backOf e (.fr d :: r) (o :: os) = backOf e r os := (rfl)
theorem backOf_sl (i : Nat) (r : List EV) (o : Option SV) (os : En) : backOf e (.sl i :: r) (o :: os) = backK i (e[i]?) o (backOf e r os) := by
  rw [backOf]; unfold backK
  try dsimp only
  all_goals (generalize e[i]? = o; rcases o with _ | _ | d | ⟨b, o⟩ | d | _ <;> try rfl)
  all_goals (cases b <;> rfl)
theorem backSlot_own (b c : Bool) (o : Ob) : backSlot b (some (.own c o)) = .own b o := (rfl)
theorem backSlot_kept (d : D) : backSlot true (some (.kept d)) = .kept d := (rfl)
theorem backSlot_kept' (d : D) : backSlot false (some (.kept d)) = .val d := (rfl)
def loseK (i : Nat) (o : Option (Option SV)) (e : En) : En := match o with
  | some (some (.own _ _)) => e.set i (some .dead)
  | _ => e
theorem loseK_own (i : Nat) (b : Bool) (o : Ob) (e : En) : loseK i (some (some (.own b o))) e = e.set i (some .dead) := (rfl)
theorem loseOf_nil : loseOf e [] = e := (rfl)
theorem loseOf_v (d : D) (r : List EV) : loseOf e (.v d :: r) = loseOf e r := (rfl)
theorem loseOf_fr (d : D) (r : List EV) : loseOf e (.fr d :: r) = loseOf e r := (rfl)
theorem loseOf_sl (i : Nat) (r : List EV) : loseOf e (.sl i :: r) = loseK i (e[i]?) (loseOf e r) := by
  rw [loseOf]; unfold loseK
  try dsimp only
  all_goals (generalize e[i]? = o; rcases o with _ | _ | d | ⟨b, o⟩ | d | _ <;> try rfl)
  all_goals (cases b <;> rfl)
theorem slotsOf_nil : slotsOf [] = [] := (rfl)
theorem slotsOf_v (d : D) (r : List EV) : slotsOf (.v d :: r) = slotsOf r := (rfl)
theorem slotsOf_fr (d : D) (r : List EV) : slotsOf (.fr d :: r) = slotsOf r := (rfl)
theorem slotsOf_sl (i : Nat) (r : List EV) : slotsOf (.sl i :: r) = i :: slotsOf r := (rfl)
theorem onceN_nil : onceN [] = true := (rfl)
theorem onceN_one (i : Nat) : onceN [i] = true := (rfl)

/-! targets -/
theorem asgT_nm (i : Nat) (r : EV) : asgT (.nm i) r e = (fz r e).bd fun d e => putK i (.val d) (e[i]?) e := by
  simp only [asgT, z_bind_at]
  refine R.bd_ext fun d e => ?_
  rw [← bdR_put]
  unfold bdR
  split <;> simp_all
theorem asgT_ow (i : Nat) (xs : List D) : asgT (.ow i) (.fr (.list xs)) e = putK i (.own false (.lst xs)) (e[i]?) e := by
  simp only [asgT]
  rw [← bdR_put]
  unfold bdR
  split <;> simp_all
theorem asgT_owd (i : Nat) (xs : List (D × D)) : asgT (.ow i) (.fr (.dict xs)) e = putK i (.own false (.dct xs)) (e[i]?) e := by
  simp only [asgT]
  rw [← bdR_put]
  unfold bdR
  split <;> simp_all
theorem asgT_tup (ts : Tgs) (r : EV) : asgT (.tup ts) r e = (fz r e).bd fun d e => bdR (bindT (.tup ts) d e) := by
  simp only [asgT, z_bind_at]
  refine R.bd_ext fun d e => ?_
  unfold bdR
  generalize bindT (.tup ts) d e = x
  cases x <;> rfl
def thenO (o : Option En) (f : En → Option En) [Bx f] : Option En := o.bind f
theorem thenO_some (e : En) (f : En → Option En) {u : Bx f} : @thenO (some e) f u = f e := (rfl)
def putO (i : Nat) (a : SV) (o : Option (Option SV)) (e : En) : Option En := match o with
  | some none => some (e.set i (some a))
  | some (some (.val _)) => some (e.set i (some a))
  | some (some (.own false _)) => some (e.set i (some a))
  | _ => none
theorem putO_none (i : Nat) (a : SV) (e : En) : putO i a (some none) e = some (e.set i (some a)) := (rfl)
theorem putO_val (i : Nat) (a : SV) (d : D) (e : En) : putO i a (some (some (.val d))) e = some (e.set i (some a)) := (rfl)
theorem putO_own (i : Nat) (a : SV) (o : Ob) (e : En) : putO i a (some (some (.own false o))) e = some (e.set i (some a)) := (rfl)
theorem putS_at (i : Nat) (a : SV) : putS i a e = putO i a (e[i]?) e := by
  unfold putS putO
  try dsimp only
  all_goals (generalize e[i]? = o; rcases o with _ | _ | d | ⟨b, o⟩ | d | _ <;> try rfl)
  all_goals (cases b <;> rfl)
theorem bindT_nm (i : Nat) (d : D) : bindT (.nm i) d e = putO i (.val d) (e[i]?) e := by
  rw [bindT]; exact putS_at i _
theorem bindT_tup (ts : Tgs) (ds : List D) : bindT (.tup ts) (.tuple ds) e = bindTs ts ds e := by simp only [bindT]
theorem bindT_lst (ts : Tgs) (ds : List D) : bindT (.tup ts) (.list ds) e = bindTs ts ds e := by simp only [bindT]
theorem bindTs_nil : bindTs .nil [] e = some e := by simp only [bindTs]
theorem bindTs_cons (t : Tg) (r : Tgs) (d : D) (ds : List D) : bindTs (.cons t r) (d :: ds) e = thenO (bindT t d e) fun e => bindTs r ds e := by
  simp only [bindTs, thenO]
theorem asgTs_nil : asgTs .nil [] e = .ok () e := (rfl)
theorem asgTs_cons (t : Tg) (r : Tgs) (x : EV) (xs : List EV) : asgTs (.cons t r) (x :: xs) e = (asgT t x e).bd fun _ e => asgTs r xs e := by
  simp only [asgTs, bind_fn]

/-! what is walked -/
theorem evIt_sq (a : E) : evIt G cl (.sq a) e = (ev G cl a e).bd fun x e => (rd x e).bd fun d e => (liR (itemsOf d) e).bd fun xs e => .ok ⟨xs, [x], stands x d⟩ e := by
  simp only [evIt, bind_fn, lift_fn, pure_fn]
def rgR0 (d : D) (e : En) : R Src := match d with
  | .int n => if inR n = true then .ok ⟨rangeD 0 n.toNat, [], fun _ => true⟩ e else .no
  | _ => .no
/-- a range; it stays as it is -/
noncomputable def rgR : D → En → R Src := Classical.choose (⟨rgR0, rfl⟩ : ∃ f, f = rgR0)
theorem rgR_eq : rgR = rgR0 := Classical.choose_spec (⟨rgR0, rfl⟩ : ∃ f, f = rgR0)
theorem rgR_int (n : Int) (e : En) (h : inR n = true) : rgR (.int n) e = .ok ⟨rangeD 0 n.toNat, [], fun _ => true⟩ e := by
  rw [rgR_eq]; simp only [rgR0]; rw [if_pos h]
theorem evIt_rg (a : E) : evIt G cl (.rg a) e = (ev G cl a e).bd fun x e => (rd x e).bd fun d e => rgR d e := by
  rw [rgR_eq]
  simp only [evIt, bind_fn]
  refine R.bd_ext fun x e => ?_; refine R.bd_ext fun d e => ?_
  unfold rgR0
  cases d with
  | int n => dsimp only; by_cases h : inR n = true <;> simp only [h, if_true, if_false] <;> rfl
  | _ => rfl
def rg2R0 (d d' : D) (e : En) : R Src := match d, d' with
  | .int m, .int n => if (inR m && inR n) = true then .ok ⟨rangeD m (n - m).toNat, [], fun _ => true⟩ e else .no
  | _, _ => .no
noncomputable def rg2R : D → D → En → R Src := Classical.choose (⟨rg2R0, rfl⟩ : ∃ f, f = rg2R0)
theorem rg2R_eq : rg2R = rg2R0 := Classical.choose_spec (⟨rg2R0, rfl⟩ : ∃ f, f = rg2R0)
theorem rg2R_int (m n : Int) (e : En) (h : (inR m && inR n) = true) : rg2R (.int m) (.int n) e = .ok ⟨rangeD m (n - m).toNat, [], fun _ => true⟩ e := by
  rw [rg2R_eq]; simp only [rg2R0]; rw [if_pos h]
theorem evIt_rg2 (a b : E) : evIt G cl (.rg2 a b) e = (ev G cl a e).bd fun x e => (ev G cl b e).bd fun y e => (rd x e).bd fun d e => (rd y e).bd fun d' e => rg2R d d' e := by
  rw [rg2R_eq]
  simp only [evIt, bind_fn]
  refine R.bd_ext fun x e => ?_; refine R.bd_ext fun y e => ?_; refine R.bd_ext fun d e => ?_; refine R.bd_ext fun d' e => ?_
  unfold rg2R0
  cases d with
  | int m => cases d' with
    | int n => dsimp only; by_cases h : (inR m && inR n) = true <;> simp only [h, if_true, if_false] <;> rfl
    | _ => rfl
  | _ => rfl
theorem evIt_zip (a b : E) : evIt G cl (.zip a b) e = (ev G cl a e).bd fun x e => (ev G cl b e).bd fun y e => (rd x e).bd fun d e => (rd y e).bd fun d' e => (liR (zipsOf d d') e).bd fun xs e => .ok ⟨xs, [x, y], fun e => stands x d e && stands y d' e⟩ e := by
  simp only [evIt, bind_fn, lift_fn, pure_fn]
theorem evIt_enm (a : E) : evIt G cl (.enm a) e = (ev G cl a e).bd fun x e => (rd x e).bd fun d e => (liR (enumOf d) e).bd fun xs e => .ok ⟨xs, [x], stands x d⟩ e := by
  simp only [evIt, bind_fn, lift_fn, pure_fn]

/-! statements -/
theorem evSs_nil : evSs G cl .nil e = .nx e := by simp only [evSs]
theorem evSs_cons (s : S) (r : Ss) : evSs G cl (.cons s r) e = SR.tn (evS G cl s e) (evSs G cl r) := by simp only [evSs]; rfl
theorem evS_doc : evS G cl .doc e = .nx e := by simp only [evS]
theorem evS_asg (t : Tg) (a : E) : evS G cl (.asg t a) e = SR.ob (ev G cl a e) fun x e => SR.ob (asgT t x e) fun _ e => .nx e := by
  simp only [evS, z_bind_at]
  cases h : ev G cl a e with
  | ok a e => show SR.ob (asgT t a e) _ = _; rfl
  | _ => rfl
theorem evS_par (ts : Tgs) (es : Es) : evS G cl (.par ts es) e = SR.ob (evs G cl es e) fun xs e => SR.ob (frzAll xs e) fun xs e => SR.ob (asgTs ts xs e) fun _ e => .nx e := by
  simp only [evS, z_bind_at]
  cases h : evs G cl es e with
  | ok xs e =>
    show SR.ob (M.bind (frzAll xs) (asgTs ts) e) _ = SR.ob (frzAll xs e) _
    rw [z_bind_at]
    cases frzAll xs e <;> rfl
  | _ => rfl
def setK (i : Nat) (d d' : D) (o : Option (Option SV)) (e : En) : SR := match o with
  | some (some (.own b o)) => match setOb o d' d with
    | some o' => .nx (e.set i (some (.own b o')))
    | none => .no
  | _ => .no
theorem setK_own (i : Nat) (d d' : D) (b : Bool) (o o' : Ob) (e : En) (h : setOb o d' d = some o') : setK i d d' (some (some (.own b o))) e = .nx (e.set i (some (.own b o'))) := by
  simp only [setK, h]
theorem evS_setI (i : Nat) (ix a : E) : evS G cl (.setI i ix a) e = if isOwn e i = true then SR.ob (ev G cl a e) fun r e => SR.ob (ev G cl ix e) fun y e => SR.ob (fz r e) fun d e => SR.ob (rd y e) fun d' e => setK i d d' (e[i]?) e else .no := by
  rw [evS]
  dsimp only
  split
  · rw [z_bind_at]
    cases ev G cl a e with
    | ok r e =>
      simp only [R.bd_ok, SR.ob_ok, z_bind_at]
      cases ev G cl ix e with
      | ok y e =>
        simp only [R.bd_ok, SR.ob_ok, z_bind_at]
        cases fz r e with
        | ok d e =>
          simp only [R.bd_ok, SR.ob_ok, z_bind_at]
          cases rd y e with
          | ok d' e =>
            simp only [R.bd_ok, SR.ob_ok]
            unfold setK
            cases e[i]? with
            | none => rfl
            | some x => cases x with
              | none => rfl
              | some s => cases s with
                | own b o =>
                  cases h : setOb o d' d with
                  | none => simp only [h]; rfl
                  | some o' => simp only [h]; rfl
                | _ => rfl
          | _ => rfl
        | _ => rfl
      | _ => rfl
    | _ => rfl
  · rfl
def isOwnK : Option (Option SV) → Bool
  | some (some (.own _ _)) => true
  | _ => false
theorem isOwnK_own (b : Bool) (o : Ob) : isOwnK (some (some (.own b o))) = true := (rfl)
theorem isOwn_lt (i : Nat) : isOwn e i = isOwnK (e[i]?) := by
  unfold isOwn isOwnK
  try dsimp only
  all_goals (generalize e[i]? = o; rcases o with _ | _ | d | ⟨b, o⟩ | d | _ <;> try rfl)
  all_goals (cases b <;> rfl)
def appK (i : Nat) (d : D) (o : Option (Option SV)) (e : En) : SR := match o with
  | some (some (.own b (.lst xs))) => if xs.length < line then .nx (e.set i (some (.own b (.lst (xs ++ [d]))))) else .no
  | _ => .no
theorem appK_own (i : Nat) (d : D) (b : Bool) (xs : List D) (e : En) : appK i d (some (some (.own b (.lst xs)))) e = if xs.length < line then .nx (e.set i (some (.own b (.lst (xs ++ [d]))))) else .no := (rfl)
theorem evS_app (i : Nat) (a : E) : evS G cl (.app i a) e = if isOwn e i = true then SR.ob (ev G cl a e) fun r e => SR.ob (fz r e) fun d e => appK i d (e[i]?) e else .no := by
  rw [evS]
  dsimp only
  split
  · rw [z_bind_at]
    cases ev G cl a e with
    | ok r e =>
      simp only [R.bd_ok, SR.ob_ok, z_bind_at]
      cases fz r e with
      | ok d e =>
        simp only [R.bd_ok, SR.ob_ok, z_bind_at]
        unfold appK
        cases e[i]? with
        | none => rfl
        | some x => cases x with
          | none => rfl
          | some s => cases s with
            | own b o =>
              cases o with
              | lst xs => dsimp only; by_cases h : xs.length < line <;> simp only [h, if_true, if_false] <;> rfl
              | dct => rfl
            | _ => rfl
      | _ => rfl
    | _ => rfl
  · rfl
def extK (i : Nat) (d : D) (o : Option (Option SV)) (e : En) : SR := match o, d with
  | some (some (.own b (.lst xs))), .list ys => if xs.length + ys.length ≤ line then .nx (e.set i (some (.own b (.lst (xs ++ ys))))) else .no
  | _, _ => .no
theorem extK_own (i : Nat) (ys : List D) (b : Bool) (xs : List D) (e : En) : extK i (.list ys) (some (some (.own b (.lst xs)))) e = if xs.length + ys.length ≤ line then .nx (e.set i (some (.own b (.lst (xs ++ ys))))) else .no := (rfl)
theorem evS_ext (i : Nat) (a : E) : evS G cl (.ext i a) e = if isOwn e i = true then SR.ob (ev G cl a e) fun r e => SR.ob (rd r e) fun d e => extK i d (e[i]?) e else .no := by
  rw [evS]
  dsimp only
  split
  · rw [z_bind_at]
    cases ev G cl a e with
    | ok r e =>
      simp only [R.bd_ok, SR.ob_ok, z_bind_at]
      cases rd r e with
      | ok d e =>
        simp only [R.bd_ok, SR.ob_ok, z_bind_at]
        unfold extK
        cases e[i]? with
        | none => rfl
        | some x => cases x with
          | none => rfl
          | some s => cases s with
            | own b o =>
              cases o with
              | lst xs =>
                cases d with
                | list ys => dsimp only; by_cases h : xs.length + ys.length ≤ line <;> simp only [h, if_true, if_false] <;> rfl
                | _ => rfl
              | dct => cases d <;> rfl
            | _ => cases d <;> rfl
      | _ => rfl
    | _ => rfl
  · rfl
def augK (o : Bop) (m : Int) : D → Option Int
  | .int n => intBop o m n
  | _ => none
theorem augK_int (o : Bop) (m n : Int) : augK o m (.int n) = intBop o m n := (rfl)
def augR (G : List D) (cl : Cl) (i : Nat) (o : Bop) (a : E) (x : Option (Option SV)) (e : En) : SR := match x with
  | some (some (.val (.int m))) => SR.ob (ev G cl a e) fun r e => SR.ob (rd r e) fun d e => SR.ob (liR (augK o m d) e) fun k e => SR.ob (putK i (.val (.int k)) (e[i]?) e) fun _ e => .nx e
  | _ => .no
theorem augR_int (i : Nat) (o : Bop) (a : E) (m : Int) : augR G cl i o a (some (some (.val (.int m)))) e = SR.ob (ev G cl a e) fun r e => SR.ob (rd r e) fun d e => SR.ob (liR (augK o m d) e) fun k e => SR.ob (putK i (.val (.int k)) (e[i]?) e) fun _ e => .nx e := (rfl)
theorem evS_aug (i : Nat) (o : Bop) (a : E) : evS G cl (.aug i o a) e = augR G cl i o a (e[i]?) e := by
  rw [evS]
  unfold augR
  dsimp only
  generalize e[i]? = x
  rcases x with _ | _ | d | ⟨b, ob⟩ | d | _ <;> try rfl
  cases d with
  | int m =>
    dsimp only
    rw [z_bind_at]
    cases ev G cl a e with
    | ok r e =>
      simp only [R.bd_ok, SR.ob_ok, z_bind_at]
      cases rd r e with
      | ok d e =>
        simp only [R.bd_ok, SR.ob_ok]
        cases d with
        | int n =>
          simp only [z_bind_at, augK, z_lift_at]
          cases intBop o m n with
          | some k => simp only [liR_some, R.bd_ok, SR.ob_ok, asgT_nm, fz_v]; rfl
          | none => rfl
        | _ => rfl
      | _ => rfl
    | _ => rfl
  | _ => rfl
theorem evS_ex (a : E) : evS G cl (.ex a) e = SR.ob (ev G cl a e) fun _ e => .nx e := by simp only [evS]; rfl
theorem evS_if (c : E) (a b : Ss) : evS G cl (.iff c a b) e = SR.ob (ev G cl c e) fun r e => SR.ob (rd r e) fun d e => SR.ob (liR (truth d) e) fun t e => if t = true then evSs G cl a e else evSs G cl b e := by
  rw [evS]
  simp only [testOf, z_bind_at]
  cases ev G cl c e with
  | ok r e =>
    simp only [R.bd_ok, SR.ob_ok, z_bind_at]
    cases rd r e with
    | ok d e =>
      simp only [R.bd_ok, SR.ob_ok, z_lift_at]; rfl
    | _ => rfl
  | _ => rfl
theorem evS_retN : evS G cl .retN e = .rt .none false e := by simp only [evS]
theorem evS_brk : evS G cl .brk e = .bk e := by simp only [evS]
theorem evS_cnt : evS G cl .cnt e = .ct e := by simp only [evS]
theorem evS_pass : evS G cl .pass e = .nx e := by simp only [evS]
theorem evS_raiseN (c : Nat) : evS G cl (.raise c none) e = .ex ⟨c, .none⟩ e := by simp only [evS]
def retK (i : Nat) (o : Option (Option SV)) (e : En) : SR := match o with
  | some (some (.val d)) => .rt d false e
  | some (some (.kept d)) => .rt d false e
  | some (some (.own false o)) => .rt o.d true (e.set i none)
  | some (some (.own true o)) => .rt o.d false (e.set i (some (.kept o.d)))
  | _ => .no
theorem retK_val (i : Nat) (d : D) (e : En) : retK i (some (some (.val d))) e = .rt d false e := (rfl)
theorem retK_kept (i : Nat) (d : D) (e : En) : retK i (some (some (.kept d))) e = .rt d false e := (rfl)
theorem retK_own (i : Nat) (o : Ob) (e : En) : retK i (some (some (.own false o))) e = .rt o.d true (e.set i none) := (rfl)
theorem retK_lent (i : Nat) (o : Ob) (e : En) : retK i (some (some (.own true o))) e = .rt o.d false (e.set i (some (.kept o.d))) := (rfl)
theorem retOf_v (d : D) : retOf (.v d) e = .rt d false e := (rfl)
theorem retOf_fr (d : D) : retOf (.fr d) e = .rt d true e := (rfl)
theorem retOf_sl (i : Nat) : retOf (.sl i) e = retK i (e[i]?) e := by
  unfold retOf retK
  try dsimp only
  all_goals (generalize e[i]? = o; rcases o with _ | _ | d | ⟨b, o⟩ | d | _ <;> try rfl)
  all_goals (cases b <;> rfl)
theorem evS_ret (a : E) : evS G cl (.ret a) e = SR.ob (ev G cl a e) fun r e => retOf r e := by simp only [evS]; rfl
def tryK (r : SR) (hs : Hs) : SR := match r with
  | .ex x e1 => evHs x e1 hs
  | r => r
theorem tryK_ex (x : Xn) (e : En) (hs : Hs) : tryK (.ex x e) hs = evHs x e hs := (rfl)
theorem tryK_rt (d : D) (b : Bool) (e : En) (hs : Hs) : tryK (.rt d b e) hs = .rt d b e := (rfl)
theorem tryK_nx (e : En) (hs : Hs) : tryK (.nx e) hs = .nx e := (rfl)
theorem tryK_ite {c : Prop} [Decidable c] (x y : SR) (hs : Hs) : tryK (if c then x else y) hs = if c then tryK x hs else tryK y hs := by split <;> rfl
theorem evS_try (b : Ss) (hs : Hs) : evS G cl (.try b hs) e = tryK (evSs G cl b e) hs := by
  rw [evS]
  dsimp only
  cases evSs G cl b e <;> rfl
theorem evHs_k (c : Nat) (d : D) (r : Hs) (x : Xn) : evHs x e (.cons c (.k d) r) = if takesX c x = true then .rt d false e else evHs x e r := (rfl)
theorem evHs_nil (x : Xn) : evHs x e .nil = .ex x e := (rfl)
/-- a loop over what is not an object of a slot -/
theorem evS_for (t : Tg) (it : It) (b : Ss) : evS G cl (.for t it b) e = SR.ob (evIt G cl it e) fun s e1 => if lockOk e1 s.rs = true then SR.map (fun e2 => openE e1 e2 s.rs) (forL (bindT t) (evSs G cl b) s.ok s.items (lockE e1 s.rs)) else .no := by
  simp only [evS]; rfl
theorem map_id (x : SR) : SR.map (fun e => e) x = x := by cases x <;> rfl
theorem evS_whl (c : E) (b : Ss) : evS G cl (.whl c b) e = whL (testOf (ev G cl c)) (evSs G cl b) turns e := by
  simp only [evS]
end

/-! defs -/
def fnK (as : List SV) (x : SR) : Cres := fnEnd as x
theorem fnK_rt (as : List SV) (d : D) (b : Bool) (e : En) : fnK as (.rt d b e) = .ok d b (outsOf as e) := (rfl)
theorem fnK_nx (as : List SV) (e : En) : fnK as (.nx e) = .ok .none false (outsOf as e) := (rfl)
theorem fnK_ex (as : List SV) (x : Xn) (e : En) : fnK as (.ex x e) = .ex x := (rfl)
theorem fnK_ite {c : Prop} [Decidable c] (as : List SV) (x y : SR) : fnK as (if c then x else y) = if c then fnK as x else fnK as y := by split <;> rfl
theorem call_of {G : List D} {T : List Fn} {k i : Nat} {as : List SV} {np ns : Nat} {b : Ss} (h : T[i]? = some ⟨np, ns, b⟩) (ha : as.length = np) (hm : noMine as = true) : callAt G T (k + 1) i as = fnK as (evSs G (callAt G T k) b (as.map some ++ List.replicate (ns - np) none)) := by
  rw [callAt, h]
  dsimp only
  rw [if_pos ⟨ha, hm⟩]; rfl
theorem outsOf_nil (e : En) : outsOf [] e = [] := by cases e <;> rfl
theorem outsOf_val (d : D) (r : List SV) (x : Option SV) (e : En) : outsOf (.val d :: r) (x :: e) = some (.val d) :: outsOf r e := (rfl)
theorem outsOf_own (b : Bool) (o : Ob) (r : List SV) (x : Option SV) (e : En) : outsOf (.own b o :: r) (x :: e) = x :: outsOf r e := (rfl)

/-! data -/
theorem bop_add (i j : Int) : bop .add (.int i) (.int j) = some (.v (.int (i + j))) := (rfl)
theorem bop_sub (i j : Int) : bop .sub (.int i) (.int j) = some (.v (.int (i - j))) := (rfl)
theorem bop_mul (i j : Int) (h : -(2 ^ 64) < j ∧ j < 2 ^ 64) : bop .mul (.int i) (.int j) = some (.v (.int (i * j))) := by
  simp only [bop, intBop]; rw [if_pos (.inr h)]; rfl
theorem bop_mod (i j : Int) (h : 0 < j) : bop .mod (.int i) (.int j) = some (.v (.int (i % j))) := by
  simp only [bop, intBop]; rw [if_pos h]; rfl
theorem bop_fdiv (i j : Int) (h : 0 < j ∧ j < 1073741824) : bop .fdiv (.int i) (.int j) = some (.v (.int (i / j))) := by
  simp only [bop, intBop]; rw [if_pos h]; rfl
theorem bop_tup (xs ys : List D) : bop .add (.tuple xs) (.tuple ys) = if xs.length + ys.length ≤ line then some (.v (.tuple (xs ++ ys))) else none := (rfl)
theorem bop_lst (xs ys : List D) : bop .add (.list xs) (.list ys) = if xs.length + ys.length ≤ line then some (.fr (.list (xs ++ ys))) else none := (rfl)
theorem fit_int (i : Int) : fit (.int i) = true := (rfl)
theorem fit_str (s : Str) (h : PyData.strOk s = true) : fit (.str s) = true := by
  unfold fit; simp [PyData.canLay0, h, PyData.depth]
theorem cop_eq (a b : D) : cop .eq a b = if (fit a && fit b) = true then some (a.eqv b) else none := (rfl)
theorem cop_ne (a b : D) : cop .ne a b = (if (fit a && fit b) = true then some (a.eqv b) else none).map (!·) := (rfl)
theorem cop_eqI (i j : Int) : cop .eq (.int i) (.int j) = some (decide (i = j)) := by
  rw [cop_eq, fit_int, fit_int, PyData.eqv]; simp only [Bool.and_self, if_true, Option.some.injEq]
  by_cases h : i = j <;> simp [h]
theorem cop_neI (i j : Int) : cop .ne (.int i) (.int j) = some (!decide (i = j)) := by
  rw [cop_ne, fit_int, fit_int, PyData.eqv]; simp only [Bool.and_self, if_true, Option.map_some, Option.some.injEq]
  by_cases h : i = j <;> simp [h]
theorem cop_eqB (i j : Bool) : cop .eq (.bool i) (.bool j) = some (i == j) := by
  cases i <;> cases j <;> rfl
theorem cop_neB (i j : Bool) : cop .ne (.bool i) (.bool j) = some (!(i == j)) := by
  cases i <;> cases j <;> rfl
theorem cop_lt (i j : Int) : cop .lt (.int i) (.int j) = some (decide (i < j)) := (rfl)
theorem cop_le (i j : Int) : cop .le (.int i) (.int j) = some (decide (i ≤ j)) := (rfl)
theorem cop_gt (i j : Int) : cop .gt (.int i) (.int j) = some (decide (j < i)) := (rfl)
theorem cop_ge (i j : Int) : cop .ge (.int i) (.int j) = some (decide (j ≤ i)) := (rfl)
theorem cop_is (a : D) : cop .is a .none = some (isNone a) := (rfl)
theorem cop_isNot (a : D) : cop .isNot a .none = some (!isNone a) := (rfl)
theorem cop_in (a b : D) : cop .inn a b = inD a b := (rfl)
theorem cop_notIn (a b : D) : cop .notIn a b = (inD a b).map (!·) := (rfl)
theorem tr_bool (b : Bool) : truth (.bool b) = some b := (rfl)
theorem tr_int (i : Int) : truth (.int i) = some (i != 0) := (rfl)
theorem tr_none : truth .none = some false := (rfl)
theorem tr_tup (xs : List D) : truth (.tuple xs) = some (!xs.isEmpty) := (rfl)
theorem tr_lst (xs : List D) : truth (.list xs) = some (!xs.isEmpty) := (rfl)
def atL (xs : List D) (o : Option Nat) : Option D := o.bind fun j => xs[j]?
theorem atL_some (xs : List D) (j : Nat) : atL xs (some j) = xs[j]? := (rfl)
theorem idxL_at (xs : List D) (i : Int) : idxD (.list xs) (.int i) = atL xs (ixOf xs.length i) := (rfl)
theorem idxT_at (xs : List D) (i : Int) : idxD (.tuple xs) (.int i) = atL xs (ixOf xs.length i) := (rfl)
theorem ix_nat (n i : Nat) (h : i < n) : ixOf n (i : Int) = some i := by
  unfold ixOf; rw [if_pos (by omega), if_pos (by omega)]; rfl
theorem ix_neg (n : Nat) : ixOf (n + 1) (-1) = some n := by
  unfold ixOf; rw [if_neg (by omega), if_pos (by omega)]; congr 1; omega
theorem ix_0 (n : Nat) : ixOf (n + 1) 0 = some 0 := ix_nat (n + 1) 0 (by omega)
theorem ix_1 (n : Nat) : ixOf (n + 2) 1 = some 1 := ix_nat (n + 2) 1 (by omega)
theorem ix_2 (n : Nat) : ixOf (n + 3) 2 = some 2 := ix_nat (n + 3) 2 (by omega)
theorem ix_3 (n : Nat) : ixOf (n + 4) 3 = some 3 := ix_nat (n + 4) 3 (by omega)
theorem ix_4 (n : Nat) : ixOf (n + 5) 4 = some 4 := ix_nat (n + 5) 4 (by omega)
theorem ix_5 (n : Nat) : ixOf (n + 6) 5 = some 5 := ix_nat (n + 6) 5 (by omega)
theorem ix_6 (n : Nat) : ixOf (n + 7) 6 = some 6 := ix_nat (n + 7) 6 (by omega)
/-- an item of a list stored -/
theorem setOb_lst (xs : List D) (i : Int) (d : D) : setOb (.lst xs) (.int i) d = (ixOf xs.length i).map fun j => .lst (xs.set j d) := (rfl)
def setR (i : Nat) (b : Bool) (o : Option Ob) (e : En) : SR := match o with
  | some o' => .nx (e.set i (some (.own b o')))
  | none => .no
theorem setR_some (i : Nat) (b : Bool) (o : Ob) (e : En) : setR i b (some o) e = .nx (e.set i (some (.own b o))) := (rfl)
theorem setK_at (i : Nat) (d d' : D) (b : Bool) (o : Ob) (e : En) : setK i d d' (some (some (.own b o))) e = setR i b (setOb o d' d) e := by
  unfold setK setR
  dsimp only

theorem p_len_l (xs : List D) : p1 .len (.list xs) = some (.v (.int xs.length)) := (rfl)
theorem p_len_t (xs : List D) : p1 .len (.tuple xs) = some (.v (.int xs.length)) := (rfl)
theorem p_tup_l (xs : List D) : p1 .tuple (.list xs) = some (.v (.tuple xs)) := (rfl)
theorem p_tup_t (xs : List D) : p1 .tuple (.tuple xs) = some (.v (.tuple xs)) := (rfl)
theorem p_lst_l (xs : List D) : p1 .list (.list xs) = some (.fr (.list xs)) := (rfl)
theorem p_lst_t (xs : List D) : p1 .list (.tuple xs) = some (.fr (.list xs)) := (rfl)
theorem rev_l (xs : List D) : revD (.list xs) = some (.fr (.list xs.reverse)) := (rfl)
theorem rev_t (xs : List D) : revD (.tuple xs) = some (.v (.tuple xs.reverse)) := (rfl)
theorem p_abs (i : Int) : p1 .abs (.int i) = some (.v (.int (if i < 0 then -i else i))) := (rfl)
theorem p_int (i : Int) : p1 .int (.int i) = some (.v (.int i)) := (rfl)
theorem p_intb (b : Bool) : p1 .int (.bool b) = some (.v (.int (b2i b))) := (rfl)
theorem boolsOf_map {α : Type} (f : α → Bool) (xs : List α) : boolsOf (xs.map fun x => .bool (f x)) = some (xs.map f) := by
  induction xs with
  | nil => rfl
  | cons x xs ih => simp only [List.map_cons, boolsOf, ih, Option.map_some]
theorem p_all {α : Type} (f : α → Bool) (xs : List α) : p1 .all (.list (xs.map fun x => .bool (f x))) = some (.v (.bool (xs.all f))) := by
  simp only [p1, boolsOf_map, Option.map_some, List.all_map]
  rfl
theorem p_any {α : Type} (f : α → Bool) (xs : List α) : p1 .any (.list (xs.map fun x => .bool (f x))) = some (.v (.bool (xs.any f))) := by
  simp only [p1, boolsOf_map, Option.map_some, List.any_map]
  rfl
theorem eqv_int (i j : Int) : (PyData.int i).eqv (.int j) = (i == j) := by simp only [PyData.eqv]
theorem eqv_str (i j : Str) : (PyData.str i).eqv (.str j) = (i == j) := by simp only [PyData.eqv]
theorem dlst (xs : List D) : (Ob.lst xs).d = .list xs := (rfl)
theorem isTy_int_int (i : Int) : isTy .int (.int i) = true := (rfl)
theorem isTy_int_bool (b : Bool) : isTy .int (.bool b) = true := (rfl)
theorem isTy_int_str (s : Str) : isTy .int (.str s) = false := (rfl)
theorem isTy_int_tuple (xs : List D) : isTy .int (.tuple xs) = false := (rfl)
theorem isTy_int_list (xs : List D) : isTy .int (.list xs) = false := (rfl)
theorem isTy_int_dict (xs : List (D × D)) : isTy .int (.dict xs) = false := (rfl)
theorem isTy_int_none  : isTy .int .none = false := (rfl)
theorem isTy_bool_int (i : Int) : isTy .bool (.int i) = false := (rfl)
theorem isTy_bool_bool (b : Bool) : isTy .bool (.bool b) = true := (rfl)
theorem isTy_bool_str (s : Str) : isTy .bool (.str s) = false := (rfl)
theorem isTy_bool_tuple (xs : List D) : isTy .bool (.tuple xs) = false := (rfl)
theorem isTy_bool_list (xs : List D) : isTy .bool (.list xs) = false := (rfl)
theorem isTy_bool_dict (xs : List (D × D)) : isTy .bool (.dict xs) = false := (rfl)
theorem isTy_bool_none  : isTy .bool .none = false := (rfl)
theorem isTy_str_int (i : Int) : isTy .str (.int i) = false := (rfl)
theorem isTy_str_bool (b : Bool) : isTy .str (.bool b) = false := (rfl)
theorem isTy_str_str (s : Str) : isTy .str (.str s) = true := (rfl)
theorem isTy_str_tuple (xs : List D) : isTy .str (.tuple xs) = false := (rfl)
theorem isTy_str_list (xs : List D) : isTy .str (.list xs) = false := (rfl)
theorem isTy_str_dict (xs : List (D × D)) : isTy .str (.dict xs) = false := (rfl)
theorem isTy_str_none  : isTy .str .none = false := (rfl)
theorem isTy_tuple_int (i : Int) : isTy .tuple (.int i) = false := (rfl)
theorem isTy_tuple_bool (b : Bool) : isTy .tuple (.bool b) = false := (rfl)
theorem isTy_tuple_str (s : Str) : isTy .tuple (.str s) = false := (rfl)
theorem isTy_tuple_tuple (xs : List D) : isTy .tuple (.tuple xs) = true := (rfl)
theorem isTy_tuple_list (xs : List D) : isTy .tuple (.list xs) = false := (rfl)
theorem isTy_tuple_dict (xs : List (D × D)) : isTy .tuple (.dict xs) = false := (rfl)
theorem isTy_tuple_none  : isTy .tuple .none = false := (rfl)
theorem isTy_list_int (i : Int) : isTy .list (.int i) = false := (rfl)
theorem isTy_list_bool (b : Bool) : isTy .list (.bool b) = false := (rfl)
theorem isTy_list_str (s : Str) : isTy .list (.str s) = false := (rfl)
theorem isTy_list_tuple (xs : List D) : isTy .list (.tuple xs) = false := (rfl)
theorem isTy_list_list (xs : List D) : isTy .list (.list xs) = true := (rfl)
theorem isTy_list_dict (xs : List (D × D)) : isTy .list (.dict xs) = false := (rfl)
theorem isTy_list_none  : isTy .list .none = false := (rfl)
theorem p1_lset_l (xs : List D) : p1 .lset (.list xs) = lsetOf xs := (rfl)
theorem p1_lset_t (xs : List D) : p1 .lset (.tuple xs) = lsetOf xs := (rfl)
theorem p1_sset_l (xs : List D) : p1 .sset (.list xs) = ssetOf xs := (rfl)
theorem p1_sset_t (xs : List D) : p1 .sset (.tuple xs) = ssetOf xs := (rfl)
theorem p1_max_l (xs : List D) : p1 .max (.list xs) = maxD xs := (rfl)
theorem p1_max_t (xs : List D) : p1 .max (.tuple xs) = maxD xs := (rfl)
theorem p1_min_l (xs : List D) : p1 .min (.list xs) = minD xs := (rfl)
theorem p1_min_t (xs : List D) : p1 .min (.tuple xs) = minD xs := (rfl)
end Zv

set_option Elab.async false
set_option autoImplicit false
set_option linter.all false
set_option maxRecDepth 100000
/-! ZLa: loops and comprehensions of the evaluator -/
namespace Zv
open PySem
/-- a slot that may be stored anew -/
def Fr (x : Option SV) : Prop := x = none ∨ (∃ d, x = some (.val d)) ∨ ∃ o, x = some (.own false o)
theorem fr_none : Fr none := .inl rfl
theorem fr_val (d : D) : Fr (some (.val d)) := .inr (.inl ⟨d, rfl⟩)
theorem fr_own (o : Ob) : Fr (some (.own false o)) := .inr (.inr ⟨o, rfl⟩)
theorem putO_fr (i : Nat) (a : SV) (x : Option SV) (e : En) (h : Fr x) : putO i a (some x) e = some (e.set i (some a)) := by
  rcases h with rfl | ⟨d, rfl⟩ | ⟨o, rfl⟩ <;> rfl
theorem putK_fr (i : Nat) (a : SV) (x : Option SV) (e : En) (h : Fr x) : putK i a (some x) e = .ok () (e.set i (some a)) := by
  rcases h with rfl | ⟨d, rfl⟩ | ⟨o, rfl⟩ <;> rfl
theorem lockOk_nil (e : En) : lockOk e [] = true := (rfl)
theorem lockOk_v (e : En) (d : D) (r : List EV) : lockOk e (.v d :: r) = lockOk e r := (rfl)
theorem lockOk_fr (e : En) (d : D) (r : List EV) : lockOk e (.fr d :: r) = lockOk e r := (rfl)
theorem lockOk_sl (e : En) (i : Nat) (r : List EV) : lockOk e (.sl i :: r) = (isOwn e i && lockOk e r) := (rfl)
theorem lockE_nil (e : En) : lockE e [] = e := (rfl)
theorem lockE_v (e : En) (d : D) (r : List EV) : lockE e (.v d :: r) = lockE e r := (rfl)
theorem lockE_fr (e : En) (d : D) (r : List EV) : lockE e (.fr d :: r) = lockE e r := (rfl)
theorem openE_nil (e0 e : En) : openE e0 e [] = e := (rfl)
theorem openE_v (e0 e : En) (d : D) (r : List EV) : openE e0 e (.v d :: r) = openE e0 e r := (rfl)
theorem openE_fr (e0 e : En) (d : D) (r : List EV) : openE e0 e (.fr d :: r) = openE e0 e r := (rfl)
def lockK (i : Nat) (o : Option (Option SV)) (e : En) : En := match o with
  | some (some (.own _ o)) => e.set i (some (.own true o))
  | _ => e
theorem lockK_own (i : Nat) (b : Bool) (o : Ob) (e : En) : lockK i (some (some (.own b o))) e = e.set i (some (.own true o)) := (rfl)
theorem lockE_one (e : En) (i : Nat) : lockE e [.sl i] = lockK i (e[i]?) e := by
  show (match e[i]? with | some (some (.own _ o)) => e.set i (some (.own true o)) | _ => e) = _
  unfold lockK; rfl
def openK (i : Nat) (x y : Option (Option SV)) (e : En) : En := match x, y with
  | some (some (.own false _)), some (some (.own true o)) => e.set i (some (.own false o))
  | some (some (.own false _)), some (some (.kept d)) => e.set i (some (.val d))
  | _, _ => e
theorem openK_own (i : Nat) (o o' : Ob) (e : En) : openK i (some (some (.own false o))) (some (some (.own true o'))) e = e.set i (some (.own false o')) := (rfl)
theorem openK_lent (i : Nat) (o o' : Ob) (e : En) : openK i (some (some (.own true o))) (some (some (.own true o'))) e = e := (rfl)
theorem openE_one (e0 e : En) (i : Nat) : openE e0 e [.sl i] = openK i (e0[i]?) (e[i]?) e := by
  show (match e0[i]?, e[i]? with | some (some (.own false _)), some (some (.own true o)) => e.set i (some (.own false o)) | some (some (.own false _)), some (some (.kept d)) => e.set i (some (.val d)) | _, _ => e) = _
  unfold openK; rfl
theorem stands_v (d d' : D) : stands (.v d) d' = fun _ => true := (rfl)
theorem stands_fr (d d' : D) : stands (.fr d) d' = fun _ => true := (rfl)
def standK (o : Option D) (d : D) : Bool := match o with
  | some d' => sm d d'
  | none => false
theorem standK_some (d d' : D) : standK (some d') d = sm d d' := (rfl)
theorem stands_sl (i : Nat) (d : D) : stands (.sl i) d = fun e => standK (slD (e[i]?)) d := by
  funext e
  show (match look e (.sl i) with | some d' => sm d d' | none => false) = _
  rw [look_sl]; unfold standK; rfl
theorem items_l (xs : List D) : itemsOf (.list xs) = some xs := (rfl)
theorem items_t (xs : List D) : itemsOf (.tuple xs) = some xs := (rfl)
theorem zips_l (xs ys : List D) : zipsOf (.list xs) (.list ys) = some (zipD xs ys) := (rfl)
theorem zips_t (xs ys : List D) : zipsOf (.tuple xs) (.tuple ys) = some (zipD xs ys) := (rfl)
theorem enum_l (xs : List D) : enumOf (.list xs) = some (enumD xs) := (rfl)
theorem enum_t (xs : List D) : enumOf (.tuple xs) = some (enumD xs) := (rfl)
theorem wipe_nil (e : En) : wipeE e [] = e := (rfl)
theorem wipe_cons (e : En) (v : Nat) (vs : List Nat) : wipeE e (v :: vs) = (wipeE e vs).set v none := (rfl)
theorem merge_nil (e0 e : En) : mergeE e0 e [] = e := (rfl)
theorem merge_cons (e0 e : En) (v : Nat) (vs : List Nat) : mergeE e0 e (v :: vs) = (mergeE e0 e vs).set v (e0.getD v none) := (rfl)
theorem wipe_len (e : En) : ∀ own : List Nat, (wipeE e own).length = e.length
  | [] => rfl
  | v :: vs => by rw [wipe_cons, List.length_set, wipe_len e vs]
theorem wipe_out (e : En) (i : Nat) : ∀ own : List Nat, i ∉ own → (wipeE e own)[i]? = e[i]?
  | [], _ => rfl
  | v :: vs, h => by
    rw [wipe_cons, List.getElem?_set_ne (fun z => h (by rw [z]; exact List.mem_cons_self)), wipe_out e i vs fun z => h (List.mem_cons_of_mem _ z)]
theorem merge_len (e0 e : En) : ∀ own : List Nat, (mergeE e0 e own).length = e.length
  | [] => rfl
  | v :: vs => by rw [merge_cons, List.length_set, merge_len e0 e vs]
theorem merge_out (e0 e : En) (i : Nat) : ∀ own : List Nat, i ∉ own → (mergeE e0 e own)[i]? = e[i]?
  | [], _ => rfl
  | v :: vs, h => by
    rw [merge_cons, List.getElem?_set_ne (fun z => h (by rw [z]; exact List.mem_cons_self)), merge_out e0 e i vs fun z => h (List.mem_cons_of_mem _ z)]
theorem merge_in (e0 e : En) (i : Nat) (hi : i < e.length) : ∀ own : List Nat, i ∈ own → (mergeE e0 e own)[i]? = some (e0.getD i none)
  | v :: vs, h => by
    rw [merge_cons]
    by_cases c : v = i
    · subst c; rw [List.getElem?_set_self (by rw [merge_len]; exact hi)]
    · rw [List.getElem?_set_ne c]
      rcases List.mem_cons.mp h with z | z
      · exact absurd z.symm c
      · exact merge_in e0 e i hi vs z
/-- only the block's own slots were changed -/
theorem merge_wipe {e0 e : En} {own : List Nat} (h : wipeE e own = wipeE e0 own) : mergeE e0 e own = e0 := by
  have hl : e.length = e0.length := by rw [← wipe_len e own, h, wipe_len]
  refine List.ext_getElem? fun i => ?_
  by_cases c : i ∈ own
  · by_cases hi : i < e.length
    · rw [merge_in e0 e i hi own c]
      rw [List.getD_eq_getElem?_getD, List.getElem?_eq_getElem (hl ▸ hi)]; rfl
    · rw [List.getElem?_eq_none (by rw [merge_len]; omega), List.getElem?_eq_none (by omega)]
  · rw [merge_out e0 e i own c, ← wipe_out e i own c, h, wipe_out e0 i own c]
section
variable {A : Type} {own : List Nat} {bind : D → En → Option En} {tests : M Bool} {more : M (List D)} {ok : En → Bool}
theorem lcL_nil (e : En) : lcL own bind tests more ok [] e = if ok (wipeE e own) = true then .ok [] e else .no := by rw [lcL]
theorem lcL_cons (x : D) (xs : List D) (e : En) : lcL own bind tests more ok (x :: xs) e = if ok (wipeE e own) = true then (match bind x (wipeE e own) with
      | none => .no
      | some e1 => M.bind tests (fun b => if b = true then M.bind more fun ds => M.bind (lcL own bind tests more ok xs) fun r => M.pure (ds ++ r) else lcL own bind tests more ok xs) e1) else .no := by rw [lcL] <;> rfl
/-- a comprehension that changes nothing -/
theorem lcL_pure {W : En} (enc : A → D) (f : A → List D) (hok : ok W = true) : ∀ (ys : List A) (h : ∀ y ∈ ys, ∃ e1, bind (enc y) W = some e1 ∧ wipeE e1 own = W ∧ ((tests e1 = .ok true e1 ∧ more e1 = .ok (f y) e1) ∨ (tests e1 = .ok false e1 ∧ f y = []))) (e : En),
    wipeE e own = W → ∃ e', lcL own bind tests more ok (ys.map enc) e = .ok (ys.flatMap f) e' ∧ wipeE e' own = W
  | [], _, e, he => ⟨e, by rw [List.map_nil, lcL_nil, he, hok]; rfl, he⟩
  | y :: ys, h, e, he => by
    obtain ⟨e1, h1, h2, h3⟩ := h y List.mem_cons_self
    obtain ⟨e', k1, k2⟩ := lcL_pure enc f hok ys (fun z hz => h z (List.mem_cons_of_mem _ hz)) e1 h2
    refine ⟨e', ?_, k2⟩
    rw [List.map_cons, lcL_cons, he, hok, h1]
    simp only [if_true]
    rw [z_bind_at]
    rcases h3 with ⟨t1, t2⟩ | ⟨t1, t2⟩
    · rw [t1, R.bd_ok, if_pos rfl, z_bind_at, t2, R.bd_ok, z_bind_at, k1, R.bd_ok]; rfl
    · rw [t1, R.bd_ok, if_neg (by decide), k1, List.flatMap_cons, t2]; rfl
/-- a comprehension that changes slots -/
theorem lcL_rel (enc : A → D) (I : List A → List D → En → Prop)
    (h : ∀ y ys acc e, I (y :: ys) acc e → ∃ e1, bind (enc y) (wipeE e own) = some e1 ∧ ∃ b e2, tests e1 = .ok b e2 ∧ (b = true → ∃ ds e3, more e2 = .ok ds e3 ∧ I ys (acc ++ ds) e3) ∧ (b = false → I ys acc e2))
    (hok : ∀ ys acc e, I ys acc e → ok (wipeE e own) = true) : ∀ (ys : List A) (acc : List D) (e : En), I ys acc e → ∃ ds e', lcL own bind tests more ok (ys.map enc) e = .ok ds e' ∧ I [] (acc ++ ds) e'
  | [], acc, e, hi => ⟨[], e, by rw [List.map_nil, lcL_nil, hok _ _ _ hi]; rfl, by rw [List.append_nil]; exact hi⟩
  | y :: ys, acc, e, hi => by
    obtain ⟨e1, h1, b, e2, h2, h3, h4⟩ := h y ys acc e hi
    have pre : lcL own bind tests more ok ((y :: ys).map enc) e = (if b = true then M.bind more fun ds => M.bind (lcL own bind tests more ok (ys.map enc)) fun r => M.pure (ds ++ r) else lcL own bind tests more ok (ys.map enc)) e2 := by
      rw [List.map_cons, lcL_cons, hok _ _ _ hi, h1]
      simp only [if_true]
      rw [z_bind_at, h2, R.bd_ok]
    rw [pre]
    cases b with
    | true =>
      obtain ⟨ds, e3, k1, k2⟩ := h3 rfl
      obtain ⟨rs, e', k3, k4⟩ := lcL_rel enc I h hok ys (acc ++ ds) e3 k2
      refine ⟨ds ++ rs, e', ?_, by rw [← List.append_assoc]; exact k4⟩
      rw [if_pos rfl, z_bind_at, k1, R.bd_ok, z_bind_at, k3, R.bd_ok]; rfl
    | false =>
      obtain ⟨rs, e', k3, k4⟩ := lcL_rel enc I h hok ys acc e2 (h4 rfl)
      exact ⟨rs, e', by rw [if_neg (by decide)]; exact k3, k4⟩
end
section
variable {A : Type} {G : List D} {cl : Cl} {own : List Nat} {el : E} {t : Tg} {it : It} {ifs : Es} {e W : En}
theorem mor_at (el : E) (e : En) : (M.bind (ev G cl el) fun r => M.bind (fz r) fun d => M.pure [d]) e = ((ev G cl el e).bd fun r e => fz r e).bd fun d e => .ok [d] e := by
  rw [z_bind_at]
  cases ev G cl el e with
  | ok r e => rw [R.bd_ok, R.bd_ok, z_bind_at]; rfl
  | _ => rfl
theorem ev_lc : ev G cl (.lc own el t it ifs) e = (evIt G cl it e).bd fun s e => lstM own (lcL own (bindT t) (evIf G cl ifs) (M.bind (ev G cl el) fun r => M.bind (fz r) fun d => M.pure [d]) s.ok s.items) e := by
  rw [ev, z_bind_at]
theorem lstM_ok {x : M (List D)} {ds : List D} {e' : En} (h : x e = .ok ds e') (hl : ds.length ≤ line) : lstM own x e = .ok (.fr (.list ds)) (mergeE e e' own) := by
  unfold lstM; rw [h]; dsimp only; rw [if_pos hl]
/-- [el for t in it if ..], nothing changed -/
theorem lc_if (ys : List A) (enc : A → D) (p : A → Bool) (g : A → D) (hE : wipeE e own = W) (hit : ∃ rs ok, evIt G cl it e = .ok ⟨ys.map enc, rs, ok⟩ e ∧ ok W = true)
    (h : ∀ y ∈ ys, ∃ e1, bindT t (enc y) W = some e1 ∧ wipeE e1 own = W ∧ evIf G cl ifs e1 = .ok (p y) e1 ∧ (p y = true → ((ev G cl el e1).bd fun r e => fz r e) = .ok (g y) e1)) (hl : ys.length ≤ line) :
    ev G cl (.lc own el t it ifs) e = .ok (.fr (.list ((ys.filter p).map g))) e := by
  obtain ⟨rs, ok, hit, hok⟩ := hit
  rw [ev, z_bind_at, hit, R.bd_ok]
  obtain ⟨e', k1, k2⟩ := lcL_pure (own := own) (bind := bindT t) (tests := evIf G cl ifs) (more := M.bind (ev G cl el) fun r => M.bind (fz r) fun d => M.pure [d]) (ok := ok) (W := W) enc (fun y => if p y = true then [g y] else []) hok ys
    (fun y hy => by
      obtain ⟨e1, h1, h2, h3, h4⟩ := h y hy
      refine ⟨e1, h1, h2, ?_⟩
      by_cases c : p y = true
      · refine .inl ⟨by rw [h3, c], ?_⟩
        rw [mor_at, h4 c, R.bd_ok, if_pos c]
      · exact .inr ⟨by rw [h3]; simpa using c, if_neg c⟩) e hE
  unfold lstM
  rw [k1]
  have hf : (ys.flatMap fun y => if p y = true then [g y] else []) = (ys.filter p).map g := by
    clear k1 h hl hit
    induction ys with
    | nil => rfl
    | cons y ys ih =>
      rw [List.flatMap_cons, ih, List.filter_cons]
      by_cases c : p y = true
      · rw [if_pos c, if_pos c]; rfl
      · rw [if_neg c, if_neg c]; rfl
  dsimp only
  rw [hf, if_pos (Nat.le_trans (by rw [List.length_map]; exact List.length_filter_le _ _) hl), merge_wipe (k2.trans hE.symm)]
/-- [el for t in it], nothing changed -/
theorem lc_map (ys : List A) (enc : A → D) (g : A → D) (hE : wipeE e own = W) (hit : ∃ rs ok, evIt G cl it e = .ok ⟨ys.map enc, rs, ok⟩ e ∧ ok W = true)
    (h : ∀ y ∈ ys, ∃ e1, bindT t (enc y) W = some e1 ∧ wipeE e1 own = W ∧ ((ev G cl el e1).bd fun r e => fz r e) = .ok (g y) e1) (hl : ys.length ≤ line) :
    ev G cl (.lc own el t it .nil) e = .ok (.fr (.list (ys.map g))) e := by
  have z := lc_if (G := G) (cl := cl) (ifs := .nil) ys enc (fun _ => true) g hE hit (fun y hy => by
    obtain ⟨e1, h1, h2, h3⟩ := h y hy
    exact ⟨e1, h1, h2, evIf_nil, fun _ => h3⟩) hl
  rw [z, List.filter_eq_self.mpr (fun _ _ => rfl)]
/-- [el for t in it for t1 in it1 if ..], nothing changed -/
theorem lc2_if {B : Type} {own1 : List Nat} {t1 : Tg} {it1 : It} {ifs1 : Es} (ys : List A) (enc : A → D) (zs : A → List B) (enc1 : B → D) (p : A → B → Bool) (g : A → B → D)
    (hE : wipeE e own = W) (hit : ∃ rs ok, evIt G cl it e = .ok ⟨ys.map enc, rs, ok⟩ e ∧ ok W = true)
    (h : ∀ y ∈ ys, ∃ e1, bindT t (enc y) W = some e1 ∧ ∃ E1 rs1 ok1, evIt G cl it1 e1 = .ok ⟨(zs y).map enc1, rs1, ok1⟩ e1 ∧ wipeE e1 own1 = E1 ∧ ok1 E1 = true ∧ (∀ e2, wipeE e2 own1 = E1 → wipeE e2 own = W) ∧
      ∀ z ∈ zs y, ∃ e2, bindT t1 (enc1 z) E1 = some e2 ∧ wipeE e2 own1 = E1 ∧ evIf G cl ifs1 e2 = .ok (p y z) e2 ∧ (p y z = true → ((ev G cl el e2).bd fun r e => fz r e) = .ok (g y z) e2))
    (hl : (ys.flatMap fun y => ((zs y).filter (p y)).map (g y)).length ≤ line) :
    ev G cl (.lc2 own own1 el t it .nil t1 it1 ifs1) e = .ok (.fr (.list (ys.flatMap fun y => ((zs y).filter (p y)).map (g y)))) e := by
  obtain ⟨rs, ok, hit, hok⟩ := hit
  rw [ev, z_bind_at, hit, R.bd_ok]
  have key : ∀ ys : List A, (∀ y ∈ ys, ∃ e1, bindT t (enc y) W = some e1 ∧ ∃ E1 rs1 ok1, evIt G cl it1 e1 = .ok ⟨(zs y).map enc1, rs1, ok1⟩ e1 ∧ wipeE e1 own1 = E1 ∧ ok1 E1 = true ∧ (∀ e2, wipeE e2 own1 = E1 → wipeE e2 own = W) ∧
      ∀ z ∈ zs y, ∃ e2, bindT t1 (enc1 z) E1 = some e2 ∧ wipeE e2 own1 = E1 ∧ evIf G cl ifs1 e2 = .ok (p y z) e2 ∧ (p y z = true → ((ev G cl el e2).bd fun r e => fz r e) = .ok (g y z) e2)) → ∀ e, wipeE e own = W →
      ∃ e', lcL own (bindT t) (evIf G cl .nil) (M.bind (evIt G cl it1) fun s1 => lcL own1 (bindT t1) (evIf G cl ifs1) (M.bind (ev G cl el) fun r => M.bind (fz r) fun d => M.pure [d]) s1.ok s1.items) ok (ys.map enc) e = .ok (ys.flatMap fun y => ((zs y).filter (p y)).map (g y)) e' ∧ wipeE e' own = W := by
    intro ys
    induction ys with
    | nil => intro _ e he; exact ⟨e, by rw [List.map_nil, lcL_nil, he, hok]; rfl, he⟩
    | cons y ys ih =>
      intro h e he
      obtain ⟨e1, h1, E1, rs1, ok1, h2, h3, h4, h5, h6⟩ := h y List.mem_cons_self
      obtain ⟨e2, k1, k2⟩ := lcL_pure (own := own1) (bind := bindT t1) (tests := evIf G cl ifs1) (more := M.bind (ev G cl el) fun r => M.bind (fz r) fun d => M.pure [d]) (ok := ok1) (W := E1) enc1 (fun z => if p y z = true then [g y z] else []) h4 (zs y)
        (fun z hz => by
          obtain ⟨e2, k1, k2, k3, k4⟩ := h6 z hz
          refine ⟨e2, k1, k2, ?_⟩
          by_cases c : p y z = true
          · refine .inl ⟨by rw [k3, c], ?_⟩
            rw [mor_at, k4 c, R.bd_ok, if_pos c]
          · exact .inr ⟨by rw [k3]; simpa using c, if_neg c⟩) e1 h3
      have hf : ∀ zs : List B, (zs.flatMap fun z => if p y z = true then [g y z] else []) = (zs.filter (p y)).map (g y) := by
        intro zs
        induction zs with
        | nil => rfl
        | cons z zs ih =>
          rw [List.flatMap_cons, ih, List.filter_cons]
          by_cases c : p y z = true
          · rw [if_pos c, if_pos c]; rfl
          · rw [if_neg c, if_neg c]; rfl
      rw [hf] at k1
      obtain ⟨e3, k5, k6⟩ := ih (fun z hz => h z (List.mem_cons_of_mem _ hz)) e2 (h5 e2 k2)
      refine ⟨e3, ?_, k6⟩
      rw [List.map_cons, lcL_cons, he, hok, h1]
      simp only [if_true]
      rw [z_bind_at, evIf_nil, R.bd_ok, if_pos rfl, z_bind_at, z_bind_at, h2, R.bd_ok]
      dsimp only
      rw [k1, R.bd_ok, z_bind_at, k5, R.bd_ok]; rfl
  obtain ⟨e', k1, k2⟩ := key ys h e hE
  unfold lstM
  rw [k1]
  dsimp only
  rw [if_pos hl, merge_wipe (k2.trans hE.symm)]
end
section
variable {A : Type} {bind : D → En → Option En} {body : En → SR} {ok : En → Bool}
theorem forL_nil (e : En) : forL bind body ok [] e = if ok e = true then .nx e else .no := by rw [forL]
theorem forL_cons (x : D) (xs : List D) (e : En) : forL bind body ok (x :: xs) e = if ok e = true then (match bind x e with
      | none => .no
      | some e1 => match body e1 with
        | .nx e2 => forL bind body ok xs e2
        | .ct e2 => forL bind body ok xs e2
        | .bk e2 => .nx e2
        | r => r) else .no := by rw [forL] <;> rfl
/-- a loop, by what holds ahead of each turn -/
theorem forL_rel (enc : A → D) (I : List A → En → Prop) (Q : SR → Prop) (hok : ∀ ys e, I ys e → ok e = true)
    (h : ∀ y ys e, I (y :: ys) e → ∃ e1, bind (enc y) e = some e1 ∧ match body e1 with | .nx e2 => I ys e2 | .ct e2 => I ys e2 | .bk e2 => Q (.nx e2) | r => Q r) (h0 : ∀ e, I [] e → Q (.nx e)) :
    ∀ (ys : List A) (e : En), I ys e → Q (forL bind body ok (ys.map enc) e)
  | [], e, hi => by
    rw [List.map_nil, forL, if_pos (hok _ _ hi)]
    exact h0 e hi
  | y :: ys, e, hi => by
    obtain ⟨e1, h1, h2⟩ := h y ys e hi
    rw [List.map_cons, forL, if_pos (hok _ _ hi), h1]
    dsimp only
    cases hb : body e1 with
    | nx e2 => rw [hb] at h2; exact forL_rel enc I Q hok h h0 ys e2 h2
    | ct e2 => rw [hb] at h2; exact forL_rel enc I Q hok h h0 ys e2 h2
    | bk e2 => rw [hb] at h2; exact h2
    | rt d b e2 => rw [hb] at h2; exact h2
    | ex x e2 => rw [hb] at h2; exact h2
    | no => rw [hb] at h2; exact h2
/-- a loop that ends at its end -/
theorem forL_nx (enc : A → D) (I : List A → En → Prop) (hok : ∀ ys e, I ys e → ok e = true)
    (h : ∀ y ys e, I (y :: ys) e → ∃ e1, bind (enc y) e = some e1 ∧ ∃ e2, (body e1 = .nx e2 ∨ body e1 = .ct e2) ∧ I ys e2) (ys : List A) (e : En) (hi : I ys e) :
    ∃ e', forL bind body ok (ys.map enc) e = .nx e' ∧ I [] e' := by
  refine forL_rel enc I (fun r => ∃ e', r = .nx e' ∧ I [] e') hok ?_ (fun e hi => ⟨e, rfl, hi⟩) ys e hi
  intro y ys e hi
  obtain ⟨e1, h1, e2, h2, h3⟩ := h y ys e hi
  refine ⟨e1, h1, ?_⟩
  rcases h2 with h2 | h2 <;> rw [h2] <;> exact h3
/-- a loop with the state s -/
theorem forL_fold {σ : Type} (enc : A → D) (X : σ → Option SV → En) (f : σ → A → σ) (g : A → Option SV) (P : σ → Prop) (hg : ∀ y, Fr (g y)) (hok : ∀ s v, ok (X s v) = true) :
    ∀ (ys : List A) (h : ∀ y ∈ ys, ∀ s v, Fr v → P s → ∃ e1, bind (enc y) (X s v) = some e1 ∧ (body e1 = .nx (X (f s y) (g y)) ∨ body e1 = .ct (X (f s y) (g y))) ∧ P (f s y)) (s : σ) (v : Option SV), Fr v → P s →
      ∃ v', Fr v' ∧ forL bind body ok (ys.map enc) (X s v) = .nx (X (ys.foldl f s) v') ∧ P (ys.foldl f s)
  | [], _, s, v, hv, hp => ⟨v, hv, by rw [List.map_nil, forL, if_pos (hok _ _)]; rfl, hp⟩
  | y :: ys, h, s, v, hv, hp => by
    obtain ⟨e1, h1, h2, h3⟩ := h y List.mem_cons_self s v hv hp
    obtain ⟨v', k1, k2, k3⟩ := forL_fold enc X f g P hg hok ys (fun z hz => h z (List.mem_cons_of_mem _ hz)) (f s y) (g y) (hg y) h3
    refine ⟨v', k1, ?_, k3⟩
    rw [List.map_cons, forL, if_pos (hok _ _), h1]
    dsimp only
    rcases h2 with h2 | h2 <;> rw [h2] <;> exact k2
end
/-- a while, by a measure -/
theorem whL_rel {test : M Bool} {body : En → SR} (I : Nat → En → Prop) (Q : SR → Prop)
    (h : ∀ m e, I m e → ∃ b e1, test e = .ok b e1 ∧ (b = false → Q (.nx e1)) ∧ (b = true → match body e1 with | .nx e2 => ∃ m', m' < m ∧ I m' e2 | .ct e2 => ∃ m', m' < m ∧ I m' e2 | .bk e2 => Q (.nx e2) | r => Q r)) :
    ∀ (n m : Nat) (e : En), I m e → m < n → Q (whL test body n e)
  | 0, _, e, _, hn => absurd hn (Nat.not_lt_zero _)
  | n + 1, m, e, hi, hn => by
    obtain ⟨b, e1, h1, h2, h3⟩ := h m e hi
    rw [whL, h1, SR.of_ob, SR.ob_ok]
    cases b with
    | false => rw [if_neg (by decide)]; exact h2 rfl
    | true =>
      rw [if_pos rfl]
      have h3 := h3 rfl
      cases hb : body e1 with
      | nx e2 => rw [hb] at h3; obtain ⟨m', a, b⟩ := h3; exact whL_rel I Q h n m' e2 b (by omega)
      | ct e2 => rw [hb] at h3; obtain ⟨m', a, b⟩ := h3; exact whL_rel I Q h n m' e2 b (by omega)
      | bk e2 => rw [hb] at h3; exact h3
      | rt d b e2 => rw [hb] at h3; exact h3
      | ex x e2 => rw [hb] at h3; exact h3
      | no => rw [hb] at h3; exact h3
theorem test_at (G : List D) (cl : Cl) (c : E) (e : En) : testOf (ev G cl c) e = (ev G cl c e).bd fun r e => (rd r e).bd fun d e => liR (truth d) e := by
  unfold testOf
  rw [z_bind_at]
  cases ev G cl c e with
  | ok r e => rw [R.bd_ok, R.bd_ok, z_bind_at]; rfl
  | _ => rfl
theorem range_enc (lo : Int) (n : Nat) : rangeD lo n = ((List.range n).map fun (i : Nat) => lo + (i : Int)).map PyData.int := by
  unfold rangeD; rw [List.map_map]; rfl
theorem range0_enc (n : Nat) : rangeD 0 n = (List.range n).map fun (i : Nat) => PyData.int (i : Int) := by
  unfold rangeD; congr 1; funext i; rw [Int.zero_add]
end Zv

set_option Elab.async false
set_option autoImplicit false
set_option linter.all false
set_option maxRecDepth 100000
/-! ZLb: the draws of a law -/
namespace Zv
open PySem
local macro_rules | `(tactic| walk_at "z") => `(tactic| simp -dsimp only [R.bd_ok, R.bd_ex, R.bd_no, R.bd_ite, ↓z_bind_at, pure_at, liR_some, liR_none, z_lift_at, SR.ob_ok, SR.ob_ex, SR.ob_no, SR.ob_ite, SR.tn_nx, SR.tn_rt, SR.tn_bk, SR.tn_ct, SR.tn_ex, SR.tn_no, SR.tn_ite, slD_val, slD_own, slD_kept, look_v, look_fr, look_sl, rd_v, rd_fr, rd_sl, fzK_val, fzK_kept, fzK_own, fzK_lent, fz_v, fz_fr, fz_sl, putK_none, putK_val, putK_own, bdR_some, ev_k, ev_g, vK_val, vK_kept, vK_own, ev_v, ev_bin, negD_int, ev_neg, invD_int, ev_inv, ev_cmp, ev_chain, ev_nt, ev_an, ev_or, z_ev_ife, ev_tup, ev_lst, ev_idx, ev_cut, ev_call, ev_p1, ev_rev, ev_isi, pitK_at, ev_pit, strO_str, ev_splt, evO_none, intD_int, evO_some, evs_nil, evs_cons, z_evAn_one, evAn_cons, z_evOr_one, evOr_cons, evIf_nil, evIf_cons, fzAll_nil, fzAll_cons, frzAll_nil, frzAll_fr, frzAll_v, frzAll_sl, argK_val, argK_kept, argK_own, argOf_v, argOf_fr, argOf_sl, argsOf_nil, consO_some, argsOf_cons, callK_ok, callK_ex, callA_some, callM_at, callK_ite, backK_own, backOf_nil, backOf_v, backOf_fr, backOf_sl, backSlot_own, backSlot_kept, backSlot_kept', loseK_own, loseOf_nil, loseOf_v, loseOf_fr, loseOf_sl, slotsOf_nil, slotsOf_v, slotsOf_fr, slotsOf_sl, onceN_nil, onceN_one, asgT_nm, asgT_ow, asgT_owd, asgT_tup, thenO_some, putO_none, putO_val, putO_own, putS_at, bindT_nm, bindT_tup, bindT_lst, bindTs_nil, bindTs_cons, asgTs_nil, asgTs_cons, evIt_sq, evIt_rg, evIt_rg2, evIt_zip, evIt_enm, evSs_nil, evSs_cons, evS_doc, evS_asg, evS_par, evS_setI, isOwnK_own, isOwn_lt, appK_own, evS_app, extK_own, evS_ext, augK_int, augR_int, evS_aug, evS_ex, evS_if, evS_retN, evS_brk, evS_cnt, evS_pass, evS_raiseN, retK_val, retK_kept, retK_own, retK_lent, retOf_v, retOf_fr, retOf_sl, evS_ret, tryK_ex, tryK_rt, tryK_nx, tryK_ite, evS_try, evHs_k, evHs_nil, evS_for, evS_whl, fnK_rt, fnK_nx, fnK_ex, fnK_ite, outsOf_nil, outsOf_val, outsOf_own, bop_add, bop_sub, bop_tup, bop_lst, fit_int, cop_eqI, cop_neI, cop_eqB, cop_neB, cop_lt, cop_le, cop_gt, cop_ge, cop_is, cop_isNot, cop_in, cop_notIn, tr_bool, tr_int, tr_none, tr_tup, tr_lst, atL_some, idxL_at, idxT_at, ix_neg, ix_0, ix_1, ix_2, ix_3, ix_4, ix_5, ix_6, setOb_lst, setR_some, setK_at, p_len_l, p_len_t, p_tup_l, p_tup_t, p_lst_l, p_lst_t, rev_l, rev_t, p_abs, p_int, p_intb, p_all, p_any, eqv_int, eqv_str, dlst, isTy_int_int, isTy_int_bool, isTy_int_str, isTy_int_tuple, isTy_int_list, isTy_int_dict, isTy_int_none, isTy_bool_int, isTy_bool_bool, isTy_bool_str, isTy_bool_tuple, isTy_bool_list, isTy_bool_dict, isTy_bool_none, isTy_str_int, isTy_str_bool, isTy_str_str, isTy_str_tuple, isTy_str_list, isTy_str_dict, isTy_str_none, isTy_tuple_int, isTy_tuple_bool, isTy_tuple_str, isTy_tuple_tuple, isTy_tuple_list, isTy_tuple_dict, isTy_tuple_none, isTy_list_int, isTy_list_bool, isTy_list_str, isTy_list_tuple, isTy_list_list, isTy_list_dict, isTy_list_none, p1_lset_l, p1_lset_t, p1_sset_l, p1_sset_t, p1_max_l, p1_max_t, p1_min_l, p1_min_t, fr_none, fr_val, fr_own, putO_fr, putK_fr, lockOk_nil, lockOk_v, lockOk_fr, lockOk_sl, lockE_nil, lockE_v, lockE_fr, openE_nil, openE_v, openE_fr, lockK_own, lockE_one, openK_own, openK_lent, openE_one, stands_v, stands_fr, standK_some, stands_sl, items_l, items_t, zips_l, zips_t, enum_l, enum_t, wipe_nil, wipe_cons, merge_nil, merge_cons, List.getD_cons_zero, List.getD_cons_succ, map_id, sm_self, true_and, false_and, and_true, and_false, and_self, not_true_eq_false, not_false_eq_true, ite_self, ↓reduceIte, List.getElem?_cons_zero, List.getElem?_cons_succ, List.getElem?_nil, List.set_cons_zero, List.set_cons_succ, List.map_cons, List.map_nil, Option.map_some, Option.map_none, Bool.false_eq_true, Bool.and_true, Bool.true_and, Bool.and_false, Bool.false_and, Bool.and_self, Bool.not_true, Bool.not_false, List.length_cons, List.length_nil, List.replicate_succ, List.replicate_zero, List.cons_append, List.nil_append, decide_true, decide_false, decide_eq_true_eq, Nat.reduceAdd, Nat.reduceSub, Nat.reduceLT, Nat.reduceLeDiff, List.isEmpty_cons, List.isEmpty_nil, Int.reduceMul, Int.reduceAdd, beq_iff_eq, Int.reduceNeg, Int.reduceEq, Int.reduceBEq, Int.cast_ofNat_Int])
local macro_rules | `(tactic| walk_at "z*") => `(tactic| simp -dsimp only [R.bd_ok, R.bd_ex, R.bd_no, R.bd_ite, ↓z_bind_at, pure_at, liR_some, liR_none, z_lift_at, SR.ob_ok, SR.ob_ex, SR.ob_no, SR.ob_ite, SR.tn_nx, SR.tn_rt, SR.tn_bk, SR.tn_ct, SR.tn_ex, SR.tn_no, SR.tn_ite, slD_val, slD_own, slD_kept, look_v, look_fr, look_sl, rd_v, rd_fr, rd_sl, fzK_val, fzK_kept, fzK_own, fzK_lent, fz_v, fz_fr, fz_sl, putK_none, putK_val, putK_own, bdR_some, ev_k, ev_g, vK_val, vK_kept, vK_own, ev_v, ev_bin, negD_int, ev_neg, invD_int, ev_inv, ev_cmp, ev_chain, ev_nt, ev_an, ev_or, z_ev_ife, ev_tup, ev_lst, ev_idx, ev_cut, ev_call, ev_p1, ev_rev, ev_isi, pitK_at, ev_pit, strO_str, ev_splt, evO_none, intD_int, evO_some, evs_nil, evs_cons, z_evAn_one, evAn_cons, z_evOr_one, evOr_cons, evIf_nil, evIf_cons, fzAll_nil, fzAll_cons, frzAll_nil, frzAll_fr, frzAll_v, frzAll_sl, argK_val, argK_kept, argK_own, argOf_v, argOf_fr, argOf_sl, argsOf_nil, consO_some, argsOf_cons, callK_ok, callK_ex, callA_some, callM_at, callK_ite, backK_own, backOf_nil, backOf_v, backOf_fr, backOf_sl, backSlot_own, backSlot_kept, backSlot_kept', loseK_own, loseOf_nil, loseOf_v, loseOf_fr, loseOf_sl, slotsOf_nil, slotsOf_v, slotsOf_fr, slotsOf_sl, onceN_nil, onceN_one, asgT_nm, asgT_ow, asgT_owd, asgT_tup, thenO_some, putO_none, putO_val, putO_own, putS_at, bindT_nm, bindT_tup, bindT_lst, bindTs_nil, bindTs_cons, asgTs_nil, asgTs_cons, evIt_sq, evIt_rg, evIt_rg2, evIt_zip, evIt_enm, evSs_nil, evSs_cons, evS_doc, evS_asg, evS_par, evS_setI, isOwnK_own, isOwn_lt, appK_own, evS_app, extK_own, evS_ext, augK_int, augR_int, evS_aug, evS_ex, evS_if, evS_retN, evS_brk, evS_cnt, evS_pass, evS_raiseN, retK_val, retK_kept, retK_own, retK_lent, retOf_v, retOf_fr, retOf_sl, evS_ret, tryK_ex, tryK_rt, tryK_nx, tryK_ite, evS_try, evHs_k, evHs_nil, evS_for, evS_whl, fnK_rt, fnK_nx, fnK_ex, fnK_ite, outsOf_nil, outsOf_val, outsOf_own, bop_add, bop_sub, bop_tup, bop_lst, fit_int, cop_eqI, cop_neI, cop_eqB, cop_neB, cop_lt, cop_le, cop_gt, cop_ge, cop_is, cop_isNot, cop_in, cop_notIn, tr_bool, tr_int, tr_none, tr_tup, tr_lst, atL_some, idxL_at, idxT_at, ix_neg, ix_0, ix_1, ix_2, ix_3, ix_4, ix_5, ix_6, setOb_lst, setR_some, setK_at, p_len_l, p_len_t, p_tup_l, p_tup_t, p_lst_l, p_lst_t, rev_l, rev_t, p_abs, p_int, p_intb, p_all, p_any, eqv_int, eqv_str, dlst, isTy_int_int, isTy_int_bool, isTy_int_str, isTy_int_tuple, isTy_int_list, isTy_int_dict, isTy_int_none, isTy_bool_int, isTy_bool_bool, isTy_bool_str, isTy_bool_tuple, isTy_bool_list, isTy_bool_dict, isTy_bool_none, isTy_str_int, isTy_str_bool, isTy_str_str, isTy_str_tuple, isTy_str_list, isTy_str_dict, isTy_str_none, isTy_tuple_int, isTy_tuple_bool, isTy_tuple_str, isTy_tuple_tuple, isTy_tuple_list, isTy_tuple_dict, isTy_tuple_none, isTy_list_int, isTy_list_bool, isTy_list_str, isTy_list_tuple, isTy_list_list, isTy_list_dict, isTy_list_none, p1_lset_l, p1_lset_t, p1_sset_l, p1_sset_t, p1_max_l, p1_max_t, p1_min_l, p1_min_t, fr_none, fr_val, fr_own, putO_fr, putK_fr, lockOk_nil, lockOk_v, lockOk_fr, lockOk_sl, lockE_nil, lockE_v, lockE_fr, openE_nil, openE_v, openE_fr, lockK_own, lockE_one, openK_own, openK_lent, openE_one, stands_v, stands_fr, standK_some, stands_sl, items_l, items_t, zips_l, zips_t, enum_l, enum_t, wipe_nil, wipe_cons, merge_nil, merge_cons, List.getD_cons_zero, List.getD_cons_succ, map_id, sm_self, true_and, false_and, and_true, and_false, and_self, not_true_eq_false, not_false_eq_true, ite_self, ↓reduceIte, List.getElem?_cons_zero, List.getElem?_cons_succ, List.getElem?_nil, List.set_cons_zero, List.set_cons_succ, List.map_cons, List.map_nil, Option.map_some, Option.map_none, Bool.false_eq_true, Bool.and_true, Bool.true_and, Bool.and_false, Bool.false_and, Bool.and_self, Bool.not_true, Bool.not_false, List.length_cons, List.length_nil, List.replicate_succ, List.replicate_zero, List.cons_append, List.nil_append, decide_true, decide_false, decide_eq_true_eq, Nat.reduceAdd, Nat.reduceSub, Nat.reduceLT, Nat.reduceLeDiff, List.isEmpty_cons, List.isEmpty_nil, Int.reduceMul, Int.reduceAdd, beq_iff_eq, Int.reduceNeg, Int.reduceEq, Int.reduceBEq, Int.cast_ofNat_Int, *])
def drawL : Ss := (.cons (.asg (.nm 1) (.bin .mod (.p1 .int (.bin .add (.bin .add (.bin .mul (.v 1) (.k (.int 48271))) (.bin .mod (.p1 .abs (.p1 .int (.v 2))) (.k (.int 65521)))) (.k (.int 1)))) (.k (.int 2147483647)))) .nil)
def drawB : Ss := (.cons (.asg (.nm 1) (.k (.int 7))) (.cons (.for (.nm 2) (.sq (.v 0)) drawL) (.cons (.ret (.lst (.cons (.lc [2] (.p1 .abs (.p1 .int (.v 2))) (.nm 2) (.sq (.v 0)) .nil) (.cons (.neg (.k (.int 1))) (.cons (.k (.int 0)) (.cons (.v 1) .nil)))))) .nil)))
def takeB : Ss := (.cons (.iff (.cmp .eq (.idx (.v 0) (.k (.int 2))) (.k (.int 0))) (.cons (.setI 0 (.k (.int 1)) (.bin .add (.idx (.v 0) (.k (.int 1))) (.k (.int 1)))) (.cons (.iff (.cmp .lt (.idx (.v 0) (.k (.int 1))) (.p1 .len (.idx (.v 0) (.k (.int 0))))) (.cons (.setI 0 (.k (.int 2)) (.idx (.idx (.v 0) (.k (.int 0))) (.idx (.v 0) (.k (.int 1))))) .nil) .nil) (.cons (.iff (.cmp .eq (.idx (.v 0) (.k (.int 2))) (.k (.int 0))) (.cons (.setI 0 (.k (.int 3)) (.bin .mod (.p1 .int (.bin .add (.bin .mul (.idx (.v 0) (.k (.int 3))) (.k (.int 48271))) (.k (.int 11)))) (.k (.int 2147483647)))) (.cons (.setI 0 (.k (.int 2)) (.idx (.v 0) (.k (.int 3)))) .nil)) .nil) .nil))) .nil) (.cons (.asg (.nm 2) (.bin .mod (.p1 .int (.idx (.v 0) (.k (.int 2)))) (.v 1))) (.cons (.setI 0 (.k (.int 2)) (.bin .fdiv (.idx (.v 0) (.k (.int 2))) (.v 1))) (.cons (.ret (.v 2)) .nil))))
/-- a script: what is drawn from -/
def scr' (ns : List Int) : D := .list (ns.map PyData.int)
/-- the state of a draw -/
def Dr (o : Ob) : Prop := ∃ (cs : List Int) (p : Nat) (c s : Int), o = .lst [.list (cs.map PyData.int), .int ((p : Int) - 1), .int c, .int s] ∧ (∀ x ∈ cs, 0 ≤ x) ∧ 0 ≤ c ∧ 0 ≤ s
theorem take_ok {G : List D} {T : List Fn} {i : Nat} (k : Nat) (h : T[i]? = some ⟨2, 3, takeB⟩) {o : Ob} (hD : Dr o) (m : Int) (hm : 0 < m) (hm2 : m < 1073741824) :
    ∃ r o', callAt G T (k + 1) i [.own true o, .val (.int m)] = .ok (.int r) false [some (.own true o'), some (.val (.int m))] ∧ 0 ≤ r ∧ r < m ∧ Dr o' := by
  obtain ⟨cs, p, c, s, rfl, hcs, hc, hs⟩ := hD
  have b1 : ∀ i : Int, bop .mod (.int i) (.int m) = some (.v (.int (i % m))) := fun i => bop_mod i m hm
  have b2 : ∀ i : Int, bop .fdiv (.int i) (.int m) = some (.v (.int (i / m))) := fun i => bop_fdiv i m ⟨hm, hm2⟩
  have b3 : ∀ i : Int, bop .mod (.int i) (.int 2147483647) = some (.v (.int (i % 2147483647))) := fun i => bop_mod i _ (by decide)
  have b4 : ∀ i : Int, bop .mul (.int i) (.int 48271) = some (.v (.int (i * 48271))) := fun i => bop_mul i _ (by decide)
  have fin : ∀ (q : Nat) (c' s' : Int), 0 ≤ c' → 0 ≤ s' → Dr (.lst [.list (cs.map PyData.int), .int ((q : Int) - 1), .int (c' / m), .int s']) := fun q c' s' h1 h2 => ⟨cs, q, c' / m, s', rfl, hcs, Int.ediv_nonneg h1 (by omega), h2⟩
  rw [call_of h rfl rfl]
  unfold takeB
  by_cases c0 : c = 0
  · subst c0
    have e1 : ((p : Int) - 1 + 1) = ((p + 1 : Nat) : Int) - 1 := by omega
    have e2 : ((p + 1 : Nat) : Int) - 1 = (p : Int) := by omega
    by_cases c1 : p < cs.length
    · have c1' : ((p : Int)) < ((cs.map PyData.int).length : Nat) := by rw [List.length_map]; omega
      have e3 : atL (cs.map PyData.int) (ixOf (cs.map PyData.int).length (p : Int)) = some (.int cs[p]) := by
        rw [ix_nat _ _ (by rw [List.length_map]; exact c1), atL_some, List.getElem?_map, List.getElem?_eq_getElem c1]; rfl
      have x0 : 0 ≤ cs[p] := hcs _ (List.getElem_mem c1)
      generalize cs[p] = x at *
      have e4 : ((p : Int) - 1 + 1) = p := by omega
      by_cases c2 : x = 0
      · subst c2
        have s0 : 0 ≤ (s * 48271 + 11) % 2147483647 := Int.emod_nonneg _ (by decide)
        walk_at "z"
        simp only [e4]
        walk_at "z*"
        rw [← e2]
        exact ⟨_, _, rfl, Int.emod_nonneg _ (by omega), Int.emod_lt_of_pos _ hm, fin _ _ _ s0 s0⟩
      · walk_at "z"
        simp only [e4]
        walk_at "z*"
        rw [← e2]
        exact ⟨_, _, rfl, Int.emod_nonneg _ (by omega), Int.emod_lt_of_pos _ hm, fin _ _ _ x0 hs⟩
    · have c1' : ¬ ((p : Int)) < ((cs.map PyData.int).length : Nat) := by rw [List.length_map]; omega
      have s0 : 0 ≤ (s * 48271 + 11) % 2147483647 := Int.emod_nonneg _ (by decide)
      have e4 : ((p : Int) - 1 + 1) = p := by omega
      walk_at "z"
      simp only [e4]
      walk_at "z*"
      rw [← e2]
      exact ⟨_, _, rfl, Int.emod_nonneg _ (by omega), Int.emod_lt_of_pos _ hm, fin _ _ _ s0 s0⟩
  · walk_at "z*"
    exact ⟨_, _, rfl, Int.emod_nonneg _ (by omega), Int.emod_lt_of_pos _ hm, fin _ _ _ hc hs⟩
theorem draw_ok {G : List D} {T : List Fn} {i : Nat} (k : Nat) (h : T[i]? = some ⟨1, 3, drawB⟩) (ns : List Int) (hn : ns.length ≤ 63) :
    ∃ xs, callAt G T (k + 1) i [.val (.list (ns.map PyData.int))] = .ok (.list xs) true [some (.val (.list (ns.map PyData.int)))] ∧ Dr (.lst xs) := by
  have b3 : ∀ i : Int, bop .mod (.int i) (.int 2147483647) = some (.v (.int (i % 2147483647))) := fun i => bop_mod i _ (by decide)
  have b4 : ∀ i : Int, bop .mul (.int i) (.int 48271) = some (.v (.int (i * 48271))) := fun i => bop_mul i _ (by decide)
  have b5 : ∀ i : Int, bop .mod (.int i) (.int 65521) = some (.v (.int (i % 65521))) := fun i => bop_mod i _ (by decide)
  rw [call_of h rfl rfl]
  unfold drawB
  obtain ⟨v, k1, k2, k3⟩ := forL_fold (bind := bindT (.nm 2)) (body := evSs G (callAt G T k) drawL) (ok := fun _ => true) PyData.int (fun (s : Int) v => [some (.val (.list (ns.map PyData.int))), some (.val (.int s)), v])
    (fun s y => (s * 48271 + (if y < 0 then -y else y) % 65521 + 1) % 2147483647) (fun y => some (.val (.int y))) (fun s => 0 ≤ s) (fun y => fr_val _) (fun _ _ => rfl) ns (fun y _ s v hv hs => by
      refine ⟨_, by walk_at "z*"; rfl, .inl ?_, Int.emod_nonneg _ (by decide)⟩
      unfold drawL
      walk_at "z*") 7 none fr_none (by decide)
  walk_at "z"
  rw [k2]
  rw [SR.tn_nx]
  have q := lc_map (G := G) (cl := callAt G T k) (own := [2]) (el := .p1 .abs (.p1 .int (.v 2))) (t := .nm 2) (it := .sq (.v 0)) (e := [some (.val (.list (ns.map PyData.int))), some (.val (.int (ns.foldl (fun s y => (s * 48271 + (if y < 0 then -y else y) % 65521 + 1) % 2147483647) 7))), v])
    ns PyData.int (fun y => .int (if y < 0 then -y else y)) rfl ⟨_, _, by walk_at "z"; rfl, rfl⟩ (fun y _ => ⟨_, by walk_at "z"; rfl, by walk_at "z", by walk_at "z"⟩) (by have : line = 16777216 := rfl; omega)
  walk_at "z*"
  refine ⟨_, rfl, ns.map fun y => if y < 0 then -y else y, 0, 0, _, by rw [List.map_map]; rfl, ?_, by decide, k3⟩
  intro x hx
  obtain ⟨y, _, rfl⟩ := List.mem_map.mp hx
  split <;> omega
end Zv

set_option Elab.async false
set_option autoImplicit false
set_option linter.all false
set_option maxRecDepth 100000
/-! ZLd: data that stand for things of Lean: compared, sorted -/
namespace Zv
open PySem
/-- fits for a comparison -/
def Fits (n : Nat) (d : D) : Prop := d.canLay0 = true ∧ d.depth ≤ n
theorem Fits.fit {n : Nat} {d : D} (h : Fits n d) (hn : n ≤ 64) : fit d = true := by
  unfold Zv.fit
  rw [h.1, Bool.true_and, decide_eq_true_eq]
  exact Nat.le_trans h.2 hn
theorem Fits.mono {n m : Nat} {d : D} (h : Fits n d) (hn : n ≤ m) : Fits m d := ⟨h.1, Nat.le_trans h.2 hn⟩
theorem fits_int (i : Int) (n : Nat) : Fits n (.int i) := ⟨by simp only [PyData.canLay0], by simp [PyData.depth]⟩
theorem fits_none (n : Nat) : Fits n .none := ⟨by simp only [PyData.canLay0], by simp [PyData.depth]⟩
theorem fits_bool (b : Bool) (n : Nat) : Fits n (.bool b) := ⟨by simp only [PyData.canLay0], by simp [PyData.depth]⟩
theorem fits_str (s : Str) (n : Nat) (h : PyData.strOk s = true) : Fits n (.str s) := ⟨by simp only [PyData.canLay0, h], by simp [PyData.depth]⟩
theorem fits_all {n : Nat} : ∀ {xs : List D}, (∀ x ∈ xs, Fits n x) → PyData.canLayAll0 xs = true ∧ PyData.depthAll xs ≤ n
  | [], _ => ⟨by simp only [PyData.canLayAll0], by simp [PyData.depthAll]⟩
  | x :: xs, h => by
    have h1 := h x List.mem_cons_self
    have h2 := fits_all fun y hy => h y (List.mem_cons_of_mem _ hy)
    refine ⟨by simp only [PyData.canLayAll0, h1.1, h2.1, Bool.and_self], ?_⟩
    simp only [PyData.depthAll]
    exact Nat.max_le.mpr ⟨h1.2, h2.2⟩
theorem fits_list {n : Nat} {xs : List D} (h : ∀ x ∈ xs, Fits n x) : Fits (n + 1) (.list xs) :=
  ⟨by simp only [PyData.canLay0, (fits_all h).1], by simp only [PyData.depth]; exact Nat.succ_le_succ (fits_all h).2⟩
theorem fits_tuple {n : Nat} {xs : List D} (h : ∀ x ∈ xs, Fits n x) : Fits (n + 1) (.tuple xs) :=
  ⟨by simp only [PyData.canLay0, (fits_all h).1], by simp only [PyData.depth]; exact Nat.succ_le_succ (fits_all h).2⟩
theorem fits_nil_l (n : Nat) : Fits (n + 1) (.list []) := fits_list fun _ h => nomatch h
theorem fits_nil_t (n : Nat) : Fits (n + 1) (.tuple []) := fits_tuple fun _ h => nomatch h
theorem fits_cons_t {n : Nat} {x : D} {xs : List D} (h : Fits n x) (h2 : Fits (n + 1) (.tuple xs)) : Fits (n + 1) (.tuple (x :: xs)) := by
  obtain ⟨a, b⟩ := h
  obtain ⟨c, d⟩ := h2
  simp only [PyData.canLay0, PyData.depth] at c d
  refine ⟨by simp only [PyData.canLay0, PyData.canLayAll0, a, c, Bool.and_self], ?_⟩
  simp only [PyData.depth, PyData.depthAll]
  omega
/-- an encoding: data that stand for things, told apart by == -/
structure Enc {A : Type} (enc : A → D) (n : Nat) (P : A → Prop) : Prop where
  fits : ∀ a, P a → Fits n (enc a)
  eqv : ∀ a b, P a → P b → ((enc a).eqv (enc b) = true ↔ a = b)
theorem Enc.dec {A : Type} [DecidableEq A] {enc : A → D} {n : Nat} {P : A → Prop} (h : Enc enc n P) {a b : A} (ha : P a) (hb : P b) : (enc a).eqv (enc b) = decide (a = b) := by
  rw [Bool.eq_iff_iff, decide_eq_true_eq]; exact h.eqv a b ha hb
theorem enc_int : Enc PyData.int 0 (fun _ => True) := ⟨fun i _ => fits_int i 0, fun a b _ _ => by simp only [PyData.eqv, beq_iff_eq]⟩
theorem eqvAll_map {A : Type} {enc : A → D} {n : Nat} {P : A → Prop} (h : Enc enc n P) : ∀ {xs ys : List A}, (∀ x ∈ xs, P x) → (∀ y ∈ ys, P y) → (PyData.eqvAll (xs.map enc) (ys.map enc) = true ↔ xs = ys)
  | [], [], _, _ => by simp [PyData.eqvAll]
  | [], y :: ys, _, _ => by simp [PyData.eqvAll]
  | x :: xs, [], _, _ => by simp [PyData.eqvAll]
  | x :: xs, y :: ys, h1, h2 => by
    simp only [List.map_cons, PyData.eqvAll, Bool.and_eq_true, List.cons.injEq]
    rw [h.eqv _ _ (h1 x List.mem_cons_self) (h2 y List.mem_cons_self), eqvAll_map h (fun z hz => h1 z (List.mem_cons_of_mem _ hz)) (fun z hz => h2 z (List.mem_cons_of_mem _ hz))]
/-- a tuple of things -/
def tupE {A : Type} (enc : A → D) (xs : List A) : D := .tuple (xs.map enc)
def lstE {A : Type} (enc : A → D) (xs : List A) : D := .list (xs.map enc)
def pairE {A B : Type} (e1 : A → D) (e2 : B → D) (p : A × B) : D := .tuple [e1 p.1, e2 p.2]
theorem enc_tup {A : Type} {enc : A → D} {n : Nat} {P : A → Prop} (h : Enc enc n P) : Enc (tupE enc) (n + 1) (fun xs => ∀ x ∈ xs, P x) where
  fits xs hx := fits_tuple fun d hd => by
    obtain ⟨a, ha, rfl⟩ := List.mem_map.mp hd
    exact h.fits a (hx a ha)
  eqv a b ha hb := by
    unfold tupE; simp only [PyData.eqv]; exact eqvAll_map h ha hb
theorem enc_lst {A : Type} {enc : A → D} {n : Nat} {P : A → Prop} (h : Enc enc n P) : Enc (lstE enc) (n + 1) (fun xs => ∀ x ∈ xs, P x) where
  fits xs hx := fits_list fun d hd => by
    obtain ⟨a, ha, rfl⟩ := List.mem_map.mp hd
    exact h.fits a (hx a ha)
  eqv a b ha hb := by
    unfold lstE; simp only [PyData.eqv]; exact eqvAll_map h ha hb
theorem enc_pair {A B : Type} {e1 : A → D} {e2 : B → D} {n m : Nat} {P : A → Prop} {Q : B → Prop} (h1 : Enc e1 n P) (h2 : Enc e2 m Q) : Enc (pairE e1 e2) (max n m + 1) (fun p => P p.1 ∧ Q p.2) where
  fits p hp := fits_tuple fun d hd => by
    rcases List.mem_cons.mp hd with rfl | hd
    · exact (h1.fits _ hp.1).mono (Nat.le_max_left _ _)
    · rcases List.mem_cons.mp hd with rfl | hd
      · exact (h2.fits _ hp.2).mono (Nat.le_max_right _ _)
      · cases hd
  eqv a b ha hb := by
    unfold pairE
    simp only [PyData.eqv, PyData.eqvAll, Bool.and_eq_true, Bool.and_true]
    rw [h1.eqv _ _ ha.1 hb.1, h2.eqv _ _ ha.2 hb.2]
    exact ⟨fun z => Prod.ext z.1 z.2, fun z => by rw [z]; exact ⟨rfl, rfl⟩⟩
theorem inD_l (x : D) (ys : List D) : inD x (.list ys) = if (fit x && fit (.list ys)) = true then some (ys.any fun y => y.eqv x) else none := rfl
theorem inD_t (x : D) (ys : List D) : inD x (.tuple ys) = if (fit x && fit (.tuple ys)) = true then some (ys.any fun y => y.eqv x) else none := rfl
theorem in_list {A : Type} [DecidableEq A] {enc : A → D} {n : Nat} {P : A → Prop} (h : Enc enc n P) (hn : n < 64) {a : A} {xs : List A} (ha : P a) (hx : ∀ x ∈ xs, P x) : inD (enc a) (.list (xs.map enc)) = some (decide (a ∈ xs)) := by
  rw [inD_l]
  have f1 := (h.fits a ha).fit (by omega)
  have f2 := ((enc_lst h).fits xs hx).fit (by omega)
  unfold lstE at f2
  rw [f1, f2]
  simp only [Bool.and_self, if_true, List.any_map, Option.some.injEq]
  rw [Bool.eq_iff_iff, List.any_eq_true, decide_eq_true_eq]
  constructor
  · rintro ⟨x, h1, h2⟩; rw [← (h.eqv x a (hx x h1) ha).mp h2]; exact h1
  · intro h1; exact ⟨a, h1, (h.eqv a a ha ha).mpr rfl⟩
theorem in_tuple {A : Type} [DecidableEq A] {enc : A → D} {n : Nat} {P : A → Prop} (h : Enc enc n P) (hn : n < 64) {a : A} {xs : List A} (ha : P a) (hx : ∀ x ∈ xs, P x) : inD (enc a) (.tuple (xs.map enc)) = some (decide (a ∈ xs)) := by
  rw [inD_t]
  have f1 := (h.fits a ha).fit (by omega)
  have f2 := ((enc_tup h).fits xs hx).fit (by omega)
  unfold tupE at f2
  rw [f1, f2]
  simp only [Bool.and_self, if_true, List.any_map, Option.some.injEq]
  rw [Bool.eq_iff_iff, List.any_eq_true, decide_eq_true_eq]
  constructor
  · rintro ⟨x, h1, h2⟩; rw [← (h.eqv x a (hx x h1) ha).mp h2]; exact h1
  · intro h1; exact ⟨a, h1, (h.eqv a a ha ha).mpr rfl⟩
theorem eq_enc {A : Type} [DecidableEq A] {enc : A → D} {n : Nat} {P : A → Prop} (h : Enc enc n P) (hn : n ≤ 64) {a b : A} (ha : P a) (hb : P b) : cop .eq (enc a) (enc b) = some (decide (a = b)) := by
  rw [cop_eq, (h.fits a ha).fit hn, (h.fits b hb).fit hn, h.dec ha hb]; rfl
theorem ne_enc {A : Type} [DecidableEq A] {enc : A → D} {n : Nat} {P : A → Prop} (h : Enc enc n P) (hn : n ≤ 64) {a b : A} (ha : P a) (hb : P b) : cop .ne (enc a) (enc b) = some (!decide (a = b)) := by
  rw [cop_ne, (h.fits a ha).fit hn, (h.fits b hb).fit hn, h.dec ha hb]; rfl
theorem idx_last (xs : List D) (d : D) : idxD (.tuple (xs ++ [d])) (.int (-1)) = some d := by
  rw [idxT_at, List.length_append]
  show atL _ (ixOf (xs.length + 1) (-1)) = _
  rw [ix_neg, atL_some, List.getElem?_append_right (Nat.le_refl _), Nat.sub_self]; rfl
theorem cut_init (xs : List D) (d : D) : cutD none (some (-1)) (.tuple (xs ++ [d])) = some (.v (.tuple xs)) := by
  unfold cutD cutL cutIx
  simp only [List.length_append, List.length_cons, List.length_nil, List.drop_zero, Nat.sub_zero]
  rw [if_pos (by decide)]
  have e : (max (-1 + ((xs.length + (0 + 1) : Nat) : Int)) 0).toNat = xs.length := by omega
  rw [e, List.take_left' rfl]
/-! closed calls, by the kernel -/
def smSV : Option SV → Option SV → Bool
  | none, none => true
  | some (.val a), some (.val b) => sm a b
  | some (.own x (.lst a)), some (.own y (.lst b)) => (x == y) && smL a b
  | some (.kept a), some (.kept b) => sm a b
  | _, _ => false
theorem smSV_eq {a b : Option SV} (h : smSV a b = true) : a = b := by
  unfold smSV at h
  split at h
  · rfl
  · rw [sm_eq _ _ h]
  · simp only [Bool.and_eq_true, beq_iff_eq] at h
    rw [h.1, smL_eq _ _ h.2]
  · rw [sm_eq _ _ h]
  · cases h
def smEn : En → En → Bool
  | [], [] => true
  | a :: r, b :: s => smSV a b && smEn r s
  | _, _ => false
theorem smEn_eq : ∀ {a b : En}, smEn a b = true → a = b
  | [], [], _ => rfl
  | a :: r, b :: s, h => by
    simp only [smEn, Bool.and_eq_true] at h
    rw [smSV_eq h.1, smEn_eq h.2]
def smC : Cres → Cres → Bool
  | .ok a x e, .ok b y f => sm a b && (x == y) && smEn e f
  | .ex x, .ex y => (x.cls == y.cls) && sm x.arg y.arg
  | _, _ => false
theorem smC_eq {a b : Cres} (h : smC a b = true) : a = b := by
  unfold smC at h
  split at h
  · simp only [Bool.and_eq_true, beq_iff_eq] at h
    rw [sm_eq _ _ h.1.1, h.1.2, smEn_eq h.2]
  · next x y =>
    simp only [Bool.and_eq_true, beq_iff_eq] at h
    cases x; cases y
    dsimp only at h
    rw [h.1, sm_eq _ _ h.2]
  · cases h
end Zv

set_option Elab.async false
set_option autoImplicit false
set_option linter.all false
set_option maxRecDepth 100000
/-! ZLs: schemes, as data of any form -/
namespace Zv
open PySem
def isW : D → Bool
  | .int _ => true
  | _ => false
/-- a whole number from 0 to n - 1 -/
def isCol (n : Int) : D → Bool
  | .int i => decide (0 ≤ i) && decide (i < n)
  | _ => false
def asc : List Int → Bool
  | a :: b :: r => decide (a < b) && asc (b :: r)
  | _ => true
def isStD (n : Int) : D → Bool
  | .tuple xs => xs.all (isCol n) && (match intsOf xs with | some is => asc is | none => false)
  | _ => false
def tabItems : D → List D
  | .tuple xs => xs
  | _ => []
def notIn (xs : List D) : D → Bool
  | .int i => (match intsOf xs with | some is => !decide (i ∈ is) | none => false)
  | _ => false
def isRuleD (n : Int) : D → Bool
  | .tuple [l, r] => isStD n l && !(tabItems l).isEmpty && isCol n r && notIn (tabItems l) r
  | _ => false
def areRulesD (n : Int) : D → Bool
  | .tuple xs => decide (xs.length ≤ 6) && xs.all (isRuleD n) && decide ((onceD xs).length = xs.length)
  | _ => false
def areTabsD (n : Int) : D → Bool
  | .tuple xs => decide (1 ≤ xs.length) && decide (xs.length ≤ 6) && xs.all (fun t => isStD n t && decide (0 < (tabItems t).length)) &&
      (match intsOf (xs.flatMap tabItems) with | some is => (List.range n.toNat).all fun i => decide ((i : Int) ∈ is) | none => false)
  | _ => false
def isSchD : D → Bool
  | .tuple [n, r, t] => (match n with | .int i => decide (1 ≤ i) && decide (i ≤ 6) && areRulesD i r && areTabsD i t | _ => false)
  | _ => false
mutual
/-- no list or tuple of more than a thousand items -/
def smallD : D → Bool
  | .list xs => decide (xs.length ≤ 1000) && smallL xs
  | .tuple xs => decide (xs.length ≤ 1000) && smallL xs
  | .dict _ => false
  | .none => true
  | .bool _ => true
  | .int _ => true
  | .str _ => true
def smallL : List D → Bool
  | [] => true
  | x :: xs => smallD x && smallL xs
end
theorem smallL_mem : ∀ {xs : List D}, smallL xs = true → ∀ x ∈ xs, smallD x = true
  | x :: xs, h, y, hy => by
    simp only [smallL, Bool.and_eq_true] at h
    rcases List.mem_cons.mp hy with rfl | hy
    · exact h.1
    · exact smallL_mem h.2 y hy
theorem small_tup {xs : List D} (h : smallD (.tuple xs) = true) : xs.length ≤ 1000 ∧ ∀ x ∈ xs, smallD x = true := by
  simp only [smallD, Bool.and_eq_true, decide_eq_true_eq] at h
  exact ⟨h.1, smallL_mem h.2⟩
theorem line_val : line = 16777216 := rfl
theorem zipD_tail (xs : List D) : zipD xs (xs.drop 1) = (xs.zip (xs.drop 1)).map fun p => .tuple [p.1, p.2] := by
  unfold zipD
  rw [List.map_zip_eq_zipWith]; rfl
theorem cut_tail (xs : List D) : cutD (some 1) none (.tuple xs) = some (.v (.tuple (xs.drop 1))) := by
  unfold cutD cutL cutIx
  simp only [Option.some.injEq, EV.v.injEq, PyData.tuple.injEq]
  rw [if_neg (by decide)]
  rcases xs with _ | ⟨x, xs⟩
  · rfl
  · have e : min (1 : Int).toNat (x :: xs).length = 1 := by simp
    rw [e, List.take_of_length_le (by simp)]
theorem cols_ints {n : Int} : ∀ {xs : List D}, xs.all (isCol n) = true → ∃ is : List Int, xs = is.map PyData.int ∧ (∀ i ∈ is, 0 ≤ i ∧ i < n) ∧ intsOf xs = some is
  | [], _ => ⟨[], rfl, (fun _ h => nomatch h), rfl⟩
  | x :: xs, h => by
    simp only [List.all_cons, Bool.and_eq_true] at h
    obtain ⟨is, h1, h2, h3⟩ := cols_ints h.2
    cases x <;> simp only [isCol, Bool.false_eq_true, false_and] at h
    rename_i i
    simp only [Bool.and_eq_true, decide_eq_true_eq] at h
    refine ⟨i :: is, by rw [h1]; rfl, fun j hj => ?_, by simp only [intsOf, h3, Option.map_some]⟩
    rcases List.mem_cons.mp hj with rfl | hj
    · exact h.1
    · exact h2 j hj
theorem asc_zip : ∀ is : List Int, ((is.zip (is.drop 1)).all fun p => decide (p.1 < p.2)) = asc is
  | [] => rfl
  | [a] => rfl
  | a :: b :: r => by
    have := asc_zip (b :: r)
    simp only [List.drop_succ_cons, List.drop_zero] at this ⊢
    rw [List.zip_cons_cons, List.all_cons, this, asc]
theorem intsOf_map (is : List Int) : intsOf (is.map PyData.int) = some is := by
  induction is with
  | nil => rfl
  | cons i is ih => simp only [List.map_cons, intsOf, ih, Option.map_some]
theorem isSt_tup {n : Int} {d : D} (h : isStD n d = true) : ∃ is : List Int, d = .tuple (is.map PyData.int) ∧ (∀ i ∈ is, 0 ≤ i ∧ i < n) ∧ asc is = true := by
  cases d <;> simp only [isStD, Bool.false_eq_true] at h
  rename_i xs
  rw [Bool.and_eq_true] at h
  obtain ⟨is, rfl, h1, h2⟩ := cols_ints h.1
  rw [h2] at h
  exact ⟨is, rfl, h1, h.2⟩
end Zv

set_option Elab.async false
set_option autoImplicit false
set_option linter.all false
set_option maxRecDepth 100000
/-! ZLt: sorted, set: of whole numbers; rows that rise -/
namespace Zv
open PySem
/-! rows that rise -/
theorem asc_pw : ∀ {is : List Int}, asc is = true ↔ is.Pairwise (· < ·)
  | [] => by simp [asc]
  | [a] => by simp [asc]
  | a :: b :: r => by
    rw [asc, Bool.and_eq_true, decide_eq_true_eq, asc_pw, List.pairwise_cons (a := a)]
    constructor
    · rintro ⟨h1, h2⟩
      refine ⟨fun c hc => ?_, h2⟩
      rcases List.mem_cons.mp hc with rfl | hc
      · exact h1
      · exact Int.lt_trans h1 ((List.pairwise_cons.mp h2).1 c hc)
    · rintro ⟨h1, h2⟩; exact ⟨h1 b List.mem_cons_self, h2⟩
theorem pw_ext : ∀ {a b : List Int}, a.Pairwise (· < ·) → b.Pairwise (· < ·) → (∀ x, x ∈ a ↔ x ∈ b) → a = b
  | [], [], _, _, _ => rfl
  | [], b :: bs, _, _, h => absurd ((h b).mpr List.mem_cons_self) (by simp)
  | a :: as, [], _, _, h => absurd ((h a).mp List.mem_cons_self) (by simp)
  | a :: as, b :: bs, h1, h2, h => by
    obtain ⟨p1, p2⟩ := List.pairwise_cons.mp h1
    obtain ⟨q1, q2⟩ := List.pairwise_cons.mp h2
    have e : a = b := by
      rcases List.mem_cons.mp ((h a).mp List.mem_cons_self) with z | z
      · exact z
      · rcases List.mem_cons.mp ((h b).mpr List.mem_cons_self) with y | y
        · exact y.symm
        · have := q1 a z; have := p1 b y; omega
    subst e
    have t : ∀ x, x ∈ as ↔ x ∈ bs := fun x => by
      constructor
      · intro hx
        rcases List.mem_cons.mp ((h x).mp (List.mem_cons_of_mem _ hx)) with z | z
        · subst z; have := p1 x hx; omega
        · exact z
      · intro hx
        rcases List.mem_cons.mp ((h x).mpr (List.mem_cons_of_mem _ hx)) with z | z
        · subst z; have := q1 x hx; omega
        · exact z
    rw [pw_ext p2 q2 t]
theorem asc_ext {a b : List Int} (h1 : asc a = true) (h2 : asc b = true) (h : ∀ x, x ∈ a ↔ x ∈ b) : a = b := pw_ext (asc_pw.mp h1) (asc_pw.mp h2) h
theorem pw_nodup {is : List Int} (h : is.Pairwise (· < ·)) : is.Nodup := h.imp fun {a b} z y => by omega
theorem pw_len : ∀ (is : List Int) (lo n : Int), is.Pairwise (· < ·) → (∀ i ∈ is, lo ≤ i ∧ i < n) → (is.length : Int) ≤ max (n - lo) 0
  | [], lo, n, _, _ => by simp only [List.length_nil]; omega
  | a :: is, lo, n, h, hb => by
    obtain ⟨p1, p2⟩ := List.pairwise_cons.mp h
    have z := pw_len is (a + 1) n p2 fun i hi => ⟨by have := p1 i hi; omega, (hb i (List.mem_cons_of_mem _ hi)).2⟩
    have y := hb a List.mem_cons_self
    simp only [List.length_cons]
    omega
theorem asc_filter {is : List Int} (p : Int → Bool) (h : asc is = true) : asc (is.filter p) = true := asc_pw.mpr ((asc_pw.mp h).filter p)
/-- 0, 1, .. -/
def upTo (n : Nat) : List Int := (List.range n).map fun (i : Nat) => (i : Int)
theorem upTo_pw (n : Nat) : (upTo n).Pairwise (· < ·) := by
  unfold upTo
  rw [List.pairwise_map]
  exact List.pairwise_lt_range.imp fun {a b} h => by omega
theorem mem_upTo {n : Nat} {x : Int} : x ∈ upTo n ↔ 0 ≤ x ∧ x < n := by
  unfold upTo
  rw [List.mem_map]
  constructor
  · rintro ⟨i, hi, rfl⟩; rw [List.mem_range] at hi; omega
  · rintro ⟨h1, h2⟩; exact ⟨x.toNat, List.mem_range.mpr (by omega), by omega⟩
theorem range_upTo (n : Nat) : rangeD 0 n = (upTo n).map PyData.int := by
  rw [range0_enc]; unfold upTo; rw [List.map_map]; rfl
/-! sorted -/
theorem putIn_map {A : Type} (enc : A → D) (le : A → A → Bool) (h : ∀ a b, leD (enc a) (enc b) = le a b) (x : A) : ∀ xs : List A, putIn leD (enc x) (xs.map enc) = (putIn le x xs).map enc
  | [] => rfl
  | y :: r => by
    show (if leD (enc x) (enc y) then enc x :: enc y :: r.map enc else enc y :: putIn leD (enc x) (r.map enc)) = _
    rw [h, putIn_map enc le h x r]
    show _ = List.map enc (if le x y then x :: y :: r else y :: putIn le x r)
    split <;> rfl
theorem sortD_map {A : Type} (enc : A → D) (le : A → A → Bool) (h : ∀ a b, leD (enc a) (enc b) = le a b) : ∀ xs : List A, sortD (xs.map enc) = (isort le xs).map enc
  | [] => rfl
  | x :: r => by
    show putIn leD (enc x) (sortD (r.map enc)) = _
    rw [sortD_map enc le h r, putIn_map enc le h]; rfl
def leI (a b : Int) : Bool := decide (a ≤ b)
theorem leD_int (a b : Int) : leD (.int a) (.int b) = leI a b := by
  unfold leD ltD leI
  rw [PySem.W.dataLt_int, PySem.W.not_lt_int]
theorem leI_total : PySem.W.TotalLe leI := ⟨fun a b c h1 h2 => by simp only [leI, decide_eq_true_eq] at *; omega, fun a b => by simp only [leI, decide_eq_true_eq]; omega⟩
def sortI (is : List Int) : List Int := isort leI is
theorem sortD_int (is : List Int) : sortD (is.map PyData.int) = (sortI is).map PyData.int := sortD_map _ _ leD_int is
theorem mem_sortI {is : List Int} {x : Int} : x ∈ sortI is ↔ x ∈ is := (isort_perm is).mem_iff
theorem sortI_asc {is : List Int} (h : is.Nodup) : asc (sortI is) = true := by
  rw [asc_pw]
  have p := isort_pair leI_total is
  have q : (isort leI is).Nodup := (isort_perm is).nodup_iff.mpr h
  exact (p.and q).imp fun {a b} z => by
    have z1 := z.1
    simp only [leI, decide_eq_true_eq] at z1
    have z2 := z.2
    omega
theorem srt_int {is : List Int} (h : is.length ≤ line) : srt (is.map PyData.int) = true := by
  unfold srt alikeAll
  simp only [Bool.and_eq_true, Bool.or_eq_true, List.all_eq_true, decide_eq_true_eq, List.mem_map, List.length_map]
  refine ⟨⟨⟨?_, .inr ?_⟩, ?_⟩, h⟩
  · rintro x ⟨i, _, rfl⟩ y ⟨j, _, rfl⟩; rfl
  · rintro x ⟨i, _, rfl⟩; simp [isNone, isTup]
  · rintro x ⟨i, _, rfl⟩; simp [PyData.depth]
/-! set -/
def onceI : List Int → List Int
  | [] => []
  | x :: r => x :: (onceI r).filter fun y => !(x == y)
theorem once_int : ∀ is : List Int, onceD (is.map PyData.int) = (onceI is).map PyData.int
  | [] => rfl
  | i :: is => by
    rw [List.map_cons, onceD, once_int is, onceI, List.map_cons, List.filter_map]
    congr 2
theorem mem_onceI {x : Int} : ∀ {is : List Int}, x ∈ onceI is ↔ x ∈ is
  | [] => by simp [onceI]
  | i :: is => by
    rw [onceI, List.mem_cons, List.mem_cons, List.mem_filter, mem_onceI]
    by_cases c : x = i
    · simp [c]
    · have : (!(i == x)) = true := by simp; omega
      simp [c, this]
theorem onceI_nodup : ∀ is : List Int, (onceI is).Nodup
  | [] => List.nodup_nil
  | i :: is => by
    rw [onceI, List.nodup_cons]
    refine ⟨fun h => ?_, (onceI_nodup is).filter _⟩
    have := (List.mem_filter.mp h).2
    simp at this
theorem onceI_len : ∀ is : List Int, (onceI is).length ≤ is.length
  | [] => Nat.le_refl _
  | i :: is => by
    rw [onceI, List.length_cons, List.length_cons]
    exact Nat.succ_le_succ (Nat.le_trans (List.length_filter_le _ _) (onceI_len is))
def setI (is : List Int) : List Int := sortI (onceI is)
theorem mem_setI {is : List Int} {x : Int} : x ∈ setI is ↔ x ∈ is := by unfold setI; rw [mem_sortI, mem_onceI]
theorem setI_asc (is : List Int) : asc (setI is) = true := sortI_asc (onceI_nodup is)
theorem sset_int {is : List Int} (h : is.length ≤ 1000) : ssetOf (is.map PyData.int) = some (.fr (.list ((setI is).map PyData.int))) := by
  unfold ssetOf setOk setI
  have a : (is.map PyData.int).all isInt = true := by
    rw [List.all_eq_true]; intro x hx; obtain ⟨i, _, rfl⟩ := List.mem_map.mp hx; rfl
  rw [a, once_int, srt_int (Nat.le_trans (onceI_len is) (by rw [line_val]; omega)), sortD_int, List.length_map, decide_eq_true h]
  rfl
/-- the set of columns is whole -/
theorem setI_full {is : List Int} {n : Nat} (h : ∀ i ∈ is, 0 ≤ i ∧ i < n) : decide (setI is = upTo n) = (List.range n).all fun i => decide ((i : Int) ∈ is) := by
  rw [Bool.eq_iff_iff, decide_eq_true_eq, List.all_eq_true]
  constructor
  · intro e i hi
    rw [decide_eq_true_eq, ← mem_setI, e, mem_upTo]
    rw [List.mem_range] at hi
    omega
  · intro e
    refine asc_ext (setI_asc is) (asc_pw.mpr (upTo_pw n)) fun x => ?_
    rw [mem_setI, mem_upTo]
    constructor
    · exact h x
    · intro ⟨h1, h2⟩
      have := e x.toNat (List.mem_range.mpr (by omega))
      rw [decide_eq_true_eq] at this
      have e2 : ((x.toNat : Nat) : Int) = x := by omega
      rw [e2] at this; exact this
/-! rules and tables, for a set -/
theorem keyed_ints : ∀ is : List Int, keyedL (is.map PyData.int) = true
  | [] => by simp only [List.map_nil, keyedL]
  | i :: is => by simp only [List.map_cons, keyedL, keyed, keyed_ints is, Bool.and_self]
theorem depth_ints : ∀ is : List Int, PyData.depthAll (is.map PyData.int) = 0
  | [] => by simp only [List.map_nil, PyData.depthAll]
  | i :: is => by simp only [List.map_cons, PyData.depthAll, PyData.depth, depth_ints is]; rfl
theorem isRule_form {n : Int} {d : D} (h : isRuleD n d = true) : ∃ (is : List Int) (r : Int), d = .tuple [.tuple (is.map PyData.int), .int r] ∧ (∀ i ∈ is, 0 ≤ i ∧ i < n) ∧ asc is = true ∧ is ≠ [] ∧ 0 ≤ r ∧ r < n ∧ r ∉ is := by
  unfold isRuleD at h
  split at h
  · simp only [Bool.and_eq_true] at h
    obtain ⟨is, rfl, h1, h2⟩ := isSt_tup h.1.1.1
    rename_i r
    have hc := h.1.2
    cases r <;> simp only [isCol, Bool.false_eq_true, Bool.and_eq_true, decide_eq_true_eq] at hc
    rename_i r
    have hn := h.2
    simp only [tabItems, notIn, intsOf_map, Bool.not_eq_true', decide_eq_false_iff_not] at hn
    refine ⟨is, r, rfl, h1, h2, ?_, hc.1, hc.2, hn⟩
    rintro rfl
    have := h.1.1.2
    simp [tabItems] at this
  · cases h
theorem rule_set {n : Int} {xs : List D} (h : xs.all (isRuleD n) = true) (hl : xs.length < 70) : setOk xs = true := by
  unfold setOk
  rw [Bool.or_eq_true]; right
  rw [Bool.and_eq_true, List.all_eq_true, decide_eq_true_eq]
  refine ⟨fun d hd => ?_, hl⟩
  obtain ⟨is, r, rfl, _⟩ := isRule_form (List.all_eq_true.mp h d hd)
  simp only [isTup, keyed, keyedL, keyed_ints, Bool.and_self, Bool.true_and, PyData.depth, PyData.depthAll, depth_ints, decide_eq_true_eq]
  decide
theorem tabs_ints {n : Int} (hn : n ≤ 6) : ∀ {xs : List D}, (xs.all fun t => isStD n t && decide (0 < (tabItems t).length)) = true → ∃ is : List Int, xs.flatMap tabItems = is.map PyData.int ∧ (∀ i ∈ is, 0 ≤ i ∧ i < n) ∧ is.length ≤ 6 * xs.length
  | [], _ => ⟨[], rfl, (fun _ h => nomatch h), Nat.zero_le _⟩
  | x :: xs, h => by
    simp only [List.all_cons, Bool.and_eq_true] at h
    obtain ⟨is, e, h1, h2⟩ := tabs_ints hn h.2
    obtain ⟨js, rfl, k1, k2⟩ := isSt_tup h.1.1
    refine ⟨js ++ is, by rw [List.flatMap_cons, e, List.map_append]; rfl, fun i hi => ?_, ?_⟩
    · rcases List.mem_append.mp hi with hi | hi
      · exact k1 i hi
      · exact h1 i hi
    · have := pw_len js 0 n (asc_pw.mp k2) k1
      rw [List.length_append, List.length_cons]
      omega
end Zv

set_option Elab.async false
set_option autoImplicit false
set_option linter.all false
set_option maxRecDepth 100000
/-! ZLm: masks; closures under rules -/
namespace Zv
open PySem
local macro_rules | `(tactic| walk_at "z") => `(tactic| simp -dsimp only [R.bd_ok, R.bd_ex, R.bd_no, R.bd_ite, ↓z_bind_at, pure_at, liR_some, liR_none, z_lift_at, SR.ob_ok, SR.ob_ex, SR.ob_no, SR.ob_ite, SR.tn_nx, SR.tn_rt, SR.tn_bk, SR.tn_ct, SR.tn_ex, SR.tn_no, SR.tn_ite, slD_val, slD_own, slD_kept, look_v, look_fr, look_sl, rd_v, rd_fr, rd_sl, fzK_val, fzK_kept, fzK_own, fzK_lent, fz_v, fz_fr, fz_sl, putK_none, putK_val, putK_own, bdR_some, ev_k, ev_g, vK_val, vK_kept, vK_own, ev_v, ev_bin, negD_int, ev_neg, invD_int, ev_inv, ev_cmp, ev_chain, ev_nt, ev_an, ev_or, z_ev_ife, ev_tup, ev_lst, ev_idx, ev_cut, ev_call, ev_p1, ev_rev, ev_isi, pitK_at, ev_pit, strO_str, ev_splt, evO_none, intD_int, evO_some, evs_nil, evs_cons, z_evAn_one, evAn_cons, z_evOr_one, evOr_cons, evIf_nil, evIf_cons, fzAll_nil, fzAll_cons, frzAll_nil, frzAll_fr, frzAll_v, frzAll_sl, argK_val, argK_kept, argK_own, argOf_v, argOf_fr, argOf_sl, argsOf_nil, consO_some, argsOf_cons, callK_ok, callK_ex, callA_some, callM_at, callK_ite, backK_own, backOf_nil, backOf_v, backOf_fr, backOf_sl, backSlot_own, backSlot_kept, backSlot_kept', loseK_own, loseOf_nil, loseOf_v, loseOf_fr, loseOf_sl, slotsOf_nil, slotsOf_v, slotsOf_fr, slotsOf_sl, onceN_nil, onceN_one, asgT_nm, asgT_ow, asgT_owd, asgT_tup, thenO_some, putO_none, putO_val, putO_own, putS_at, bindT_nm, bindT_tup, bindT_lst, bindTs_nil, bindTs_cons, asgTs_nil, asgTs_cons, evIt_sq, evIt_rg, evIt_rg2, evIt_zip, evIt_enm, evSs_nil, evSs_cons, evS_doc, evS_asg, evS_par, evS_setI, isOwnK_own, isOwn_lt, appK_own, evS_app, extK_own, evS_ext, augK_int, augR_int, evS_aug, evS_ex, evS_if, evS_retN, evS_brk, evS_cnt, evS_pass, evS_raiseN, retK_val, retK_kept, retK_own, retK_lent, retOf_v, retOf_fr, retOf_sl, evS_ret, tryK_ex, tryK_rt, tryK_nx, tryK_ite, evS_try, evHs_k, evHs_nil, evS_for, evS_whl, fnK_rt, fnK_nx, fnK_ex, fnK_ite, outsOf_nil, outsOf_val, outsOf_own, bop_add, bop_sub, bop_tup, bop_lst, fit_int, cop_eqI, cop_neI, cop_eqB, cop_neB, cop_lt, cop_le, cop_gt, cop_ge, cop_is, cop_isNot, cop_in, cop_notIn, tr_bool, tr_int, tr_none, tr_tup, tr_lst, atL_some, idxL_at, idxT_at, ix_neg, ix_0, ix_1, ix_2, ix_3, ix_4, ix_5, ix_6, setOb_lst, setR_some, setK_at, p_len_l, p_len_t, p_tup_l, p_tup_t, p_lst_l, p_lst_t, rev_l, rev_t, p_abs, p_int, p_intb, p_all, p_any, eqv_int, eqv_str, dlst, isTy_int_int, isTy_int_bool, isTy_int_str, isTy_int_tuple, isTy_int_list, isTy_int_dict, isTy_int_none, isTy_bool_int, isTy_bool_bool, isTy_bool_str, isTy_bool_tuple, isTy_bool_list, isTy_bool_dict, isTy_bool_none, isTy_str_int, isTy_str_bool, isTy_str_str, isTy_str_tuple, isTy_str_list, isTy_str_dict, isTy_str_none, isTy_tuple_int, isTy_tuple_bool, isTy_tuple_str, isTy_tuple_tuple, isTy_tuple_list, isTy_tuple_dict, isTy_tuple_none, isTy_list_int, isTy_list_bool, isTy_list_str, isTy_list_tuple, isTy_list_list, isTy_list_dict, isTy_list_none, p1_lset_l, p1_lset_t, p1_sset_l, p1_sset_t, p1_max_l, p1_max_t, p1_min_l, p1_min_t, fr_none, fr_val, fr_own, putO_fr, putK_fr, lockOk_nil, lockOk_v, lockOk_fr, lockOk_sl, lockE_nil, lockE_v, lockE_fr, openE_nil, openE_v, openE_fr, lockK_own, lockE_one, openK_own, openK_lent, openE_one, stands_v, stands_fr, standK_some, stands_sl, items_l, items_t, zips_l, zips_t, enum_l, enum_t, wipe_nil, wipe_cons, merge_nil, merge_cons, List.getD_cons_zero, List.getD_cons_succ, map_id, sm_self, true_and, false_and, and_true, and_false, and_self, not_true_eq_false, not_false_eq_true, ite_self, ↓reduceIte, List.getElem?_cons_zero, List.getElem?_cons_succ, List.getElem?_nil, List.set_cons_zero, List.set_cons_succ, List.map_cons, List.map_nil, Option.map_some, Option.map_none, Bool.false_eq_true, Bool.and_true, Bool.true_and, Bool.and_false, Bool.false_and, Bool.and_self, Bool.not_true, Bool.not_false, List.length_cons, List.length_nil, List.replicate_succ, List.replicate_zero, List.cons_append, List.nil_append, decide_true, decide_false, decide_eq_true_eq, Nat.reduceAdd, Nat.reduceSub, Nat.reduceLT, Nat.reduceLeDiff, List.isEmpty_cons, List.isEmpty_nil, Int.reduceMul, Int.reduceAdd, beq_iff_eq, Int.reduceNeg, Int.reduceEq, Int.reduceBEq, Int.cast_ofNat_Int])
local macro_rules | `(tactic| walk_at "z*") => `(tactic| simp -dsimp only [R.bd_ok, R.bd_ex, R.bd_no, R.bd_ite, ↓z_bind_at, pure_at, liR_some, liR_none, z_lift_at, SR.ob_ok, SR.ob_ex, SR.ob_no, SR.ob_ite, SR.tn_nx, SR.tn_rt, SR.tn_bk, SR.tn_ct, SR.tn_ex, SR.tn_no, SR.tn_ite, slD_val, slD_own, slD_kept, look_v, look_fr, look_sl, rd_v, rd_fr, rd_sl, fzK_val, fzK_kept, fzK_own, fzK_lent, fz_v, fz_fr, fz_sl, putK_none, putK_val, putK_own, bdR_some, ev_k, ev_g, vK_val, vK_kept, vK_own, ev_v, ev_bin, negD_int, ev_neg, invD_int, ev_inv, ev_cmp, ev_chain, ev_nt, ev_an, ev_or, z_ev_ife, ev_tup, ev_lst, ev_idx, ev_cut, ev_call, ev_p1, ev_rev, ev_isi, pitK_at, ev_pit, strO_str, ev_splt, evO_none, intD_int, evO_some, evs_nil, evs_cons, z_evAn_one, evAn_cons, z_evOr_one, evOr_cons, evIf_nil, evIf_cons, fzAll_nil, fzAll_cons, frzAll_nil, frzAll_fr, frzAll_v, frzAll_sl, argK_val, argK_kept, argK_own, argOf_v, argOf_fr, argOf_sl, argsOf_nil, consO_some, argsOf_cons, callK_ok, callK_ex, callA_some, callM_at, callK_ite, backK_own, backOf_nil, backOf_v, backOf_fr, backOf_sl, backSlot_own, backSlot_kept, backSlot_kept', loseK_own, loseOf_nil, loseOf_v, loseOf_fr, loseOf_sl, slotsOf_nil, slotsOf_v, slotsOf_fr, slotsOf_sl, onceN_nil, onceN_one, asgT_nm, asgT_ow, asgT_owd, asgT_tup, thenO_some, putO_none, putO_val, putO_own, putS_at, bindT_nm, bindT_tup, bindT_lst, bindTs_nil, bindTs_cons, asgTs_nil, asgTs_cons, evIt_sq, evIt_rg, evIt_rg2, evIt_zip, evIt_enm, evSs_nil, evSs_cons, evS_doc, evS_asg, evS_par, evS_setI, isOwnK_own, isOwn_lt, appK_own, evS_app, extK_own, evS_ext, augK_int, augR_int, evS_aug, evS_ex, evS_if, evS_retN, evS_brk, evS_cnt, evS_pass, evS_raiseN, retK_val, retK_kept, retK_own, retK_lent, retOf_v, retOf_fr, retOf_sl, evS_ret, tryK_ex, tryK_rt, tryK_nx, tryK_ite, evS_try, evHs_k, evHs_nil, evS_for, evS_whl, fnK_rt, fnK_nx, fnK_ex, fnK_ite, outsOf_nil, outsOf_val, outsOf_own, bop_add, bop_sub, bop_tup, bop_lst, fit_int, cop_eqI, cop_neI, cop_eqB, cop_neB, cop_lt, cop_le, cop_gt, cop_ge, cop_is, cop_isNot, cop_in, cop_notIn, tr_bool, tr_int, tr_none, tr_tup, tr_lst, atL_some, idxL_at, idxT_at, ix_neg, ix_0, ix_1, ix_2, ix_3, ix_4, ix_5, ix_6, setOb_lst, setR_some, setK_at, p_len_l, p_len_t, p_tup_l, p_tup_t, p_lst_l, p_lst_t, rev_l, rev_t, p_abs, p_int, p_intb, p_all, p_any, eqv_int, eqv_str, dlst, isTy_int_int, isTy_int_bool, isTy_int_str, isTy_int_tuple, isTy_int_list, isTy_int_dict, isTy_int_none, isTy_bool_int, isTy_bool_bool, isTy_bool_str, isTy_bool_tuple, isTy_bool_list, isTy_bool_dict, isTy_bool_none, isTy_str_int, isTy_str_bool, isTy_str_str, isTy_str_tuple, isTy_str_list, isTy_str_dict, isTy_str_none, isTy_tuple_int, isTy_tuple_bool, isTy_tuple_str, isTy_tuple_tuple, isTy_tuple_list, isTy_tuple_dict, isTy_tuple_none, isTy_list_int, isTy_list_bool, isTy_list_str, isTy_list_tuple, isTy_list_list, isTy_list_dict, isTy_list_none, p1_lset_l, p1_lset_t, p1_sset_l, p1_sset_t, p1_max_l, p1_max_t, p1_min_l, p1_min_t, fr_none, fr_val, fr_own, putO_fr, putK_fr, lockOk_nil, lockOk_v, lockOk_fr, lockOk_sl, lockE_nil, lockE_v, lockE_fr, openE_nil, openE_v, openE_fr, lockK_own, lockE_one, openK_own, openK_lent, openE_one, stands_v, stands_fr, standK_some, stands_sl, items_l, items_t, zips_l, zips_t, enum_l, enum_t, wipe_nil, wipe_cons, merge_nil, merge_cons, List.getD_cons_zero, List.getD_cons_succ, map_id, sm_self, true_and, false_and, and_true, and_false, and_self, not_true_eq_false, not_false_eq_true, ite_self, ↓reduceIte, List.getElem?_cons_zero, List.getElem?_cons_succ, List.getElem?_nil, List.set_cons_zero, List.set_cons_succ, List.map_cons, List.map_nil, Option.map_some, Option.map_none, Bool.false_eq_true, Bool.and_true, Bool.true_and, Bool.and_false, Bool.false_and, Bool.and_self, Bool.not_true, Bool.not_false, List.length_cons, List.length_nil, List.replicate_succ, List.replicate_zero, List.cons_append, List.nil_append, decide_true, decide_false, decide_eq_true_eq, Nat.reduceAdd, Nat.reduceSub, Nat.reduceLT, Nat.reduceLeDiff, List.isEmpty_cons, List.isEmpty_nil, Int.reduceMul, Int.reduceAdd, beq_iff_eq, Int.reduceNeg, Int.reduceEq, Int.reduceBEq, Int.cast_ofNat_Int, *])
/-! bits -/
theorem bOr_nat (x y : Nat) : Builtin.bitOr (x : Int) (y : Int) = ((x ||| y : Nat) : Int) := by
  unfold Builtin.bitOr Builtin.bitAnd Builtin.bitNot
  have h1 : decide (0 ≤ -(x : Int) - 1) = false := by rw [decide_eq_false_iff_not]; omega
  have h2 : decide (0 ≤ -(y : Int) - 1) = false := by rw [decide_eq_false_iff_not]; omega
  rw [h1, h2]
  dsimp only
  have e1 : (-(-(x : Int) - 1) - 1).toNat = x := by omega
  have e2 : (-(-(y : Int) - 1) - 1).toNat = y := by omega
  rw [e1, e2]
  omega
theorem bAndNot_nat (x y : Nat) : Builtin.bitAnd (x : Int) (Builtin.bitNot (y : Int)) = (x : Int) - ((x &&& y : Nat) : Int) := by
  unfold Builtin.bitAnd Builtin.bitNot
  have h1 : decide (0 ≤ (x : Int)) = true := by rw [decide_eq_true_eq]; omega
  have h2 : decide (0 ≤ -(y : Int) - 1) = false := by rw [decide_eq_false_iff_not]; omega
  rw [h1, h2]
  dsimp only
  have e1 : ((x : Int)).toNat = x := by omega
  have e2 : (-(-(y : Int) - 1) - 1).toNat = y := by omega
  rw [e1, e2]
theorem sub_iff (x y : Nat) : x &&& y = x ↔ ∀ i, x.testBit i = true → y.testBit i = true := by
  constructor
  · intro h i hi
    have := congrArg (fun z => Nat.testBit z i) h
    simp only [Nat.testBit_and, hi, Bool.true_and] at this
    exact this
  · intro h
    refine Nat.eq_of_testBit_eq fun i => ?_
    rw [Nat.testBit_and]
    cases hx : x.testBit i with
    | false => rfl
    | true => rw [h i hx]; rfl
/-- the mask of a row -/
def mk (is : List Int) : Nat := is.foldl (fun m i => m ||| 2 ^ i.toNat) 0
theorem mk_bit_from (a : Nat) : ∀ (is : List Int) (m : Nat), (∀ i ∈ is, 0 ≤ i) → ((is.foldl (fun m i => m ||| 2 ^ i.toNat) m).testBit a = true ↔ m.testBit a = true ∨ (a : Int) ∈ is)
  | [], m, _ => by simp
  | i :: is, m, h => by
    rw [List.foldl_cons, mk_bit_from a is _ fun j hj => h j (List.mem_cons_of_mem _ hj), Nat.testBit_or, Bool.or_eq_true, List.mem_cons, Nat.testBit_two_pow, decide_eq_true_eq]
    have := h i List.mem_cons_self
    constructor
    · rintro ((h | h) | h)
      · exact .inl h
      · exact .inr (.inl (by omega))
      · exact .inr (.inr h)
    · rintro (h | h | h)
      · exact .inl (.inl h)
      · exact .inl (.inr (by omega))
      · exact .inr h
theorem mk_bit {is : List Int} (h : ∀ i ∈ is, 0 ≤ i) (a : Nat) : (mk is).testBit a = true ↔ (a : Int) ∈ is := by
  unfold mk; rw [mk_bit_from a is 0 h]; simp
theorem mk_lt_from (n : Nat) : ∀ (is : List Int) (m : Nat), (∀ i ∈ is, 0 ≤ i ∧ i < n) → m < 2 ^ n → is.foldl (fun m i => m ||| 2 ^ i.toNat) m < 2 ^ n
  | [], m, _, hm => hm
  | i :: is, m, h, hm => by
    have := h i List.mem_cons_self
    exact mk_lt_from n is _ (fun j hj => h j (List.mem_cons_of_mem _ hj)) (Nat.or_lt_two_pow hm (Nat.pow_lt_pow_right (by decide) (by omega)))
theorem mk_lt {is : List Int} {n : Nat} (h : ∀ i ∈ is, 0 ≤ i ∧ i < n) : mk is < 2 ^ n := mk_lt_from n is 0 h (Nat.two_pow_pos n)
theorem mk_eq {a b : List Int} (ha : ∀ i ∈ a, 0 ≤ i) (hb : ∀ i ∈ b, 0 ≤ i) : mk a = mk b ↔ ∀ x : Int, x ∈ a ↔ x ∈ b := by
  constructor
  · intro h x
    constructor
    · intro hx
      have h0 := ha x hx
      have := (mk_bit ha x.toNat).mpr (by rw [show ((x.toNat : Nat) : Int) = x by omega]; exact hx)
      rw [h, mk_bit hb, show ((x.toNat : Nat) : Int) = x by omega] at this
      exact this
    · intro hx
      have h0 := hb x hx
      have := (mk_bit hb x.toNat).mpr (by rw [show ((x.toNat : Nat) : Int) = x by omega]; exact hx)
      rw [← h, mk_bit ha, show ((x.toNat : Nat) : Int) = x by omega] at this
      exact this
  · intro h
    refine Nat.eq_of_testBit_eq fun i => ?_
    rw [Bool.eq_iff_iff, mk_bit ha, mk_bit hb, h]
/-! closures -/
abbrev Rl := List Int × Int
/-- in each row that stands above cs and under the rules -/
def Lst (rs : List Rl) (cs : List Int) (a : Int) : Prop := ∀ S : Int → Prop, (∀ r ∈ rs, (∀ b ∈ r.1, S b) → S r.2) → (∀ b ∈ cs, S b) → S a
theorem Lst.base {rs : List Rl} {cs : List Int} {a : Int} (h : a ∈ cs) : Lst rs cs a := fun S _ h2 => h2 a h
theorem Lst.rule {rs : List Rl} {cs : List Int} {r : Rl} (hr : r ∈ rs) (h : ∀ b ∈ r.1, Lst rs cs b) : Lst rs cs r.2 := fun S h1 h2 => h1 r hr fun b hb => h b hb S h1 h2
def RlOk (n : Nat) (r : Rl) : Prop := (∀ i ∈ r.1, 0 ≤ i ∧ i < n) ∧ 0 ≤ r.2 ∧ r.2 < n
theorem Lst.lt {rs : List Rl} {cs : List Int} {a : Int} {n : Nat} (hr : ∀ r ∈ rs, RlOk n r) (hc : ∀ i ∈ cs, 0 ≤ i ∧ i < n) (h : Lst rs cs a) : 0 ≤ a ∧ a < n :=
  h (fun a => 0 ≤ a ∧ a < n) (fun r hm _ => (hr r hm).2) hc
def rm (r : Rl) : Nat × Nat := (mk r.1, 2 ^ r.2.toNat)
def stM (s : Nat × Bool) (r : Rl) : Nat × Bool := if (rm r).1 &&& s.1 = (rm r).1 ∧ ¬ (rm r).2 &&& s.1 = (rm r).2 then (s.1 ||| (rm r).2, true) else s
theorem or_gt {x y : Nat} (h : ¬ y &&& x = y) : x < x ||| y := by
  refine Nat.lt_of_le_of_ne Nat.left_le_or fun e => h ?_
  refine (sub_iff y x).mpr fun i hi => ?_
  rw [e, Nat.testBit_or, hi, Bool.or_true]
theorem stM_fold : ∀ (rs : List Rl) (s : Nat × Bool), s.1 ≤ (rs.foldl stM s).1 ∧ ((rs.foldl stM s).2 = true → s.2 = true ∨ s.1 < (rs.foldl stM s).1) ∧
    ((rs.foldl stM s).2 = false → s.2 = false ∧ (rs.foldl stM s).1 = s.1 ∧ ∀ r ∈ rs, (rm r).1 &&& s.1 = (rm r).1 → (rm r).2 &&& s.1 = (rm r).2)
  | [], s => ⟨Nat.le_refl _, .inl, fun h => ⟨h, rfl, fun _ h => nomatch h⟩⟩
  | r :: rs, s => by
    rw [List.foldl_cons]
    obtain ⟨h1, h2, h3⟩ := stM_fold rs (stM s r)
    by_cases c : (rm r).1 &&& s.1 = (rm r).1 ∧ ¬ (rm r).2 &&& s.1 = (rm r).2
    · have e : stM s r = (s.1 ||| (rm r).2, true) := if_pos c
      rw [e] at h1 h2 h3 ⊢
      have g := or_gt c.2
      refine ⟨by dsimp only at h1; omega, fun _ => .inr (by dsimp only at h1; omega), fun h => ?_⟩
      exact absurd (h3 h).1 (by simp)
    · have e : stM s r = s := if_neg c
      rw [e] at h1 h2 h3 ⊢
      refine ⟨h1, h2, fun h => ?_⟩
      obtain ⟨k1, k2, k3⟩ := h3 h
      refine ⟨k1, k2, fun q hq => ?_⟩
      rcases List.mem_cons.mp hq with rfl | hq
      · intro z; exact Classical.byContradiction fun y => c ⟨z, y⟩
      · exact k3 q hq
/-- a mask on the way -/
def MOk (n : Nat) (rs : List Rl) (cs : List Int) (m : Nat) : Prop := m < 2 ^ n ∧ (∀ a ∈ cs, m.testBit a.toNat = true) ∧ ∀ a : Nat, m.testBit a = true → Lst rs cs a
theorem stM_ok {n : Nat} {rs : List Rl} {cs : List Int} (hr : ∀ r ∈ rs, RlOk n r) {s : Nat × Bool} {r : Rl} (hm : r ∈ rs) (h : MOk n rs cs s.1) : MOk n rs cs (stM s r).1 := by
  unfold stM
  split
  · next c =>
    obtain ⟨h1, h2, h3⟩ := h
    have ro := hr r hm
    refine ⟨Nat.or_lt_two_pow h1 (Nat.pow_lt_pow_right (by decide) (by have := ro.2; omega)), fun a ha => by dsimp only; rw [Nat.testBit_or, h2 a ha, Bool.true_or], fun a ha => ?_⟩
    dsimp only at ha
    rw [Nat.testBit_or, Bool.or_eq_true] at ha
    rcases ha with ha | ha
    · exact h3 a ha
    · have e : a = r.2.toNat := by
        unfold rm at ha; rw [Nat.testBit_two_pow, decide_eq_true_eq] at ha; exact ha.symm
      rw [e, show ((r.2.toNat : Nat) : Int) = r.2 by have := ro.2.1; omega]
      refine Lst.rule hm fun b hb => ?_
      have hb0 := ro.1 b hb
      have := (sub_iff _ _).mp c.1 b.toNat ((mk_bit (fun i hi => (ro.1 i hi).1) _).mpr (by rw [show ((b.toNat : Nat) : Int) = b by omega]; exact hb))
      have := h3 _ this
      rw [show ((b.toNat : Nat) : Int) = b by omega] at this
      exact this
  · exact h
theorem stM_all {n : Nat} {rs : List Rl} {cs : List Int} (hr : ∀ r ∈ rs, RlOk n r) : ∀ (qs : List Rl) (s : Nat × Bool), (∀ r ∈ qs, r ∈ rs) → MOk n rs cs s.1 → MOk n rs cs (qs.foldl stM s).1
  | [], s, _, h => h
  | q :: qs, s, hq, h => stM_all hr qs (stM s q) (fun r hm => hq r (List.mem_cons_of_mem _ hm)) (stM_ok hr (hq q List.mem_cons_self) h)
/-- no rule is left -/
theorem M_end {n : Nat} {rs : List Rl} {cs : List Int} (hr : ∀ r ∈ rs, RlOk n r) {m : Nat} (hc : ∀ i ∈ cs, 0 ≤ i) (h : MOk n rs cs m) (he : ∀ r ∈ rs, (rm r).1 &&& m = (rm r).1 → (rm r).2 &&& m = (rm r).2) (a : Nat) :
    m.testBit a = true ↔ Lst rs cs a := by
  refine ⟨h.2.2 a, fun z => ?_⟩
  have := z (fun b => 0 ≤ b ∧ m.testBit b.toNat = true) (fun r hm hb => by
    have ro := hr r hm
    refine ⟨ro.2.1, ?_⟩
    refine (sub_iff _ _).mp (he r hm ((sub_iff _ _).mpr fun i hi => ?_)) r.2.toNat (by unfold rm; rw [Nat.testBit_two_pow, decide_eq_true_eq])
    have := (hb i ((mk_bit (fun i hi => (ro.1 i hi).1) i).mp hi)).2
    rw [Int.toNat_natCast] at this
    exact this) (fun b hb => ⟨hc b hb, h.2.1 b hb⟩)
  have := this.2
  rw [Int.toNat_natCast] at this
  exact this
/-! the defs -/
theorem bop_or (x y : Nat) : bop .bor (.int x) (.int y) = some (.v (.int ((x ||| y : Nat) : Int))) := by
  simp only [bop, intBop, Option.map_some, bOr_nat]
theorem ib_or (x y : Nat) : intBop .bor (x : Int) (y : Int) = some ((x ||| y : Nat) : Int) := by
  simp only [intBop, bOr_nat]
theorem bop_andnot (x y : Nat) : bop .band (.int x) (.int (Builtin.bitNot (y : Int))) = some (.v (.int ((x : Int) - ((x &&& y : Nat) : Int)))) := by
  simp only [bop, intBop, Option.map_some, bAndNot_nat]
theorem bop_shl1 (i : Int) (h : 0 ≤ i ∧ i < 1000000) : bop .shl (.int 1) (.int i) = some (.v (.int ((2 ^ i.toNat : Nat) : Int))) := by
  show (if 0 ≤ i ∧ i ≤ 1000000 ∧ (1 : Int).natAbs < 2 ^ 64 then some ((1 : Int) * 2 ^ i.toNat) else none).map _ = _
  rw [if_pos ⟨h.1, by omega, by decide⟩, Int.one_mul, Int.natCast_pow]; rfl
def maskL : Ss := (.cons (.aug 1 .bor (.bin .shl (.k (.int 1)) (.v 2))) .nil)
def maskB : Ss := (.cons (.asg (.nm 1) (.k (.int 0))) (.cons (.for (.nm 2) (.sq (.v 0)) maskL) (.cons (.ret (.v 1)) .nil)))
theorem mask_ok {G : List D} {T : List Fn} {i : Nat} (k : Nat) (h : T[i]? = some ⟨1, 3, maskB⟩) (is : List Int) (hb : ∀ i ∈ is, 0 ≤ i ∧ i < 1000000) :
    callAt G T (k + 1) i [.val (.tuple (is.map PyData.int))] = .ok (.int (mk is)) false [some (.val (.tuple (is.map PyData.int)))] := by
  rw [call_of h rfl rfl]
  unfold maskB
  obtain ⟨v, k1, k2, k3⟩ := forL_fold (bind := bindT (.nm 2)) (body := evSs G (callAt G T k) maskL) (ok := fun _ => true) PyData.int (fun (s : Nat) v => [some (.val (.tuple (is.map PyData.int))), some (.val (.int s)), v])
    (fun s y => s ||| 2 ^ y.toNat) (fun y => some (.val (.int y))) (fun s => True) (fun y => fr_val _) (fun _ _ => rfl) is (fun y hy s v hv _ => by
      refine ⟨_, by walk_at "z*"; rfl, .inl ?_, trivial⟩
      unfold maskL
      have b1 := bop_shl1 y (hb y hy)
      have b2 := ib_or s (2 ^ y.toNat)
      walk_at "z*") 0 none fr_none trivial
  have k2' : forL (bindT (.nm 2)) (evSs G (callAt G T k) maskL) (fun _ => true) (is.map PyData.int) [some (.val (.tuple (is.map PyData.int))), some (.val (.int 0)), none] = .nx [some (.val (.tuple (is.map PyData.int))), some (.val (.int (mk is))), v] := k2
  walk_at "z*"
def closI : Ss := (.cons (.iff (.an (.cons (.cmp .eq (.bin .band (.v 4) (.inv (.v 2))) (.k (.int 0))) (.cons (.bin .band (.v 5) (.inv (.v 2))) .nil))) (.cons (.aug 2 .bor (.v 5)) (.cons (.asg (.nm 3) (.k (.bool true))) .nil)) .nil) .nil)
def closL : Ss := (.cons (.asg (.nm 3) (.k (.bool false))) (.cons (.for (.tup (.cons (.nm 4) (.cons (.nm 5) .nil))) (.sq (.v 0)) closI) .nil))
def closB : Ss := (.cons (.par (.cons (.nm 2) (.cons (.nm 3) .nil)) (.cons (.v 1) (.cons (.k (.bool true)) .nil))) (.cons (.whl (.v 3) closL) (.cons (.ret (.v 2)) .nil)))
def rmE (r : Rl) : D := .tuple [.int ((rm r).1 : Nat), .int ((rm r).2 : Nat)]
theorem clos_in {G : List D} {cl : Cl} (R : D) (M : Option SV) (ys : List Rl) (s : Nat × Bool) (v4 v5 : Option SV) (h4 : Fr v4) (h5 : Fr v5) :
    ∃ u4 u5, Fr u4 ∧ Fr u5 ∧ forL (bindT (.tup (.cons (.nm 4) (.cons (.nm 5) .nil)))) (evSs G cl closI) (fun _ => true) (ys.map rmE) [some (.val R), M, some (.val (.int s.1)), some (.val (.bool s.2)), v4, v5] = .nx [some (.val R), M, some (.val (.int (ys.foldl stM s).1)), some (.val (.bool (ys.foldl stM s).2)), u4, u5] := by
  obtain ⟨e', k1, k2⟩ := forL_nx (bind := bindT (.tup (.cons (.nm 4) (.cons (.nm 5) .nil)))) (body := evSs G cl closI) (ok := fun _ => true) rmE
    (fun zs e => ∃ (t : Nat × Bool) (u4 u5 : Option SV), Fr u4 ∧ Fr u5 ∧ e = [some (.val R), M, some (.val (.int t.1)), some (.val (.bool t.2)), u4, u5] ∧ zs.foldl stM t = ys.foldl stM s) (fun _ _ _ => rfl)
    (by
      rintro y zs _ ⟨t, u4, u5, f4, f5, rfl, ht⟩
      refine ⟨_, by unfold rmE; walk_at "z*"; rfl, ?_⟩
      have b1 := bop_andnot (rm y).1 t.1
      have b2 := bop_andnot (rm y).2 t.1
      have b3 := ib_or t.1 (rm y).2
      have sb : ∀ i : Int, i - i = 0 := Int.sub_self
      have nb : ((0 : Int) != 0) = false := rfl
      have l1 : (rm y).1 &&& t.1 ≤ (rm y).1 := Nat.and_le_left
      have l2 : (rm y).2 &&& t.1 ≤ (rm y).2 := Nat.and_le_left
      refine ⟨[some (.val R), M, some (.val (.int (stM t y).1)), some (.val (.bool (stM t y).2)), some (.val (.int (rm y).1)), some (.val (.int (rm y).2))], .inl ?_, stM t y, _, _, fr_val _, fr_val _, rfl, by rw [← ht]; rfl⟩
      unfold closI
      by_cases c1 : (rm y).1 &&& t.1 = (rm y).1
      · have z1 : ((rm y).1 : Int) - (((rm y).1 &&& t.1 : Nat) : Int) = 0 := by rw [c1]; omega
        by_cases c2 : (rm y).2 &&& t.1 = (rm y).2
        · have z2 : ((rm y).2 : Int) - (((rm y).2 &&& t.1 : Nat) : Int) = 0 := by rw [c2]; omega
          have e : stM t y = t := if_neg fun z => z.2 c2
          rw [e]
          walk_at "z*"
        · have z2 : ¬ ((rm y).2 : Int) - (((rm y).2 &&& t.1 : Nat) : Int) = 0 := by omega
          have z3 : (((rm y).2 : Int) - (((rm y).2 &&& t.1 : Nat) : Int) != 0) = true := by rw [bne_iff_ne]; exact z2
          have e : stM t y = (t.1 ||| (rm y).2, true) := if_pos ⟨c1, c2⟩
          rw [e]
          walk_at "z*"
      · have z1 : ¬ ((rm y).1 : Int) - (((rm y).1 &&& t.1 : Nat) : Int) = 0 := by omega
        have e : stM t y = t := if_neg fun z => c1 z.1
        rw [e]
        walk_at "z*") ys _ ⟨s, v4, v5, h4, h5, rfl, rfl⟩
  obtain ⟨t, u4, u5, f4, f5, rfl, ht⟩ := k2
  exact ⟨u4, u5, f4, f5, by rw [k1, ← ht]; rfl⟩
theorem clos_ok {G : List D} {T : List Fn} {i : Nat} (k : Nat) (h : T[i]? = some ⟨2, 6, closB⟩) (n : Nat) (hn : n ≤ 20) (rs : List Rl) (hr : ∀ r ∈ rs, RlOk n r) (cs : List Int) (hc : ∀ i ∈ cs, 0 ≤ i ∧ i < n) :
    ∃ m : Nat, callAt G T (k + 1) i [.val (.list (rs.map rmE)), .val (.int (mk cs))] = .ok (.int m) false [some (.val (.list (rs.map rmE))), some (.val (.int (mk cs)))] ∧ ∀ a : Nat, m.testBit a = true ↔ Lst rs cs a := by
  rw [call_of h rfl rfl]
  unfold closB
  have hc0 : ∀ i ∈ cs, 0 ≤ i := fun i hi => (hc i hi).1
  have m0 : MOk n rs cs (mk cs) := ⟨mk_lt hc, fun a ha => (mk_bit hc0 _).mpr (by rw [show ((a.toNat : Nat) : Int) = a by have := hc0 a ha; omega]; exact ha), fun a ha => Lst.base ((mk_bit hc0 a).mp ha)⟩
  have loop := whL_rel (test := testOf (ev G (callAt G T k) (.v 3))) (body := evSs G (callAt G T k) closL)
    (fun j e => ∃ (m : Nat) (b : Bool) (v4 v5 : Option SV), e = [some (.val (.list (rs.map rmE))), some (.val (.int (mk cs))), some (.val (.int m)), some (.val (.bool b)), v4, v5] ∧ Fr v4 ∧ Fr v5 ∧ MOk n rs cs m ∧ (b = false → ∀ r ∈ rs, (rm r).1 &&& m = (rm r).1 → (rm r).2 &&& m = (rm r).2) ∧ j = (if b = true then 2 ^ n - m + 1 else 0))
    (fun r => ∃ (m : Nat) (v4 v5 : Option SV), r = .nx [some (.val (.list (rs.map rmE))), some (.val (.int (mk cs))), some (.val (.int m)), some (.val (.bool false)), v4, v5] ∧ ∀ a : Nat, m.testBit a = true ↔ Lst rs cs a)
    (by
      rintro j _ ⟨m, b, v4, v5, rfl, h4, h5, hM, hb, rfl⟩
      refine ⟨b, _, by rw [test_at]; walk_at "z*"; rfl, fun hm => ?_, fun hm => ?_⟩
      · subst hm
        exact ⟨m, v4, v5, rfl, M_end hr hc0 hM (hb rfl)⟩
      · subst hm
        obtain ⟨u4, u5, f4, f5, k1⟩ := clos_in (G := G) (cl := callAt G T k) (.list (rs.map rmE)) (some (.val (.int (mk cs)))) rs (m, false) v4 v5 h4 h5
        obtain ⟨t1, t2, t3⟩ := stM_fold rs (m, false)
        have hM2 : MOk n rs cs (rs.foldl stM (m, false)).1 := stM_all hr rs (m, false) (fun _ h => h) hM
        have body : evSs G (callAt G T k) closL [some (.val (.list (rs.map rmE))), some (.val (.int (mk cs))), some (.val (.int m)), some (.val (.bool true)), v4, v5] = .nx [some (.val (.list (rs.map rmE))), some (.val (.int (mk cs))), some (.val (.int (rs.foldl stM (m, false)).1)), some (.val (.bool (rs.foldl stM (m, false)).2)), u4, u5] := by
          unfold closL
          walk_at "z*"
        rw [body]
        dsimp only
        refine ⟨_, ?_, _, _, u4, u5, rfl, f4, f5, hM2, fun z r hm => ?_, rfl⟩
        · cases c : (rs.foldl stM (m, false)).2 with
          | false => rw [if_neg (by decide), if_pos rfl]; omega
          | true =>
            rw [if_pos rfl, if_pos rfl]
            have := (t2 c).resolve_left (by simp)
            have := hM2.1
            omega
        · obtain ⟨_, e, z3⟩ := t3 z
          rw [e]; exact z3 r hm)
  have ht : (2 : Nat) ^ n ≤ 2 ^ 20 := Nat.pow_le_pow_right (by decide) hn
  obtain ⟨m, v4, v5, k1, k2⟩ := loop turns (2 ^ n - mk cs + 1) [some (.val (.list (rs.map rmE))), some (.val (.int (mk cs))), some (.val (.int (mk cs))), some (.val (.bool true)), none, none] ⟨mk cs, true, none, none, rfl, fr_none, fr_none, m0, (fun z => nomatch z), rfl⟩ (by
    have : turns = 2 ^ 60 := rfl
    omega)
  refine ⟨m, ?_, k2⟩
  walk_at "z*"
end Zv

set_option Elab.async false
set_option autoImplicit false
set_option linter.all false
set_option maxRecDepth 100000
/-! ZLn: schemes, drawn -/
namespace Zv
open PySem
def rlE (r : Rl) : D := .tuple [.tuple (r.1.map PyData.int), .int r.2]
def stE' (is : List Int) : D := .tuple (is.map PyData.int)
def schE (n : Nat) (rs : List Rl) (ts : List (List Int)) : D := .tuple [.int n, .tuple (rs.map rlE), .tuple (ts.map stE')]
theorem rlE_enc : Enc rlE 2 (fun _ => True) := by
  have h := enc_pair (enc_tup enc_int) enc_int
  exact ⟨fun a _ => h.fits a ⟨(fun _ _ => trivial), trivial⟩, fun a b _ _ => h.eqv a b ⟨(fun _ _ => trivial), trivial⟩ ⟨(fun _ _ => trivial), trivial⟩⟩
theorem stE_enc : Enc stE' 1 (fun _ => True) := by
  have h := enc_tup enc_int
  exact ⟨fun a _ => h.fits a (fun _ _ => trivial), fun a b _ _ => h.eqv a b (fun _ _ => trivial) (fun _ _ => trivial)⟩
/-- a set of columns -/
def StOk (n : Nat) (is : List Int) : Prop := (∀ i ∈ is, 0 ≤ i ∧ i < n) ∧ asc is = true
/-- a rule -/
def RGood (n : Nat) (r : Rl) : Prop := StOk n r.1 ∧ r.1 ≠ [] ∧ 0 ≤ r.2 ∧ r.2 < n ∧ r.2 ∉ r.1
theorem RGood.ok {n : Nat} {r : Rl} (h : RGood n r) : RlOk n r := ⟨h.1.1, h.2.2.1, h.2.2.2.1⟩
structure Sch (n : Nat) (rs : List Rl) (ts : List (List Int)) : Prop where
  n1 : 1 ≤ n
  n6 : n ≤ 6
  r6 : rs.length ≤ 4
  rg : ∀ r ∈ rs, RGood n r
  rn : rs.Nodup
  t6 : ts.length ≤ 5
  tg : ∀ t ∈ ts, StOk n t ∧ t ≠ []
  tc : ∀ i : Int, 0 ≤ i → i < n → ∃ t ∈ ts, i ∈ t
theorem isCol_all {n : Nat} {is : List Int} (h : ∀ i ∈ is, 0 ≤ i ∧ i < n) : (is.map PyData.int).all (isCol n) = true := by
  rw [List.all_eq_true]; intro d hd; obtain ⟨i, hi, rfl⟩ := List.mem_map.mp hd
  simp only [isCol, Bool.and_eq_true, decide_eq_true_eq]; exact h i hi
theorem isSt_E {n : Nat} {is : List Int} (h : StOk n is) : isStD n (.tuple (is.map PyData.int)) = true := by
  simp only [isStD, isCol_all h.1, intsOf_map, h.2, Bool.and_self]
theorem isRule_E {n : Nat} {r : Rl} (h : RGood n r) : isRuleD n (rlE r) = true := by
  obtain ⟨h1, h2, h3, h4, h5⟩ := h
  have e : (r.1.map PyData.int).isEmpty = false := by
    cases hr : r.1 with
    | nil => exact absurd hr h2
    | cons a b => rfl
  simp only [rlE, isRuleD, isSt_E h1, tabItems, isCol, notIn, intsOf_map, e, decide_eq_true h3, decide_eq_true h4, decide_eq_false h5, Bool.not_false, Bool.and_self]
theorem onceD_nodupL : ∀ {xs : List D}, xs.Nodup → onceD xs = xs
  | [], _ => rfl
  | x :: xs, h => by
    obtain ⟨h1, h2⟩ := List.nodup_cons.mp h
    rw [onceD, onceD_nodupL h2, List.filter_eq_self.mpr]
    intro y hy
    cases c : sm x y with
    | false => rfl
    | true => rw [sm_eq _ _ c] at h1; exact absurd hy h1
theorem enc_nodup {A : Type} {enc : A → D} {n : Nat} (h : Enc enc n (fun _ => True)) {xs : List A} (hx : xs.Nodup) : (xs.map enc).Nodup :=
  List.pairwise_map.mpr (hx.imp fun {a b} z e => z ((h.eqv a b trivial trivial).mp (by rw [e]; exact (h.eqv b b trivial trivial).mpr rfl)))
theorem Sch.isSch {n : Nat} {rs : List Rl} {ts : List (List Int)} (h : Sch n rs ts) : isSchD (schE n rs ts) = true := by
  have hr : areRulesD n (.tuple (rs.map rlE)) = true := by
    unfold areRulesD
    dsimp only
    rw [onceD_nodupL (enc_nodup rlE_enc h.rn)]
    have a : (rs.map rlE).all (isRuleD n) = true := by
      rw [List.all_eq_true]; intro d hd; obtain ⟨r, hr, rfl⟩ := List.mem_map.mp hd
      exact isRule_E (h.rg r hr)
    have l := h.r6
    rw [a, List.length_map, decide_eq_true (show rs.length ≤ 6 by omega)]; simp
  have ht : areTabsD n (.tuple (ts.map stE')) = true := by
    have a : ((ts.map stE').all fun t => isStD n t && decide (0 < (tabItems t).length)) = true := by
      rw [List.all_eq_true]; intro d hd; obtain ⟨t, ht, rfl⟩ := List.mem_map.mp hd
      obtain ⟨k1, k2⟩ := h.tg t ht
      have : 0 < (t.map PyData.int).length := by rw [List.length_map]; exact List.length_pos_iff.mpr k2
      simp only [stE', isSt_E k1, tabItems, decide_eq_true this, Bool.and_self, Bool.true_and]
      exact decide_eq_true this
    have e : (ts.map stE').flatMap tabItems = ts.flatten.map PyData.int := by
      rw [List.flatMap_map, List.map_flatten, ← List.flatMap_def]; rfl
    have l := h.t6
    have l1 : 1 ≤ ts.length := by
      obtain ⟨t, ht, _⟩ := h.tc 0 (by decide) (by have := h.n1; omega)
      exact List.length_pos_of_mem ht
    unfold areTabsD
    dsimp only
    rw [a, e, List.length_map, decide_eq_true (show 1 ≤ ts.length by omega), decide_eq_true (show ts.length ≤ 6 by omega), intsOf_map, Int.toNat_natCast]
    simp only [Bool.true_and, List.all_eq_true, decide_eq_true_eq]
    intro i hi
    rw [List.mem_range] at hi
    obtain ⟨t, h1, h2⟩ := h.tc i (by omega) (by omega)
    exact List.mem_flatten.mpr ⟨t, h1, h2⟩
  have a1 := h.n1
  have a2 := h.n6
  simp only [schE, isSchD, hr, ht, decide_eq_true (show (1 : Int) ≤ n by omega), decide_eq_true (show (n : Int) ≤ 6 by omega), Bool.and_self]
theorem small_map {A : Type} {enc : A → D} : ∀ {xs : List A}, (∀ x ∈ xs, smallD (enc x) = true) → smallL (xs.map enc) = true
  | [], _ => by simp only [List.map_nil, smallL]
  | x :: xs, h => by
    simp only [List.map_cons, smallL, h x List.mem_cons_self, small_map fun y hy => h y (List.mem_cons_of_mem _ hy), Bool.and_self]
theorem small_T {A : Type} {enc : A → D} {xs : List A} (h : ∀ x ∈ xs, smallD (enc x) = true) (hl : xs.length ≤ 1000) : smallD (.tuple (xs.map enc)) = true := by
  simp only [smallD, small_map h, List.length_map, decide_eq_true hl, Bool.and_self]
theorem small_L {A : Type} {enc : A → D} {xs : List A} (h : ∀ x ∈ xs, smallD (enc x) = true) (hl : xs.length ≤ 1000) : smallD (.list (xs.map enc)) = true := by
  simp only [smallD, small_map h, List.length_map, decide_eq_true hl, Bool.and_self]
theorem StOk.len {n : Nat} {is : List Int} (h : StOk n is) : is.length ≤ n := by
  have := pw_len is 0 n (asc_pw.mp h.2) h.1
  omega
theorem small_st {n : Nat} {is : List Int} (h : StOk n is) (hn : n ≤ 1000) : smallD (.tuple (is.map PyData.int)) = true :=
  small_T (fun _ _ => by simp only [smallD]) (Nat.le_trans h.len hn)
theorem small_rl {n : Nat} {r : Rl} (h : RGood n r) (hn : n ≤ 1000) : smallD (rlE r) = true := by
  unfold rlE
  simp only [smallD, smallL, List.length_cons, List.length_nil]
  have := small_st h.1 hn
  simp only [smallD] at this
  rw [this]; rfl
theorem Sch.small_rs {n : Nat} {rs : List Rl} {ts : List (List Int)} (h : Sch n rs ts) : smallD (.tuple (rs.map rlE)) = true :=
  small_T (fun r hr => small_rl (h.rg r hr) (by have := h.n6; omega)) (by have := h.r6; omega)
theorem Sch.small_ts {n : Nat} {rs : List Rl} {ts : List (List Int)} (h : Sch n rs ts) : smallD (.tuple (ts.map stE')) = true :=
  small_T (fun r hr => small_st (h.tg r hr).1 (by have := h.n6; omega)) (by have := h.t6; omega)
theorem Sch.small {n : Nat} {rs : List Rl} {ts : List (List Int)} (h : Sch n rs ts) : smallD (schE n rs ts) = true := by
  have a := h.small_rs
  have b := h.small_ts
  simp only [smallD] at a b
  simp only [schE, smallD, smallL, a, b, List.length_cons, List.length_nil]; rfl
theorem rg_upTo (n : Nat) (h : n ≤ 1000000) (e : En) : rgR (.int (n : Int)) e = .ok ⟨(upTo n).map PyData.int, [], fun _ => true⟩ e := by
  rw [rgR_int _ _ (by unfold inR; rw [decide_eq_true_eq]; omega), Int.toNat_natCast, range_upTo]
theorem in_list_yes {A : Type} [DecidableEq A] {enc : A → D} {n : Nat} {P : A → Prop} (h : Enc enc n P) (hn : n < 64) {a : A} {xs : List A} (ha : P a) (hx : ∀ x ∈ xs, P x) (hi : a ∈ xs) : inD (enc a) (.list (xs.map enc)) = some true := by
  rw [in_list h hn ha hx, decide_eq_true hi]
theorem in_list_no {A : Type} [DecidableEq A] {enc : A → D} {n : Nat} {P : A → Prop} (h : Enc enc n P) (hn : n < 64) {a : A} {xs : List A} (ha : P a) (hx : ∀ x ∈ xs, P x) (hi : a ∉ xs) : inD (enc a) (.list (xs.map enc)) = some false := by
  rw [in_list h hn ha hx, decide_eq_false hi]
theorem in_tuple_yes {A : Type} [DecidableEq A] {enc : A → D} {n : Nat} {P : A → Prop} (h : Enc enc n P) (hn : n < 64) {a : A} {xs : List A} (ha : P a) (hx : ∀ x ∈ xs, P x) (hi : a ∈ xs) : inD (enc a) (.tuple (xs.map enc)) = some true := by
  rw [in_tuple h hn ha hx, decide_eq_true hi]
theorem in_tuple_no {A : Type} [DecidableEq A] {enc : A → D} {n : Nat} {P : A → Prop} (h : Enc enc n P) (hn : n < 64) {a : A} {xs : List A} (ha : P a) (hx : ∀ x ∈ xs, P x) (hi : a ∉ xs) : inD (enc a) (.tuple (xs.map enc)) = some false := by
  rw [in_tuple h hn ha hx, decide_eq_false hi]
end Zv

set_option Elab.async false
set_option autoImplicit false
set_option linter.all false
set_option maxRecDepth 100000
/-! ZLo: the law's own closures -/
namespace Zv
open PySem
def appl (f : List Int) (r : Rl) : Bool := !decide (r.2 ∈ f) && r.1.all fun a => decide (a ∈ f)
def moreL (rs : List Rl) (f : List Int) : List Int := (rs.filter (appl f)).map (·.2)
def stepL (rs : List Rl) (f : List Int) : List Int := f ++ (moreL rs f).take 1
def stepsL (rs : List Rl) : Nat → List Int → List Int
  | 0, f => f
  | k + 1, f => stepsL rs k (stepL rs f)
structure FOk (n : Nat) (rs : List Rl) (cs f : List Int) : Prop where
  nd : f.Nodup
  rg : ∀ i ∈ f, 0 ≤ i ∧ i < n
  up : ∀ i ∈ cs, i ∈ f
  dn : ∀ i ∈ f, Lst rs cs i
theorem nodup_len {n : Nat} {f : List Int} (h : f.Nodup) (hb : ∀ i ∈ f, 0 ≤ i ∧ i < n) : f.length ≤ n := by
  have := pw_len (sortI f) 0 n (asc_pw.mp (sortI_asc h)) fun i hi => hb i (mem_sortI.mp hi)
  have e : (sortI f).length = f.length := (isort_perm f).length_eq
  omega
theorem appl_iff {f : List Int} {r : Rl} : appl f r = true ↔ r.2 ∉ f ∧ ∀ a ∈ r.1, a ∈ f := by
  unfold appl
  simp only [Bool.and_eq_true, Bool.not_eq_true', decide_eq_false_iff_not, List.all_eq_true, decide_eq_true_eq]
theorem step_ok {n : Nat} {rs : List Rl} {cs f : List Int} (hr : ∀ r ∈ rs, RlOk n r) (h : FOk n rs cs f) : FOk n rs cs (stepL rs f) ∧ (moreL rs f = [] ∨ (stepL rs f).length = f.length + 1) := by
  cases hm : moreL rs f with
  | nil =>
    have e : stepL rs f = f := by unfold stepL; rw [hm]; simp
    rw [e]; exact ⟨h, .inl rfl⟩
  | cons a as =>
    have e : stepL rs f = f ++ [a] := by unfold stepL; rw [hm]; rfl
    have ha : a ∈ moreL rs f := by rw [hm]; exact List.mem_cons_self
    obtain ⟨r, hr2, rfl⟩ := List.mem_map.mp ha
    obtain ⟨hr1, hr2⟩ := List.mem_filter.mp hr2
    obtain ⟨k1, k2⟩ := appl_iff.mp hr2
    rw [e]
    refine ⟨⟨?_, ?_, fun i hi => List.mem_append_left _ (h.up i hi), ?_⟩, .inr (by rw [List.length_append]; rfl)⟩
    · rw [List.nodup_append]
      exact ⟨h.nd, by simp, fun x hx y hy z => k1 (by rw [List.mem_singleton.mp hy] at z; rw [← z]; exact hx)⟩
    · intro i hi
      rcases List.mem_append.mp hi with hi | hi
      · exact h.rg i hi
      · rw [List.mem_singleton.mp hi]; exact (hr r hr1).2
    · intro i hi
      rcases List.mem_append.mp hi with hi | hi
      · exact h.dn i hi
      · rw [List.mem_singleton.mp hi]; exact Lst.rule hr1 fun b hb => h.dn b (k2 b hb)
theorem steps_nil {rs : List Rl} {f : List Int} (h : moreL rs f = []) : ∀ j, stepsL rs j f = f
  | 0 => rfl
  | j + 1 => by
    have e : stepL rs f = f := by unfold stepL; rw [h]; simp
    rw [stepsL, e]; exact steps_nil h j
theorem steps_ok {n : Nat} {rs : List Rl} {cs : List Int} (hr : ∀ r ∈ rs, RlOk n r) : ∀ (j : Nat) (f : List Int), FOk n rs cs f → FOk n rs cs (stepsL rs j f) ∧ (moreL rs (stepsL rs j f) = [] ∨ f.length + j ≤ (stepsL rs j f).length)
  | 0, f, h => ⟨h, .inr (Nat.le_refl _)⟩
  | j + 1, f, h => by
    obtain ⟨h1, h2⟩ := step_ok hr h
    obtain ⟨h3, h4⟩ := steps_ok hr j _ h1
    refine ⟨h3, ?_⟩
    rcases h2 with h2 | h2
    · left
      rw [stepsL]
      have e : stepL rs f = f := by unfold stepL; rw [h2]; simp
      rw [e, steps_nil h2]; exact h2
    · rcases h4 with h4 | h4
      · exact .inl h4
      · right; rw [stepsL]; omega
theorem steps_end {n : Nat} {rs : List Rl} {cs : List Int} (hn : n ≤ 6) (hr : ∀ r ∈ rs, RlOk n r) (hc : ∀ i ∈ cs, 0 ≤ i ∧ i < n) (hd : cs.Nodup) : FOk n rs cs (stepsL rs 6 cs) ∧ ∀ a, a ∈ stepsL rs 6 cs ↔ Lst rs cs a := by
  obtain ⟨h1, h2⟩ := steps_ok hr 6 cs ⟨hd, hc, fun _ h => h, fun _ h => Lst.base h⟩
  refine ⟨h1, fun a => ⟨h1.dn a, fun h => ?_⟩⟩
  have hm : moreL rs (stepsL rs 6 cs) = [] := by
    rcases h2 with h2 | h2
    · exact h2
    · obtain ⟨h3, h4⟩ := step_ok hr h1
      rcases h4 with h4 | h4
      · exact h4
      · have := nodup_len h3.nd h3.rg
        omega
  refine h (· ∈ stepsL rs 6 cs) (fun r hr' hb => ?_) h1.up
  refine Classical.byContradiction fun z => ?_
  have : r.2 ∈ moreL rs (stepsL rs 6 cs) := List.mem_map.mpr ⟨r, List.mem_filter.mpr ⟨hr', appl_iff.mpr ⟨z, hb⟩⟩, rfl⟩
  rw [hm] at this
  cases this
def lawCl (rs : List Rl) (cs : List Int) : List Int := sortI (stepsL rs 6 cs)
theorem lawCl_ok {n : Nat} {rs : List Rl} {cs : List Int} (hn : n ≤ 6) (hr : ∀ r ∈ rs, RlOk n r) (hc : StOk n cs) : StOk n (lawCl rs cs) ∧ ∀ a, a ∈ lawCl rs cs ↔ Lst rs cs a := by
  obtain ⟨h1, h2⟩ := steps_end hn hr hc.1 (pw_nodup (asc_pw.mp hc.2))
  exact ⟨⟨fun i hi => h1.rg i (mem_sortI.mp hi), sortI_asc h1.nd⟩, fun a => mem_sortI.trans (h2 a)⟩
theorem cut_first (xs : List D) : cutD none (some 1) (.list xs) = some (.fr (.list (xs.take 1))) := by
  unfold cutD cutL cutIx
  simp only [List.drop_zero, Nat.sub_zero, Option.some.injEq, EV.fr.injEq, PyData.list.injEq]
  rw [if_neg (by decide)]
  rcases xs with _ | ⟨x, xs⟩
  · rfl
  · have e : min (1 : Int).toNat (x :: xs).length = 1 := by simp
    rw [e]
end Zv

set_option Elab.async false
set_option autoImplicit false
set_option linter.all false
set_option maxRecDepth 100000
namespace Zv.K72
open PySem PySem.Spec L2
open PyProof.Rows hiding St
def topS (i : Nat) : Stmt := PySem.Challenge.pw_keykinds_k72_whole_families_of_closed_se.main.body.getD i (.Pass ⟨0, 0, 0, 0⟩)
def b_is_whole : Ss := (.cons (.ret (.an (.cons (.isi .int (.v 0)) (.cons (.nt (.isi .bool (.v 0))) .nil)))) .nil)
abbrev i_is_whole : Nat := 0
def q_is_set_1 : E := (.lc [2] (.an (.cons (.call 0 (.cons (.v 2) .nil)) (.cons (.chain .le .lt (.k (.int 0)) (.v 2) (.v 1)) .nil))) (.nm 2) (.sq (.v 0)) .nil)
def q_is_set_2 : E := (.lc [2, 3] (.cmp .lt (.v 2) (.v 3)) (.tup (.cons (.nm 2) (.cons (.nm 3) .nil))) (.zip (.v 0) (.cut (.v 0) (.some (.k (.int 1))) .none)) .nil)
def b_is_set : Ss := (.cons (.iff (.orr (.cons (.nt (.isi .tuple (.v 0))) (.cons (.nt (.p1 .all q_is_set_1)) .nil))) (.cons (.ret (.k (.bool false))) .nil) .nil) (.cons (.ret (.p1 .all q_is_set_2)) .nil))
abbrev i_is_set : Nat := 1
def b_is_rule : Ss := (.cons (.iff (.orr (.cons (.nt (.isi .tuple (.v 0))) (.cons (.cmp .ne (.p1 .len (.v 0)) (.k (.int 2))) (.cons (.nt (.call 1 (.cons (.idx (.v 0) (.k (.int 0))) (.cons (.v 1) .nil)))) (.cons (.cmp .eq (.p1 .len (.idx (.v 0) (.k (.int 0)))) (.k (.int 0))) .nil))))) (.cons (.ret (.k (.bool false))) .nil) .nil) (.cons (.ret (.an (.cons (.call 0 (.cons (.idx (.v 0) (.k (.int 1))) .nil)) (.cons (.chain .le .lt (.k (.int 0)) (.idx (.v 0) (.k (.int 1))) (.v 1)) (.cons (.cmp .notIn (.idx (.v 0) (.k (.int 1))) (.idx (.v 0) (.k (.int 0)))) .nil))))) .nil))
abbrev i_is_rule : Nat := 2
def q_are_rules_1 : E := (.lc [2] (.call 2 (.cons (.v 2) (.cons (.v 1) .nil))) (.nm 2) (.sq (.v 0)) .nil)
def b_are_rules : Ss := (.cons (.iff (.orr (.cons (.nt (.isi .tuple (.v 0))) (.cons (.cmp .gt (.p1 .len (.v 0)) (.g 0)) (.cons (.nt (.p1 .all q_are_rules_1)) .nil)))) (.cons (.ret (.k (.bool false))) .nil) .nil) (.cons (.ret (.cmp .eq (.p1 .lset (.v 0)) (.p1 .len (.v 0)))) .nil))
abbrev i_are_rules : Nat := 3
def q_are_tables_1 : E := (.lc [2] (.an (.cons (.call 1 (.cons (.v 2) (.cons (.v 1) .nil))) (.cons (.cmp .gt (.p1 .len (.v 2)) (.k (.int 0))) .nil))) (.nm 2) (.sq (.v 0)) .nil)
def q_are_tables_2 : E := (.lc2 [2, 3] [3] (.v 3) (.nm 2) (.sq (.v 0)) .nil (.nm 3) (.sq (.v 2)) .nil)
def b_are_tables : Ss := (.cons (.iff (.orr (.cons (.nt (.isi .tuple (.v 0))) (.cons (.nt (.chain .le .le (.k (.int 1)) (.p1 .len (.v 0)) (.g 1))) .nil))) (.cons (.ret (.k (.bool false))) .nil) .nil) (.cons (.iff (.nt (.p1 .all q_are_tables_1)) (.cons (.ret (.k (.bool false))) .nil) .nil) (.cons (.ret (.cmp .eq (.p1 .sset q_are_tables_2) (.pit .list (.rg (.v 1))))) .nil)))
abbrev i_are_tables : Nat := 4
def b_is_scheme : Ss := (.cons (.iff (.orr (.cons (.nt (.isi .tuple (.v 0))) (.cons (.cmp .ne (.p1 .len (.v 0)) (.k (.int 3))) (.cons (.nt (.call 0 (.cons (.idx (.v 0) (.k (.int 0))) .nil))) (.cons (.nt (.chain .le .le (.k (.int 1)) (.idx (.v 0) (.k (.int 0))) (.g 2))) .nil))))) (.cons (.ret (.k (.bool false))) .nil) .nil) (.cons (.ret (.an (.cons (.call 3 (.cons (.idx (.v 0) (.k (.int 1))) (.cons (.idx (.v 0) (.k (.int 0))) .nil))) (.cons (.call 4 (.cons (.idx (.v 0) (.k (.int 2))) (.cons (.idx (.v 0) (.k (.int 0))) .nil))) .nil)))) .nil))
abbrev i_is_scheme : Nat := 5
def b_check_scheme : Ss := (.cons (.iff (.nt (.call 5 (.cons (.v 0) .nil))) (.cons (.raise 0 none) .nil) .nil) .nil)
abbrev i_check_scheme : Nat := 6
def b_mask_of_set_L1 : Ss := (.cons (.aug 1 .bor (.bin .shl (.k (.int 1)) (.v 2))) .nil)
def b_mask_of_set : Ss := (.cons (.asg (.nm 1) (.k (.int 0))) (.cons (.for (.nm 2) (.sq (.v 0)) b_mask_of_set_L1) (.cons (.ret (.v 1)) .nil)))
abbrev i_mask_of_set : Nat := 7
def q_rules_as_masks_1 : E := (.lc [1, 2] (.tup (.cons (.call 7 (.cons (.v 1) .nil)) (.cons (.bin .shl (.k (.int 1)) (.v 2)) .nil))) (.tup (.cons (.nm 1) (.cons (.nm 2) .nil))) (.sq (.idx (.v 0) (.k (.int 1)))) .nil)
def b_rules_as_masks : Ss := (.cons (.ret q_rules_as_masks_1) .nil)
abbrev i_rules_as_masks : Nat := 8
def b_closure_of_L2 : Ss := (.cons (.iff (.an (.cons (.cmp .eq (.bin .band (.v 4) (.inv (.v 2))) (.k (.int 0))) (.cons (.bin .band (.v 5) (.inv (.v 2))) .nil))) (.cons (.aug 2 .bor (.v 5)) (.cons (.asg (.nm 3) (.k (.bool true))) .nil)) .nil) .nil)
def b_closure_of_L1 : Ss := (.cons (.asg (.nm 3) (.k (.bool false))) (.cons (.for (.tup (.cons (.nm 4) (.cons (.nm 5) .nil))) (.sq (.v 0)) b_closure_of_L2) .nil))
def b_closure_of : Ss := (.cons (.par (.cons (.nm 2) (.cons (.nm 3) .nil)) (.cons (.v 1) (.cons (.k (.bool true)) .nil))) (.cons (.whl (.v 3) b_closure_of_L1) (.cons (.ret (.v 2)) .nil)))
abbrev i_closure_of : Nat := 9
def q_all_sets_fillings_1 : E := (.lc [4] (.bin .add (.v 4) (.tup (.cons (.v 2) .nil))) (.nm 4) (.sq (.v 1)) .nil)
def b_all_sets_fillings_L1 : Ss := (.cons (.asg (.nm 1) (.bin .add (.v 1) q_all_sets_fillings_1)) .nil)
def q_all_sets_fillings_3 : E := (.lc [4] (.tup (.cons (.p1 .len (.v 4)) (.cons (.v 4) .nil))) (.nm 4) (.sq (.v 1)) .nil)
def q_all_sets_fillings_2 : E := (.lc [3, 4] (.v 4) (.tup (.cons (.nm 3) (.cons (.nm 4) .nil))) (.sq (.p1 .sorted q_all_sets_fillings_3)) .nil)
def b_all_sets_fillings : Ss := (.cons (.asg (.nm 1) (.lst (.cons (.tup .nil) .nil))) (.cons (.for (.nm 2) (.rg (.v 0)) b_all_sets_fillings_L1) (.cons (.ret q_all_sets_fillings_2) .nil)))
abbrev i_all_sets_fillings : Nat := 10
def q_found_closed_1 : E := (.lc [2] (.v 2) (.nm 2) (.sq (.call 10 (.cons (.idx (.v 0) (.k (.int 0))) .nil))) (.cons (.cmp .eq (.call 9 (.cons (.v 1) (.cons (.call 7 (.cons (.v 2) .nil)) .nil))) (.call 7 (.cons (.v 2) .nil))) .nil))
def b_found_closed : Ss := (.cons (.asg (.nm 1) (.call 8 (.cons (.v 0) .nil))) (.cons (.ret (.p1 .sorted q_found_closed_1)) .nil))
abbrev i_found_closed : Nat := 11
def q_all_sets_counting_1 : E := (.lc [3] (.bin .add (.v 3) (.tup (.cons (.v 2) .nil))) (.nm 3) (.sq (.v 1)) .nil)
def b_all_sets_counting_L1 : Ss := (.cons (.asg (.nm 1) (.bin .add (.v 1) q_all_sets_counting_1)) .nil)
def b_all_sets_counting : Ss := (.cons (.asg (.nm 1) (.lst (.cons (.tup .nil) .nil))) (.cons (.for (.nm 2) (.rg (.v 0)) b_all_sets_counting_L1) (.cons (.ret (.p1 .sorted (.v 1))) .nil)))
abbrev i_all_sets_counting : Nat := 12
def q_common_of_1 : E := (.lc [2] (.v 2) (.nm 2) (.sq (.v 0)) (.cons (.cmp .inn (.v 2) (.v 1)) .nil))
def b_common_of : Ss := (.cons (.ret (.p1 .tuple q_common_of_1)) .nil)
abbrev i_common_of : Nat := 13
def b_is_few : Ss := (.cons (.ret (.an (.cons (.call 0 (.cons (.v 0) .nil)) (.cons (.chain .le .le (.k (.int 1)) (.v 0) (.g 3)) .nil)))) .nil)
abbrev i_is_few : Nat := 14
def q_are_closed_1 : E := (.lc2 [2, 3] [3] (.cmp .inn (.call 13 (.cons (.v 2) (.cons (.v 3) .nil))) (.v 1)) (.nm 2) (.sq (.v 1)) .nil (.nm 3) (.sq (.v 1)) .nil)
def b_are_closed : Ss := (.cons (.iff (.orr (.cons (.cmp .notIn (.tup .nil) (.v 1)) (.cons (.cmp .notIn (.pit .tuple (.rg (.v 0))) (.v 1)) .nil))) (.cons (.ret (.k (.bool false))) .nil) .nil) (.cons (.ret (.p1 .all q_are_closed_1)) .nil))
abbrev i_are_closed : Nat := 15
def q_is_family_1 : E := (.lc [2] (.call 1 (.cons (.v 2) (.cons (.v 0) .nil))) (.nm 2) (.sq (.v 1)) .nil)
def q_is_family_2 : E := (.lc [3, 4] (.cmp .lt (.v 3) (.v 4)) (.tup (.cons (.nm 3) (.cons (.nm 4) .nil))) (.zip (.v 1) (.cut (.v 1) (.some (.k (.int 1))) .none)) .nil)
def b_is_family : Ss := (.cons (.iff (.orr (.cons (.nt (.isi .tuple (.v 1))) (.cons (.nt (.p1 .all q_is_family_1)) .nil))) (.cons (.ret (.k (.bool false))) .nil) .nil) (.cons (.ret (.an (.cons (.p1 .all q_is_family_2) (.cons (.call 15 (.cons (.v 0) (.cons (.v 1) .nil))) .nil)))) .nil))
abbrev i_is_family : Nat := 16
def q_families_1 : E := (.lc [4] (.bin .add (.v 4) (.tup (.cons (.v 2) .nil))) (.nm 4) (.sq (.v 1)) .nil)
def b_families_L1 : Ss := (.cons (.iff (.chain .lt .lt (.k (.int 0)) (.p1 .len (.v 2)) (.v 0)) (.cons (.asg (.nm 1) (.bin .add (.v 1) q_families_1)) .nil) .nil) .nil)
def q_families_2 : E := (.lc [4] (.p1 .tuple (.p1 .sorted (.bin .add (.v 4) (.tup (.cons (.tup .nil) (.cons (.pit .tuple (.rg (.v 0))) .nil)))))) (.nm 4) (.sq (.v 1)) .nil)
def q_families_3 : E := (.lc [4] (.v 4) (.nm 4) (.sq (.v 3)) (.cons (.call 15 (.cons (.v 0) (.cons (.v 4) .nil))) .nil))
def b_families : Ss := (.cons (.iff (.nt (.call 14 (.cons (.v 0) .nil))) (.cons (.raise 0 none) .nil) .nil) (.cons (.asg (.nm 1) (.lst (.cons (.tup .nil) .nil))) (.cons (.for (.nm 2) (.sq (.call 12 (.cons (.v 0) .nil))) b_families_L1) (.cons (.asg (.nm 3) q_families_2) (.cons (.ret (.p1 .tuple (.p1 .sorted q_families_3))) .nil)))))
abbrev i_families : Nat := 17
def b_family_of : Ss := (.cons (.ex (.call 6 (.cons (.v 0) .nil))) (.cons (.iff (.cmp .gt (.idx (.v 0) (.k (.int 0))) (.g 3)) (.cons (.raise 0 none) .nil) .nil) (.cons (.ret (.p1 .tuple (.call 11 (.cons (.v 0) .nil)))) .nil)))
abbrev i_family_of : Nat := 18
def q_rules_of_1 : E := (.lc [5] (.v 5) (.nm 5) (.sq (.v 1)) (.cons (.cmp .eq (.call 13 (.cons (.v 3) (.cons (.v 5) .nil))) (.v 3)) .nil))
def q_rules_of_3 : E := (.lc [5] (.cmp .inn (.v 6) (.v 5)) (.nm 5) (.sq (.v 4)) .nil)
def q_rules_of_2 : E := (.lc [6] (.tup (.cons (.v 3) (.cons (.v 6) .nil))) (.nm 6) (.rg (.v 0)) (.cons (.an (.cons (.cmp .notIn (.v 6) (.v 3)) (.cons (.p1 .all q_rules_of_3) .nil))) .nil))
def b_rules_of_L1 : Ss := (.cons (.asg (.nm 4) q_rules_of_1) (.cons (.iff (.cmp .gt (.p1 .len (.v 3)) (.k (.int 0))) (.cons (.ext 2 q_rules_of_2) .nil) .nil) .nil))
def b_rules_of : Ss := (.cons (.iff (.orr (.cons (.nt (.call 14 (.cons (.v 0) .nil))) (.cons (.nt (.call 16 (.cons (.v 0) (.cons (.v 1) .nil)))) .nil))) (.cons (.raise 0 none) .nil) .nil) (.cons (.asg (.ow 2) (.lst .nil)) (.cons (.for (.nm 3) (.sq (.call 12 (.cons (.v 0) .nil))) b_rules_of_L1) (.cons (.ret (.p1 .tuple (.p1 .sorted (.v 2)))) .nil))))
abbrev i_rules_of : Nat := 19
def b__law_draw_L1 : Ss := (.cons (.asg (.nm 1) (.bin .mod (.p1 .int (.bin .add (.bin .add (.bin .mul (.v 1) (.k (.int 48271))) (.bin .mod (.p1 .abs (.p1 .int (.v 2))) (.k (.int 65521)))) (.k (.int 1)))) (.k (.int 2147483647)))) .nil)
def q__law_draw_1 : E := (.lc [2] (.p1 .abs (.p1 .int (.v 2))) (.nm 2) (.sq (.v 0)) .nil)
def b__law_draw : Ss := (.cons (.asg (.nm 1) (.k (.int 7))) (.cons (.for (.nm 2) (.sq (.v 0)) b__law_draw_L1) (.cons (.ret (.lst (.cons q__law_draw_1 (.cons (.neg (.k (.int 1))) (.cons (.k (.int 0)) (.cons (.v 1) .nil)))))) .nil)))
abbrev i__law_draw : Nat := 20
def b__law_take : Ss := (.cons (.iff (.cmp .eq (.idx (.v 0) (.k (.int 2))) (.k (.int 0))) (.cons (.setI 0 (.k (.int 1)) (.bin .add (.idx (.v 0) (.k (.int 1))) (.k (.int 1)))) (.cons (.iff (.cmp .lt (.idx (.v 0) (.k (.int 1))) (.p1 .len (.idx (.v 0) (.k (.int 0))))) (.cons (.setI 0 (.k (.int 2)) (.idx (.idx (.v 0) (.k (.int 0))) (.idx (.v 0) (.k (.int 1))))) .nil) .nil) (.cons (.iff (.cmp .eq (.idx (.v 0) (.k (.int 2))) (.k (.int 0))) (.cons (.setI 0 (.k (.int 3)) (.bin .mod (.p1 .int (.bin .add (.bin .mul (.idx (.v 0) (.k (.int 3))) (.k (.int 48271))) (.k (.int 11)))) (.k (.int 2147483647)))) (.cons (.setI 0 (.k (.int 2)) (.idx (.v 0) (.k (.int 3)))) .nil)) .nil) .nil))) .nil) (.cons (.asg (.nm 2) (.bin .mod (.p1 .int (.idx (.v 0) (.k (.int 2)))) (.v 1))) (.cons (.setI 0 (.k (.int 2)) (.bin .fdiv (.idx (.v 0) (.k (.int 2))) (.v 1))) (.cons (.ret (.v 2)) .nil))))
abbrev i__law_take : Nat := 21
def q__law_set_1 : E := (.lc [3] (.v 3) (.nm 3) (.rg (.v 1)) (.cons (.cmp .eq (.call 21 (.cons (.v 0) (.cons (.v 2) .nil))) (.k (.int 0))) .nil))
def b__law_set : Ss := (.cons (.ret (.p1 .tuple q__law_set_1)) .nil)
abbrev i__law_set : Nat := 22
def b__law_scheme_L1 : Ss := (.cons (.par (.cons (.nm 8) (.cons (.nm 9) .nil)) (.cons (.call 22 (.cons (.v 0) (.cons (.v 2) (.cons (.k (.int 3)) .nil)))) (.cons (.call 21 (.cons (.v 0) (.cons (.v 2) .nil))) .nil))) (.cons (.iff (.an (.cons (.cmp .ne (.v 8) (.tup .nil)) (.cons (.cmp .notIn (.v 9) (.v 8)) (.cons (.cmp .notIn (.tup (.cons (.v 8) (.cons (.v 9) .nil))) (.v 3)) .nil)))) (.cons (.app 3 (.tup (.cons (.v 8) (.cons (.v 9) .nil)))) .nil) .nil) .nil))
def b__law_scheme_L2 : Ss := (.cons (.asg (.nm 7) (.call 22 (.cons (.v 0) (.cons (.v 2) (.cons (.k (.int 2)) .nil))))) (.cons (.iff (.cmp .ne (.v 7) (.tup .nil)) (.cons (.app 5 (.v 7)) .nil) .nil) .nil))
def q__law_scheme_2 : E := (.lc [7] (.cmp .inn (.v 10) (.v 7)) (.nm 7) (.sq (.v 5)) .nil)
def q__law_scheme_1 : E := (.lc [10] (.v 10) (.nm 10) (.rg (.v 2)) (.cons (.nt (.p1 .any q__law_scheme_2)) .nil))
def b__law_scheme : Ss := (.cons (.asg (.nm 2) (.bin .add (.k (.int 1)) (.call 21 (.cons (.v 0) (.cons (.v 1) .nil))))) (.cons (.asg (.ow 3) (.lst .nil)) (.cons (.for (.nm 4) (.rg (.call 21 (.cons (.v 0) (.cons (.k (.int 5)) .nil)))) b__law_scheme_L1) (.cons (.asg (.ow 5) (.lst .nil)) (.cons (.for (.nm 4) (.rg (.bin .add (.k (.int 1)) (.call 21 (.cons (.v 0) (.cons (.k (.int 4)) .nil))))) b__law_scheme_L2) (.cons (.asg (.nm 6) (.p1 .tuple q__law_scheme_1)) (.cons (.iff (.cmp .ne (.v 6) (.tup .nil)) (.cons (.app 5 (.v 6)) .nil) .nil) (.cons (.ret (.tup (.cons (.v 2) (.cons (.p1 .tuple (.v 3)) (.cons (.p1 .tuple (.v 5)) .nil))))) .nil))))))))
abbrev i__law_scheme : Nat := 23
def q__law_closure_2 : E := (.lc [7] (.cmp .inn (.v 7) (.v 2)) (.nm 7) (.sq (.v 5)) .nil)
def q__law_closure_1 : E := (.lc [5, 6] (.v 6) (.tup (.cons (.nm 5) (.cons (.nm 6) .nil))) (.sq (.v 0)) (.cons (.an (.cons (.cmp .notIn (.v 6) (.v 2)) (.cons (.p1 .all q__law_closure_2) .nil))) .nil))
def b__law_closure_L1 : Ss := (.cons (.asg (.nm 4) q__law_closure_1) (.cons (.asg (.nm 2) (.bin .add (.v 2) (.cut (.v 4) .none (.some (.k (.int 1)))))) .nil))
def b__law_closure : Ss := (.cons (.asg (.nm 2) (.p1 .list (.v 1))) (.cons (.for (.nm 3) (.rg (.k (.int 6))) b__law_closure_L1) (.cons (.ret (.p1 .tuple (.p1 .sorted (.v 2)))) .nil)))
abbrev i__law_closure : Nat := 24
def q__law_sets_1 : E := (.lc [4] (.bin .add (.v 4) (.tup (.cons (.v 2) .nil))) (.nm 4) (.sq (.v 1)) .nil)
def b__law_sets_L1 : Ss := (.cons (.asg (.nm 1) (.bin .add (.v 1) q__law_sets_1)) .nil)
def q__law_sets_3 : E := (.lc [4] (.tup (.cons (.p1 .len (.v 4)) (.cons (.v 4) .nil))) (.nm 4) (.sq (.v 1)) .nil)
def q__law_sets_2 : E := (.lc [3, 4] (.v 4) (.tup (.cons (.nm 3) (.cons (.nm 4) .nil))) (.sq (.p1 .sorted q__law_sets_3)) .nil)
def b__law_sets : Ss := (.cons (.asg (.nm 1) (.lst (.cons (.tup .nil) .nil))) (.cons (.for (.nm 2) (.rg (.v 0)) b__law_sets_L1) (.cons (.ret q__law_sets_2) .nil)))
abbrev i__law_sets : Nat := 25
def b__law_odd_scheme : Ss := (.cons (.asg (.tup (.cons (.nm 3) (.cons (.nm 4) (.cons (.nm 5) .nil)))) (.v 1)) (.cons (.asg (.nm 2) (.lst (.cons (.k .none) (.cons (.tup .nil) (.cons (.k (.int 5)) (.cons (.lst (.cons (.v 3) (.cons (.v 4) (.cons (.v 5) .nil)))) (.cons (.tup (.cons (.v 3) (.cons (.v 4) .nil))) (.cons (.tup (.cons (.k (.int 0)) (.cons (.tup .nil) (.cons (.tup (.cons (.tup (.cons (.k (.int 0)) .nil)) .nil)) .nil)))) (.cons (.tup (.cons (.k (.int 7)) (.cons (.v 4) (.cons (.v 5) .nil)))) (.cons (.tup (.cons (.k (.bool true)) (.cons (.v 4) (.cons (.v 5) .nil)))) (.cons (.tup (.cons (.v 3) (.cons (.p1 .list (.v 4)) (.cons (.v 5) .nil)))) (.cons (.tup (.cons (.v 3) (.cons (.v 4) (.cons (.tup .nil) .nil)))) .nil)))))))))))) (.cons (.asg (.nm 2) (.bin .add (.v 2) (.lst (.cons (.tup (.cons (.v 3) (.cons (.v 4) (.cons (.bin .add (.v 5) (.tup (.cons (.tup .nil) .nil))) .nil)))) (.cons (.tup (.cons (.v 3) (.cons (.tup (.cons (.tup (.cons (.tup .nil) (.cons (.k (.int 0)) .nil))) .nil)) (.cons (.v 5) .nil)))) (.cons (.tup (.cons (.v 3) (.cons (.tup (.cons (.tup (.cons (.tup (.cons (.k (.int 0)) .nil)) (.cons (.k (.int 0)) .nil))) .nil)) (.cons (.v 5) .nil)))) (.cons (.tup (.cons (.k (.int 2)) (.cons (.tup .nil) (.cons (.tup (.cons (.tup (.cons (.k (.int 0)) .nil)) .nil)) .nil)))) (.cons (.tup (.cons (.v 3) (.cons (.v 4) (.cons (.bin .add (.v 5) (.tup (.cons (.tup (.cons (.v 3) .nil)) .nil))) .nil)))) (.cons (.tup (.cons (.k (.int 2)) (.cons (.tup .nil) (.cons (.tup (.cons (.tup (.cons (.k (.int 1)) (.cons (.k (.int 0)) .nil))) .nil)) .nil)))) .nil))))))))) (.cons (.ret (.idx (.bin .add (.v 2) (.lst (.cons (.tup (.cons (.v 3) (.cons (.v 4) (.cons (.bin .mul (.v 5) (.k (.int 7))) .nil)))) (.cons (.tup (.cons (.k (.int 2)) (.cons (.tup (.cons (.tup (.cons (.tup (.cons (.k (.int 0)) .nil)) (.cons (.k (.int 1)) .nil))) (.cons (.tup (.cons (.tup (.cons (.k (.int 0)) .nil)) (.cons (.k (.int 1)) .nil))) .nil))) (.cons (.tup (.cons (.tup (.cons (.k (.int 0)) (.cons (.k (.int 1)) .nil))) .nil)) .nil)))) .nil)))) (.call 21 (.cons (.v 0) (.cons (.k (.int 18)) .nil))))) .nil))))
abbrev i__law_odd_scheme : Nat := 26
def b__law_told : Ss := (.cons (.try (.cons (.iff (.cmp .eq (.v 0) (.k (.int 0))) (.cons (.ret (.call 17 (.cons (.v 1) .nil))) .nil) .nil) (.cons (.ret (.ife (.cmp .eq (.v 0) (.k (.int 1))) (.call 18 (.cons (.v 1) .nil)) (.call 19 (.cons (.v 1) (.cons (.v 2) .nil))))) .nil)) (.cons 0 (.k (.str ⟨#[60, 109, 97, 108, 102, 111, 114, 109, 101, 100, 62]⟩)) .nil)) .nil)
abbrev i__law_told : Nat := 27
def q_law_1 : E := (.lc [16] (.v 16) (.nm 16) (.sq (.call 25 (.cons (.v 13) .nil))) (.cons (.cmp .eq (.call 24 (.cons (.v 14) (.cons (.v 16) .nil))) (.v 16)) .nil))
def q_law_2 : E := (.lc [17] (.tup (.cons (.v 11) (.cons (.v 17) .nil))) (.nm 17) (.sq (.call 24 (.cons (.v 14) (.cons (.v 11) .nil)))) (.cons (.cmp .notIn (.v 17) (.v 11)) .nil))
def b_law_L2 : Ss := (.cons (.asg (.nm 10) (.bin .add (.v 10) q_law_2)) .nil)
def q_law_3 : E := (.lc [16] (.v 16) (.nm 16) (.sq (.call 25 (.cons (.v 13) .nil))) (.cons (.cmp .eq (.call 24 (.cons (.v 6) (.cons (.v 16) .nil))) (.v 16)) .nil))
def b_law_L1 : Ss := (.cons (.asg (.nm 7) (.call 23 (.cons (.v 1) (.cons (.k (.int 3)) .nil)))) (.cons (.asg (.tup (.cons (.nm 13) (.cons (.nm 14) (.cons (.nm 15) .nil)))) (.v 7)) (.cons (.asg (.nm 8) (.p1 .tuple (.p1 .sorted q_law_1))) (.cons (.asg (.nm 9) (.call 17 (.cons (.v 13) .nil))) (.cons (.iff (.orr (.cons (.cmp .ne (.p1 .repr (.call 18 (.cons (.v 7) .nil))) (.p1 .repr (.v 8))) (.cons (.cmp .notIn (.v 8) (.v 9)) (.cons (.cmp .ne (.p1 .len (.v 9)) (.idx (.lst (.cons (.k (.int 1)) (.cons (.k (.int 4)) (.cons (.k (.int 45)) .nil)))) (.bin .sub (.v 13) (.k (.int 1))))) (.cons (.cmp .ne (.p1 .list (.v 9)) (.p1 .sset (.v 9))) .nil))))) (.cons (.ret (.k (.bool false))) .nil) .nil) (.cons (.asg (.nm 10) (.lst .nil)) (.cons (.for (.nm 11) (.sq (.cut (.call 25 (.cons (.v 13) .nil)) (.some (.k (.int 1))) .none)) b_law_L2) (.cons (.iff (.cmp .ne (.p1 .repr (.call 19 (.cons (.v 13) (.cons (.v 8) .nil)))) (.p1 .repr (.p1 .tuple (.p1 .sorted (.v 10))))) (.cons (.ret (.k (.bool false))) .nil) .nil) (.cons (.asg (.nm 12) (.idx (.v 9) (.call 21 (.cons (.v 1) (.cons (.p1 .len (.v 9)) .nil))))) (.cons (.asg (.nm 6) (.call 19 (.cons (.v 13) (.cons (.v 12) .nil)))) (.cons (.iff (.cmp .ne (.p1 .tuple (.p1 .sorted q_law_3)) (.v 12)) (.cons (.ret (.k (.bool false))) .nil) .nil) .nil)))))))))))
def b_law : Ss := (.cons (.asg (.ow 1) (.call 20 (.cons (.v 0) .nil))) (.cons (.for (.nm 2) (.rg (.k (.int 2))) b_law_L1) (.cons (.asg (.nm 3) (.call 26 (.cons (.v 1) (.cons (.v 7) .nil)))) (.cons (.asg (.nm 4) (.idx (.lst (.cons (.k .none) (.cons (.k (.int 0)) (.cons (.k (.int 4)) (.cons (.k (.bool true)) (.cons (.k (.str ⟨#[50]⟩)) .nil)))))) (.call 21 (.cons (.v 1) (.cons (.k (.int 5)) .nil))))) (.cons (.asg (.nm 5) (.idx (.lst (.cons (.k .none) (.cons (.k (.int 5)) (.cons (.p1 .list (.v 12)) (.cons (.cut (.v 12) (.some (.k (.int 1))) .none) (.cons (.cut (.v 12) .none (.some (.k (.int 1)))) (.cons (.bin .add (.rev (.v 12)) (.cut (.v 12) .none (.some (.k (.int 1))))) (.cons (.bin .add (.v 12) (.tup (.cons (.k .none) .nil))) (.cons (.bin .add (.tup (.cons (.lst .nil) .nil)) (.cut (.v 12) (.some (.k (.int 1))) .none)) (.cons (.tup (.cons (.k (.int 0)) .nil)) .nil)))))))))) (.call 21 (.cons (.v 1) (.cons (.k (.int 9)) .nil))))) (.cons (.asg (.nm 6) (.lst (.cons (.call 27 (.cons (.k (.int 0)) (.cons (.v 4) (.cons (.k (.int 0)) .nil)))) (.cons (.call 27 (.cons (.k (.int 1)) (.cons (.v 3) (.cons (.k (.int 0)) .nil)))) (.cons (.call 27 (.cons (.k (.int 1)) (.cons (.tup (.cons (.k (.int 4)) (.cons (.tup .nil) (.cons (.tup (.cons (.tup (.cons (.k (.int 0)) (.cons (.k (.int 1)) (.cons (.k (.int 2)) (.cons (.k (.int 3)) .nil))))) .nil)) .nil)))) (.cons (.k (.int 0)) .nil)))) (.cons (.call 27 (.cons (.k (.int 2)) (.cons (.v 4) (.cons (.tup .nil) .nil)))) (.cons (.call 27 (.cons (.k (.int 2)) (.cons (.v 13) (.cons (.v 5) .nil)))) .nil))))))) (.cons (.ret (.cmp .eq (.v 6) (.bin .mul (.lst (.cons (.k (.str ⟨#[60, 109, 97, 108, 102, 111, 114, 109, 101, 100, 62]⟩)) .nil)) (.k (.int 5))))) .nil)))))))
abbrev i_law : Nat := 28
def G : List D := [(.int 6), (.int 6), (.int 6), (.int 3)]
def gn : List Str := [("MOST_RULES" : Str), ("MOST_TABLES" : Str), ("MOST_COLUMNS" : Str), ("MOST_SMALL" : Str)]
def fnm : List Str := [("is_whole" : Str), ("is_set" : Str), ("is_rule" : Str), ("are_rules" : Str), ("are_tables" : Str), ("is_scheme" : Str), ("check_scheme" : Str), ("mask_of_set" : Str), ("rules_as_masks" : Str), ("closure_of" : Str), ("all_sets_fillings" : Str), ("found_closed" : Str), ("all_sets_counting" : Str), ("common_of" : Str), ("is_few" : Str), ("are_closed" : Str), ("is_family" : Str), ("families" : Str), ("family_of" : Str), ("rules_of" : Str), ("_law_draw" : Str), ("_law_take" : Str), ("_law_set" : Str), ("_law_scheme" : Str), ("_law_closure" : Str), ("_law_sets" : Str), ("_law_odd_scheme" : Str), ("_law_told" : Str), ("law" : Str)]
def xn : List Str := [("Malformed" : Str)]
def T : List Fn := [⟨1, 1, b_is_whole⟩, ⟨2, 4, b_is_set⟩, ⟨2, 2, b_is_rule⟩, ⟨2, 3, b_are_rules⟩, ⟨2, 4, b_are_tables⟩, ⟨1, 1, b_is_scheme⟩, ⟨1, 1, b_check_scheme⟩, ⟨1, 3, b_mask_of_set⟩, ⟨1, 3, b_rules_as_masks⟩, ⟨2, 6, b_closure_of⟩, ⟨1, 5, b_all_sets_fillings⟩, ⟨1, 3, b_found_closed⟩, ⟨1, 4, b_all_sets_counting⟩, ⟨2, 3, b_common_of⟩, ⟨1, 1, b_is_few⟩, ⟨2, 4, b_are_closed⟩, ⟨2, 5, b_is_family⟩, ⟨1, 5, b_families⟩, ⟨1, 1, b_family_of⟩, ⟨2, 7, b_rules_of⟩, ⟨1, 3, b__law_draw⟩, ⟨2, 3, b__law_take⟩, ⟨3, 4, b__law_set⟩, ⟨2, 11, b__law_scheme⟩, ⟨2, 8, b__law_closure⟩, ⟨1, 5, b__law_sets⟩, ⟨2, 6, b__law_odd_scheme⟩, ⟨3, 3, b__law_told⟩, ⟨1, 18, b_law⟩]
def n0 : Nm := ⟨[("value" : Str)], gn, fnm, xn, [0]⟩
theorem t_is_whole : T[0]? = some ⟨1, 1, b_is_whole⟩ := rfl
theorem c0 : ckSs n0 (defScope (topS 4)) b_is_whole (defBody (topS 4)) = true := by decide +kernel
theorem s0 : FnScope n0.N [("value" : Str)] (defScope (topS 4)) := ⟨rfl, rfl, rfl, by decide +kernel, rfl, by decide +kernel, by decide +kernel⟩
def n1 : Nm := ⟨[("value" : Str), ("n" : Str), ("a" : Str), ("b" : Str)], gn, fnm, xn, [0]⟩
theorem t_is_set : T[1]? = some ⟨2, 4, b_is_set⟩ := rfl
theorem c1 : ckSs n1 (defScope (topS 9)) b_is_set (defBody (topS 9)) = true := by decide +kernel
theorem s1 : FnScope n1.N [("value" : Str), ("n" : Str)] (defScope (topS 9)) := ⟨rfl, rfl, rfl, by decide +kernel, rfl, by decide +kernel, by decide +kernel⟩
def n2 : Nm := ⟨[("value" : Str), ("n" : Str)], gn, fnm, xn, [0]⟩
theorem t_is_rule : T[2]? = some ⟨2, 2, b_is_rule⟩ := rfl
theorem c2 : ckSs n2 (defScope (topS 10)) b_is_rule (defBody (topS 10)) = true := by decide +kernel
theorem s2 : FnScope n2.N [("value" : Str), ("n" : Str)] (defScope (topS 10)) := ⟨rfl, rfl, rfl, by decide +kernel, rfl, by decide +kernel, by decide +kernel⟩
def n3 : Nm := ⟨[("value" : Str), ("n" : Str), ("rule" : Str)], gn, fnm, xn, [0]⟩
theorem t_are_rules : T[3]? = some ⟨2, 3, b_are_rules⟩ := rfl
theorem c3 : ckSs n3 (defScope (topS 11)) b_are_rules (defBody (topS 11)) = true := by decide +kernel
theorem s3 : FnScope n3.N [("value" : Str), ("n" : Str)] (defScope (topS 11)) := ⟨rfl, rfl, rfl, by decide +kernel, rfl, by decide +kernel, by decide +kernel⟩
def n4 : Nm := ⟨[("value" : Str), ("n" : Str), ("table" : Str), ("a" : Str)], gn, fnm, xn, [0]⟩
theorem t_are_tables : T[4]? = some ⟨2, 4, b_are_tables⟩ := rfl
theorem c4 : ckSs n4 (defScope (topS 12)) b_are_tables (defBody (topS 12)) = true := by decide +kernel
theorem s4 : FnScope n4.N [("value" : Str), ("n" : Str)] (defScope (topS 12)) := ⟨rfl, rfl, rfl, by decide +kernel, rfl, by decide +kernel, by decide +kernel⟩
def n5 : Nm := ⟨[("value" : Str)], gn, fnm, xn, [0]⟩
theorem t_is_scheme : T[5]? = some ⟨1, 1, b_is_scheme⟩ := rfl
theorem c5 : ckSs n5 (defScope (topS 13)) b_is_scheme (defBody (topS 13)) = true := by decide +kernel
theorem s5 : FnScope n5.N [("value" : Str)] (defScope (topS 13)) := ⟨rfl, rfl, rfl, by decide +kernel, rfl, by decide +kernel, by decide +kernel⟩
def n6 : Nm := ⟨[("value" : Str)], gn, fnm, xn, [0]⟩
theorem t_check_scheme : T[6]? = some ⟨1, 1, b_check_scheme⟩ := rfl
theorem c6 : ckSs n6 (defScope (topS 14)) b_check_scheme (defBody (topS 14)) = true := by decide +kernel
theorem s6 : FnScope n6.N [("value" : Str)] (defScope (topS 14)) := ⟨rfl, rfl, rfl, by decide +kernel, rfl, by decide +kernel, by decide +kernel⟩
def n7 : Nm := ⟨[("columns" : Str), ("found" : Str), ("a" : Str)], gn, fnm, xn, [0]⟩
theorem t_mask_of_set : T[7]? = some ⟨1, 3, b_mask_of_set⟩ := rfl
theorem c7 : ckSs n7 (defScope (topS 15)) b_mask_of_set (defBody (topS 15)) = true := by decide +kernel
theorem s7 : FnScope n7.N [("columns" : Str)] (defScope (topS 15)) := ⟨rfl, rfl, rfl, by decide +kernel, rfl, by decide +kernel, by decide +kernel⟩
def n8 : Nm := ⟨[("scheme" : Str), ("left" : Str), ("right" : Str)], gn, fnm, xn, [0]⟩
theorem t_rules_as_masks : T[8]? = some ⟨1, 3, b_rules_as_masks⟩ := rfl
theorem c8 : ckSs n8 (defScope (topS 16)) b_rules_as_masks (defBody (topS 16)) = true := by decide +kernel
theorem s8 : FnScope n8.N [("scheme" : Str)] (defScope (topS 16)) := ⟨rfl, rfl, rfl, by decide +kernel, rfl, by decide +kernel, by decide +kernel⟩
def n9 : Nm := ⟨[("rules" : Str), ("mask" : Str), ("found" : Str), ("more" : Str), ("left" : Str), ("right" : Str)], gn, fnm, xn, [0]⟩
theorem t_closure_of : T[9]? = some ⟨2, 6, b_closure_of⟩ := rfl
theorem c9 : ckSs n9 (defScope (topS 17)) b_closure_of (defBody (topS 17)) = true := by decide +kernel
theorem s9 : FnScope n9.N [("rules" : Str), ("mask" : Str)] (defScope (topS 17)) := ⟨rfl, rfl, rfl, by decide +kernel, rfl, by decide +kernel, by decide +kernel⟩
def n10 : Nm := ⟨[("n" : Str), ("found" : Str), ("a" : Str), ("_" : Str), ("row" : Str)], gn, fnm, xn, [0]⟩
theorem t_all_sets_fillings : T[10]? = some ⟨1, 5, b_all_sets_fillings⟩ := rfl
theorem c10 : ckSs n10 (defScope (topS 19)) b_all_sets_fillings (defBody (topS 19)) = true := by decide +kernel
theorem s10 : FnScope n10.N [("n" : Str)] (defScope (topS 19)) := ⟨rfl, rfl, rfl, by decide +kernel, rfl, by decide +kernel, by decide +kernel⟩
def n11 : Nm := ⟨[("scheme" : Str), ("rules" : Str), ("row" : Str)], gn, fnm, xn, [0]⟩
theorem t_found_closed : T[11]? = some ⟨1, 3, b_found_closed⟩ := rfl
theorem c11 : ckSs n11 (defScope (topS 21)) b_found_closed (defBody (topS 21)) = true := by decide +kernel
theorem s11 : FnScope n11.N [("scheme" : Str)] (defScope (topS 21)) := ⟨rfl, rfl, rfl, by decide +kernel, rfl, by decide +kernel, by decide +kernel⟩
def n12 : Nm := ⟨[("n" : Str), ("found" : Str), ("a" : Str), ("row" : Str)], gn, fnm, xn, [0]⟩
theorem t_all_sets_counting : T[12]? = some ⟨1, 4, b_all_sets_counting⟩ := rfl
theorem c12 : ckSs n12 (defScope (topS 24)) b_all_sets_counting (defBody (topS 24)) = true := by decide +kernel
theorem s12 : FnScope n12.N [("n" : Str)] (defScope (topS 24)) := ⟨rfl, rfl, rfl, by decide +kernel, rfl, by decide +kernel, by decide +kernel⟩
def n13 : Nm := ⟨[("one" : Str), ("two" : Str), ("a" : Str)], gn, fnm, xn, [0]⟩
theorem t_common_of : T[13]? = some ⟨2, 3, b_common_of⟩ := rfl
theorem c13 : ckSs n13 (defScope (topS 26)) b_common_of (defBody (topS 26)) = true := by decide +kernel
theorem s13 : FnScope n13.N [("one" : Str), ("two" : Str)] (defScope (topS 26)) := ⟨rfl, rfl, rfl, by decide +kernel, rfl, by decide +kernel, by decide +kernel⟩
def n14 : Nm := ⟨[("n" : Str)], gn, fnm, xn, [0]⟩
theorem t_is_few : T[14]? = some ⟨1, 1, b_is_few⟩ := rfl
theorem c14 : ckSs n14 (defScope (topS 27)) b_is_few (defBody (topS 27)) = true := by decide +kernel
theorem s14 : FnScope n14.N [("n" : Str)] (defScope (topS 27)) := ⟨rfl, rfl, rfl, by decide +kernel, rfl, by decide +kernel, by decide +kernel⟩
def n15 : Nm := ⟨[("n" : Str), ("sets" : Str), ("one" : Str), ("two" : Str)], gn, fnm, xn, [0]⟩
theorem t_are_closed : T[15]? = some ⟨2, 4, b_are_closed⟩ := rfl
theorem c15 : ckSs n15 (defScope (topS 28)) b_are_closed (defBody (topS 28)) = true := by decide +kernel
theorem s15 : FnScope n15.N [("n" : Str), ("sets" : Str)] (defScope (topS 28)) := ⟨rfl, rfl, rfl, by decide +kernel, rfl, by decide +kernel, by decide +kernel⟩
def n16 : Nm := ⟨[("n" : Str), ("value" : Str), ("row" : Str), ("one" : Str), ("two" : Str)], gn, fnm, xn, [0]⟩
theorem t_is_family : T[16]? = some ⟨2, 5, b_is_family⟩ := rfl
theorem c16 : ckSs n16 (defScope (topS 29)) b_is_family (defBody (topS 29)) = true := by decide +kernel
theorem s16 : FnScope n16.N [("n" : Str), ("value" : Str)] (defScope (topS 29)) := ⟨rfl, rfl, rfl, by decide +kernel, rfl, by decide +kernel, by decide +kernel⟩
def n17 : Nm := ⟨[("n" : Str), ("rows" : Str), ("row" : Str), ("found" : Str), ("sets" : Str)], gn, fnm, xn, [0]⟩
theorem t_families : T[17]? = some ⟨1, 5, b_families⟩ := rfl
theorem c17 : ckSs n17 (defScope (topS 30)) b_families (defBody (topS 30)) = true := by decide +kernel
theorem s17 : FnScope n17.N [("n" : Str)] (defScope (topS 30)) := ⟨rfl, rfl, rfl, by decide +kernel, rfl, by decide +kernel, by decide +kernel⟩
def n18 : Nm := ⟨[("scheme" : Str)], gn, fnm, xn, [0]⟩
theorem t_family_of : T[18]? = some ⟨1, 1, b_family_of⟩ := rfl
theorem c18 : ckSs n18 (defScope (topS 31)) b_family_of (defBody (topS 31)) = true := by decide +kernel
theorem s18 : FnScope n18.N [("scheme" : Str)] (defScope (topS 31)) := ⟨rfl, rfl, rfl, by decide +kernel, rfl, by decide +kernel, by decide +kernel⟩
def n19 : Nm := ⟨[("n" : Str), ("family" : Str), ("found" : Str), ("left" : Str), ("above" : Str), ("row" : Str), ("a" : Str)], gn, fnm, xn, [0]⟩
theorem t_rules_of : T[19]? = some ⟨2, 7, b_rules_of⟩ := rfl
theorem c19 : ckSs n19 (defScope (topS 32)) b_rules_of (defBody (topS 32)) = true := by decide +kernel
theorem s19 : FnScope n19.N [("n" : Str), ("family" : Str)] (defScope (topS 32)) := ⟨rfl, rfl, rfl, by decide +kernel, rfl, by decide +kernel, by decide +kernel⟩
def n20 : Nm := ⟨[("script" : Str), ("seed" : Str), ("cell" : Str)], gn, fnm, xn, [0]⟩
theorem t__law_draw : T[20]? = some ⟨1, 3, b__law_draw⟩ := rfl
theorem c20 : ckSs n20 (defScope (topS 34)) b__law_draw (defBody (topS 34)) = true := by decide +kernel
theorem s20 : FnScope n20.N [("script" : Str)] (defScope (topS 34)) := ⟨rfl, rfl, rfl, by decide +kernel, rfl, by decide +kernel, by decide +kernel⟩
def n21 : Nm := ⟨[("draw" : Str), ("many" : Str), ("found" : Str)], gn, fnm, xn, [0]⟩
theorem t__law_take : T[21]? = some ⟨2, 3, b__law_take⟩ := rfl
theorem c21 : ckSs n21 (defScope (topS 35)) b__law_take (defBody (topS 35)) = true := by decide +kernel
theorem s21 : FnScope n21.N [("draw" : Str), ("many" : Str)] (defScope (topS 35)) := ⟨rfl, rfl, rfl, by decide +kernel, rfl, by decide +kernel, by decide +kernel⟩
def n22 : Nm := ⟨[("draw" : Str), ("n" : Str), ("often" : Str), ("a" : Str)], gn, fnm, xn, [0]⟩
theorem t__law_set : T[22]? = some ⟨3, 4, b__law_set⟩ := rfl
theorem c22 : ckSs n22 (defScope (topS 36)) b__law_set (defBody (topS 36)) = true := by decide +kernel
theorem s22 : FnScope n22.N [("draw" : Str), ("n" : Str), ("often" : Str)] (defScope (topS 36)) := ⟨rfl, rfl, rfl, by decide +kernel, rfl, by decide +kernel, by decide +kernel⟩
def n23 : Nm := ⟨[("draw" : Str), ("most" : Str), ("n" : Str), ("rules" : Str), ("turn" : Str), ("tables" : Str), ("rest" : Str), ("table" : Str), ("left" : Str), ("right" : Str), ("a" : Str)], gn, fnm, xn, [0]⟩
theorem t__law_scheme : T[23]? = some ⟨2, 11, b__law_scheme⟩ := rfl
theorem c23 : ckSs n23 (defScope (topS 37)) b__law_scheme (defBody (topS 37)) = true := by decide +kernel
theorem s23 : FnScope n23.N [("draw" : Str), ("most" : Str)] (defScope (topS 37)) := ⟨rfl, rfl, rfl, by decide +kernel, rfl, by decide +kernel, by decide +kernel⟩
def n24 : Nm := ⟨[("rules" : Str), ("columns" : Str), ("found" : Str), ("turn" : Str), ("more" : Str), ("left" : Str), ("right" : Str), ("a" : Str)], gn, fnm, xn, [0]⟩
theorem t__law_closure : T[24]? = some ⟨2, 8, b__law_closure⟩ := rfl
theorem c24 : ckSs n24 (defScope (topS 38)) b__law_closure (defBody (topS 38)) = true := by decide +kernel
theorem s24 : FnScope n24.N [("rules" : Str), ("columns" : Str)] (defScope (topS 38)) := ⟨rfl, rfl, rfl, by decide +kernel, rfl, by decide +kernel, by decide +kernel⟩
def n25 : Nm := ⟨[("n" : Str), ("found" : Str), ("a" : Str), ("size" : Str), ("row" : Str)], gn, fnm, xn, [0]⟩
theorem t__law_sets : T[25]? = some ⟨1, 5, b__law_sets⟩ := rfl
theorem c25 : ckSs n25 (defScope (topS 39)) b__law_sets (defBody (topS 39)) = true := by decide +kernel
theorem s25 : FnScope n25.N [("n" : Str)] (defScope (topS 39)) := ⟨rfl, rfl, rfl, by decide +kernel, rfl, by decide +kernel, by decide +kernel⟩
def n26 : Nm := ⟨[("draw" : Str), ("scheme" : Str), ("odd" : Str), ("n" : Str), ("rules" : Str), ("tables" : Str)], gn, fnm, xn, [0]⟩
theorem t__law_odd_scheme : T[26]? = some ⟨2, 6, b__law_odd_scheme⟩ := rfl
theorem c26 : ckSs n26 (defScope (topS 40)) b__law_odd_scheme (defBody (topS 40)) = true := by decide +kernel
theorem s26 : FnScope n26.N [("draw" : Str), ("scheme" : Str)] (defScope (topS 40)) := ⟨rfl, rfl, rfl, by decide +kernel, rfl, by decide +kernel, by decide +kernel⟩
def n27 : Nm := ⟨[("which" : Str), ("n" : Str), ("family" : Str)], gn, fnm, xn, [0]⟩
theorem t__law_told : T[27]? = some ⟨3, 3, b__law_told⟩ := rfl
theorem c27 : ckSs n27 (defScope (topS 41)) b__law_told (defBody (topS 41)) = true := by decide +kernel
theorem s27 : FnScope n27.N [("which" : Str), ("n" : Str), ("family" : Str)] (defScope (topS 41)) := ⟨rfl, rfl, rfl, by decide +kernel, rfl, by decide +kernel, by decide +kernel⟩
def n28 : Nm := ⟨[("script" : Str), ("draw" : Str), ("turn" : Str), ("odd" : Str), ("bad" : Str), ("wrong" : Str), ("told" : Str), ("scheme" : Str), ("closed" : Str), ("every" : Str), ("due" : Str), ("left" : Str), ("family" : Str), ("n" : Str), ("rules" : Str), ("tables" : Str), ("row" : Str), ("a" : Str)], gn, fnm, xn, [0]⟩
theorem t_law : T[28]? = some ⟨1, 18, b_law⟩ := rfl
theorem c28 : ckSs n28 (defScope (topS 42)) b_law (defBody (topS 42)) = true := by decide +kernel
theorem s28 : FnScope n28.N [("script" : Str)] (defScope (topS 42)) := ⟨rfl, rfl, rfl, by decide +kernel, rfl, by decide +kernel, by decide +kernel⟩
set_option maxHeartbeats 0 in
theorem facts {P : Program} {w : World} {K : PySem.W.Frag} {h : Heap} {mg : Str → Option Value} {fa : Addr} {k : Nat} (KX : K.In h) (NS : h.Ns mainGlobals mg) (hfa : mg "law" = some (.ref fa))
    {f0 : Addr} {oc0 kV0 dc0 pm0 cd0 ct0 : Value} {od0 an0 : Option Addr} {sl0 : Array (Option Value)} {f1 : Addr} {oc1 kV1 dc1 pm1 cd1 ct1 : Value} {od1 an1 : Option Addr} {sl1 : Array (Option Value)} {f2 : Addr} {oc2 kV2 dc2 pm2 cd2 ct2 : Value} {od2 an2 : Option Addr} {sl2 : Array (Option Value)} {f3 : Addr} {oc3 kV3 dc3 pm3 cd3 ct3 : Value} {od3 an3 : Option Addr} {sl3 : Array (Option Value)} {f4 : Addr} {oc4 kV4 dc4 pm4 cd4 ct4 : Value} {od4 an4 : Option Addr} {sl4 : Array (Option Value)} {f5 : Addr} {oc5 kV5 dc5 pm5 cd5 ct5 : Value} {od5 an5 : Option Addr} {sl5 : Array (Option Value)} {f6 : Addr} {oc6 kV6 dc6 pm6 cd6 ct6 : Value} {od6 an6 : Option Addr} {sl6 : Array (Option Value)} {f7 : Addr} {oc7 kV7 dc7 pm7 cd7 ct7 : Value} {od7 an7 : Option Addr} {sl7 : Array (Option Value)} {f8 : Addr} {oc8 kV8 dc8 pm8 cd8 ct8 : Value} {od8 an8 : Option Addr} {sl8 : Array (Option Value)} {f9 : Addr} {oc9 kV9 dc9 pm9 cd9 ct9 : Value} {od9 an9 : Option Addr} {sl9 : Array (Option Value)} {f10 : Addr} {oc10 kV10 dc10 pm10 cd10 ct10 : Value} {od10 an10 : Option Addr} {sl10 : Array (Option Value)} {f11 : Addr} {oc11 kV11 dc11 pm11 cd11 ct11 : Value} {od11 an11 : Option Addr} {sl11 : Array (Option Value)} {f12 : Addr} {oc12 kV12 dc12 pm12 cd12 ct12 : Value} {od12 an12 : Option Addr} {sl12 : Array (Option Value)} {f13 : Addr} {oc13 kV13 dc13 pm13 cd13 ct13 : Value} {od13 an13 : Option Addr} {sl13 : Array (Option Value)} {f14 : Addr} {oc14 kV14 dc14 pm14 cd14 ct14 : Value} {od14 an14 : Option Addr} {sl14 : Array (Option Value)} {f15 : Addr} {oc15 kV15 dc15 pm15 cd15 ct15 : Value} {od15 an15 : Option Addr} {sl15 : Array (Option Value)} {f16 : Addr} {oc16 kV16 dc16 pm16 cd16 ct16 : Value} {od16 an16 : Option Addr} {sl16 : Array (Option Value)} {f17 : Addr} {oc17 kV17 dc17 pm17 cd17 ct17 : Value} {od17 an17 : Option Addr} {sl17 : Array (Option Value)} {f18 : Addr} {oc18 kV18 dc18 pm18 cd18 ct18 : Value} {od18 an18 : Option Addr} {sl18 : Array (Option Value)} {f19 : Addr} {oc19 kV19 dc19 pm19 cd19 ct19 : Value} {od19 an19 : Option Addr} {sl19 : Array (Option Value)} {f20 : Addr} {oc20 kV20 dc20 pm20 cd20 ct20 : Value} {od20 an20 : Option Addr} {sl20 : Array (Option Value)} {f21 : Addr} {oc21 kV21 dc21 pm21 cd21 ct21 : Value} {od21 an21 : Option Addr} {sl21 : Array (Option Value)} {f22 : Addr} {oc22 kV22 dc22 pm22 cd22 ct22 : Value} {od22 an22 : Option Addr} {sl22 : Array (Option Value)} {f23 : Addr} {oc23 kV23 dc23 pm23 cd23 ct23 : Value} {od23 an23 : Option Addr} {sl23 : Array (Option Value)} {f24 : Addr} {oc24 kV24 dc24 pm24 cd24 ct24 : Value} {od24 an24 : Option Addr} {sl24 : Array (Option Value)} {f25 : Addr} {oc25 kV25 dc25 pm25 cd25 ct25 : Value} {od25 an25 : Option Addr} {sl25 : Array (Option Value)} {f26 : Addr} {oc26 kV26 dc26 pm26 cd26 ct26 : Value} {od26 an26 : Option Addr} {sl26 : Array (Option Value)} {f27 : Addr} {oc27 kV27 dc27 pm27 cd27 ct27 : Value} {od27 an27 : Option Addr} {sl27 : Array (Option Value)} {f28 : Addr} {oc28 kV28 dc28 pm28 cd28 ct28 : Value} {od28 an28 : Option Addr} {sl28 : Array (Option Value)} {t1 : Tok} {t2 : Tok} {t3 : Tok} {t4 : Tok} {C : Addr}
    (a0 : PySem.W.nsIn K mainGlobals ("is_whole" : Str) = some (some (.ref f0)))
    (l0 : K.lookup f0 = some ⟨oc0, od0, .func (PySem.W.fnOf ("is_whole" : Str) ("is_whole" : Str) (defArgs (topS 4)) (defBody (topS 4)) (defScope (topS 4)) .none kV0 dc0 pm0 an0 cd0 ct0), sl0⟩)
    (c0 : PySem.W.codeIn K cd0 ("is_whole" : Str) = true)
    (k0 : PySem.W.keepIn K (.ref f0) = true)
    (a1 : PySem.W.nsIn K mainGlobals ("is_set" : Str) = some (some (.ref f1)))
    (l1 : K.lookup f1 = some ⟨oc1, od1, .func (PySem.W.fnOf ("is_set" : Str) ("is_set" : Str) (defArgs (topS 9)) (defBody (topS 9)) (defScope (topS 9)) .none kV1 dc1 pm1 an1 cd1 ct1), sl1⟩)
    (c1 : PySem.W.codeIn K cd1 ("is_set" : Str) = true)
    (k1 : PySem.W.keepIn K (.ref f1) = true)
    (a2 : PySem.W.nsIn K mainGlobals ("is_rule" : Str) = some (some (.ref f2)))
    (l2 : K.lookup f2 = some ⟨oc2, od2, .func (PySem.W.fnOf ("is_rule" : Str) ("is_rule" : Str) (defArgs (topS 10)) (defBody (topS 10)) (defScope (topS 10)) .none kV2 dc2 pm2 an2 cd2 ct2), sl2⟩)
    (c2 : PySem.W.codeIn K cd2 ("is_rule" : Str) = true)
    (k2 : PySem.W.keepIn K (.ref f2) = true)
    (a3 : PySem.W.nsIn K mainGlobals ("are_rules" : Str) = some (some (.ref f3)))
    (l3 : K.lookup f3 = some ⟨oc3, od3, .func (PySem.W.fnOf ("are_rules" : Str) ("are_rules" : Str) (defArgs (topS 11)) (defBody (topS 11)) (defScope (topS 11)) .none kV3 dc3 pm3 an3 cd3 ct3), sl3⟩)
    (c3 : PySem.W.codeIn K cd3 ("are_rules" : Str) = true)
    (k3 : PySem.W.keepIn K (.ref f3) = true)
    (a4 : PySem.W.nsIn K mainGlobals ("are_tables" : Str) = some (some (.ref f4)))
    (l4 : K.lookup f4 = some ⟨oc4, od4, .func (PySem.W.fnOf ("are_tables" : Str) ("are_tables" : Str) (defArgs (topS 12)) (defBody (topS 12)) (defScope (topS 12)) .none kV4 dc4 pm4 an4 cd4 ct4), sl4⟩)
    (c4 : PySem.W.codeIn K cd4 ("are_tables" : Str) = true)
    (k4 : PySem.W.keepIn K (.ref f4) = true)
    (a5 : PySem.W.nsIn K mainGlobals ("is_scheme" : Str) = some (some (.ref f5)))
    (l5 : K.lookup f5 = some ⟨oc5, od5, .func (PySem.W.fnOf ("is_scheme" : Str) ("is_scheme" : Str) (defArgs (topS 13)) (defBody (topS 13)) (defScope (topS 13)) .none kV5 dc5 pm5 an5 cd5 ct5), sl5⟩)
    (c5 : PySem.W.codeIn K cd5 ("is_scheme" : Str) = true)
    (k5 : PySem.W.keepIn K (.ref f5) = true)
    (a6 : PySem.W.nsIn K mainGlobals ("check_scheme" : Str) = some (some (.ref f6)))
    (l6 : K.lookup f6 = some ⟨oc6, od6, .func (PySem.W.fnOf ("check_scheme" : Str) ("check_scheme" : Str) (defArgs (topS 14)) (defBody (topS 14)) (defScope (topS 14)) .none kV6 dc6 pm6 an6 cd6 ct6), sl6⟩)
    (c6 : PySem.W.codeIn K cd6 ("check_scheme" : Str) = true)
    (k6 : PySem.W.keepIn K (.ref f6) = true)
    (a7 : PySem.W.nsIn K mainGlobals ("mask_of_set" : Str) = some (some (.ref f7)))
    (l7 : K.lookup f7 = some ⟨oc7, od7, .func (PySem.W.fnOf ("mask_of_set" : Str) ("mask_of_set" : Str) (defArgs (topS 15)) (defBody (topS 15)) (defScope (topS 15)) .none kV7 dc7 pm7 an7 cd7 ct7), sl7⟩)
    (c7 : PySem.W.codeIn K cd7 ("mask_of_set" : Str) = true)
    (k7 : PySem.W.keepIn K (.ref f7) = true)
    (a8 : PySem.W.nsIn K mainGlobals ("rules_as_masks" : Str) = some (some (.ref f8)))
    (l8 : K.lookup f8 = some ⟨oc8, od8, .func (PySem.W.fnOf ("rules_as_masks" : Str) ("rules_as_masks" : Str) (defArgs (topS 16)) (defBody (topS 16)) (defScope (topS 16)) .none kV8 dc8 pm8 an8 cd8 ct8), sl8⟩)
    (c8 : PySem.W.codeIn K cd8 ("rules_as_masks" : Str) = true)
    (k8 : PySem.W.keepIn K (.ref f8) = true)
    (a9 : PySem.W.nsIn K mainGlobals ("closure_of" : Str) = some (some (.ref f9)))
    (l9 : K.lookup f9 = some ⟨oc9, od9, .func (PySem.W.fnOf ("closure_of" : Str) ("closure_of" : Str) (defArgs (topS 17)) (defBody (topS 17)) (defScope (topS 17)) .none kV9 dc9 pm9 an9 cd9 ct9), sl9⟩)
    (c9 : PySem.W.codeIn K cd9 ("closure_of" : Str) = true)
    (k9 : PySem.W.keepIn K (.ref f9) = true)
    (a10 : PySem.W.nsIn K mainGlobals ("all_sets_fillings" : Str) = some (some (.ref f10)))
    (l10 : K.lookup f10 = some ⟨oc10, od10, .func (PySem.W.fnOf ("all_sets" : Str) ("all_sets" : Str) (defArgs (topS 19)) (defBody (topS 19)) (defScope (topS 19)) .none kV10 dc10 pm10 an10 cd10 ct10), sl10⟩)
    (c10 : PySem.W.codeIn K cd10 ("all_sets" : Str) = true)
    (k10 : PySem.W.keepIn K (.ref f10) = true)
    (a11 : PySem.W.nsIn K mainGlobals ("found_closed" : Str) = some (some (.ref f11)))
    (l11 : K.lookup f11 = some ⟨oc11, od11, .func (PySem.W.fnOf ("found_closed" : Str) ("found_closed" : Str) (defArgs (topS 21)) (defBody (topS 21)) (defScope (topS 21)) .none kV11 dc11 pm11 an11 cd11 ct11), sl11⟩)
    (c11 : PySem.W.codeIn K cd11 ("found_closed" : Str) = true)
    (k11 : PySem.W.keepIn K (.ref f11) = true)
    (a12 : PySem.W.nsIn K mainGlobals ("all_sets_counting" : Str) = some (some (.ref f12)))
    (l12 : K.lookup f12 = some ⟨oc12, od12, .func (PySem.W.fnOf ("all_sets" : Str) ("all_sets" : Str) (defArgs (topS 24)) (defBody (topS 24)) (defScope (topS 24)) .none kV12 dc12 pm12 an12 cd12 ct12), sl12⟩)
    (c12 : PySem.W.codeIn K cd12 ("all_sets" : Str) = true)
    (k12 : PySem.W.keepIn K (.ref f12) = true)
    (a13 : PySem.W.nsIn K mainGlobals ("common_of" : Str) = some (some (.ref f13)))
    (l13 : K.lookup f13 = some ⟨oc13, od13, .func (PySem.W.fnOf ("common_of" : Str) ("common_of" : Str) (defArgs (topS 26)) (defBody (topS 26)) (defScope (topS 26)) .none kV13 dc13 pm13 an13 cd13 ct13), sl13⟩)
    (c13 : PySem.W.codeIn K cd13 ("common_of" : Str) = true)
    (k13 : PySem.W.keepIn K (.ref f13) = true)
    (a14 : PySem.W.nsIn K mainGlobals ("is_few" : Str) = some (some (.ref f14)))
    (l14 : K.lookup f14 = some ⟨oc14, od14, .func (PySem.W.fnOf ("is_few" : Str) ("is_few" : Str) (defArgs (topS 27)) (defBody (topS 27)) (defScope (topS 27)) .none kV14 dc14 pm14 an14 cd14 ct14), sl14⟩)
    (c14 : PySem.W.codeIn K cd14 ("is_few" : Str) = true)
    (k14 : PySem.W.keepIn K (.ref f14) = true)
    (a15 : PySem.W.nsIn K mainGlobals ("are_closed" : Str) = some (some (.ref f15)))
    (l15 : K.lookup f15 = some ⟨oc15, od15, .func (PySem.W.fnOf ("are_closed" : Str) ("are_closed" : Str) (defArgs (topS 28)) (defBody (topS 28)) (defScope (topS 28)) .none kV15 dc15 pm15 an15 cd15 ct15), sl15⟩)
    (c15 : PySem.W.codeIn K cd15 ("are_closed" : Str) = true)
    (k15 : PySem.W.keepIn K (.ref f15) = true)
    (a16 : PySem.W.nsIn K mainGlobals ("is_family" : Str) = some (some (.ref f16)))
    (l16 : K.lookup f16 = some ⟨oc16, od16, .func (PySem.W.fnOf ("is_family" : Str) ("is_family" : Str) (defArgs (topS 29)) (defBody (topS 29)) (defScope (topS 29)) .none kV16 dc16 pm16 an16 cd16 ct16), sl16⟩)
    (c16 : PySem.W.codeIn K cd16 ("is_family" : Str) = true)
    (k16 : PySem.W.keepIn K (.ref f16) = true)
    (a17 : PySem.W.nsIn K mainGlobals ("families" : Str) = some (some (.ref f17)))
    (l17 : K.lookup f17 = some ⟨oc17, od17, .func (PySem.W.fnOf ("families" : Str) ("families" : Str) (defArgs (topS 30)) (defBody (topS 30)) (defScope (topS 30)) .none kV17 dc17 pm17 an17 cd17 ct17), sl17⟩)
    (c17 : PySem.W.codeIn K cd17 ("families" : Str) = true)
    (k17 : PySem.W.keepIn K (.ref f17) = true)
    (a18 : PySem.W.nsIn K mainGlobals ("family_of" : Str) = some (some (.ref f18)))
    (l18 : K.lookup f18 = some ⟨oc18, od18, .func (PySem.W.fnOf ("family_of" : Str) ("family_of" : Str) (defArgs (topS 31)) (defBody (topS 31)) (defScope (topS 31)) .none kV18 dc18 pm18 an18 cd18 ct18), sl18⟩)
    (c18 : PySem.W.codeIn K cd18 ("family_of" : Str) = true)
    (k18 : PySem.W.keepIn K (.ref f18) = true)
    (a19 : PySem.W.nsIn K mainGlobals ("rules_of" : Str) = some (some (.ref f19)))
    (l19 : K.lookup f19 = some ⟨oc19, od19, .func (PySem.W.fnOf ("rules_of" : Str) ("rules_of" : Str) (defArgs (topS 32)) (defBody (topS 32)) (defScope (topS 32)) .none kV19 dc19 pm19 an19 cd19 ct19), sl19⟩)
    (c19 : PySem.W.codeIn K cd19 ("rules_of" : Str) = true)
    (k19 : PySem.W.keepIn K (.ref f19) = true)
    (a20 : PySem.W.nsIn K mainGlobals ("_law_draw" : Str) = some (some (.ref f20)))
    (l20 : K.lookup f20 = some ⟨oc20, od20, .func (PySem.W.fnOf ("_law_draw" : Str) ("_law_draw" : Str) (defArgs (topS 34)) (defBody (topS 34)) (defScope (topS 34)) .none kV20 dc20 pm20 an20 cd20 ct20), sl20⟩)
    (c20 : PySem.W.codeIn K cd20 ("_law_draw" : Str) = true)
    (k20 : PySem.W.keepIn K (.ref f20) = true)
    (a21 : PySem.W.nsIn K mainGlobals ("_law_take" : Str) = some (some (.ref f21)))
    (l21 : K.lookup f21 = some ⟨oc21, od21, .func (PySem.W.fnOf ("_law_take" : Str) ("_law_take" : Str) (defArgs (topS 35)) (defBody (topS 35)) (defScope (topS 35)) .none kV21 dc21 pm21 an21 cd21 ct21), sl21⟩)
    (c21 : PySem.W.codeIn K cd21 ("_law_take" : Str) = true)
    (k21 : PySem.W.keepIn K (.ref f21) = true)
    (a22 : PySem.W.nsIn K mainGlobals ("_law_set" : Str) = some (some (.ref f22)))
    (l22 : K.lookup f22 = some ⟨oc22, od22, .func (PySem.W.fnOf ("_law_set" : Str) ("_law_set" : Str) (defArgs (topS 36)) (defBody (topS 36)) (defScope (topS 36)) .none kV22 dc22 pm22 an22 cd22 ct22), sl22⟩)
    (c22 : PySem.W.codeIn K cd22 ("_law_set" : Str) = true)
    (k22 : PySem.W.keepIn K (.ref f22) = true)
    (a23 : PySem.W.nsIn K mainGlobals ("_law_scheme" : Str) = some (some (.ref f23)))
    (l23 : K.lookup f23 = some ⟨oc23, od23, .func (PySem.W.fnOf ("_law_scheme" : Str) ("_law_scheme" : Str) (defArgs (topS 37)) (defBody (topS 37)) (defScope (topS 37)) .none kV23 dc23 pm23 an23 cd23 ct23), sl23⟩)
    (c23 : PySem.W.codeIn K cd23 ("_law_scheme" : Str) = true)
    (k23 : PySem.W.keepIn K (.ref f23) = true)
    (a24 : PySem.W.nsIn K mainGlobals ("_law_closure" : Str) = some (some (.ref f24)))
    (l24 : K.lookup f24 = some ⟨oc24, od24, .func (PySem.W.fnOf ("_law_closure" : Str) ("_law_closure" : Str) (defArgs (topS 38)) (defBody (topS 38)) (defScope (topS 38)) .none kV24 dc24 pm24 an24 cd24 ct24), sl24⟩)
    (c24 : PySem.W.codeIn K cd24 ("_law_closure" : Str) = true)
    (k24 : PySem.W.keepIn K (.ref f24) = true)
    (a25 : PySem.W.nsIn K mainGlobals ("_law_sets" : Str) = some (some (.ref f25)))
    (l25 : K.lookup f25 = some ⟨oc25, od25, .func (PySem.W.fnOf ("_law_sets" : Str) ("_law_sets" : Str) (defArgs (topS 39)) (defBody (topS 39)) (defScope (topS 39)) .none kV25 dc25 pm25 an25 cd25 ct25), sl25⟩)
    (c25 : PySem.W.codeIn K cd25 ("_law_sets" : Str) = true)
    (k25 : PySem.W.keepIn K (.ref f25) = true)
    (a26 : PySem.W.nsIn K mainGlobals ("_law_odd_scheme" : Str) = some (some (.ref f26)))
    (l26 : K.lookup f26 = some ⟨oc26, od26, .func (PySem.W.fnOf ("_law_odd_scheme" : Str) ("_law_odd_scheme" : Str) (defArgs (topS 40)) (defBody (topS 40)) (defScope (topS 40)) .none kV26 dc26 pm26 an26 cd26 ct26), sl26⟩)
    (c26 : PySem.W.codeIn K cd26 ("_law_odd_scheme" : Str) = true)
    (k26 : PySem.W.keepIn K (.ref f26) = true)
    (a27 : PySem.W.nsIn K mainGlobals ("_law_told" : Str) = some (some (.ref f27)))
    (l27 : K.lookup f27 = some ⟨oc27, od27, .func (PySem.W.fnOf ("_law_told" : Str) ("_law_told" : Str) (defArgs (topS 41)) (defBody (topS 41)) (defScope (topS 41)) .none kV27 dc27 pm27 an27 cd27 ct27), sl27⟩)
    (c27 : PySem.W.codeIn K cd27 ("_law_told" : Str) = true)
    (k27 : PySem.W.keepIn K (.ref f27) = true)
    (a28 : PySem.W.nsIn K mainGlobals ("law" : Str) = some (some (.ref f28)))
    (l28 : K.lookup f28 = some ⟨oc28, od28, .func (PySem.W.fnOf ("law" : Str) ("law" : Str) (defArgs (topS 42)) (defBody (topS 42)) (defScope (topS 42)) .none kV28 dc28 pm28 an28 cd28 ct28), sl28⟩)
    (c28 : PySem.W.codeIn K cd28 ("law" : Str) = true)
    (k28 : PySem.W.keepIn K (.ref f28) = true)
    (w0 : PySem.W.nsIn K mainGlobals ("MOST_RULES" : Str) = some (some (.int 6 t1)))
    (w1 : PySem.W.nsIn K mainGlobals ("MOST_TABLES" : Str) = some (some (.int 6 t2)))
    (w2 : PySem.W.nsIn K mainGlobals ("MOST_COLUMNS" : Str) = some (some (.int 6 t3)))
    (w3 : PySem.W.nsIn K mainGlobals ("MOST_SMALL" : Str) = some (some (.int 3 t4)))
    (z_len : PySem.W.nsIn K mainGlobals ("len" : Str) = some none)
    (z_tuple : PySem.W.nsIn K mainGlobals ("tuple" : Str) = some none)
    (z_list : PySem.W.nsIn K mainGlobals ("list" : Str) = some none)
    (z_all : PySem.W.nsIn K mainGlobals ("all" : Str) = some none)
    (z_any : PySem.W.nsIn K mainGlobals ("any" : Str) = some none)
    (z_abs : PySem.W.nsIn K mainGlobals ("abs" : Str) = some none)
    (z_int : PySem.W.nsIn K mainGlobals ("int" : Str) = some none)
    (z_sum : PySem.W.nsIn K mainGlobals ("sum" : Str) = some none)
    (z_max : PySem.W.nsIn K mainGlobals ("max" : Str) = some none)
    (z_min : PySem.W.nsIn K mainGlobals ("min" : Str) = some none)
    (z_sorted : PySem.W.nsIn K mainGlobals ("sorted" : Str) = some none)
    (z_repr : PySem.W.nsIn K mainGlobals ("repr" : Str) = some none)
    (z_str : PySem.W.nsIn K mainGlobals ("str" : Str) = some none)
    (z_set : PySem.W.nsIn K mainGlobals ("set" : Str) = some none)
    (z_bool : PySem.W.nsIn K mainGlobals ("bool" : Str) = some none)
    (z_isinstance : PySem.W.nsIn K mainGlobals ("isinstance" : Str) = some none)
    (z_range : PySem.W.nsIn K mainGlobals ("range" : Str) = some none)
    (z_zip : PySem.W.nsIn K mainGlobals ("zip" : Str) = some none)
    (z_enumerate : PySem.W.nsIn K mainGlobals ("enumerate" : Str) = some none)
    (z_dict : PySem.W.nsIn K mainGlobals ("dict" : Str) = some none)
    (z_iter : PySem.W.nsIn K mainGlobals ("iter" : Str) = some none)
    (xC : PySem.W.nsIn K mainGlobals "Malformed" = some (some (.ref C)))
    (xE : PySem.W.excIn K C [.type "ValueError", .type "Exception", .type "BaseException", .type "object"] "ValueError.__new__" = true)
    (xK : PySem.W.keepIn K (.ref C) = true)
    (xB : PySem.W.subIn K (.ref C) (.type "BaseException") = some true)
    (xT : PySem.W.typeIn K (.ref C) = some (.type "type"))
    (xI : PySem.W.isClsIn K C = true)
    (xS : PySem.W.subIn K (.ref C) (.ref C) = some true) :
    ∃ xt : Nat → Option (Addr × Option Str), ∀ base : Heap, ∃ fd ps, Binds K fd ps [] ∧ Fk P w K mg base k fa fd ps (Sf (lk K G T xt k) 28) := by
  have xM : PySem.W.exmOne K (.ref C) (.ref C) = some true := exm_own xB xI xT xS
  have mz : mg "Malformed" = some (.ref C) := PySem.W.mg_of KX NS xC
  refine ⟨fun j => if j = 0 then some (C, none) else none, fun base => ?_⟩
  have all := fk_all (P := P) (w := w) (K := K) (mg := mg) (base := base) (G := G) (T := T) (gn := gn) (fnm := fnm) (xn := xn) (rn := [0]) (xt := fun j => if j = 0 then some (C, none) else none) ?B ?Gl ?D ?R ?H k 28 "law" rfl
  · obtain ⟨f, fd, ps, e1, e2, e3, e4⟩ := all
    cases hfa.symm.trans e1
    exact ⟨fd, ps, e3, e4⟩
  case B =>
    intro x hx
    simp only [bltNames, List.mem_cons, List.not_mem_nil, or_false] at hx
    rcases hx with rfl | rfl | rfl | rfl | rfl | rfl | rfl | rfl | rfl | rfl | rfl | rfl | rfl | rfl | rfl | rfl | rfl | rfl | rfl | rfl | rfl
    · exact PySem.W.mg_none_of KX NS z_len
    · exact PySem.W.mg_none_of KX NS z_tuple
    · exact PySem.W.mg_none_of KX NS z_list
    · exact PySem.W.mg_none_of KX NS z_all
    · exact PySem.W.mg_none_of KX NS z_any
    · exact PySem.W.mg_none_of KX NS z_abs
    · exact PySem.W.mg_none_of KX NS z_int
    · exact PySem.W.mg_none_of KX NS z_sum
    · exact PySem.W.mg_none_of KX NS z_max
    · exact PySem.W.mg_none_of KX NS z_min
    · exact PySem.W.mg_none_of KX NS z_sorted
    · exact PySem.W.mg_none_of KX NS z_repr
    · exact PySem.W.mg_none_of KX NS z_str
    · exact PySem.W.mg_none_of KX NS z_set
    · exact PySem.W.mg_none_of KX NS z_bool
    · exact PySem.W.mg_none_of KX NS z_isinstance
    · exact PySem.W.mg_none_of KX NS z_range
    · exact PySem.W.mg_none_of KX NS z_zip
    · exact PySem.W.mg_none_of KX NS z_enumerate
    · exact PySem.W.mg_none_of KX NS z_dict
    · exact PySem.W.mg_none_of KX NS z_iter
  case Gl =>
    intro j x hx
    match j, hx with
    | 0, hx => cases hx; obtain ⟨v, r, p⟩ := ((gk_int _ _) : Gk K (.int 6) _); exact ⟨_, v, _, rfl, PySem.W.mg_of KX NS w0, r, p⟩
    | 1, hx => cases hx; obtain ⟨v, r, p⟩ := ((gk_int _ _) : Gk K (.int 6) _); exact ⟨_, v, _, rfl, PySem.W.mg_of KX NS w1, r, p⟩
    | 2, hx => cases hx; obtain ⟨v, r, p⟩ := ((gk_int _ _) : Gk K (.int 6) _); exact ⟨_, v, _, rfl, PySem.W.mg_of KX NS w2, r, p⟩
    | 3, hx => cases hx; obtain ⟨v, r, p⟩ := ((gk_int _ _) : Gk K (.int 3) _); exact ⟨_, v, _, rfl, PySem.W.mg_of KX NS w3, r, p⟩
    | j + 4, hx => simp [gn] at hx
  case D =>
    intro j x hx
    match j, hx with
    | 0, hx => cases hx; exact ⟨_, rfl, def_mk KX NS a0 l0 c0 k0 s0 (fun _ _ _ _ _ _ us hl => match us, hl with | [_], _ => rfl) rfl rfl Zv.K72.c0⟩
    | 1, hx => cases hx; exact ⟨_, rfl, def_mk KX NS a1 l1 c1 k1 s1 (fun _ _ _ _ _ _ us hl => match us, hl with | [_, _], _ => rfl) rfl rfl Zv.K72.c1⟩
    | 2, hx => cases hx; exact ⟨_, rfl, def_mk KX NS a2 l2 c2 k2 s2 (fun _ _ _ _ _ _ us hl => match us, hl with | [_, _], _ => rfl) rfl rfl Zv.K72.c2⟩
    | 3, hx => cases hx; exact ⟨_, rfl, def_mk KX NS a3 l3 c3 k3 s3 (fun _ _ _ _ _ _ us hl => match us, hl with | [_, _], _ => rfl) rfl rfl Zv.K72.c3⟩
    | 4, hx => cases hx; exact ⟨_, rfl, def_mk KX NS a4 l4 c4 k4 s4 (fun _ _ _ _ _ _ us hl => match us, hl with | [_, _], _ => rfl) rfl rfl Zv.K72.c4⟩
    | 5, hx => cases hx; exact ⟨_, rfl, def_mk KX NS a5 l5 c5 k5 s5 (fun _ _ _ _ _ _ us hl => match us, hl with | [_], _ => rfl) rfl rfl Zv.K72.c5⟩
    | 6, hx => cases hx; exact ⟨_, rfl, def_mk KX NS a6 l6 c6 k6 s6 (fun _ _ _ _ _ _ us hl => match us, hl with | [_], _ => rfl) rfl rfl Zv.K72.c6⟩
    | 7, hx => cases hx; exact ⟨_, rfl, def_mk KX NS a7 l7 c7 k7 s7 (fun _ _ _ _ _ _ us hl => match us, hl with | [_], _ => rfl) rfl rfl Zv.K72.c7⟩
    | 8, hx => cases hx; exact ⟨_, rfl, def_mk KX NS a8 l8 c8 k8 s8 (fun _ _ _ _ _ _ us hl => match us, hl with | [_], _ => rfl) rfl rfl Zv.K72.c8⟩
    | 9, hx => cases hx; exact ⟨_, rfl, def_mk KX NS a9 l9 c9 k9 s9 (fun _ _ _ _ _ _ us hl => match us, hl with | [_, _], _ => rfl) rfl rfl Zv.K72.c9⟩
    | 10, hx => cases hx; exact ⟨_, rfl, def_mk KX NS a10 l10 c10 k10 s10 (fun _ _ _ _ _ _ us hl => match us, hl with | [_], _ => rfl) rfl rfl Zv.K72.c10⟩
    | 11, hx => cases hx; exact ⟨_, rfl, def_mk KX NS a11 l11 c11 k11 s11 (fun _ _ _ _ _ _ us hl => match us, hl with | [_], _ => rfl) rfl rfl Zv.K72.c11⟩
    | 12, hx => cases hx; exact ⟨_, rfl, def_mk KX NS a12 l12 c12 k12 s12 (fun _ _ _ _ _ _ us hl => match us, hl with | [_], _ => rfl) rfl rfl Zv.K72.c12⟩
    | 13, hx => cases hx; exact ⟨_, rfl, def_mk KX NS a13 l13 c13 k13 s13 (fun _ _ _ _ _ _ us hl => match us, hl with | [_, _], _ => rfl) rfl rfl Zv.K72.c13⟩
    | 14, hx => cases hx; exact ⟨_, rfl, def_mk KX NS a14 l14 c14 k14 s14 (fun _ _ _ _ _ _ us hl => match us, hl with | [_], _ => rfl) rfl rfl Zv.K72.c14⟩
    | 15, hx => cases hx; exact ⟨_, rfl, def_mk KX NS a15 l15 c15 k15 s15 (fun _ _ _ _ _ _ us hl => match us, hl with | [_, _], _ => rfl) rfl rfl Zv.K72.c15⟩
    | 16, hx => cases hx; exact ⟨_, rfl, def_mk KX NS a16 l16 c16 k16 s16 (fun _ _ _ _ _ _ us hl => match us, hl with | [_, _], _ => rfl) rfl rfl Zv.K72.c16⟩
    | 17, hx => cases hx; exact ⟨_, rfl, def_mk KX NS a17 l17 c17 k17 s17 (fun _ _ _ _ _ _ us hl => match us, hl with | [_], _ => rfl) rfl rfl Zv.K72.c17⟩
    | 18, hx => cases hx; exact ⟨_, rfl, def_mk KX NS a18 l18 c18 k18 s18 (fun _ _ _ _ _ _ us hl => match us, hl with | [_], _ => rfl) rfl rfl Zv.K72.c18⟩
    | 19, hx => cases hx; exact ⟨_, rfl, def_mk KX NS a19 l19 c19 k19 s19 (fun _ _ _ _ _ _ us hl => match us, hl with | [_, _], _ => rfl) rfl rfl Zv.K72.c19⟩
    | 20, hx => cases hx; exact ⟨_, rfl, def_mk KX NS a20 l20 c20 k20 s20 (fun _ _ _ _ _ _ us hl => match us, hl with | [_], _ => rfl) rfl rfl Zv.K72.c20⟩
    | 21, hx => cases hx; exact ⟨_, rfl, def_mk KX NS a21 l21 c21 k21 s21 (fun _ _ _ _ _ _ us hl => match us, hl with | [_, _], _ => rfl) rfl rfl Zv.K72.c21⟩
    | 22, hx => cases hx; exact ⟨_, rfl, def_mk KX NS a22 l22 c22 k22 s22 (fun _ _ _ _ _ _ us hl => match us, hl with | [_, _, _], _ => rfl) rfl rfl Zv.K72.c22⟩
    | 23, hx => cases hx; exact ⟨_, rfl, def_mk KX NS a23 l23 c23 k23 s23 (fun _ _ _ _ _ _ us hl => match us, hl with | [_, _], _ => rfl) rfl rfl Zv.K72.c23⟩
    | 24, hx => cases hx; exact ⟨_, rfl, def_mk KX NS a24 l24 c24 k24 s24 (fun _ _ _ _ _ _ us hl => match us, hl with | [_, _], _ => rfl) rfl rfl Zv.K72.c24⟩
    | 25, hx => cases hx; exact ⟨_, rfl, def_mk KX NS a25 l25 c25 k25 s25 (fun _ _ _ _ _ _ us hl => match us, hl with | [_], _ => rfl) rfl rfl Zv.K72.c25⟩
    | 26, hx => cases hx; exact ⟨_, rfl, def_mk KX NS a26 l26 c26 k26 s26 (fun _ _ _ _ _ _ us hl => match us, hl with | [_, _], _ => rfl) rfl rfl Zv.K72.c26⟩
    | 27, hx => cases hx; exact ⟨_, rfl, def_mk KX NS a27 l27 c27 k27 s27 (fun _ _ _ _ _ _ us hl => match us, hl with | [_, _, _], _ => rfl) rfl rfl Zv.K72.c27⟩
    | 28, hx => cases hx; exact ⟨_, rfl, def_mk KX NS a28 l28 c28 k28 s28 (fun _ _ _ _ _ _ us hl => match us, hl with | [_], _ => rfl) rfl rfl Zv.K72.c28⟩
    | j + 29, hx => simp [fnm] at hx
  case R =>
    intro j x hj hx
    match j, hx with
    | 0, hx => cases hx; exact ⟨C, "ValueError", "ValueError.__new__", "ValueError.__init__", _, rfl, PySem.F.excBase_ValueError, xE, mz, xK, xB, xT⟩
    | j + 1, hx => simp [xn] at hx
  case H =>
    intro j x hx
    match j, hx with
    | 0, hx => cases hx; refine ⟨C, mz, fun y C1 f hy => ?_⟩; (by_cases hc : y.cls = 0); (rw [show (lk K G T (fun j => if j = 0 then some (C, none) else none) 0).xt y.cls = some (C, none) from if_pos hc] at hy; cases hy; rw [xM]; show some true = some (takesX 0 y); unfold takesX; rw [hc]; rfl); (rw [show (lk K G T (fun j => if j = 0 then some (C, none) else none) 0).xt y.cls = none from if_neg hc] at hy; cases hy)
    | j + 1, hx => simp [xn] at hx
end Zv.K72

set_option Elab.async false
set_option autoImplicit false
set_option linter.all false
set_option maxRecDepth 100000
namespace Zv.K72
open PySem
local macro_rules | `(tactic| walk_at "z") => `(tactic| simp -dsimp only [R.bd_ok, R.bd_ex, R.bd_no, R.bd_ite, ↓z_bind_at, pure_at, liR_some, liR_none, z_lift_at, SR.ob_ok, SR.ob_ex, SR.ob_no, SR.ob_ite, SR.tn_nx, SR.tn_rt, SR.tn_bk, SR.tn_ct, SR.tn_ex, SR.tn_no, SR.tn_ite, slD_val, slD_own, slD_kept, look_v, look_fr, look_sl, rd_v, rd_fr, rd_sl, fzK_val, fzK_kept, fzK_own, fzK_lent, fz_v, fz_fr, fz_sl, putK_none, putK_val, putK_own, bdR_some, ev_k, ev_g, vK_val, vK_kept, vK_own, ev_v, ev_bin, negD_int, ev_neg, invD_int, ev_inv, ev_cmp, ev_chain, ev_nt, ev_an, ev_or, z_ev_ife, ev_tup, ev_lst, ev_idx, ev_cut, ev_call, ev_p1, ev_rev, ev_isi, pitK_at, ev_pit, strO_str, ev_splt, evO_none, intD_int, evO_some, evs_nil, evs_cons, z_evAn_one, evAn_cons, z_evOr_one, evOr_cons, evIf_nil, evIf_cons, fzAll_nil, fzAll_cons, frzAll_nil, frzAll_fr, frzAll_v, frzAll_sl, argK_val, argK_kept, argK_own, argOf_v, argOf_fr, argOf_sl, argsOf_nil, consO_some, argsOf_cons, callK_ok, callK_ex, callA_some, callM_at, callK_ite, backK_own, backOf_nil, backOf_v, backOf_fr, backOf_sl, backSlot_own, backSlot_kept, backSlot_kept', loseK_own, loseOf_nil, loseOf_v, loseOf_fr, loseOf_sl, slotsOf_nil, slotsOf_v, slotsOf_fr, slotsOf_sl, onceN_nil, onceN_one, asgT_nm, asgT_ow, asgT_owd, asgT_tup, thenO_some, putO_none, putO_val, putO_own, putS_at, bindT_nm, bindT_tup, bindT_lst, bindTs_nil, bindTs_cons, asgTs_nil, asgTs_cons, evIt_sq, evIt_rg, evIt_rg2, evIt_zip, evIt_enm, evSs_nil, evSs_cons, evS_doc, evS_asg, evS_par, evS_setI, isOwnK_own, isOwn_lt, appK_own, evS_app, extK_own, evS_ext, augK_int, augR_int, evS_aug, evS_ex, evS_if, evS_retN, evS_brk, evS_cnt, evS_pass, evS_raiseN, retK_val, retK_kept, retK_own, retK_lent, retOf_v, retOf_fr, retOf_sl, evS_ret, tryK_ex, tryK_rt, tryK_nx, tryK_ite, evS_try, evHs_k, evHs_nil, evS_for, evS_whl, fnK_rt, fnK_nx, fnK_ex, fnK_ite, outsOf_nil, outsOf_val, outsOf_own, bop_add, bop_sub, bop_tup, bop_lst, fit_int, cop_eqI, cop_neI, cop_eqB, cop_neB, cop_lt, cop_le, cop_gt, cop_ge, cop_is, cop_isNot, cop_in, cop_notIn, tr_bool, tr_int, tr_none, tr_tup, tr_lst, atL_some, idxL_at, idxT_at, ix_neg, ix_0, ix_1, ix_2, ix_3, ix_4, ix_5, ix_6, setOb_lst, setR_some, setK_at, p_len_l, p_len_t, p_tup_l, p_tup_t, p_lst_l, p_lst_t, rev_l, rev_t, p_abs, p_int, p_intb, p_all, p_any, eqv_int, eqv_str, dlst, isTy_int_int, isTy_int_bool, isTy_int_str, isTy_int_tuple, isTy_int_list, isTy_int_dict, isTy_int_none, isTy_bool_int, isTy_bool_bool, isTy_bool_str, isTy_bool_tuple, isTy_bool_list, isTy_bool_dict, isTy_bool_none, isTy_str_int, isTy_str_bool, isTy_str_str, isTy_str_tuple, isTy_str_list, isTy_str_dict, isTy_str_none, isTy_tuple_int, isTy_tuple_bool, isTy_tuple_str, isTy_tuple_tuple, isTy_tuple_list, isTy_tuple_dict, isTy_tuple_none, isTy_list_int, isTy_list_bool, isTy_list_str, isTy_list_tuple, isTy_list_list, isTy_list_dict, isTy_list_none, p1_lset_l, p1_lset_t, p1_sset_l, p1_sset_t, p1_max_l, p1_max_t, p1_min_l, p1_min_t, fr_none, fr_val, fr_own, putO_fr, putK_fr, lockOk_nil, lockOk_v, lockOk_fr, lockOk_sl, lockE_nil, lockE_v, lockE_fr, openE_nil, openE_v, openE_fr, lockK_own, lockE_one, openK_own, openK_lent, openE_one, stands_v, stands_fr, standK_some, stands_sl, items_l, items_t, zips_l, zips_t, enum_l, enum_t, wipe_nil, wipe_cons, merge_nil, merge_cons, List.getD_cons_zero, List.getD_cons_succ, map_id, sm_self, true_and, false_and, and_true, and_false, and_self, not_true_eq_false, not_false_eq_true, ite_self, ↓reduceIte, List.getElem?_cons_zero, List.getElem?_cons_succ, List.getElem?_nil, List.set_cons_zero, List.set_cons_succ, List.map_cons, List.map_nil, Option.map_some, Option.map_none, Bool.false_eq_true, Bool.and_true, Bool.true_and, Bool.and_false, Bool.false_and, Bool.and_self, Bool.not_true, Bool.not_false, List.length_cons, List.length_nil, List.replicate_succ, List.replicate_zero, List.cons_append, List.nil_append, decide_true, decide_false, decide_eq_true_eq, Nat.reduceAdd, Nat.reduceSub, Nat.reduceLT, Nat.reduceLeDiff, List.isEmpty_cons, List.isEmpty_nil, Int.reduceMul, Int.reduceAdd, beq_iff_eq, Int.reduceNeg, Int.reduceEq, Int.reduceBEq, Int.cast_ofNat_Int])
local macro_rules | `(tactic| walk_at "z*") => `(tactic| simp -dsimp only [R.bd_ok, R.bd_ex, R.bd_no, R.bd_ite, ↓z_bind_at, pure_at, liR_some, liR_none, z_lift_at, SR.ob_ok, SR.ob_ex, SR.ob_no, SR.ob_ite, SR.tn_nx, SR.tn_rt, SR.tn_bk, SR.tn_ct, SR.tn_ex, SR.tn_no, SR.tn_ite, slD_val, slD_own, slD_kept, look_v, look_fr, look_sl, rd_v, rd_fr, rd_sl, fzK_val, fzK_kept, fzK_own, fzK_lent, fz_v, fz_fr, fz_sl, putK_none, putK_val, putK_own, bdR_some, ev_k, ev_g, vK_val, vK_kept, vK_own, ev_v, ev_bin, negD_int, ev_neg, invD_int, ev_inv, ev_cmp, ev_chain, ev_nt, ev_an, ev_or, z_ev_ife, ev_tup, ev_lst, ev_idx, ev_cut, ev_call, ev_p1, ev_rev, ev_isi, pitK_at, ev_pit, strO_str, ev_splt, evO_none, intD_int, evO_some, evs_nil, evs_cons, z_evAn_one, evAn_cons, z_evOr_one, evOr_cons, evIf_nil, evIf_cons, fzAll_nil, fzAll_cons, frzAll_nil, frzAll_fr, frzAll_v, frzAll_sl, argK_val, argK_kept, argK_own, argOf_v, argOf_fr, argOf_sl, argsOf_nil, consO_some, argsOf_cons, callK_ok, callK_ex, callA_some, callM_at, callK_ite, backK_own, backOf_nil, backOf_v, backOf_fr, backOf_sl, backSlot_own, backSlot_kept, backSlot_kept', loseK_own, loseOf_nil, loseOf_v, loseOf_fr, loseOf_sl, slotsOf_nil, slotsOf_v, slotsOf_fr, slotsOf_sl, onceN_nil, onceN_one, asgT_nm, asgT_ow, asgT_owd, asgT_tup, thenO_some, putO_none, putO_val, putO_own, putS_at, bindT_nm, bindT_tup, bindT_lst, bindTs_nil, bindTs_cons, asgTs_nil, asgTs_cons, evIt_sq, evIt_rg, evIt_rg2, evIt_zip, evIt_enm, evSs_nil, evSs_cons, evS_doc, evS_asg, evS_par, evS_setI, isOwnK_own, isOwn_lt, appK_own, evS_app, extK_own, evS_ext, augK_int, augR_int, evS_aug, evS_ex, evS_if, evS_retN, evS_brk, evS_cnt, evS_pass, evS_raiseN, retK_val, retK_kept, retK_own, retK_lent, retOf_v, retOf_fr, retOf_sl, evS_ret, tryK_ex, tryK_rt, tryK_nx, tryK_ite, evS_try, evHs_k, evHs_nil, evS_for, evS_whl, fnK_rt, fnK_nx, fnK_ex, fnK_ite, outsOf_nil, outsOf_val, outsOf_own, bop_add, bop_sub, bop_tup, bop_lst, fit_int, cop_eqI, cop_neI, cop_eqB, cop_neB, cop_lt, cop_le, cop_gt, cop_ge, cop_is, cop_isNot, cop_in, cop_notIn, tr_bool, tr_int, tr_none, tr_tup, tr_lst, atL_some, idxL_at, idxT_at, ix_neg, ix_0, ix_1, ix_2, ix_3, ix_4, ix_5, ix_6, setOb_lst, setR_some, setK_at, p_len_l, p_len_t, p_tup_l, p_tup_t, p_lst_l, p_lst_t, rev_l, rev_t, p_abs, p_int, p_intb, p_all, p_any, eqv_int, eqv_str, dlst, isTy_int_int, isTy_int_bool, isTy_int_str, isTy_int_tuple, isTy_int_list, isTy_int_dict, isTy_int_none, isTy_bool_int, isTy_bool_bool, isTy_bool_str, isTy_bool_tuple, isTy_bool_list, isTy_bool_dict, isTy_bool_none, isTy_str_int, isTy_str_bool, isTy_str_str, isTy_str_tuple, isTy_str_list, isTy_str_dict, isTy_str_none, isTy_tuple_int, isTy_tuple_bool, isTy_tuple_str, isTy_tuple_tuple, isTy_tuple_list, isTy_tuple_dict, isTy_tuple_none, isTy_list_int, isTy_list_bool, isTy_list_str, isTy_list_tuple, isTy_list_list, isTy_list_dict, isTy_list_none, p1_lset_l, p1_lset_t, p1_sset_l, p1_sset_t, p1_max_l, p1_max_t, p1_min_l, p1_min_t, fr_none, fr_val, fr_own, putO_fr, putK_fr, lockOk_nil, lockOk_v, lockOk_fr, lockOk_sl, lockE_nil, lockE_v, lockE_fr, openE_nil, openE_v, openE_fr, lockK_own, lockE_one, openK_own, openK_lent, openE_one, stands_v, stands_fr, standK_some, stands_sl, items_l, items_t, zips_l, zips_t, enum_l, enum_t, wipe_nil, wipe_cons, merge_nil, merge_cons, List.getD_cons_zero, List.getD_cons_succ, map_id, sm_self, true_and, false_and, and_true, and_false, and_self, not_true_eq_false, not_false_eq_true, ite_self, ↓reduceIte, List.getElem?_cons_zero, List.getElem?_cons_succ, List.getElem?_nil, List.set_cons_zero, List.set_cons_succ, List.map_cons, List.map_nil, Option.map_some, Option.map_none, Bool.false_eq_true, Bool.and_true, Bool.true_and, Bool.and_false, Bool.false_and, Bool.and_self, Bool.not_true, Bool.not_false, List.length_cons, List.length_nil, List.replicate_succ, List.replicate_zero, List.cons_append, List.nil_append, decide_true, decide_false, decide_eq_true_eq, Nat.reduceAdd, Nat.reduceSub, Nat.reduceLT, Nat.reduceLeDiff, List.isEmpty_cons, List.isEmpty_nil, Int.reduceMul, Int.reduceAdd, beq_iff_eq, Int.reduceNeg, Int.reduceEq, Int.reduceBEq, Int.cast_ofNat_Int, *])
theorem c_is_whole (k : Nat) (d : D) : callAt G T (k + 1) i_is_whole [.val d] = .ok (.bool (isW d)) false [some (.val d)] := by
  rw [call_of t_is_whole rfl rfl]
  unfold b_is_whole
  cases d <;> (simp only [isW]; walk_at "z")
theorem c_is_set (k : Nat) (d : D) (n : Int) (hd : smallD d = true) : callAt G T (k + 2) i_is_set [.val d, .val (.int n)] = .ok (.bool (isStD n d)) false [some (.val d), some (.val (.int n))] := by
  rw [call_of t_is_set rfl rfl]
  unfold b_is_set
  by_cases ht : isTy .tuple d = true
  · obtain ⟨xs, rfl⟩ : ∃ xs, d = .tuple xs := by cases d <;> simp [isTy] at ht; exact ⟨_, rfl⟩
    have hl := (small_tup hd).1
    have q1 : ev G (callAt G T (k + 1)) q_is_set_1 [some (.val (.tuple xs)), some (.val (.int n)), none, none] = .ok (.fr (.list (xs.map fun x => .bool (isCol n x)))) [some (.val (.tuple xs)), some (.val (.int n)), none, none] := by
      refine lc_map xs (fun x => x) (fun x => .bool (isCol n x)) rfl ⟨_, _, by rw [List.map_id']; walk_at "z*"; rfl, rfl⟩ (fun y hy => ⟨_, by walk_at "z"; rfl, by walk_at "z", ?_⟩) (by rw [line_val]; omega)
      have cw := c_is_whole k y
      cases y with
      | int i =>
        simp only [isW, isCol] at cw ⊢
        by_cases c : 0 ≤ i
        · walk_at "z*"
        · walk_at "z*"
      | _ => simp only [isW, isCol] at cw ⊢; walk_at "z*"
    unfold isStD
    by_cases hall : xs.all (isCol n) = true
    · obtain ⟨is, rfl, h1, h2⟩ := cols_ints hall
      have q2 : ev G (callAt G T (k + 1)) q_is_set_2 [some (.val (.tuple (is.map PyData.int))), some (.val (.int n)), none, none] = .ok (.fr (.list ((is.zip (is.drop 1)).map fun p => .bool (decide (p.1 < p.2))))) [some (.val (.tuple (is.map PyData.int))), some (.val (.int n)), none, none] := by
        refine lc_map (is.zip (is.drop 1)) (fun p => .tuple [.int p.1, .int p.2]) (fun p => .bool (decide (p.1 < p.2))) rfl ⟨_, _, by
          have e : zipD (is.map PyData.int) ((is.map PyData.int).drop 1) = (is.zip (is.drop 1)).map fun p => .tuple [.int p.1, .int p.2] := by
            rw [zipD_tail, ← List.map_drop, List.zip_map, List.map_map]; rfl
          have ct := cut_tail (is.map PyData.int)
          walk_at "z*"; rfl, rfl⟩ (fun y hy => ⟨_, by walk_at "z"; rfl, by walk_at "z", by walk_at "z"⟩) ?_
        rw [List.length_zip, line_val]
        rw [List.length_map] at hl
        omega
      have az := asc_zip is
      dsimp only
      rw [h2, hall]
      dsimp only
      rw [← az]
      walk_at "z*"
    · rw [Bool.not_eq_true] at hall
      dsimp only
      walk_at "z*"
  · rw [Bool.not_eq_true] at ht
    have e : isStD n d = false := by cases d <;> first | rfl | simp [isTy] at ht
    rw [e]
    walk_at "z*"
theorem c_is_rule (k : Nat) (d : D) (n : Int) (hd : smallD d = true) : callAt G T (k + 3) i_is_rule [.val d, .val (.int n)] = .ok (.bool (isRuleD n d)) false [some (.val d), some (.val (.int n))] := by
  rw [call_of t_is_rule rfl rfl]
  unfold b_is_rule
  by_cases ht : ∃ l r, d = .tuple [l, r]
  · obtain ⟨l, r, rfl⟩ := ht
    obtain ⟨_, sm⟩ := small_tup hd
    have cs := c_is_set k l n (sm l List.mem_cons_self)
    have ht : isTy .tuple (.tuple [l, r]) = true := rfl
    simp only [isRuleD]
    by_cases hs : isStD n l = true
    · obtain ⟨is, rfl, h1, h2⟩ := isSt_tup hs
      have ln : ((is.map PyData.int).length : Int) = is.length := by rw [List.length_map]
      have cw := c_is_whole (k + 1) r
      simp only [tabItems]
      by_cases he : is = []
      · subst he
        simp only [List.map_nil] at *
        walk_at "z*"
      · have l0 : ¬ ((is.length : Int) = 0) := by
          intro z; exact he (List.eq_nil_of_length_eq_zero (by omega))
        have e0 : (is.map PyData.int).isEmpty = false := by
          cases is with
          | nil => exact absurd rfl he
          | cons a b => rfl
        cases r with
        | int i =>
          have ci : inD (.int i) (.tuple (is.map PyData.int)) = some (decide (i ∈ is)) := in_tuple enc_int (by decide) trivial (fun _ _ => trivial)
          have en : notIn (is.map PyData.int) (.int i) = !decide (i ∈ is) := by unfold notIn; rw [intsOf_map]
          simp only [isCol, isW] at cw ⊢
          by_cases c : 0 ≤ i
          · by_cases c2 : i < n
            · walk_at "z*"
            · walk_at "z*"
          · walk_at "z*"
        | _ => simp only [isCol, isW] at cw ⊢; walk_at "z*"
    · rw [Bool.not_eq_true] at hs
      walk_at "z*"
  · have e : isRuleD n d = false := by
      cases d <;> first | rfl | skip
      rename_i xs
      rcases xs with _ | ⟨a, _ | ⟨b, _ | ⟨c, r⟩⟩⟩ <;> first | rfl | exact absurd ⟨_, _, rfl⟩ ht
    rw [e]
    cases d
    case tuple xs =>
      have h1 : isTy .tuple (.tuple xs) = true := rfl
      have h2 : ¬ ((xs.length : Int) = 2) := by
        intro z
        have z : xs.length = 2 := by omega
        rcases xs with _ | ⟨a, _ | ⟨b, _ | ⟨c, r⟩⟩⟩ <;> simp at z
        exact ht ⟨_, _, rfl⟩
      walk_at "z*"
    all_goals (walk_at "z")
theorem c_are_rules (k : Nat) (d : D) (n : Int) (hd : smallD d = true) : callAt G T (k + 4) i_are_rules [.val d, .val (.int n)] = .ok (.bool (areRulesD n d)) false [some (.val d), some (.val (.int n))] := by
  rw [call_of t_are_rules rfl rfl]
  unfold b_are_rules
  have g_0 : G[0]? = some (.int 6) := rfl
  have g_1 : G[1]? = some (.int 6) := rfl
  have g_2 : G[2]? = some (.int 6) := rfl
  have g_3 : G[3]? = some (.int 3) := rfl
  cases d
  case tuple xs =>
    have hl := (small_tup hd).1
    have sm := (small_tup hd).2
    unfold areRulesD
    by_cases h6 : xs.length ≤ 6
    · have h6' : ¬ (6 : Int) < xs.length := by omega
      have q1 : ev G (callAt G T (k + 3)) q_are_rules_1 [some (.val (.tuple xs)), some (.val (.int n)), none] = .ok (.fr (.list (xs.map fun x => .bool (isRuleD n x)))) [some (.val (.tuple xs)), some (.val (.int n)), none] := by
        refine lc_map xs (fun x => x) (fun x => .bool (isRuleD n x)) rfl ⟨_, _, by rw [List.map_id']; walk_at "z*"; rfl, rfl⟩ (fun y hy => ⟨_, by walk_at "z"; rfl, by walk_at "z", ?_⟩) (by rw [line_val]; omega)
        have cr := c_is_rule k y n (sm y hy)
        walk_at "z*"
      by_cases hall : xs.all (isRuleD n) = true
      · have so := rule_set hall (by omega)
        have ls : lsetOf xs = some (.v (.int (onceD xs).length)) := by unfold lsetOf; rw [so]; rfl
        have lc : decide (((onceD xs).length : Int) = (xs.length : Int)) = decide ((onceD xs).length = xs.length) := decide_eq_decide.mpr ⟨fun z => by omega, fun z => by omega⟩
        walk_at "z*"
      · rw [Bool.not_eq_true] at hall
        walk_at "z*"
    · have h6' : (6 : Int) < xs.length := by omega
      walk_at "z*"
  all_goals (unfold areRulesD; walk_at "z")
theorem tabs_q2 (cl : Cl) (xs : List D) (n : Int) (is : List Int) (e : xs.flatMap tabItems = is.map PyData.int) (hc : is.length ≤ line) (hall : (xs.all fun t => isStD n t && decide (0 < (tabItems t).length)) = true) :
    ev G cl q_are_tables_2 [some (.val (.tuple xs)), some (.val (.int n)), none, none] = .ok (.fr (.list (is.map PyData.int))) [some (.val (.tuple xs)), some (.val (.int n)), none, none] := by
  rw [← e]
  have fl : ∀ y : D, (tabItems y).filter (fun _ => true) = tabItems y := fun y => List.filter_eq_self.mpr (fun _ _ => rfl)
  have ll : (xs.flatMap tabItems).length ≤ line := by rw [e, List.length_map]; exact hc
  have z := lc2_if (G := G) (cl := cl) (own := [2, 3]) (own1 := [3]) (el := .v 3) (t := .nm 2) (it := .sq (.v 0)) (t1 := .nm 3) (it1 := .sq (.v 2)) (ifs1 := .nil) (e := [some (.val (.tuple xs)), some (.val (.int n)), none, none]) xs (fun x => x) tabItems (fun x => x) (fun _ _ => true) (fun _ x => x) rfl ⟨_, _, by rw [List.map_id']; walk_at "z*"; rfl, rfl⟩ (fun y hy => by
    have hy2 := List.all_eq_true.mp hall y hy
    rw [Bool.and_eq_true] at hy2
    obtain ⟨js, rfl, _⟩ := isSt_tup hy2.1
    refine ⟨_, by walk_at "z"; rfl, _, _, _, by rw [List.map_id']; simp only [tabItems]; walk_at "z"; rfl, by walk_at "z"; rfl, rfl, ?_, ?_⟩
    · intro e2 h2
      have := congrArg (fun w => wipeE w [2, 3]) h2
      rcases e2 with _ | ⟨a0, _ | ⟨a1, _ | ⟨a2, _ | ⟨a3, r⟩⟩⟩⟩
      all_goals (simp [wipeE] at h2 ⊢)
      obtain ⟨rfl, rfl, rfl, rfl⟩ := h2
      exact ⟨rfl, rfl, rfl⟩
    · intro z hz
      exact ⟨_, by walk_at "z"; rfl, by walk_at "z", by walk_at "z", fun _ => by walk_at "z"⟩) (by
    simp only [fl, List.map_id']
    exact ll)
  simp only [fl, List.map_id'] at z
  exact z
theorem c_are_tables (k : Nat) (d : D) (n : Int) (hn : n ≤ 6) (hd : smallD d = true) : callAt G T (k + 3) i_are_tables [.val d, .val (.int n)] = .ok (.bool (areTabsD n d)) false [some (.val d), some (.val (.int n))] := by
  rw [call_of t_are_tables rfl rfl]
  unfold b_are_tables
  have g_0 : G[0]? = some (.int 6) := rfl
  have g_1 : G[1]? = some (.int 6) := rfl
  have g_2 : G[2]? = some (.int 6) := rfl
  have g_3 : G[3]? = some (.int 3) := rfl
  cases d
  case tuple xs =>
    have hl := (small_tup hd).1
    have sm := (small_tup hd).2
    unfold areTabsD
    by_cases h1 : 1 ≤ xs.length
    · have h1' : (1 : Int) ≤ xs.length := by omega
      by_cases h6 : xs.length ≤ 6
      · have h6' : (xs.length : Int) ≤ 6 := by omega
        have q1 : ev G (callAt G T (k + 2)) q_are_tables_1 [some (.val (.tuple xs)), some (.val (.int n)), none, none] = .ok (.fr (.list (xs.map fun x => .bool (isStD n x && decide (0 < (tabItems x).length))))) [some (.val (.tuple xs)), some (.val (.int n)), none, none] := by
          refine lc_map xs (fun x => x) (fun x => .bool (isStD n x && decide (0 < (tabItems x).length))) rfl ⟨_, _, by rw [List.map_id']; walk_at "z*"; rfl, rfl⟩ (fun y hy => ⟨_, by walk_at "z"; rfl, by walk_at "z", ?_⟩) (by rw [line_val]; omega)
          have cr := c_is_set k y n (sm y hy)
          by_cases c : isStD n y = true
          · obtain ⟨is, rfl, _⟩ := isSt_tup c
            have lc : decide ((0 : Int) < ((is.map PyData.int).length : Nat)) = decide (0 < (is.map PyData.int).length) := decide_eq_decide.mpr ⟨fun z => by omega, fun z => by omega⟩
            simp only [tabItems]
            walk_at "z*"
            all_goals rfl
          · rw [Bool.not_eq_true] at c
            walk_at "z*"
        by_cases hall : (xs.all fun t => isStD n t && decide (0 < (tabItems t).length)) = true
        · obtain ⟨is, e, hb, hc⟩ := tabs_ints hn hall
          have q2 := tabs_q2 (callAt G T (k + 2)) xs n is e (by rw [line_val]; omega) hall
          obtain ⟨m, rfl⟩ : ∃ m : Nat, n = (m : Int) := ⟨n.toNat, by
            rcases xs with _ | ⟨x, xs⟩
            · simp at h1
            · have hx := List.all_eq_true.mp hall x List.mem_cons_self
              rw [Bool.and_eq_true] at hx
              obtain ⟨js, rfl, kb, _⟩ := isSt_tup hx.1
              rcases js with _ | ⟨j, js⟩
              · simp [tabItems] at hx
              · have := kb j List.mem_cons_self
                omega⟩
          have s1 := sset_int (is := is) (by omega)
          have ir : inR (m : Int) = true := by unfold inR; rw [decide_eq_true_eq]; omega
          have rg : ∀ e, rgR (.int (m : Int)) e = .ok ⟨(upTo m).map PyData.int, [], fun _ => true⟩ e := fun e => by rw [rgR_int _ _ ir, Int.toNat_natCast, range_upTo]
          have l1 : ((upTo m).map PyData.int).length ≤ line := by
            rw [List.length_map]; unfold upTo; rw [List.length_map, List.length_range, line_val]; omega
          have ce : cop .eq (.list ((setI is).map PyData.int)) (.list ((upTo m).map PyData.int)) = some (decide (setI is = upTo m)) := eq_enc (enc_lst enc_int) (by decide) (fun _ _ => trivial) (fun _ _ => trivial)
          have sf := setI_full (n := m) hb
          have is2 := intsOf_map is
          walk_at "z*"
          rw [Int.toNat_natCast]
        · rw [Bool.not_eq_true] at hall
          walk_at "z*"
      · have h6' : ¬ (xs.length : Int) ≤ 6 := by omega
        walk_at "z*"
    · have h1' : ¬ (1 : Int) ≤ xs.length := by omega
      walk_at "z*"
  all_goals (unfold areTabsD; walk_at "z")
theorem c_is_scheme (k : Nat) (d : D) (hd : smallD d = true) : callAt G T (k + 5) i_is_scheme [.val d] = .ok (.bool (isSchD d)) false [some (.val d)] := by
  rw [call_of t_is_scheme rfl rfl]
  unfold b_is_scheme
  have g_0 : G[0]? = some (.int 6) := rfl
  have g_1 : G[1]? = some (.int 6) := rfl
  have g_2 : G[2]? = some (.int 6) := rfl
  have g_3 : G[3]? = some (.int 3) := rfl
  by_cases ht : ∃ a b c, d = .tuple [a, b, c]
  · obtain ⟨a, b, c, rfl⟩ := ht
    obtain ⟨_, sm⟩ := small_tup hd
    have sb := sm b (by simp)
    have sc := sm c (by simp)
    have cw := c_is_whole (k + 3) a
    cases a with
    | int i =>
      simp only [isW] at cw
      unfold isSchD
      by_cases c1 : 1 ≤ i
      · by_cases c6 : i ≤ 6
        · have cr := c_are_rules k b i sb
          have ct := c_are_tables (k + 1) c i c6 sc
          cases hr : areRulesD i b
          · rw [hr] at cr
            walk_at "z*"
          · rw [hr] at cr
            walk_at "z*"
        · walk_at "z*"
      · walk_at "z*"
    | _ => simp only [isW] at cw; unfold isSchD; walk_at "z*"
  · have e : isSchD d = false := by
      unfold isSchD
      split
      · exact absurd ⟨_, _, _, rfl⟩ ht
      · rfl
    rw [e]
    cases d
    case tuple xs =>
      have h2 : ¬ ((xs.length : Int) = 3) := by
        intro z
        have z : xs.length = 3 := by omega
        rcases xs with _ | ⟨a, _ | ⟨b, _ | ⟨c, _ | ⟨d, r⟩⟩⟩⟩ <;> simp at z
        exact ht ⟨_, _, _, rfl⟩
      walk_at "z*"
    all_goals (walk_at "z")
theorem c_check_ok (k : Nat) (d : D) (hd : smallD d = true) (h : isSchD d = true) : callAt G T (k + 6) i_check_scheme [.val d] = .ok .none false [some (.val d)] := by
  rw [call_of t_check_scheme rfl rfl]
  unfold b_check_scheme
  have ci := c_is_scheme k d hd
  rw [h] at ci
  walk_at "z*"
theorem c_check_no (k : Nat) (d : D) (hd : smallD d = true) (h : isSchD d = false) : callAt G T (k + 6) i_check_scheme [.val d] = .ex ⟨0, .none⟩ := by
  rw [call_of t_check_scheme rfl rfl]
  unfold b_check_scheme
  have ci := c_is_scheme k d hd
  rw [h] at ci
  walk_at "z*"
end Zv.K72

set_option Elab.async false
set_option autoImplicit false
set_option linter.all false
set_option maxRecDepth 100000
namespace Zv.K72
open PySem
local macro_rules | `(tactic| walk_at "z") => `(tactic| simp -dsimp only [R.bd_ok, R.bd_ex, R.bd_no, R.bd_ite, ↓z_bind_at, pure_at, liR_some, liR_none, z_lift_at, SR.ob_ok, SR.ob_ex, SR.ob_no, SR.ob_ite, SR.tn_nx, SR.tn_rt, SR.tn_bk, SR.tn_ct, SR.tn_ex, SR.tn_no, SR.tn_ite, slD_val, slD_own, slD_kept, look_v, look_fr, look_sl, rd_v, rd_fr, rd_sl, fzK_val, fzK_kept, fzK_own, fzK_lent, fz_v, fz_fr, fz_sl, putK_none, putK_val, putK_own, bdR_some, ev_k, ev_g, vK_val, vK_kept, vK_own, ev_v, ev_bin, negD_int, ev_neg, invD_int, ev_inv, ev_cmp, ev_chain, ev_nt, ev_an, ev_or, z_ev_ife, ev_tup, ev_lst, ev_idx, ev_cut, ev_call, ev_p1, ev_rev, ev_isi, pitK_at, ev_pit, strO_str, ev_splt, evO_none, intD_int, evO_some, evs_nil, evs_cons, z_evAn_one, evAn_cons, z_evOr_one, evOr_cons, evIf_nil, evIf_cons, fzAll_nil, fzAll_cons, frzAll_nil, frzAll_fr, frzAll_v, frzAll_sl, argK_val, argK_kept, argK_own, argOf_v, argOf_fr, argOf_sl, argsOf_nil, consO_some, argsOf_cons, callK_ok, callK_ex, callA_some, callM_at, callK_ite, backK_own, backOf_nil, backOf_v, backOf_fr, backOf_sl, backSlot_own, backSlot_kept, backSlot_kept', loseK_own, loseOf_nil, loseOf_v, loseOf_fr, loseOf_sl, slotsOf_nil, slotsOf_v, slotsOf_fr, slotsOf_sl, onceN_nil, onceN_one, asgT_nm, asgT_ow, asgT_owd, asgT_tup, thenO_some, putO_none, putO_val, putO_own, putS_at, bindT_nm, bindT_tup, bindT_lst, bindTs_nil, bindTs_cons, asgTs_nil, asgTs_cons, evIt_sq, evIt_rg, evIt_rg2, evIt_zip, evIt_enm, evSs_nil, evSs_cons, evS_doc, evS_asg, evS_par, evS_setI, isOwnK_own, isOwn_lt, appK_own, evS_app, extK_own, evS_ext, augK_int, augR_int, evS_aug, evS_ex, evS_if, evS_retN, evS_brk, evS_cnt, evS_pass, evS_raiseN, retK_val, retK_kept, retK_own, retK_lent, retOf_v, retOf_fr, retOf_sl, evS_ret, tryK_ex, tryK_rt, tryK_nx, tryK_ite, evS_try, evHs_k, evHs_nil, evS_for, evS_whl, fnK_rt, fnK_nx, fnK_ex, fnK_ite, outsOf_nil, outsOf_val, outsOf_own, bop_add, bop_sub, bop_tup, bop_lst, fit_int, cop_eqI, cop_neI, cop_eqB, cop_neB, cop_lt, cop_le, cop_gt, cop_ge, cop_is, cop_isNot, cop_in, cop_notIn, tr_bool, tr_int, tr_none, tr_tup, tr_lst, atL_some, idxL_at, idxT_at, ix_neg, ix_0, ix_1, ix_2, ix_3, ix_4, ix_5, ix_6, setOb_lst, setR_some, setK_at, p_len_l, p_len_t, p_tup_l, p_tup_t, p_lst_l, p_lst_t, rev_l, rev_t, p_abs, p_int, p_intb, p_all, p_any, eqv_int, eqv_str, dlst, isTy_int_int, isTy_int_bool, isTy_int_str, isTy_int_tuple, isTy_int_list, isTy_int_dict, isTy_int_none, isTy_bool_int, isTy_bool_bool, isTy_bool_str, isTy_bool_tuple, isTy_bool_list, isTy_bool_dict, isTy_bool_none, isTy_str_int, isTy_str_bool, isTy_str_str, isTy_str_tuple, isTy_str_list, isTy_str_dict, isTy_str_none, isTy_tuple_int, isTy_tuple_bool, isTy_tuple_str, isTy_tuple_tuple, isTy_tuple_list, isTy_tuple_dict, isTy_tuple_none, isTy_list_int, isTy_list_bool, isTy_list_str, isTy_list_tuple, isTy_list_list, isTy_list_dict, isTy_list_none, p1_lset_l, p1_lset_t, p1_sset_l, p1_sset_t, p1_max_l, p1_max_t, p1_min_l, p1_min_t, fr_none, fr_val, fr_own, putO_fr, putK_fr, lockOk_nil, lockOk_v, lockOk_fr, lockOk_sl, lockE_nil, lockE_v, lockE_fr, openE_nil, openE_v, openE_fr, lockK_own, lockE_one, openK_own, openK_lent, openE_one, stands_v, stands_fr, standK_some, stands_sl, items_l, items_t, zips_l, zips_t, enum_l, enum_t, wipe_nil, wipe_cons, merge_nil, merge_cons, List.getD_cons_zero, List.getD_cons_succ, map_id, sm_self, true_and, false_and, and_true, and_false, and_self, not_true_eq_false, not_false_eq_true, ite_self, ↓reduceIte, List.getElem?_cons_zero, List.getElem?_cons_succ, List.getElem?_nil, List.set_cons_zero, List.set_cons_succ, List.map_cons, List.map_nil, Option.map_some, Option.map_none, Bool.false_eq_true, Bool.and_true, Bool.true_and, Bool.and_false, Bool.false_and, Bool.and_self, Bool.not_true, Bool.not_false, List.length_cons, List.length_nil, List.replicate_succ, List.replicate_zero, List.cons_append, List.nil_append, decide_true, decide_false, decide_eq_true_eq, Nat.reduceAdd, Nat.reduceSub, Nat.reduceLT, Nat.reduceLeDiff, List.isEmpty_cons, List.isEmpty_nil, Int.reduceMul, Int.reduceAdd, beq_iff_eq, Int.reduceNeg, Int.reduceEq, Int.reduceBEq, Int.cast_ofNat_Int])
local macro_rules | `(tactic| walk_at "z*") => `(tactic| simp -dsimp only [R.bd_ok, R.bd_ex, R.bd_no, R.bd_ite, ↓z_bind_at, pure_at, liR_some, liR_none, z_lift_at, SR.ob_ok, SR.ob_ex, SR.ob_no, SR.ob_ite, SR.tn_nx, SR.tn_rt, SR.tn_bk, SR.tn_ct, SR.tn_ex, SR.tn_no, SR.tn_ite, slD_val, slD_own, slD_kept, look_v, look_fr, look_sl, rd_v, rd_fr, rd_sl, fzK_val, fzK_kept, fzK_own, fzK_lent, fz_v, fz_fr, fz_sl, putK_none, putK_val, putK_own, bdR_some, ev_k, ev_g, vK_val, vK_kept, vK_own, ev_v, ev_bin, negD_int, ev_neg, invD_int, ev_inv, ev_cmp, ev_chain, ev_nt, ev_an, ev_or, z_ev_ife, ev_tup, ev_lst, ev_idx, ev_cut, ev_call, ev_p1, ev_rev, ev_isi, pitK_at, ev_pit, strO_str, ev_splt, evO_none, intD_int, evO_some, evs_nil, evs_cons, z_evAn_one, evAn_cons, z_evOr_one, evOr_cons, evIf_nil, evIf_cons, fzAll_nil, fzAll_cons, frzAll_nil, frzAll_fr, frzAll_v, frzAll_sl, argK_val, argK_kept, argK_own, argOf_v, argOf_fr, argOf_sl, argsOf_nil, consO_some, argsOf_cons, callK_ok, callK_ex, callA_some, callM_at, callK_ite, backK_own, backOf_nil, backOf_v, backOf_fr, backOf_sl, backSlot_own, backSlot_kept, backSlot_kept', loseK_own, loseOf_nil, loseOf_v, loseOf_fr, loseOf_sl, slotsOf_nil, slotsOf_v, slotsOf_fr, slotsOf_sl, onceN_nil, onceN_one, asgT_nm, asgT_ow, asgT_owd, asgT_tup, thenO_some, putO_none, putO_val, putO_own, putS_at, bindT_nm, bindT_tup, bindT_lst, bindTs_nil, bindTs_cons, asgTs_nil, asgTs_cons, evIt_sq, evIt_rg, evIt_rg2, evIt_zip, evIt_enm, evSs_nil, evSs_cons, evS_doc, evS_asg, evS_par, evS_setI, isOwnK_own, isOwn_lt, appK_own, evS_app, extK_own, evS_ext, augK_int, augR_int, evS_aug, evS_ex, evS_if, evS_retN, evS_brk, evS_cnt, evS_pass, evS_raiseN, retK_val, retK_kept, retK_own, retK_lent, retOf_v, retOf_fr, retOf_sl, evS_ret, tryK_ex, tryK_rt, tryK_nx, tryK_ite, evS_try, evHs_k, evHs_nil, evS_for, evS_whl, fnK_rt, fnK_nx, fnK_ex, fnK_ite, outsOf_nil, outsOf_val, outsOf_own, bop_add, bop_sub, bop_tup, bop_lst, fit_int, cop_eqI, cop_neI, cop_eqB, cop_neB, cop_lt, cop_le, cop_gt, cop_ge, cop_is, cop_isNot, cop_in, cop_notIn, tr_bool, tr_int, tr_none, tr_tup, tr_lst, atL_some, idxL_at, idxT_at, ix_neg, ix_0, ix_1, ix_2, ix_3, ix_4, ix_5, ix_6, setOb_lst, setR_some, setK_at, p_len_l, p_len_t, p_tup_l, p_tup_t, p_lst_l, p_lst_t, rev_l, rev_t, p_abs, p_int, p_intb, p_all, p_any, eqv_int, eqv_str, dlst, isTy_int_int, isTy_int_bool, isTy_int_str, isTy_int_tuple, isTy_int_list, isTy_int_dict, isTy_int_none, isTy_bool_int, isTy_bool_bool, isTy_bool_str, isTy_bool_tuple, isTy_bool_list, isTy_bool_dict, isTy_bool_none, isTy_str_int, isTy_str_bool, isTy_str_str, isTy_str_tuple, isTy_str_list, isTy_str_dict, isTy_str_none, isTy_tuple_int, isTy_tuple_bool, isTy_tuple_str, isTy_tuple_tuple, isTy_tuple_list, isTy_tuple_dict, isTy_tuple_none, isTy_list_int, isTy_list_bool, isTy_list_str, isTy_list_tuple, isTy_list_list, isTy_list_dict, isTy_list_none, p1_lset_l, p1_lset_t, p1_sset_l, p1_sset_t, p1_max_l, p1_max_t, p1_min_l, p1_min_t, fr_none, fr_val, fr_own, putO_fr, putK_fr, lockOk_nil, lockOk_v, lockOk_fr, lockOk_sl, lockE_nil, lockE_v, lockE_fr, openE_nil, openE_v, openE_fr, lockK_own, lockE_one, openK_own, openK_lent, openE_one, stands_v, stands_fr, standK_some, stands_sl, items_l, items_t, zips_l, zips_t, enum_l, enum_t, wipe_nil, wipe_cons, merge_nil, merge_cons, List.getD_cons_zero, List.getD_cons_succ, map_id, sm_self, true_and, false_and, and_true, and_false, and_self, not_true_eq_false, not_false_eq_true, ite_self, ↓reduceIte, List.getElem?_cons_zero, List.getElem?_cons_succ, List.getElem?_nil, List.set_cons_zero, List.set_cons_succ, List.map_cons, List.map_nil, Option.map_some, Option.map_none, Bool.false_eq_true, Bool.and_true, Bool.true_and, Bool.and_false, Bool.false_and, Bool.and_self, Bool.not_true, Bool.not_false, List.length_cons, List.length_nil, List.replicate_succ, List.replicate_zero, List.cons_append, List.nil_append, decide_true, decide_false, decide_eq_true_eq, Nat.reduceAdd, Nat.reduceSub, Nat.reduceLT, Nat.reduceLeDiff, List.isEmpty_cons, List.isEmpty_nil, Int.reduceMul, Int.reduceAdd, beq_iff_eq, Int.reduceNeg, Int.reduceEq, Int.reduceBEq, Int.cast_ofNat_Int, *])
theorem c_law_set (k : Nat) {o : Ob} (hD : Dr o) (n : Nat) (hn : n ≤ 1000) (m : Int) (hm : 0 < m) (hm2 : m < 1073741824) :
    ∃ (is : List Int) (o' : Ob), callAt G T (k + 2) i__law_set [.own true o, .val (.int n), .val (.int m)] = .ok (.tuple (is.map PyData.int)) false [some (.own true o'), some (.val (.int n)), some (.val (.int m))] ∧ Dr o' ∧ StOk n is := by
  have rg := rg_upTo n (by omega)
  obtain ⟨ds, e', k1, js, o', v, rfl, k3, k4, k5, k6⟩ := lcL_rel (own := [3]) (bind := bindT (.nm 3)) (tests := evIf G (callAt G T (k + 1)) (.cons (.cmp .eq (.call i__law_take (.cons (.v 0) (.cons (.v 2) .nil))) (.k (.int 0))) .nil)) (more := M.bind (ev G (callAt G T (k + 1)) (.v 3)) fun r => M.bind (fz r) fun d => M.pure [d]) (ok := fun _ => true) PyData.int
    (fun ys acc e => ∃ (js : List Int) (o : Ob) (v : Option SV), e = [some (.own true o), some (.val (.int n)), some (.val (.int m)), v] ∧ Dr o ∧ acc = js.map PyData.int ∧ (js ++ ys).Pairwise (· < ·) ∧ ∀ i ∈ js ++ ys, 0 ≤ i ∧ i < (n : Int))
    (by
      rintro y ys acc _ ⟨js, o, v, rfl, hD, rfl, hp, hb⟩
      obtain ⟨r, o2, c2, j1, j2, hD2⟩ := take_ok (G := G) (T := T) (i := i__law_take) k rfl hD m hm hm2
      by_cases c : r = 0
      · subst c
        refine ⟨_, by walk_at "z"; rfl, true, _, by walk_at "z*"; rfl, fun _ => ⟨[.int y], _, by rw [mor_at]; walk_at "z*"; rfl, js ++ [y], o2, _, rfl, hD2, by rw [List.map_append]; rfl, by rw [List.append_assoc]; exact hp, by rw [List.append_assoc]; exact hb⟩, (fun z => nomatch z)⟩
      · refine ⟨_, by walk_at "z"; rfl, false, _, by walk_at "z*"; rfl, (fun z => nomatch z), fun _ => ⟨js, o2, _, rfl, hD2, rfl, ?_, ?_⟩⟩
        · exact List.Pairwise.sublist (List.Sublist.append_left (List.sublist_cons_self y ys) js) hp
        · exact fun i hi => hb i ((List.Sublist.append_left (List.sublist_cons_self y ys) js).subset hi))
    (fun _ _ _ _ => rfl) (upTo n) [] [some (.own true o), some (.val (.int n)), some (.val (.int m)), none] ⟨[], o, none, rfl, hD, rfl, upTo_pw n, fun i hi => mem_upTo.mp hi⟩
  rw [List.nil_append] at k4
  subst k4
  rw [List.append_nil] at k5 k6
  have so : StOk n js := ⟨k6, asc_pw.mpr k5⟩
  have hl : (js.map PyData.int).length ≤ line := by rw [List.length_map, line_val]; have := so.len; omega
  have lk := lstM_ok (own := [3]) k1 hl
  refine ⟨js, o', ?_, k3, so⟩
  rw [call_of t__law_set rfl rfl]
  unfold b__law_set q__law_set_1
  have el := ev_lc (G := G) (cl := callAt G T (k + 1)) (own := [3]) (el := .v 3) (t := .nm 3) (it := .rg (.v 1)) (ifs := (.cons (.cmp .eq (.call i__law_take (.cons (.v 0) (.cons (.v 2) .nil))) (.k (.int 0))) .nil)) (e := [some (.own true o), some (.val (.int n)), some (.val (.int m)), none])
  walk_at "z*"
/-- the rules of a scheme, drawn -/
theorem law_scheme_1 (k : Nat) (n : Nat) (hn : 1 ≤ n ∧ n ≤ 6) (m : D) (s5 s6 s7 s10 : Option SV) (y : Option SV) {o : Ob} (hD : Dr o) (rs : List Rl) (hr : ∀ r ∈ rs, RGood n r) (hd : rs.Nodup) (v8 v9 : Option SV) (h8 : Fr v8) (h9 : Fr v9) (hl : rs.length ≤ 10) :
    ∃ (o' : Ob) (rs' : List Rl) (u8 u9 : Option SV), evSs G (callAt G T (k + 2)) b__law_scheme_L1 [some (.own true o), some (.val m), some (.val (.int n)), some (.own false (.lst (rs.map rlE))), y, s5, s6, s7, v8, v9, s10] =
      .nx [some (.own true o'), some (.val m), some (.val (.int n)), some (.own false (.lst (rs'.map rlE))), y, s5, s6, s7, u8, u9, s10] ∧ Dr o' ∧ (∀ r ∈ rs', RGood n r) ∧ rs'.Nodup ∧ rs'.length ≤ rs.length + 1 ∧ Fr u8 ∧ Fr u9 := by
  obtain ⟨l, o1, c1, d1, g1⟩ := c_law_set k hD n (by omega) 3 (by decide) (by decide)
  obtain ⟨r, o2, c2, r1, r2, d2⟩ := take_ok (G := G) (T := T) (i := i__law_take) (k + 1) rfl d1 n (by omega) (by omega)
  have e2 : inD (.int r) (.tuple (l.map PyData.int)) = some (decide (r ∈ l)) := in_tuple enc_int (by decide) trivial (fun _ _ => trivial)
  unfold b__law_scheme_L1
  by_cases hl0 : l = []
  · refine ⟨o2, rs, some (.val (.tuple (l.map PyData.int))), some (.val (.int r)), ?_, d2, hr, hd, by omega, fr_val _, fr_val _⟩
    have e1 : cop .ne (.tuple (l.map PyData.int)) (.tuple []) = some false := (ne_enc stE_enc (by decide) (a := l) (b := []) trivial trivial).trans (by rw [decide_eq_true hl0]; rfl)
    clear hl0
    walk_at "z*"
  · have e1 : cop .ne (.tuple (l.map PyData.int)) (.tuple []) = some true := (ne_enc stE_enc (by decide) (a := l) (b := []) trivial trivial).trans (by rw [decide_eq_false hl0]; rfl)
    by_cases hm : r ∈ l
    · refine ⟨o2, rs, some (.val (.tuple (l.map PyData.int))), some (.val (.int r)), ?_, d2, hr, hd, by omega, fr_val _, fr_val _⟩
      walk_at "z*"
    · by_cases hi : (l, r) ∈ rs
      · refine ⟨o2, rs, some (.val (.tuple (l.map PyData.int))), some (.val (.int r)), ?_, d2, hr, hd, by omega, fr_val _, fr_val _⟩
        have e3 : inD (.tuple [.tuple (l.map PyData.int), .int r]) (.list (rs.map rlE)) = some true := in_list_yes rlE_enc (by decide) (a := (l, r)) trivial (fun _ _ => trivial) hi
        walk_at "z*"
      · have e3 : inD (.tuple [.tuple (l.map PyData.int), .int r]) (.list (rs.map rlE)) = some false := in_list_no rlE_enc (by decide) (a := (l, r)) trivial (fun _ _ => trivial) hi
        refine ⟨o2, rs ++ [(l, r)], some (.val (.tuple (l.map PyData.int))), some (.val (.int r)), ?_, d2, ?_, ?_, by rw [List.length_append]; exact Nat.le_refl _, fr_val _, fr_val _⟩
        · have ea : (rs ++ [(l, r)]).map rlE = rs.map rlE ++ [.tuple [.tuple (l.map PyData.int), .int r]] := by rw [List.map_append]; rfl
          rw [ea]
          have ll : (rs.map rlE).length < line := by rw [List.length_map, line_val]; omega
          walk_at "z*"
        · intro q hq
          rcases List.mem_append.mp hq with hq | hq
          · exact hr q hq
          · rw [List.mem_singleton.mp hq]; exact ⟨g1, hl0, r1, r2, hm⟩
        · rw [List.nodup_append]
          exact ⟨hd, by simp, fun a ha b hb e => hi (by rw [List.mem_singleton.mp hb] at e; rw [← e]; exact ha)⟩
/-- the tables of a scheme, drawn -/
theorem law_scheme_2 (k : Nat) (n : Nat) (hn : 1 ≤ n ∧ n ≤ 6) (m : D) (s3 s6 s8 s9 s10 : Option SV) (y : Option SV) {o : Ob} (hD : Dr o) (ts : List (List Int)) (hr : ∀ t ∈ ts, StOk n t ∧ t ≠ []) (v7 : Option SV) (h7 : Fr v7) (hl : ts.length ≤ 10) :
    ∃ (o' : Ob) (ts' : List (List Int)) (u7 : Option SV), evSs G (callAt G T (k + 2)) b__law_scheme_L2 [some (.own true o), some (.val m), some (.val (.int n)), s3, y, some (.own false (.lst (ts.map stE'))), s6, v7, s8, s9, s10] =
      .nx [some (.own true o'), some (.val m), some (.val (.int n)), s3, y, some (.own false (.lst (ts'.map stE'))), s6, u7, s8, s9, s10] ∧ Dr o' ∧ (∀ t ∈ ts', StOk n t ∧ t ≠ []) ∧ ts'.length ≤ ts.length + 1 ∧ Fr u7 := by
  obtain ⟨l, o1, c1, d1, g1⟩ := c_law_set k hD n (by omega) 2 (by decide) (by decide)
  unfold b__law_scheme_L2
  by_cases hl0 : l = []
  · refine ⟨o1, ts, some (.val (.tuple (l.map PyData.int))), ?_, d1, hr, by omega, fr_val _⟩
    have e1 : cop .ne (.tuple (l.map PyData.int)) (.tuple []) = some false := (ne_enc stE_enc (by decide) (a := l) (b := []) trivial trivial).trans (by rw [decide_eq_true hl0]; rfl)
    clear hl0
    walk_at "z*"
  · have e1 : cop .ne (.tuple (l.map PyData.int)) (.tuple []) = some true := (ne_enc stE_enc (by decide) (a := l) (b := []) trivial trivial).trans (by rw [decide_eq_false hl0]; rfl)
    refine ⟨o1, ts ++ [l], some (.val (.tuple (l.map PyData.int))), ?_, d1, ?_, by rw [List.length_append]; exact Nat.le_refl _, fr_val _⟩
    · have ea : (ts ++ [l]).map stE' = ts.map stE' ++ [.tuple (l.map PyData.int)] := by rw [List.map_append]; rfl
      rw [ea]
      have ll : (ts.map stE').length < line := by rw [List.length_map, line_val]; omega
      walk_at "z*"
    · intro q hq
      rcases List.mem_append.mp hq with hq | hq
      · exact hr q hq
      · rw [List.mem_singleton.mp hq]; exact ⟨g1, hl0⟩
/-- the columns in no table -/
theorem law_scheme_3 (cl : Cl) (n : Nat) (hn : n ≤ 6) (s0 s1 s3 s4 s6 s7 s8 s9 : Option SV) (ts : List (List Int)) (hl : ts.length ≤ 10) :
    ev G cl q__law_scheme_1 [s0, s1, some (.val (.int n)), s3, s4, some (.own false (.lst (ts.map stE'))), s6, s7, s8, s9, none] =
      .ok (.fr (.list (((upTo n).filter fun a => !(ts.any fun t => decide (a ∈ t))).map PyData.int))) [s0, s1, some (.val (.int n)), s3, s4, some (.own false (.lst (ts.map stE'))), s6, s7, s8, s9, none] := by
  have rg := rg_upTo n (by omega)
  refine lc_if (upTo n) PyData.int (fun a => !(ts.any fun t => decide (a ∈ t))) PyData.int rfl ⟨_, _, by walk_at "z*"; rfl, rfl⟩ (fun y hy => ?_) (by have := (StOk.len (n := n) (is := upTo n) ⟨fun i hi => mem_upTo.mp hi, asc_pw.mpr (upTo_pw n)⟩); rw [line_val]; omega)
  have q2 : ev G cl q__law_scheme_2 [s0, s1, some (.val (.int n)), s3, s4, some (.own false (.lst (ts.map stE'))), s6, s7, s8, s9, some (.val (.int y))] = .ok (.fr (.list (ts.map fun t => .bool (decide (y ∈ t))))) [s0, s1, some (.val (.int n)), s3, s4, some (.own false (.lst (ts.map stE'))), s6, s7, s8, s9, some (.val (.int y))] := by
    refine lc_map ts stE' (fun t => .bool (decide (y ∈ t))) rfl ⟨_, _, by walk_at "z*"; rfl, by walk_at "z*"⟩ (fun t ht => ?_) (by rw [line_val]; omega)
    have e2 : inD (.int y) (.tuple (t.map PyData.int)) = some (decide (y ∈ t)) := in_tuple enc_int (by decide) trivial (fun _ _ => trivial)
    exact ⟨_, by show bindT (.nm 7) (.tuple (t.map PyData.int)) _ = _; walk_at "z"; rfl, by walk_at "z", by walk_at "z*"⟩
  exact ⟨_, by walk_at "z"; rfl, by walk_at "z", by walk_at "z*"; (cases (ts.any fun x => decide (y ∈ x)) <;> rfl), fun _ => by walk_at "z"⟩
theorem c_law_scheme (k : Nat) {o : Ob} (hD : Dr o) (m : Int) (hm : 1 ≤ m ∧ m ≤ 6) :
    ∃ (n : Nat) (rs : List Rl) (ts : List (List Int)) (o' : Ob), callAt G T (k + 3) i__law_scheme [.own true o, .val (.int m)] = .ok (schE n rs ts) false [some (.own true o'), some (.val (.int m))] ∧ Dr o' ∧ Sch n rs ts ∧ n ≤ m := by
  obtain ⟨r0, o1, c1, a1, b1, d1⟩ := take_ok (G := G) (T := T) (i := i__law_take) (k + 1) rfl hD m (by omega) (by omega)
  obtain ⟨n, en⟩ : ∃ n : Nat, 1 + r0 = (n : Int) := ⟨(1 + r0).toNat, by omega⟩
  obtain ⟨r1, o2, c2, a2, b2, d2⟩ := take_ok (G := G) (T := T) (i := i__law_take) (k + 1) rfl d1 5 (by decide) (by decide)
  obtain ⟨n1, rfl⟩ : ∃ n1 : Nat, r1 = (n1 : Int) := ⟨r1.toNat, by omega⟩
  have rg1 := rg_upTo n1 (by omega)
  obtain ⟨e', k1, o3, rs, v4, v8, v9, rfl, k2, k3, k4, k5, k6, k7, k8⟩ := forL_nx (bind := bindT (.nm 4)) (body := evSs G (callAt G T (k + 2)) b__law_scheme_L1) (ok := fun _ => true) PyData.int
    (fun ys e => ∃ (o : Ob) (rs : List Rl) (v4 v8 v9 : Option SV), e = [some (.own true o), some (.val (.int m)), some (.val (.int n)), some (.own false (.lst (rs.map rlE))), v4, none, none, none, v8, v9, none] ∧ Dr o ∧ (∀ r ∈ rs, RGood n r) ∧ rs.Nodup ∧ Fr v4 ∧ Fr v8 ∧ Fr v9 ∧ rs.length + ys.length ≤ 4) (fun _ _ _ => rfl)
    (by
      rintro y ys _ ⟨o, rs, v4, v8, v9, rfl, hD, hr, hd, h4, h8, h9, hl⟩
      rw [List.length_cons] at hl
      obtain ⟨o', rs', u8, u9, t1, t2, t3, t4, t5, t6, t7⟩ := law_scheme_1 k n (by omega) (.int m) none none none none (some (.val (.int y))) hD rs hr hd v8 v9 h8 h9 (by omega)
      exact ⟨_, by walk_at "z*", _, .inl t1, o', rs', _, u8, u9, rfl, t2, t3, t4, fr_val _, t6, t7, by omega⟩) (upTo n1) [some (.own true o2), some (.val (.int m)), some (.val (.int n)), some (.own false (.lst [])), none, none, none, none, none, none, none]
      ⟨o2, [], none, none, none, rfl, d2, (fun _ h => nomatch h), List.nodup_nil, fr_none, fr_none, fr_none, by unfold upTo; rw [List.length_map, List.length_range]; simp; omega⟩
  obtain ⟨r2, o4, c3, a3, b3, d3⟩ := take_ok (G := G) (T := T) (i := i__law_take) (k + 1) rfl k2 4 (by decide) (by decide)
  obtain ⟨n2, en2⟩ : ∃ n2 : Nat, 1 + r2 = (n2 : Int) := ⟨(1 + r2).toNat, by omega⟩
  have rg2 := rg_upTo n2 (by omega)
  obtain ⟨e', l1, o5, ts, u4, u7, rfl, l2, l3, l4, l5, l6⟩ := forL_nx (bind := bindT (.nm 4)) (body := evSs G (callAt G T (k + 2)) b__law_scheme_L2) (ok := fun _ => true) PyData.int
    (fun ys e => ∃ (o : Ob) (ts : List (List Int)) (v4 v7 : Option SV), e = [some (.own true o), some (.val (.int m)), some (.val (.int n)), some (.own false (.lst (rs.map rlE))), v4, some (.own false (.lst (ts.map stE'))), none, v7, v8, v9, none] ∧ Dr o ∧ (∀ t ∈ ts, StOk n t ∧ t ≠ []) ∧ Fr v4 ∧ Fr v7 ∧ ts.length + ys.length ≤ 4) (fun _ _ _ => rfl)
    (by
      rintro y ys _ ⟨o, ts, v4, v7, rfl, hD, hr, h4, h7, hl⟩
      rw [List.length_cons] at hl
      obtain ⟨o', ts', u7, t1, t2, t3, t4, t5⟩ := law_scheme_2 k n (by omega) (.int m) (some (.own false (.lst (rs.map rlE)))) none v8 v9 none (some (.val (.int y))) hD ts hr v7 h7 (by omega)
      exact ⟨_, by walk_at "z*", _, .inl t1, o', ts', _, u7, rfl, t2, t3, fr_val _, t5, by omega⟩) (upTo n2) [some (.own true o4), some (.val (.int m)), some (.val (.int n)), some (.own false (.lst (rs.map rlE))), v4, some (.own false (.lst [])), none, none, v8, v9, none]
      ⟨o4, [], v4, none, rfl, d3, (fun _ h => nomatch h), k5, fr_none, by unfold upTo; rw [List.length_map, List.length_range]; simp; omega⟩
  have q := law_scheme_3 (callAt G T (k + 2)) n (by omega) (some (.own true o5)) (some (.val (.int m))) (some (.own false (.lst (rs.map rlE)))) u4 none u7 v8 v9 ts (by simp at l6; omega)
  obtain ⟨rest, hrest⟩ : ∃ rest, rest = (upTo n).filter fun a => !(ts.any fun t => decide (a ∈ t)) := ⟨_, rfl⟩
  rw [← hrest] at q
  have ro : StOk n rest := by
    rw [hrest]
    exact ⟨fun i hi => mem_upTo.mp (List.mem_filter.mp hi).1, asc_filter _ (asc_pw.mpr (upTo_pw n))⟩
  have cov : ∀ i : Int, 0 ≤ i → i < n → i ∈ rest ∨ ∃ t ∈ ts, i ∈ t := by
    intro i h1 h2
    by_cases c : ∃ t ∈ ts, i ∈ t
    · exact .inr c
    · left
      rw [hrest, List.mem_filter]
      refine ⟨mem_upTo.mpr ⟨h1, h2⟩, ?_⟩
      rw [Bool.not_eq_true', List.any_eq_false]
      intro t ht
      rw [decide_eq_true_eq]
      exact fun z => c ⟨t, ht, z⟩
  clear hrest
  simp only [List.length_nil, Nat.add_zero] at k8 l6
  have e0 : PyData.list ([] : List D) = .list ((([] : List Rl)).map rlE) := rfl
  by_cases hr0 : rest = []
  · refine ⟨n, rs, ts, o5, ?_, l2, ⟨by omega, by omega, k8, k3, k4, by omega, l3, fun i h1 h2 => ?_⟩, by omega⟩
    · have e1 : cop .ne (.tuple (rest.map PyData.int)) (.tuple []) = some false := (ne_enc stE_enc (by decide) (a := rest) (b := []) trivial trivial).trans (by rw [decide_eq_true hr0]; rfl)
      clear hr0
      rw [call_of t__law_scheme rfl rfl]
      unfold b__law_scheme schE
      walk_at "z*"
    · rcases cov i h1 h2 with h | h
      · rw [hr0] at h; cases h
      · exact h
  · refine ⟨n, rs, ts ++ [rest], o5, ?_, l2, ⟨by omega, by omega, k8, k3, k4, by rw [List.length_append]; simp only [List.length_cons, List.length_nil]; omega, fun t ht => ?_, fun i h1 h2 => ?_⟩, by omega⟩
    · have e1 : cop .ne (.tuple (rest.map PyData.int)) (.tuple []) = some true := (ne_enc stE_enc (by decide) (a := rest) (b := []) trivial trivial).trans (by rw [decide_eq_false hr0]; rfl)
      have ea : (ts ++ [rest]).map stE' = ts.map stE' ++ [.tuple (rest.map PyData.int)] := by rw [List.map_append]; rfl
      have ll : (ts.map stE').length < line := by rw [List.length_map, line_val]; omega
      rw [call_of t__law_scheme rfl rfl]
      unfold b__law_scheme schE
      rw [ea]
      walk_at "z*"
    · rcases List.mem_append.mp ht with ht | ht
      · exact l3 t ht
      · rw [List.mem_singleton.mp ht]; exact ⟨ro, hr0⟩
    · rcases cov i h1 h2 with h | ⟨t, ht, h⟩
      · exact ⟨rest, List.mem_append_right _ List.mem_cons_self, h⟩
      · exact ⟨t, List.mem_append_left _ ht, h⟩
theorem c_rules_as_masks (k : Nat) (n : Nat) (hn : n ≤ 6) (rs : List Rl) (t : D) (hr : ∀ r ∈ rs, RlOk n r) (hl : rs.length ≤ 10) :
    callAt G T (k + 2) i_rules_as_masks [.val (.tuple [.int n, .tuple (rs.map rlE), t])] = .ok (.list (rs.map rmE)) true [some (.val (.tuple [.int n, .tuple (rs.map rlE), t]))] := by
  have q : ev G (callAt G T (k + 1)) q_rules_as_masks_1 [some (.val (.tuple [.int n, .tuple (rs.map rlE), t])), none, none] = .ok (.fr (.list (rs.map rmE))) [some (.val (.tuple [.int n, .tuple (rs.map rlE), t])), none, none] := by
    refine lc_map rs rlE rmE rfl ⟨_, _, by walk_at "z*"; rfl, rfl⟩ (fun r h => ⟨[some (.val (.tuple [.int n, .tuple (rs.map rlE), t])), some (.val (.tuple (r.1.map PyData.int))), some (.val (.int r.2))], by unfold rlE; walk_at "z*", by walk_at "z", ?_⟩) (by rw [line_val]; omega)
    obtain ⟨h1, h2, h3⟩ := hr r h
    have cm := mask_ok (G := G) (T := T) (i := i_mask_of_set) k rfl r.1 fun i hi => ⟨(h1 i hi).1, by have := (h1 i hi).2; omega⟩
    have b1 := bop_shl1 r.2 ⟨h2, by omega⟩
    unfold rmE rm
    walk_at "z*"
  rw [call_of t_rules_as_masks rfl rfl]
  unfold b_rules_as_masks
  walk_at "z*"
theorem law_closure_1 (cl : Cl) (rs : List Rl) (cs f : List Int) (v3 v4 : Option SV) (hl : rs.length ≤ 10) (hr : ∀ r ∈ rs, r.1.length ≤ 10) :
    ev G cl q__law_closure_1 [some (.val (.tuple (rs.map rlE))), some (.val (.tuple (cs.map PyData.int))), some (.val (.list (f.map PyData.int))), v3, v4, none, none, none] =
      .ok (.fr (.list ((moreL rs f).map PyData.int))) [some (.val (.tuple (rs.map rlE))), some (.val (.tuple (cs.map PyData.int))), some (.val (.list (f.map PyData.int))), v3, v4, none, none, none] := by
  have em : (moreL rs f).map PyData.int = (rs.filter (appl f)).map fun r => PyData.int r.2 := by
    unfold moreL; rw [List.map_map]; rfl
  rw [em]
  refine lc_if rs rlE (appl f) (fun r => .int r.2) rfl ⟨_, _, by walk_at "z*"; rfl, rfl⟩ (fun r h => ?_) (by rw [line_val]; omega)
  refine ⟨[some (.val (.tuple (rs.map rlE))), some (.val (.tuple (cs.map PyData.int))), some (.val (.list (f.map PyData.int))), v3, v4, some (.val (.tuple (r.1.map PyData.int))), some (.val (.int r.2)), none], by unfold rlE; walk_at "z*", by walk_at "z", ?_, fun _ => by walk_at "z"⟩
  have e2 : ∀ y, inD (.int y) (.list (f.map PyData.int)) = some (decide (y ∈ f)) := fun y => in_list enc_int (by decide) trivial (fun _ _ => trivial)
  have q2 : ev G cl q__law_closure_2 [some (.val (.tuple (rs.map rlE))), some (.val (.tuple (cs.map PyData.int))), some (.val (.list (f.map PyData.int))), v3, v4, some (.val (.tuple (r.1.map PyData.int))), some (.val (.int r.2)), none] = .ok (.fr (.list (r.1.map fun y => .bool (decide (y ∈ f))))) [some (.val (.tuple (rs.map rlE))), some (.val (.tuple (cs.map PyData.int))), some (.val (.list (f.map PyData.int))), v3, v4, some (.val (.tuple (r.1.map PyData.int))), some (.val (.int r.2)), none] := by
    refine lc_map r.1 PyData.int (fun y => .bool (decide (y ∈ f))) rfl ⟨_, _, by walk_at "z*"; rfl, rfl⟩ (fun y hy => ?_) (by rw [line_val]; have := hr r h; omega)
    have e3 := e2 y
    exact ⟨_, by walk_at "z"; rfl, by walk_at "z", by walk_at "z*"⟩
  have e3 := e2 r.2
  clear e2
  unfold appl
  by_cases c : r.2 ∈ f
  · walk_at "z*"
  · walk_at "z*"
    cases (r.1.all fun x => decide (x ∈ f)) <;> rfl
theorem c_law_closure (k : Nat) (n : Nat) (hn : n ≤ 6) (rs : List Rl) (hr : ∀ r ∈ rs, RlOk n r ∧ r.1.length ≤ 10) (hl : rs.length ≤ 10) (cs : List Int) (hc : StOk n cs) :
    callAt G T (k + 1) i__law_closure [.val (.tuple (rs.map rlE)), .val (.tuple (cs.map PyData.int))] = .ok (.tuple ((lawCl rs cs).map PyData.int)) false [some (.val (.tuple (rs.map rlE))), some (.val (.tuple (cs.map PyData.int)))] := by
  have cl := hc.len
  obtain ⟨e', k1, f, v3, v4, rfl, k3, k4, k5, k6⟩ := forL_nx (bind := bindT (.nm 3)) (body := evSs G (callAt G T k) b__law_closure_L1) (ok := fun _ => true) PyData.int
    (fun ys e => ∃ (f : List Int) (v3 v4 : Option SV), e = [some (.val (.tuple (rs.map rlE))), some (.val (.tuple (cs.map PyData.int))), some (.val (.list (f.map PyData.int))), v3, v4, none, none, none] ∧ Fr v3 ∧ Fr v4 ∧ f.length + ys.length ≤ 12 ∧ stepsL rs ys.length f = stepsL rs 6 cs) (fun _ _ _ => rfl)
    (by
      rintro y ys _ ⟨f, v3, v4, rfl, h3, h4, hl2, he⟩
      rw [List.length_cons] at hl2 he
      have q := law_closure_1 (callAt G T k) rs cs f (some (.val (.int y))) v4 hl (fun r h => (hr r h).2)
      have ct := cut_first ((moreL rs f).map PyData.int)
      have bl := bop_lst (f.map PyData.int) (((moreL rs f).map PyData.int).take 1)
      rw [if_pos (by rw [List.length_map, line_val, List.length_take]; omega), ← List.map_take, ← List.map_append] at bl
      rw [← List.map_take] at ct
      have es : f ++ (moreL rs f).take 1 = stepL rs f := rfl
      rw [es] at bl
      refine ⟨_, by walk_at "z*"; rfl, _, .inl (by unfold b__law_closure_L1; walk_at "z*"; rfl), stepL rs f, _, _, rfl, fr_val _, fr_val _, ?_, he⟩
      unfold stepL; rw [List.length_append, List.length_take]; omega) (upTo 6) [some (.val (.tuple (rs.map rlE))), some (.val (.tuple (cs.map PyData.int))), some (.val (.list (cs.map PyData.int))), none, none, none, none, none] ⟨cs, none, none, rfl, fr_none, fr_none, (by show cs.length + 6 ≤ 12; omega), rfl⟩
  have rg : ∀ e, rgR (.int 6) e = .ok ⟨(upTo 6).map PyData.int, [], fun _ => true⟩ e := rg_upTo 6 (by decide)
  have k6 : f = stepsL rs 6 cs := k6
  have sr : srt (f.map PyData.int) = true := srt_int (by simp only [List.length_nil] at k5; rw [line_val]; omega)
  have sd := sortD_int f
  have p : p1 .sorted (.list (f.map PyData.int)) = some (.fr (.list ((sortI f).map PyData.int))) := by
    simp only [p1]; rw [if_pos sr, sd]
  unfold lawCl
  rw [← k6]
  clear k6
  rw [call_of t__law_closure rfl rfl]
  unfold b__law_closure
  walk_at "z*"
end Zv.K72

set_option Elab.async false
set_option autoImplicit false
set_option linter.all false
set_option maxRecDepth 100000
namespace Zv.K72
open PySem
def fams1 : List (List (List Int)) := [[[], [0]]]
def fams2 : List (List (List Int)) := [[[], [0], [0, 1]], [[], [0], [0, 1], [1]], [[], [0, 1]], [[], [0, 1], [1]]]
def fams3 : List (List (List Int)) := [[[], [0], [0, 1], [0, 1, 2]], [[], [0], [0, 1], [0, 1, 2], [0, 2]], [[], [0], [0, 1], [0, 1, 2], [0, 2], [1]], [[], [0], [0, 1], [0, 1, 2], [0, 2], [1], [1, 2], [2]], [[], [0], [0, 1], [0, 1, 2], [0, 2], [1], [2]], [[], [0], [0, 1], [0, 1, 2], [0, 2], [2]], [[], [0], [0, 1], [0, 1, 2], [1]], [[], [0], [0, 1], [0, 1, 2], [1], [1, 2]], [[], [0], [0, 1], [0, 1, 2], [1], [1, 2], [2]], [[], [0], [0, 1], [0, 1, 2], [1], [2]], [[], [0], [0, 1], [0, 1, 2], [2]], [[], [0], [0, 1, 2]], [[], [0], [0, 1, 2], [0, 2]], [[], [0], [0, 1, 2], [0, 2], [1]], [[], [0], [0, 1, 2], [0, 2], [1], [1, 2], [2]], [[], [0], [0, 1, 2], [0, 2], [1], [2]], [[], [0], [0, 1, 2], [0, 2], [1, 2], [2]], [[], [0], [0, 1, 2], [0, 2], [2]], [[], [0], [0, 1, 2], [1]], [[], [0], [0, 1, 2], [1], [1, 2]], [[], [0], [0, 1, 2], [1], [1, 2], [2]], [[], [0], [0, 1, 2], [1], [2]], [[], [0], [0, 1, 2], [1, 2]], [[], [0], [0, 1, 2], [1, 2], [2]], [[], [0], [0, 1, 2], [2]], [[], [0, 1], [0, 1, 2]], [[], [0, 1], [0, 1, 2], [1]], [[], [0, 1], [0, 1, 2], [1], [1, 2]], [[], [0, 1], [0, 1, 2], [1], [1, 2], [2]], [[], [0, 1], [0, 1, 2], [1], [2]], [[], [0, 1], [0, 1, 2], [2]], [[], [0, 1, 2]], [[], [0, 1, 2], [0, 2]], [[], [0, 1, 2], [0, 2], [1]], [[], [0, 1, 2], [0, 2], [1], [1, 2], [2]], [[], [0, 1, 2], [0, 2], [1], [2]], [[], [0, 1, 2], [0, 2], [1, 2], [2]], [[], [0, 1, 2], [0, 2], [2]], [[], [0, 1, 2], [1]], [[], [0, 1, 2], [1], [1, 2]], [[], [0, 1, 2], [1], [1, 2], [2]], [[], [0, 1, 2], [1], [2]], [[], [0, 1, 2], [1, 2]], [[], [0, 1, 2], [1, 2], [2]], [[], [0, 1, 2], [2]]]
def famsL (n : Nat) : List (List (List Int)) := if n = 1 then fams1 else if n = 2 then fams2 else fams3
def famE (x : List (List Int)) : D := .tuple (x.map stE')
def szs (n : Nat) : List (List Int) := if n = 1 then [[], [0]] else if n = 2 then [[], [0], [1], [0, 1]] else [[], [0], [1], [2], [0, 1], [0, 2], [1, 2], [0, 1, 2]]
/-- the least closed row above another -/
def clF (n : Nat) (x : List (List Int)) (l : List Int) : List Int := (upTo n).filter fun a => x.all fun row => !(l.all fun b => decide (b ∈ row)) || decide (a ∈ row)
def dueF (n : Nat) (x : List (List Int)) : List Rl := ((szs n).drop 1).flatMap fun l => ((clF n x l).filter fun a => !decide (a ∈ l)).map fun a => (l, a)
def leR (a b : Rl) : Bool := leD (rlE a) (rlE b)
def told (n : Nat) (x : List (List Int)) : List Rl := isort leR (dueF n x)
def subs {A : Type} : List A → List (List A)
  | [] => [[]]
  | a :: l => subs l ++ (subs l).map (a :: ·)
theorem filter_subs {A : Type} (p : A → Bool) : ∀ l : List A, l.filter p ∈ subs l
  | [] => by simp [subs]
  | a :: l => by
    rw [subs, List.filter_cons]
    split
    · exact List.mem_append_right _ (List.mem_map.mpr ⟨_, filter_subs p l, rfl⟩)
    · exact List.mem_append_left _ (filter_subs p l)
def goodB (n : Nat) (rows : List (List Int)) : Bool := decide ([] ∈ rows) && decide (upTo n ∈ rows) && rows.all fun a => rows.all fun b => decide ((a.filter fun i => decide (i ∈ b)) ∈ rows)
def stOkB (n : Nat) (is : List Int) : Bool := is.all (fun i => decide (0 ≤ i) && decide (i < n)) && asc is
theorem stOkB_iff {n : Nat} {is : List Int} : stOkB n is = true ↔ StOk n is := by
  unfold stOkB StOk
  simp only [Bool.and_eq_true, List.all_eq_true, decide_eq_true_eq]
def rGoodB (n : Nat) (r : Rl) : Bool := stOkB n r.1 && !r.1.isEmpty && decide (0 ≤ r.2) && decide (r.2 < n) && !decide (r.2 ∈ r.1)
theorem rGoodB_iff {n : Nat} {r : Rl} (h : rGoodB n r = true) : RGood n r := by
  unfold rGoodB at h
  simp only [Bool.and_eq_true, decide_eq_true_eq, Bool.not_eq_true', decide_eq_false_iff_not, List.isEmpty_eq_false_iff] at h
  exact ⟨stOkB_iff.mp h.1.1.1.1, h.1.1.1.2, h.1.1.2, h.1.2, h.2⟩
def N3 (n : Nat) : Prop := n ∈ [1, 2, 3]
theorem mem_szs {n : Nat} (hn : N3 n) {row : List Int} : row ∈ szs n ↔ StOk n row := by
  constructor
  · intro h
    have k : ∀ n ∈ [1, 2, 3], ∀ row ∈ szs n, stOkB n row = true := by decide
    exact stOkB_iff.mp (k n hn row h)
  · intro h
    have e : row = (upTo n).filter fun i => decide (i ∈ row) := by
      refine asc_ext h.2 (asc_filter _ (asc_pw.mpr (upTo_pw n))) fun x => ?_
      rw [List.mem_filter, mem_upTo, decide_eq_true_eq]
      exact ⟨fun z => ⟨h.1 x z, z⟩, fun z => z.2⟩
    rw [e]
    generalize (fun i => decide (i ∈ row)) = p
    have k1 : upTo 1 = [0] := rfl
    have k2 : upTo 2 = [0, 1] := rfl
    have k3 : upTo 3 = [0, 1, 2] := rfl
    rcases List.mem_cons.mp hn with rfl | hn
    · rw [k1]; cases h0 : p 0 <;> simp [List.filter_cons, h0, szs]
    · rcases List.mem_cons.mp hn with rfl | hn
      · rw [k2]; cases h0 : p 0 <;> cases h1 : p 1 <;> simp [List.filter_cons, h0, h1, szs]
      · rcases List.mem_cons.mp hn with rfl | hn
        · rw [k3]; cases h0 : p 0 <;> cases h1 : p 1 <;> cases h2 : p 2 <;> simp [List.filter_cons, h0, h1, h2, szs]
        · cases hn
theorem N3.le {n : Nat} (h : N3 n) : 1 ≤ n ∧ n ≤ 3 := by
  unfold N3 at h
  simp at h; omega
theorem N3.of {n : Nat} (h : 1 ≤ n ∧ n ≤ 3) : N3 n := by
  unfold N3; simp; omega
def Fam (n : Nat) (rs : List Rl) : List (List Int) := (szs n).filter fun row => decide (lawCl rs row = row)
section
variable {n : Nat} {rs : List Rl}
theorem mem_Fam (hn : N3 n) {row : List Int} : row ∈ Fam n rs ↔ StOk n row ∧ lawCl rs row = row := by
  unfold Fam
  rw [List.mem_filter, mem_szs hn, decide_eq_true_eq]
theorem closed_row (hn : N3 n) (hr : ∀ r ∈ rs, RlOk n r) {a : List Int} (h : StOk n a) (e : lawCl rs a = a) : ∀ r ∈ rs, (∀ b ∈ r.1, b ∈ a) → r.2 ∈ a := by
  intro r hm hb
  have := (lawCl_ok (by have := hn.le; omega) hr h).2 r.2
  rw [e] at this
  exact this.mpr (Lst.rule hm fun b hb' => Lst.base (hb b hb'))
theorem lawCl_fix (hn : N3 n) (hr : ∀ r ∈ rs, RlOk n r) {a : List Int} (h : StOk n a) (e : ∀ r ∈ rs, (∀ b ∈ r.1, b ∈ a) → r.2 ∈ a) : lawCl rs a = a := by
  obtain ⟨k1, k2⟩ := lawCl_ok (rs := rs) (by have := hn.le; omega) hr h
  exact asc_ext k1.2 h.2 fun x => ⟨fun hx => (k2 x).mp hx (· ∈ a) e fun b hb => hb, fun hx => (k2 x).mpr (Lst.base hx)⟩
theorem lawCl_twice (hn : N3 n) (hr : ∀ r ∈ rs, RlOk n r) {a : List Int} (h : StOk n a) : lawCl rs (lawCl rs a) = lawCl rs a := by
  obtain ⟨k1, k2⟩ := lawCl_ok (rs := rs) (by have := hn.le; omega) hr h
  refine lawCl_fix hn hr k1 fun r hm hb => (k2 r.2).mpr (Lst.rule hm fun b hb' => (k2 b).mp (hb b hb'))
theorem Fam_good (hn : N3 n) (hr : ∀ r ∈ rs, RGood n r) : goodB n (Fam n rs) = true := by
  have ho : ∀ r ∈ rs, RlOk n r := fun r h => (hr r h).ok
  unfold goodB
  simp only [Bool.and_eq_true, decide_eq_true_eq, List.all_eq_true]
  refine ⟨⟨(mem_Fam hn).mpr ⟨⟨(fun _ h => nomatch h), rfl⟩, ?_⟩, (mem_Fam hn).mpr ⟨⟨fun i hi => mem_upTo.mp hi, asc_pw.mpr (upTo_pw n)⟩, ?_⟩⟩, fun a ha b hb => ?_⟩
  · refine lawCl_fix hn ho ⟨(fun _ h => nomatch h), rfl⟩ fun r hm hb => ?_
    obtain ⟨_, h2, _⟩ := hr r hm
    cases h : r.1 with
    | nil => exact absurd h h2
    | cons c cs => exact absurd (hb c (by rw [h]; exact List.mem_cons_self)) (by simp)
  · refine lawCl_fix hn ho ⟨fun i hi => mem_upTo.mp hi, asc_pw.mpr (upTo_pw n)⟩ fun r hm _ => mem_upTo.mpr (ho r hm).2
  · obtain ⟨a1, a2⟩ := (mem_Fam hn).mp ha
    obtain ⟨b1, b2⟩ := (mem_Fam hn).mp hb
    have st : StOk n (a.filter fun i => decide (i ∈ b)) := ⟨fun i hi => a1.1 i (List.mem_filter.mp hi).1, asc_filter _ a1.2⟩
    refine (mem_Fam hn).mpr ⟨st, lawCl_fix hn ho st fun r hm hc => ?_⟩
    rw [List.mem_filter, decide_eq_true_eq]
    exact ⟨closed_row hn ho a1 a2 r hm fun c h => (List.mem_filter.mp (hc c h)).1, closed_row hn ho b1 b2 r hm fun c h => of_decide_eq_true (List.mem_filter.mp (hc c h)).2⟩
theorem clF_eq (hn : N3 n) (hr : ∀ r ∈ rs, RlOk n r) {x : List (List Int)} (hx : ∀ row, row ∈ x ↔ row ∈ Fam n rs) {l : List Int} (hl : StOk n l) : clF n x l = lawCl rs l := by
  obtain ⟨k1, k2⟩ := lawCl_ok (rs := rs) (by have := hn.le; omega) hr hl
  refine asc_ext (asc_filter _ (asc_pw.mpr (upTo_pw n))) k1.2 fun a => ?_
  unfold clF
  rw [List.mem_filter, mem_upTo, List.all_eq_true]
  constructor
  · rintro ⟨_, h⟩
    have := h (lawCl rs l) ((hx _).mpr ((mem_Fam hn).mpr ⟨k1, lawCl_twice hn hr hl⟩))
    rw [Bool.or_eq_true, Bool.not_eq_true', decide_eq_true_eq] at this
    rcases this with h | h
    · rw [List.all_eq_false] at h
      obtain ⟨b, hb, z⟩ := h
      rw [decide_eq_true_eq] at z
      exact absurd ((k2 b).mpr (Lst.base hb)) z
    · exact h
  · intro ha
    refine ⟨k1.1 a ha, fun row hrow => ?_⟩
    rw [Bool.or_eq_true, Bool.not_eq_true', decide_eq_true_eq]
    obtain ⟨r1, r2⟩ := (mem_Fam hn).mp ((hx row).mp hrow)
    by_cases c : ∀ b ∈ l, b ∈ row
    · exact .inr ((k2 a).mp ha (· ∈ row) (closed_row hn hr r1 r2) c)
    · left
      rw [List.all_eq_false]
      simp only [Classical.not_forall] at c
      obtain ⟨b, hb, z⟩ := c
      exact ⟨b, hb, by rw [decide_eq_true_eq]; exact z⟩
theorem due_eq (hn : N3 n) (hr : ∀ r ∈ rs, RlOk n r) {x : List (List Int)} (hx : ∀ row, row ∈ x ↔ row ∈ Fam n rs) :
    dueF n x = ((szs n).drop 1).flatMap fun l => ((lawCl rs l).filter fun a => !decide (a ∈ l)).map fun a => (l, a) := by
  unfold dueF
  rw [List.flatMap_def, List.flatMap_def]
  congr 1
  refine List.map_congr_left fun l hl => ?_
  rw [clF_eq hn hr hx ((mem_szs hn).mp (List.mem_of_mem_drop hl))]
end
theorem stE_inj {a b : List Int} (h : stE' a = stE' b) : a = b := (stE_enc.eqv a b trivial trivial).mp (by rw [h]; exact (stE_enc.eqv b b trivial trivial).mpr rfl)
theorem sorted_mem {rows x : List (List Int)} (h : sortD (rows.map stE') = x.map stE') (row : List Int) : row ∈ x ↔ row ∈ rows := by
  have p := isort_perm (le := leD) (rows.map stE')
  have e : isort leD (rows.map stE') = x.map stE' := h
  rw [e] at p
  have m := p.mem_iff (a := stE' row)
  simp only [List.mem_map] at m
  constructor
  · intro hr
    obtain ⟨a, ha, q⟩ := m.mp ⟨row, hr, rfl⟩
    rw [← stE_inj q]; exact ha
  · intro hr
    obtain ⟨a, ha, q⟩ := m.mpr ⟨row, hr, rfl⟩
    rw [← stE_inj q]; exact ha
end Zv.K72

set_option Elab.async false
set_option autoImplicit false
set_option linter.all false
set_option maxRecDepth 100000
namespace Zv.K72
open PySem
theorem k_sets : ∀ n ∈ [1, 2, 3], smC (callAt G T 37 i_all_sets_fillings [.val (.int (n : Nat))]) (.ok (.list ((szs n).map stE')) true [some (.val (.int (n : Nat)))]) = true := by decide +kernel
theorem k_lsets : ∀ n ∈ [1, 2, 3], smC (callAt G T 39 i__law_sets [.val (.int (n : Nat))]) (.ok (.list ((szs n).map stE')) true [some (.val (.int (n : Nat)))]) = true := by decide +kernel
theorem k_fams : ∀ n ∈ [1, 2, 3], smC (callAt G T 39 i_families [.val (.int (n : Nat))]) (.ok (.tuple ((famsL n).map famE)) false [some (.val (.int (n : Nat)))]) = true := by decide +kernel
theorem k_rules : ∀ n ∈ [1, 2, 3], ∀ x ∈ famsL n, smC (callAt G T 39 i_rules_of [.val (.int (n : Nat)), .val (famE x)]) (.ok (.tuple ((told n x).map rlE)) false [some (.val (.int (n : Nat))), some (.val (famE x))]) = true := by decide +kernel
theorem k_sub : ∀ n ∈ [1, 2, 3], ∀ rows ∈ subs (szs n), (!goodB n rows || (famsL n).any fun x => smL (sortD (rows.map stE')) (x.map stE')) = true := by decide +kernel
theorem k_srt : ∀ n ∈ [1, 2, 3], ∀ rows ∈ subs (szs n), srt (rows.map stE') = true := by decide +kernel
theorem k_due : ∀ n ∈ [1, 2, 3], ∀ x ∈ famsL n, (srt ((dueF n x).map rlE) && (told n x).all (rGoodB n) && decide ((told n x).length ≤ 10)) = true := by decide +kernel
theorem k_told : ∀ n ∈ [1, 2, 3], ∀ x ∈ famsL n, smL (sortD (((szs n).filter fun row => decide (lawCl (told n x) row = row)).map stE')) (x.map stE') = true := by decide +kernel
def rOk (d : D) : Bool := d.showable && !d.hasDict && decide (d.depth ≤ 64) && decide (d.shown.length ≤ line)
theorem k_repr : ∀ n ∈ [1, 2, 3], ∀ x ∈ famsL n, (rOk (famE x) && rOk (.tuple ((told n x).map rlE))) = true := by decide +kernel
def sfE (xs : List D) : Bool := match ssetOf xs with | some (.fr (.list ys)) => smL ys xs | _ => false
theorem k_sset : ∀ n ∈ [1, 2, 3], sfE ((famsL n).map famE) = true := by decide +kernel
theorem k_len : ∀ n ∈ [1, 2, 3], (famsL n).length = (if n = 1 then 1 else if n = 2 then 4 else 45) := by decide +kernel
def malf : D := .str ⟨#[60, 109, 97, 108, 102, 111, 114, 109, 101, 100, 62]⟩
def bads : List D := [.none, .int 0, .int 4, .bool true, .str ⟨#[50]⟩]
def big : D := .tuple [.int 4, .tuple [], .tuple [.tuple [.int 0, .int 1, .int 2, .int 3]]]
def wrongs (x : List D) : List D := [.none, .int 5, .list x, .tuple (x.drop 1), .tuple (x.take 1), .tuple (x.reverse ++ x.take 1), .tuple (x ++ [.none]), .tuple (.list [] :: x.drop 1), .tuple [.int 0]]
theorem k_bad0 : ∀ b ∈ bads, smC (callAt G T 39 i__law_told [.val (.int 0), .val b, .val (.int 0)]) (.ok malf false [some (.val (.int 0)), some (.val b), some (.val (.int 0))]) = true := by decide +kernel
theorem k_bad2 : ∀ b ∈ bads, smC (callAt G T 39 i__law_told [.val (.int 2), .val b, .val (.tuple [])]) (.ok malf false [some (.val (.int 2)), some (.val b), some (.val (.tuple []))]) = true := by decide +kernel
theorem k_big : smC (callAt G T 39 i__law_told [.val (.int 1), .val big, .val (.int 0)]) (.ok malf false [some (.val (.int 1)), some (.val big), some (.val (.int 0))]) = true := by decide +kernel
theorem k_wrong : ∀ n ∈ [1, 2, 3], ∀ x ∈ famsL n, ∀ y ∈ wrongs (x.map stE'), smC (callAt G T 39 i__law_told [.val (.int 2), .val (.int (n : Nat)), .val y]) (.ok malf false [some (.val (.int 2)), some (.val (.int (n : Nat))), some (.val y)]) = true := by decide +kernel
end Zv.K72

set_option Elab.async false
set_option autoImplicit false
set_option linter.all false
set_option maxRecDepth 100000
namespace Zv.K72
open PySem
local macro_rules | `(tactic| walk_at "z") => `(tactic| simp -dsimp only [R.bd_ok, R.bd_ex, R.bd_no, R.bd_ite, ↓z_bind_at, pure_at, liR_some, liR_none, z_lift_at, SR.ob_ok, SR.ob_ex, SR.ob_no, SR.ob_ite, SR.tn_nx, SR.tn_rt, SR.tn_bk, SR.tn_ct, SR.tn_ex, SR.tn_no, SR.tn_ite, slD_val, slD_own, slD_kept, look_v, look_fr, look_sl, rd_v, rd_fr, rd_sl, fzK_val, fzK_kept, fzK_own, fzK_lent, fz_v, fz_fr, fz_sl, putK_none, putK_val, putK_own, bdR_some, ev_k, ev_g, vK_val, vK_kept, vK_own, ev_v, ev_bin, negD_int, ev_neg, invD_int, ev_inv, ev_cmp, ev_chain, ev_nt, ev_an, ev_or, z_ev_ife, ev_tup, ev_lst, ev_idx, ev_cut, ev_call, ev_p1, ev_rev, ev_isi, pitK_at, ev_pit, strO_str, ev_splt, evO_none, intD_int, evO_some, evs_nil, evs_cons, z_evAn_one, evAn_cons, z_evOr_one, evOr_cons, evIf_nil, evIf_cons, fzAll_nil, fzAll_cons, frzAll_nil, frzAll_fr, frzAll_v, frzAll_sl, argK_val, argK_kept, argK_own, argOf_v, argOf_fr, argOf_sl, argsOf_nil, consO_some, argsOf_cons, callK_ok, callK_ex, callA_some, callM_at, callK_ite, backK_own, backOf_nil, backOf_v, backOf_fr, backOf_sl, backSlot_own, backSlot_kept, backSlot_kept', loseK_own, loseOf_nil, loseOf_v, loseOf_fr, loseOf_sl, slotsOf_nil, slotsOf_v, slotsOf_fr, slotsOf_sl, onceN_nil, onceN_one, asgT_nm, asgT_ow, asgT_owd, asgT_tup, thenO_some, putO_none, putO_val, putO_own, putS_at, bindT_nm, bindT_tup, bindT_lst, bindTs_nil, bindTs_cons, asgTs_nil, asgTs_cons, evIt_sq, evIt_rg, evIt_rg2, evIt_zip, evIt_enm, evSs_nil, evSs_cons, evS_doc, evS_asg, evS_par, evS_setI, isOwnK_own, isOwn_lt, appK_own, evS_app, extK_own, evS_ext, augK_int, augR_int, evS_aug, evS_ex, evS_if, evS_retN, evS_brk, evS_cnt, evS_pass, evS_raiseN, retK_val, retK_kept, retK_own, retK_lent, retOf_v, retOf_fr, retOf_sl, evS_ret, tryK_ex, tryK_rt, tryK_nx, tryK_ite, evS_try, evHs_k, evHs_nil, evS_for, evS_whl, fnK_rt, fnK_nx, fnK_ex, fnK_ite, outsOf_nil, outsOf_val, outsOf_own, bop_add, bop_sub, bop_tup, bop_lst, fit_int, cop_eqI, cop_neI, cop_eqB, cop_neB, cop_lt, cop_le, cop_gt, cop_ge, cop_is, cop_isNot, cop_in, cop_notIn, tr_bool, tr_int, tr_none, tr_tup, tr_lst, atL_some, idxL_at, idxT_at, ix_neg, ix_0, ix_1, ix_2, ix_3, ix_4, ix_5, ix_6, setOb_lst, setR_some, setK_at, p_len_l, p_len_t, p_tup_l, p_tup_t, p_lst_l, p_lst_t, rev_l, rev_t, p_abs, p_int, p_intb, p_all, p_any, eqv_int, eqv_str, dlst, isTy_int_int, isTy_int_bool, isTy_int_str, isTy_int_tuple, isTy_int_list, isTy_int_dict, isTy_int_none, isTy_bool_int, isTy_bool_bool, isTy_bool_str, isTy_bool_tuple, isTy_bool_list, isTy_bool_dict, isTy_bool_none, isTy_str_int, isTy_str_bool, isTy_str_str, isTy_str_tuple, isTy_str_list, isTy_str_dict, isTy_str_none, isTy_tuple_int, isTy_tuple_bool, isTy_tuple_str, isTy_tuple_tuple, isTy_tuple_list, isTy_tuple_dict, isTy_tuple_none, isTy_list_int, isTy_list_bool, isTy_list_str, isTy_list_tuple, isTy_list_list, isTy_list_dict, isTy_list_none, p1_lset_l, p1_lset_t, p1_sset_l, p1_sset_t, p1_max_l, p1_max_t, p1_min_l, p1_min_t, fr_none, fr_val, fr_own, putO_fr, putK_fr, lockOk_nil, lockOk_v, lockOk_fr, lockOk_sl, lockE_nil, lockE_v, lockE_fr, openE_nil, openE_v, openE_fr, lockK_own, lockE_one, openK_own, openK_lent, openE_one, stands_v, stands_fr, standK_some, stands_sl, items_l, items_t, zips_l, zips_t, enum_l, enum_t, wipe_nil, wipe_cons, merge_nil, merge_cons, List.getD_cons_zero, List.getD_cons_succ, map_id, sm_self, true_and, false_and, and_true, and_false, and_self, not_true_eq_false, not_false_eq_true, ite_self, ↓reduceIte, List.getElem?_cons_zero, List.getElem?_cons_succ, List.getElem?_nil, List.set_cons_zero, List.set_cons_succ, List.map_cons, List.map_nil, Option.map_some, Option.map_none, Bool.false_eq_true, Bool.and_true, Bool.true_and, Bool.and_false, Bool.false_and, Bool.and_self, Bool.not_true, Bool.not_false, List.length_cons, List.length_nil, List.replicate_succ, List.replicate_zero, List.cons_append, List.nil_append, decide_true, decide_false, decide_eq_true_eq, Nat.reduceAdd, Nat.reduceSub, Nat.reduceLT, Nat.reduceLeDiff, List.isEmpty_cons, List.isEmpty_nil, Int.reduceMul, Int.reduceAdd, beq_iff_eq, Int.reduceNeg, Int.reduceEq, Int.reduceBEq, Int.cast_ofNat_Int])
local macro_rules | `(tactic| walk_at "z*") => `(tactic| simp -dsimp only [R.bd_ok, R.bd_ex, R.bd_no, R.bd_ite, ↓z_bind_at, pure_at, liR_some, liR_none, z_lift_at, SR.ob_ok, SR.ob_ex, SR.ob_no, SR.ob_ite, SR.tn_nx, SR.tn_rt, SR.tn_bk, SR.tn_ct, SR.tn_ex, SR.tn_no, SR.tn_ite, slD_val, slD_own, slD_kept, look_v, look_fr, look_sl, rd_v, rd_fr, rd_sl, fzK_val, fzK_kept, fzK_own, fzK_lent, fz_v, fz_fr, fz_sl, putK_none, putK_val, putK_own, bdR_some, ev_k, ev_g, vK_val, vK_kept, vK_own, ev_v, ev_bin, negD_int, ev_neg, invD_int, ev_inv, ev_cmp, ev_chain, ev_nt, ev_an, ev_or, z_ev_ife, ev_tup, ev_lst, ev_idx, ev_cut, ev_call, ev_p1, ev_rev, ev_isi, pitK_at, ev_pit, strO_str, ev_splt, evO_none, intD_int, evO_some, evs_nil, evs_cons, z_evAn_one, evAn_cons, z_evOr_one, evOr_cons, evIf_nil, evIf_cons, fzAll_nil, fzAll_cons, frzAll_nil, frzAll_fr, frzAll_v, frzAll_sl, argK_val, argK_kept, argK_own, argOf_v, argOf_fr, argOf_sl, argsOf_nil, consO_some, argsOf_cons, callK_ok, callK_ex, callA_some, callM_at, callK_ite, backK_own, backOf_nil, backOf_v, backOf_fr, backOf_sl, backSlot_own, backSlot_kept, backSlot_kept', loseK_own, loseOf_nil, loseOf_v, loseOf_fr, loseOf_sl, slotsOf_nil, slotsOf_v, slotsOf_fr, slotsOf_sl, onceN_nil, onceN_one, asgT_nm, asgT_ow, asgT_owd, asgT_tup, thenO_some, putO_none, putO_val, putO_own, putS_at, bindT_nm, bindT_tup, bindT_lst, bindTs_nil, bindTs_cons, asgTs_nil, asgTs_cons, evIt_sq, evIt_rg, evIt_rg2, evIt_zip, evIt_enm, evSs_nil, evSs_cons, evS_doc, evS_asg, evS_par, evS_setI, isOwnK_own, isOwn_lt, appK_own, evS_app, extK_own, evS_ext, augK_int, augR_int, evS_aug, evS_ex, evS_if, evS_retN, evS_brk, evS_cnt, evS_pass, evS_raiseN, retK_val, retK_kept, retK_own, retK_lent, retOf_v, retOf_fr, retOf_sl, evS_ret, tryK_ex, tryK_rt, tryK_nx, tryK_ite, evS_try, evHs_k, evHs_nil, evS_for, evS_whl, fnK_rt, fnK_nx, fnK_ex, fnK_ite, outsOf_nil, outsOf_val, outsOf_own, bop_add, bop_sub, bop_tup, bop_lst, fit_int, cop_eqI, cop_neI, cop_eqB, cop_neB, cop_lt, cop_le, cop_gt, cop_ge, cop_is, cop_isNot, cop_in, cop_notIn, tr_bool, tr_int, tr_none, tr_tup, tr_lst, atL_some, idxL_at, idxT_at, ix_neg, ix_0, ix_1, ix_2, ix_3, ix_4, ix_5, ix_6, setOb_lst, setR_some, setK_at, p_len_l, p_len_t, p_tup_l, p_tup_t, p_lst_l, p_lst_t, rev_l, rev_t, p_abs, p_int, p_intb, p_all, p_any, eqv_int, eqv_str, dlst, isTy_int_int, isTy_int_bool, isTy_int_str, isTy_int_tuple, isTy_int_list, isTy_int_dict, isTy_int_none, isTy_bool_int, isTy_bool_bool, isTy_bool_str, isTy_bool_tuple, isTy_bool_list, isTy_bool_dict, isTy_bool_none, isTy_str_int, isTy_str_bool, isTy_str_str, isTy_str_tuple, isTy_str_list, isTy_str_dict, isTy_str_none, isTy_tuple_int, isTy_tuple_bool, isTy_tuple_str, isTy_tuple_tuple, isTy_tuple_list, isTy_tuple_dict, isTy_tuple_none, isTy_list_int, isTy_list_bool, isTy_list_str, isTy_list_tuple, isTy_list_list, isTy_list_dict, isTy_list_none, p1_lset_l, p1_lset_t, p1_sset_l, p1_sset_t, p1_max_l, p1_max_t, p1_min_l, p1_min_t, fr_none, fr_val, fr_own, putO_fr, putK_fr, lockOk_nil, lockOk_v, lockOk_fr, lockOk_sl, lockE_nil, lockE_v, lockE_fr, openE_nil, openE_v, openE_fr, lockK_own, lockE_one, openK_own, openK_lent, openE_one, stands_v, stands_fr, standK_some, stands_sl, items_l, items_t, zips_l, zips_t, enum_l, enum_t, wipe_nil, wipe_cons, merge_nil, merge_cons, List.getD_cons_zero, List.getD_cons_succ, map_id, sm_self, true_and, false_and, and_true, and_false, and_self, not_true_eq_false, not_false_eq_true, ite_self, ↓reduceIte, List.getElem?_cons_zero, List.getElem?_cons_succ, List.getElem?_nil, List.set_cons_zero, List.set_cons_succ, List.map_cons, List.map_nil, Option.map_some, Option.map_none, Bool.false_eq_true, Bool.and_true, Bool.true_and, Bool.and_false, Bool.false_and, Bool.and_self, Bool.not_true, Bool.not_false, List.length_cons, List.length_nil, List.replicate_succ, List.replicate_zero, List.cons_append, List.nil_append, decide_true, decide_false, decide_eq_true_eq, Nat.reduceAdd, Nat.reduceSub, Nat.reduceLT, Nat.reduceLeDiff, List.isEmpty_cons, List.isEmpty_nil, Int.reduceMul, Int.reduceAdd, beq_iff_eq, Int.reduceNeg, Int.reduceEq, Int.reduceBEq, Int.cast_ofNat_Int, *])
theorem ne_same {A : Type} {enc : A → D} {n : Nat} {P : A → Prop} (h : Enc enc n P) (hn : n ≤ 64) {a : A} (ha : P a) : cop .ne (enc a) (enc a) = some false := by
  rw [cop_ne, (h.fits a ha).fit hn, (h.eqv a a ha ha).mpr rfl]; rfl
theorem famE_enc : Enc famE 2 (fun _ => True) := by
  have h := enc_tup stE_enc
  exact ⟨fun a _ => h.fits a (fun _ _ => trivial), fun a b _ _ => h.eqv a b (fun _ _ => trivial) (fun _ _ => trivial)⟩
theorem c_found (n : Nat) (rs : List Rl) (ts : List (List Int)) (S : Sch n rs ts) (hn : N3 n) :
    callAt G T 38 i_found_closed [.val (schE n rs ts)] = .ok (.list (sortD ((Fam n rs).map stE'))) true [some (.val (schE n rs ts))] := by
  have hr : ∀ r ∈ rs, RlOk n r := fun r h => (S.rg r h).ok
  have cm := c_rules_as_masks 35 n S.n6 rs (.tuple (ts.map stE')) hr (by have := S.r6; omega)
  have ca := smC_eq (k_sets n hn)
  have sr := k_srt n hn _ (filter_subs (fun row => decide (lawCl rs row = row)) (szs n))
  have sr : srt ((Fam n rs).map stE') = true := sr
  have ps : p1 .sorted (.list ((Fam n rs).map stE')) = some (.fr (.list (sortD ((Fam n rs).map stE')))) := by
    simp only [p1]; rw [if_pos sr]
  have q : ev G (callAt G T 37) q_found_closed_1 [some (.val (.tuple [.int n, .tuple (rs.map rlE), .tuple (ts.map stE')])), some (.val (.list (rs.map rmE))), none] = .ok (.fr (.list ((Fam n rs).map stE'))) [some (.val (.tuple [.int n, .tuple (rs.map rlE), .tuple (ts.map stE')])), some (.val (.list (rs.map rmE))), none] := by
    refine lc_if (szs n) stE' (fun row => decide (lawCl rs row = row)) stE' rfl ⟨_, _, by walk_at "z*"; rfl, rfl⟩ (fun row hrow => ?_) (by have := hn.le; rw [line_val]; unfold szs; split; decide; split <;> decide)
    have st := (mem_szs hn).mp hrow
    obtain ⟨l1, l2⟩ := lawCl_ok (rs := rs) S.n6 hr st
    have cb := mask_ok (G := G) (T := T) (i := i_mask_of_set) 36 rfl row fun i hi => ⟨(st.1 i hi).1, by have := (st.1 i hi).2; have := S.n6; omega⟩
    obtain ⟨m, cc, hm⟩ := clos_ok (G := G) (T := T) (i := i_closure_of) 36 rfl n (by have := S.n6; omega) rs hr row st.1
    have em : m = mk (lawCl rs row) := Nat.eq_of_testBit_eq fun i => by
      rw [Bool.eq_iff_iff, hm, mk_bit (fun i hi => (l1.1 i hi).1), l2]
    subst em
    have hd : decide (((mk (lawCl rs row) : Nat) : Int) = ((mk row : Nat) : Int)) = decide (lawCl rs row = row) := decide_eq_decide.mpr ⟨fun z => asc_ext l1.2 st.2 ((mk_eq (fun i hi => (l1.1 i hi).1) fun i hi => (st.1 i hi).1).mp (by omega)), fun z => by rw [z]⟩
    refine ⟨[some (.val (.tuple [.int n, .tuple (rs.map rlE), .tuple (ts.map stE')])), some (.val (.list (rs.map rmE))), some (.val (.tuple (row.map PyData.int)))], by unfold stE'; walk_at "z*", by walk_at "z", ?_, fun _ => by walk_at "z"; rfl⟩
    walk_at "z*"
    by_cases c : lawCl rs row = row
    · rw [if_pos c, decide_eq_true c]
    · rw [if_neg c, decide_eq_false c]
  rw [call_of t_found_closed rfl rfl]
  unfold b_found_closed schE
  walk_at "z*"
theorem c_family (n : Nat) (rs : List Rl) (ts : List (List Int)) (S : Sch n rs ts) (hn : N3 n) :
    callAt G T 39 i_family_of [.val (schE n rs ts)] = .ok (.tuple (sortD ((Fam n rs).map stE'))) false [some (.val (schE n rs ts))] := by
  have cc := c_check_ok 32 (schE n rs ts) S.small S.isSch
  have cf := c_found n rs ts S hn
  have h3 : ¬ (3 : Int) < (n : Int) := by have := hn.le; omega
  rw [call_of t_family_of rfl rfl]
  unfold b_family_of
  have g_0 : G[0]? = some (.int 6) := rfl
  have g_1 : G[1]? = some (.int 6) := rfl
  have g_2 : G[2]? = some (.int 6) := rfl
  have g_3 : G[3]? = some (.int 3) := rfl
  unfold schE at *
  walk_at "z*"
theorem c_family_no (d : D) (hd : smallD d = true) (h : isSchD d = false) : callAt G T 38 i_family_of [.val d] = .ex ⟨0, .none⟩ := by
  have cc := c_check_no 31 d hd h
  rw [call_of t_family_of rfl rfl]
  unfold b_family_of
  have g_0 : G[0]? = some (.int 6) := rfl
  have g_1 : G[1]? = some (.int 6) := rfl
  have g_2 : G[2]? = some (.int 6) := rfl
  have g_3 : G[3]? = some (.int 3) := rfl
  walk_at "z*"
theorem told_1 (d : D) (hd : smallD d = true) (h : isSchD d = false) : callAt G T 39 i__law_told [.val (.int 1), .val d, .val (.int 0)] = .ok malf false [some (.val (.int 1)), some (.val d), some (.val (.int 0))] := by
  have cc := c_family_no d hd h
  rw [call_of t__law_told rfl rfl]
  have tx : takesX 0 ⟨0, .none⟩ = true := rfl
  unfold b__law_told malf
  walk_at "z*"
/-! what is no scheme -/
def odds (n : Nat) (rs : List Rl) (ts : List (List Int)) : List D :=
  [.none, .tuple [], .int 5, .list [.int n, .tuple (rs.map rlE), .tuple (ts.map stE')], .tuple [.int n, .tuple (rs.map rlE)], .tuple [.int 0, .tuple [], .tuple [.tuple [.int 0]]],
   .tuple [.int 7, .tuple (rs.map rlE), .tuple (ts.map stE')], .tuple [.bool true, .tuple (rs.map rlE), .tuple (ts.map stE')], .tuple [.int n, .list (rs.map rlE), .tuple (ts.map stE')], .tuple [.int n, .tuple (rs.map rlE), .tuple []],
   .tuple [.int n, .tuple (rs.map rlE), .tuple (ts.map stE' ++ [.tuple []])], .tuple [.int n, .tuple [.tuple [.tuple [], .int 0]], .tuple (ts.map stE')], .tuple [.int n, .tuple [.tuple [.tuple [.int 0], .int 0]], .tuple (ts.map stE')],
   .tuple [.int 2, .tuple [], .tuple [.tuple [.int 0]]], .tuple [.int n, .tuple (rs.map rlE), .tuple (ts.map stE' ++ [.tuple [.int n]])], .tuple [.int 2, .tuple [], .tuple [.tuple [.int 1, .int 0]]],
   .tuple [.int n, .tuple (rs.map rlE), .tuple (List.replicate 7 (ts.map stE')).flatten], .tuple [.int 2, .tuple [.tuple [.tuple [.int 0], .int 1], .tuple [.tuple [.int 0], .int 1]], .tuple [.tuple [.int 0, .int 1]]]]
theorem tabs_bad {n : Int} {xs : List D} {d : D} (h : isStD n d = false ∨ (tabItems d).length = 0) : areTabsD n (.tuple (xs ++ [d])) = false := by
  have e : ((xs ++ [d]).all fun t => isStD n t && decide (0 < (tabItems t).length)) = false := by
    rw [List.all_append, Bool.and_eq_false_iff]; right
    simp only [List.all_cons, List.all_nil, Bool.and_true, Bool.and_eq_false_iff, decide_eq_false_iff_not]
    rcases h with h | h
    · exact .inl h
    · right; omega
  unfold areTabsD
  dsimp only
  rw [e]; simp
theorem small_app {xs : List D} {d : D} (h : smallD (.tuple xs) = true) (hd : smallD d = true) (hl : xs.length ≤ 900) : smallD (.tuple (xs ++ [d])) = true := by
  have k : ∀ ys : List D, smallL ys = true → smallL (ys ++ [d]) = true := by
    intro ys
    induction ys with
    | nil => intro _; simp only [List.nil_append, smallL, hd, Bool.and_self]
    | cons y ys ih => intro z; simp only [smallL, Bool.and_eq_true] at z; simp only [List.cons_append, smallL, z.1, ih z.2, Bool.and_self]
  simp only [smallD, Bool.and_eq_true, decide_eq_true_eq] at h ⊢
  exact ⟨by rw [List.length_append]; simp only [List.length_cons, List.length_nil]; omega, k xs h.2⟩
theorem small_rep {xs : List D} (h : smallD (.tuple xs) = true) (hl : xs.length ≤ 100) : smallD (.tuple (List.replicate 7 xs).flatten) = true := by
  have k : ∀ ys zs : List D, smallL ys = true → smallL zs = true → smallL (ys ++ zs) = true := by
    intro ys zs
    induction ys with
    | nil => intro _ z; exact z
    | cons y ys ih => intro z w; simp only [smallL, Bool.and_eq_true] at z; simp only [List.cons_append, smallL, z.1, ih z.2 w, Bool.and_self]
  simp only [smallD, Bool.and_eq_true, decide_eq_true_eq] at h ⊢
  refine ⟨by rw [List.length_flatten]; simp [List.replicate]; omega, ?_⟩
  have k2 : ∀ j : Nat, smallL (List.replicate j xs).flatten = true := by
    intro j
    induction j with
    | zero => simp [smallL]
    | succ j ih => rw [List.replicate_succ, List.flatten_cons]; exact k _ _ h.2 ih
  exact k2 7
theorem odds_no {n : Nat} {rs : List Rl} {ts : List (List Int)} (S : Sch n rs ts) : ∀ d ∈ odds n rs ts, isSchD d = false ∧ smallD d = true := by
  have a := S.small_rs
  have b := S.small_ts
  have tl := S.t6
  have t1 : 1 ≤ ts.length := by
    obtain ⟨t, ht, _⟩ := S.tc 0 (by decide) (by have := S.n1; omega)
    exact List.length_pos_of_mem ht
  have l3 : ∀ {x y z : D}, smallD x = true → smallD y = true → smallD z = true → smallD (.tuple [x, y, z]) = true := fun h1 h2 h3 => by simp only [smallD, smallL, h1, h2, h3, List.length_cons, List.length_nil]; rfl
  have l2 : ∀ {x y : D}, smallD x = true → smallD y = true → smallD (.tuple [x, y]) = true := fun h1 h2 => by simp only [smallD, smallL, h1, h2, List.length_cons, List.length_nil]; rfl
  have si : ∀ i : Int, smallD (.int i) = true := fun _ => by simp only [smallD]
  have n3 : ∀ (r t : D), areTabsD n t = false → isSchD (.tuple [.int n, r, t]) = false := fun r t h => by simp only [isSchD, h, Bool.and_false]
  have n2 : ∀ (r t : D), areRulesD n r = false → isSchD (.tuple [.int n, r, t]) = false := fun r t h => by simp only [isSchD, h, Bool.and_false, Bool.false_and]
  have tb : (ts.map stE').length ≤ 900 := by rw [List.length_map]; omega
  intro d hd
  simp only [odds, List.mem_cons, List.not_mem_nil, or_false] at hd
  rcases hd with rfl | rfl | rfl | rfl | rfl | rfl | rfl | rfl | rfl | rfl | rfl | rfl | rfl | rfl | rfl | rfl | rfl | rfl
  · exact ⟨rfl, by simp only [smallD]⟩
  · exact ⟨rfl, by simp [smallD, smallL]⟩
  · exact ⟨rfl, by simp only [smallD]⟩
  · exact ⟨rfl, by have := l3 (si n) a b; simp only [smallD] at this ⊢; exact this⟩
  · exact ⟨rfl, l2 (si n) a⟩
  · exact ⟨by decide +kernel, by decide +kernel⟩
  · exact ⟨by simp only [isSchD]; rfl, l3 (si 7) a b⟩
  · exact ⟨rfl, l3 (by simp only [smallD]) a b⟩
  · exact ⟨n2 _ _ rfl, l3 (si n) (by simp only [smallD] at a ⊢; exact a) b⟩
  · exact ⟨n3 _ _ rfl, l3 (si n) a (by simp [smallD, smallL])⟩
  · exact ⟨n3 _ _ (tabs_bad (.inr rfl)), l3 (si n) a (small_app b (by simp [smallD, smallL]) tb)⟩
  · exact ⟨n2 _ _ (by simp [areRulesD, isRuleD, tabItems]), l3 (si n) (by decide +kernel) b⟩
  · exact ⟨n2 _ _ (by simp [areRulesD, isRuleD, tabItems, notIn, intsOf]), l3 (si n) (by decide +kernel) b⟩
  · exact ⟨by decide +kernel, by decide +kernel⟩
  · exact ⟨n3 _ _ (tabs_bad (.inl (by simp [isStD, isCol]))), l3 (si n) a (small_app b (by simp [smallD, smallL]) tb)⟩
  · exact ⟨by decide +kernel, by decide +kernel⟩
  · refine ⟨n3 _ _ ?_, l3 (si n) a (small_rep b (by rw [List.length_map]; omega))⟩
    unfold areTabsD
    dsimp only
    have : decide (((List.replicate 7 (ts.map stE')).flatten).length ≤ 6) = false := by
      rw [decide_eq_false_iff_not, List.length_flatten]; simp [List.replicate]; omega
    rw [this]; simp
  · exact ⟨by decide +kernel, by decide +kernel⟩
end Zv.K72

set_option Elab.async false
set_option autoImplicit false
set_option linter.all false
set_option maxRecDepth 100000
namespace Zv.K72
open PySem
local macro_rules | `(tactic| walk_at "z") => `(tactic| simp -dsimp only [R.bd_ok, R.bd_ex, R.bd_no, R.bd_ite, ↓z_bind_at, pure_at, liR_some, liR_none, z_lift_at, SR.ob_ok, SR.ob_ex, SR.ob_no, SR.ob_ite, SR.tn_nx, SR.tn_rt, SR.tn_bk, SR.tn_ct, SR.tn_ex, SR.tn_no, SR.tn_ite, slD_val, slD_own, slD_kept, look_v, look_fr, look_sl, rd_v, rd_fr, rd_sl, fzK_val, fzK_kept, fzK_own, fzK_lent, fz_v, fz_fr, fz_sl, putK_none, putK_val, putK_own, bdR_some, ev_k, ev_g, vK_val, vK_kept, vK_own, ev_v, ev_bin, negD_int, ev_neg, invD_int, ev_inv, ev_cmp, ev_chain, ev_nt, ev_an, ev_or, z_ev_ife, ev_tup, ev_lst, ev_idx, ev_cut, ev_call, ev_p1, ev_rev, ev_isi, pitK_at, ev_pit, strO_str, ev_splt, evO_none, intD_int, evO_some, evs_nil, evs_cons, z_evAn_one, evAn_cons, z_evOr_one, evOr_cons, evIf_nil, evIf_cons, fzAll_nil, fzAll_cons, frzAll_nil, frzAll_fr, frzAll_v, frzAll_sl, argK_val, argK_kept, argK_own, argOf_v, argOf_fr, argOf_sl, argsOf_nil, consO_some, argsOf_cons, callK_ok, callK_ex, callA_some, callM_at, callK_ite, backK_own, backOf_nil, backOf_v, backOf_fr, backOf_sl, backSlot_own, backSlot_kept, backSlot_kept', loseK_own, loseOf_nil, loseOf_v, loseOf_fr, loseOf_sl, slotsOf_nil, slotsOf_v, slotsOf_fr, slotsOf_sl, onceN_nil, onceN_one, asgT_nm, asgT_ow, asgT_owd, asgT_tup, thenO_some, putO_none, putO_val, putO_own, putS_at, bindT_nm, bindT_tup, bindT_lst, bindTs_nil, bindTs_cons, asgTs_nil, asgTs_cons, evIt_sq, evIt_rg, evIt_rg2, evIt_zip, evIt_enm, evSs_nil, evSs_cons, evS_doc, evS_asg, evS_par, evS_setI, isOwnK_own, isOwn_lt, appK_own, evS_app, extK_own, evS_ext, augK_int, augR_int, evS_aug, evS_ex, evS_if, evS_retN, evS_brk, evS_cnt, evS_pass, evS_raiseN, retK_val, retK_kept, retK_own, retK_lent, retOf_v, retOf_fr, retOf_sl, evS_ret, tryK_ex, tryK_rt, tryK_nx, tryK_ite, evS_try, evHs_k, evHs_nil, evS_for, evS_whl, fnK_rt, fnK_nx, fnK_ex, fnK_ite, outsOf_nil, outsOf_val, outsOf_own, bop_add, bop_sub, bop_tup, bop_lst, fit_int, cop_eqI, cop_neI, cop_eqB, cop_neB, cop_lt, cop_le, cop_gt, cop_ge, cop_is, cop_isNot, cop_in, cop_notIn, tr_bool, tr_int, tr_none, tr_tup, tr_lst, atL_some, idxL_at, idxT_at, ix_neg, ix_0, ix_1, ix_2, ix_3, ix_4, ix_5, ix_6, setOb_lst, setR_some, setK_at, p_len_l, p_len_t, p_tup_l, p_tup_t, p_lst_l, p_lst_t, rev_l, rev_t, p_abs, p_int, p_intb, p_all, p_any, eqv_int, eqv_str, dlst, isTy_int_int, isTy_int_bool, isTy_int_str, isTy_int_tuple, isTy_int_list, isTy_int_dict, isTy_int_none, isTy_bool_int, isTy_bool_bool, isTy_bool_str, isTy_bool_tuple, isTy_bool_list, isTy_bool_dict, isTy_bool_none, isTy_str_int, isTy_str_bool, isTy_str_str, isTy_str_tuple, isTy_str_list, isTy_str_dict, isTy_str_none, isTy_tuple_int, isTy_tuple_bool, isTy_tuple_str, isTy_tuple_tuple, isTy_tuple_list, isTy_tuple_dict, isTy_tuple_none, isTy_list_int, isTy_list_bool, isTy_list_str, isTy_list_tuple, isTy_list_list, isTy_list_dict, isTy_list_none, p1_lset_l, p1_lset_t, p1_sset_l, p1_sset_t, p1_max_l, p1_max_t, p1_min_l, p1_min_t, fr_none, fr_val, fr_own, putO_fr, putK_fr, lockOk_nil, lockOk_v, lockOk_fr, lockOk_sl, lockE_nil, lockE_v, lockE_fr, openE_nil, openE_v, openE_fr, lockK_own, lockE_one, openK_own, openK_lent, openE_one, stands_v, stands_fr, standK_some, stands_sl, items_l, items_t, zips_l, zips_t, enum_l, enum_t, wipe_nil, wipe_cons, merge_nil, merge_cons, List.getD_cons_zero, List.getD_cons_succ, map_id, sm_self, true_and, false_and, and_true, and_false, and_self, not_true_eq_false, not_false_eq_true, ite_self, ↓reduceIte, List.getElem?_cons_zero, List.getElem?_cons_succ, List.getElem?_nil, List.set_cons_zero, List.set_cons_succ, List.map_cons, List.map_nil, Option.map_some, Option.map_none, Bool.false_eq_true, Bool.and_true, Bool.true_and, Bool.and_false, Bool.false_and, Bool.and_self, Bool.not_true, Bool.not_false, List.length_cons, List.length_nil, List.replicate_succ, List.replicate_zero, List.cons_append, List.nil_append, decide_true, decide_false, decide_eq_true_eq, Nat.reduceAdd, Nat.reduceSub, Nat.reduceLT, Nat.reduceLeDiff, List.isEmpty_cons, List.isEmpty_nil, Int.reduceMul, Int.reduceAdd, beq_iff_eq, Int.reduceNeg, Int.reduceEq, Int.reduceBEq, Int.cast_ofNat_Int])
local macro_rules | `(tactic| walk_at "z*") => `(tactic| simp -dsimp only [R.bd_ok, R.bd_ex, R.bd_no, R.bd_ite, ↓z_bind_at, pure_at, liR_some, liR_none, z_lift_at, SR.ob_ok, SR.ob_ex, SR.ob_no, SR.ob_ite, SR.tn_nx, SR.tn_rt, SR.tn_bk, SR.tn_ct, SR.tn_ex, SR.tn_no, SR.tn_ite, slD_val, slD_own, slD_kept, look_v, look_fr, look_sl, rd_v, rd_fr, rd_sl, fzK_val, fzK_kept, fzK_own, fzK_lent, fz_v, fz_fr, fz_sl, putK_none, putK_val, putK_own, bdR_some, ev_k, ev_g, vK_val, vK_kept, vK_own, ev_v, ev_bin, negD_int, ev_neg, invD_int, ev_inv, ev_cmp, ev_chain, ev_nt, ev_an, ev_or, z_ev_ife, ev_tup, ev_lst, ev_idx, ev_cut, ev_call, ev_p1, ev_rev, ev_isi, pitK_at, ev_pit, strO_str, ev_splt, evO_none, intD_int, evO_some, evs_nil, evs_cons, z_evAn_one, evAn_cons, z_evOr_one, evOr_cons, evIf_nil, evIf_cons, fzAll_nil, fzAll_cons, frzAll_nil, frzAll_fr, frzAll_v, frzAll_sl, argK_val, argK_kept, argK_own, argOf_v, argOf_fr, argOf_sl, argsOf_nil, consO_some, argsOf_cons, callK_ok, callK_ex, callA_some, callM_at, callK_ite, backK_own, backOf_nil, backOf_v, backOf_fr, backOf_sl, backSlot_own, backSlot_kept, backSlot_kept', loseK_own, loseOf_nil, loseOf_v, loseOf_fr, loseOf_sl, slotsOf_nil, slotsOf_v, slotsOf_fr, slotsOf_sl, onceN_nil, onceN_one, asgT_nm, asgT_ow, asgT_owd, asgT_tup, thenO_some, putO_none, putO_val, putO_own, putS_at, bindT_nm, bindT_tup, bindT_lst, bindTs_nil, bindTs_cons, asgTs_nil, asgTs_cons, evIt_sq, evIt_rg, evIt_rg2, evIt_zip, evIt_enm, evSs_nil, evSs_cons, evS_doc, evS_asg, evS_par, evS_setI, isOwnK_own, isOwn_lt, appK_own, evS_app, extK_own, evS_ext, augK_int, augR_int, evS_aug, evS_ex, evS_if, evS_retN, evS_brk, evS_cnt, evS_pass, evS_raiseN, retK_val, retK_kept, retK_own, retK_lent, retOf_v, retOf_fr, retOf_sl, evS_ret, tryK_ex, tryK_rt, tryK_nx, tryK_ite, evS_try, evHs_k, evHs_nil, evS_for, evS_whl, fnK_rt, fnK_nx, fnK_ex, fnK_ite, outsOf_nil, outsOf_val, outsOf_own, bop_add, bop_sub, bop_tup, bop_lst, fit_int, cop_eqI, cop_neI, cop_eqB, cop_neB, cop_lt, cop_le, cop_gt, cop_ge, cop_is, cop_isNot, cop_in, cop_notIn, tr_bool, tr_int, tr_none, tr_tup, tr_lst, atL_some, idxL_at, idxT_at, ix_neg, ix_0, ix_1, ix_2, ix_3, ix_4, ix_5, ix_6, setOb_lst, setR_some, setK_at, p_len_l, p_len_t, p_tup_l, p_tup_t, p_lst_l, p_lst_t, rev_l, rev_t, p_abs, p_int, p_intb, p_all, p_any, eqv_int, eqv_str, dlst, isTy_int_int, isTy_int_bool, isTy_int_str, isTy_int_tuple, isTy_int_list, isTy_int_dict, isTy_int_none, isTy_bool_int, isTy_bool_bool, isTy_bool_str, isTy_bool_tuple, isTy_bool_list, isTy_bool_dict, isTy_bool_none, isTy_str_int, isTy_str_bool, isTy_str_str, isTy_str_tuple, isTy_str_list, isTy_str_dict, isTy_str_none, isTy_tuple_int, isTy_tuple_bool, isTy_tuple_str, isTy_tuple_tuple, isTy_tuple_list, isTy_tuple_dict, isTy_tuple_none, isTy_list_int, isTy_list_bool, isTy_list_str, isTy_list_tuple, isTy_list_list, isTy_list_dict, isTy_list_none, p1_lset_l, p1_lset_t, p1_sset_l, p1_sset_t, p1_max_l, p1_max_t, p1_min_l, p1_min_t, fr_none, fr_val, fr_own, putO_fr, putK_fr, lockOk_nil, lockOk_v, lockOk_fr, lockOk_sl, lockE_nil, lockE_v, lockE_fr, openE_nil, openE_v, openE_fr, lockK_own, lockE_one, openK_own, openK_lent, openE_one, stands_v, stands_fr, standK_some, stands_sl, items_l, items_t, zips_l, zips_t, enum_l, enum_t, wipe_nil, wipe_cons, merge_nil, merge_cons, List.getD_cons_zero, List.getD_cons_succ, map_id, sm_self, true_and, false_and, and_true, and_false, and_self, not_true_eq_false, not_false_eq_true, ite_self, ↓reduceIte, List.getElem?_cons_zero, List.getElem?_cons_succ, List.getElem?_nil, List.set_cons_zero, List.set_cons_succ, List.map_cons, List.map_nil, Option.map_some, Option.map_none, Bool.false_eq_true, Bool.and_true, Bool.true_and, Bool.and_false, Bool.false_and, Bool.and_self, Bool.not_true, Bool.not_false, List.length_cons, List.length_nil, List.replicate_succ, List.replicate_zero, List.cons_append, List.nil_append, decide_true, decide_false, decide_eq_true_eq, Nat.reduceAdd, Nat.reduceSub, Nat.reduceLT, Nat.reduceLeDiff, List.isEmpty_cons, List.isEmpty_nil, Int.reduceMul, Int.reduceAdd, beq_iff_eq, Int.reduceNeg, Int.reduceEq, Int.reduceBEq, Int.cast_ofNat_Int, *])
theorem atL_any (xs : List D) (r : Int) (h0 : 0 ≤ r) (h1 : r < (xs.length : Nat)) : ∃ d, atL xs (ixOf xs.length r) = some d ∧ d ∈ xs := by
  obtain ⟨j, rfl⟩ : ∃ j : Nat, r = (j : Int) := ⟨r.toNat, by omega⟩
  have hj : j < xs.length := by omega
  rw [ix_nat _ _ hj, atL_some, List.getElem?_eq_getElem hj]
  exact ⟨_, rfl, List.getElem_mem hj⟩
theorem c_odd {o : Ob} (hD : Dr o) (n : Nat) (rs : List Rl) (ts : List (List Int)) (S : Sch n rs ts) :
    ∃ (d : D) (o' : Ob), callAt G T 39 i__law_odd_scheme [.own true o, .val (schE n rs ts)] = .ok d false [some (.own true o'), some (.val (schE n rs ts))] ∧ Dr o' ∧ isSchD d = false ∧ smallD d = true := by
  obtain ⟨r, o1, c1, r1, r2, d1⟩ := take_ok (G := G) (T := T) (i := i__law_take) 37 rfl hD 18 (by decide) (by decide)
  obtain ⟨d, hd, hm⟩ := atL_any (odds n rs ts) r r1 r2
  obtain ⟨k1, k2⟩ := odds_no S d hm
  refine ⟨d, o1, ?_, d1, k1, k2⟩
  have tl := S.t6
  have t1 : 1 ≤ ts.length := by
    obtain ⟨t, ht, _⟩ := S.tc 0 (by decide) (by have := S.n1; omega)
    exact List.length_pos_of_mem ht
  have hlen : (odds n rs ts).length = 18 := rfl
  rw [hlen] at hd
  have b1 : ∀ x : D, bop .add (.tuple (ts.map stE')) (.tuple [x]) = some (.v (.tuple (ts.map stE' ++ [x]))) := fun x => by
    rw [bop_tup, if_pos (by rw [List.length_map, line_val]; simp only [List.length_cons, List.length_nil]; omega)]
  have b2 : bop .mul (.tuple (ts.map stE')) (.int 7) = some (.v (.tuple (List.replicate 7 (ts.map stE')).flatten)) := by
    show (if (ts.map stE').isEmpty = false ∧ (-1000 : Int) ≤ 7 ∧ (7 : Int) ≤ 1000 ∧ (ts.map stE').length ≤ 1000 then _ else _) = _
    rw [if_pos ⟨by cases ts with | nil => simp at t1 | cons a b => rfl, by decide, by decide, by rw [List.length_map]; omega⟩]; rfl
  have b3 : ∀ xs ys : List D, xs.length ≤ 16 → ys.length ≤ 10 → bop .add (.list xs) (.list ys) = some (.fr (.list (xs ++ ys))) := fun xs ys h1 h2 => by
    rw [bop_lst, if_pos (by rw [line_val]; omega)]
  have b1a := b1 (.tuple [])
  have b1b := b1 (.tuple [.int n])
  clear b1
  have m1 : Zv.p1 .list (.tuple (rs.map rlE)) = some (.fr (.list (rs.map rlE))) := rfl
  rw [call_of t__law_odd_scheme rfl rfl]
  unfold b__law_odd_scheme schE
  unfold odds at hd
  generalize (List.replicate 7 (ts.map stE')).flatten = rep at hd b2
  walk_at "z*"
theorem lq1 (n : Nat) (hn : N3 n) (rs : List Rl) (hr : ∀ r ∈ rs, RGood n r) (hl : rs.length ≤ 10) (s0 s1 s2 s3 s4 s5 s6 s7 s8 s9 s10 s11 s12 s15 s17 : Option SV) :
    ev G (callAt G T 39) q_law_1 [s0, s1, s2, s3, s4, s5, s6, s7, s8, s9, s10, s11, s12, some (.val (.int n)), some (.val (.tuple (rs.map rlE))), s15, none, s17] =
      .ok (.fr (.list ((Fam n rs).map stE'))) [s0, s1, s2, s3, s4, s5, s6, s7, s8, s9, s10, s11, s12, some (.val (.int n)), some (.val (.tuple (rs.map rlE))), s15, none, s17] := by
  have ca := smC_eq (k_lsets n hn)
  refine lc_if (szs n) stE' (fun row => decide (lawCl rs row = row)) stE' rfl ⟨_, _, by walk_at "z*"; rfl, rfl⟩ (fun row hrow => ?_) (by rw [line_val]; unfold szs; split; decide; split <;> decide)
  have st := (mem_szs hn).mp hrow
  have cl := c_law_closure 38 n (by have := hn.le; omega) rs (fun r h => ⟨(hr r h).ok, Nat.le_trans (hr r h).1.len (by have := hn.le; omega)⟩) hl row st
  have eq : cop .eq (.tuple ((lawCl rs row).map PyData.int)) (.tuple (row.map PyData.int)) = some (decide (lawCl rs row = row)) := eq_enc stE_enc (by decide) trivial trivial
  refine ⟨[s0, s1, s2, s3, s4, s5, s6, s7, s8, s9, s10, s11, s12, some (.val (.int n)), some (.val (.tuple (rs.map rlE))), s15, some (.val (.tuple (row.map PyData.int))), s17], by unfold stE'; walk_at "z*", by walk_at "z", ?_, fun _ => by walk_at "z"; rfl⟩
  walk_at "z*"
  by_cases c : lawCl rs row = row
  · rw [if_pos c, decide_eq_true c]
  · rw [if_neg c, decide_eq_false c]
theorem lq3 (n : Nat) (hn : N3 n) (rs : List Rl) (hr : ∀ r ∈ rs, RGood n r) (hl : rs.length ≤ 10) (s0 s1 s2 s3 s4 s5 s7 s8 s9 s10 s11 s12 s14 s15 s17 : Option SV) :
    ev G (callAt G T 39) q_law_3 [s0, s1, s2, s3, s4, s5, some (.val (.tuple (rs.map rlE))), s7, s8, s9, s10, s11, s12, some (.val (.int n)), s14, s15, none, s17] =
      .ok (.fr (.list ((Fam n rs).map stE'))) [s0, s1, s2, s3, s4, s5, some (.val (.tuple (rs.map rlE))), s7, s8, s9, s10, s11, s12, some (.val (.int n)), s14, s15, none, s17] := by
  have ca := smC_eq (k_lsets n hn)
  refine lc_if (szs n) stE' (fun row => decide (lawCl rs row = row)) stE' rfl ⟨_, _, by walk_at "z*"; rfl, rfl⟩ (fun row hrow => ?_) (by rw [line_val]; unfold szs; split; decide; split <;> decide)
  have st := (mem_szs hn).mp hrow
  have cl := c_law_closure 38 n (by have := hn.le; omega) rs (fun r h => ⟨(hr r h).ok, Nat.le_trans (hr r h).1.len (by have := hn.le; omega)⟩) hl row st
  have eq : cop .eq (.tuple ((lawCl rs row).map PyData.int)) (.tuple (row.map PyData.int)) = some (decide (lawCl rs row = row)) := eq_enc stE_enc (by decide) trivial trivial
  refine ⟨[s0, s1, s2, s3, s4, s5, some (.val (.tuple (rs.map rlE))), s7, s8, s9, s10, s11, s12, some (.val (.int n)), s14, s15, some (.val (.tuple (row.map PyData.int))), s17], by unfold stE'; walk_at "z*", by walk_at "z", ?_, fun _ => by walk_at "z"; rfl⟩
  walk_at "z*"
  by_cases c : lawCl rs row = row
  · rw [if_pos c, decide_eq_true c]
  · rw [if_neg c, decide_eq_false c]
structure RlsOk (n : Nat) (rs : List Rl) : Prop where
  g : ∀ r ∈ rs, RGood n r
  l : rs.length ≤ 10
def dueOf (rs : List Rl) (l : List Int) : List Rl := ((lawCl rs l).filter fun a => !decide (a ∈ l)).map fun a => (l, a)
theorem lq2 (n : Nat) (hn : N3 n) (rs : List Rl) (hr : ∀ r ∈ rs, RGood n r) (hl : rs.length ≤ 10) (l : List Int) (st : StOk n l) (s0 s1 s2 s3 s4 s5 s6 s7 s8 s9 s10 s12 s13 s15 s16 : Option SV) :
    ev G (callAt G T 39) q_law_2 [s0, s1, s2, s3, s4, s5, s6, s7, s8, s9, s10, some (.val (.tuple (l.map PyData.int))), s12, s13, some (.val (.tuple (rs.map rlE))), s15, s16, none] =
      .ok (.fr (.list ((dueOf rs l).map rlE))) [s0, s1, s2, s3, s4, s5, s6, s7, s8, s9, s10, some (.val (.tuple (l.map PyData.int))), s12, s13, some (.val (.tuple (rs.map rlE))), s15, s16, none] := by
  have cl := c_law_closure 38 n (by have := hn.le; omega) rs (fun r h => ⟨(hr r h).ok, Nat.le_trans (hr r h).1.len (by have := hn.le; omega)⟩) hl l st
  have lo := lawCl_ok (rs := rs) (by have := hn.le; omega) (fun r h => (hr r h).ok) st
  have ed : (dueOf rs l).map rlE = ((lawCl rs l).filter fun a => !decide (a ∈ l)).map fun a => rlE (l, a) := by
    unfold dueOf; rw [List.map_map]; rfl
  rw [ed]
  refine lc_if (lawCl rs l) PyData.int (fun a => !decide (a ∈ l)) (fun a => rlE (l, a)) rfl ⟨_, _, by walk_at "z*"; rfl, rfl⟩ (fun a ha => ?_) (by have := lo.1.len; have := hn.le; rw [line_val]; omega)
  have e2 : inD (.int a) (.tuple (l.map PyData.int)) = some (decide (a ∈ l)) := in_tuple enc_int (by decide) trivial (fun _ _ => trivial)
  refine ⟨[s0, s1, s2, s3, s4, s5, s6, s7, s8, s9, s10, some (.val (.tuple (l.map PyData.int))), s12, s13, some (.val (.tuple (rs.map rlE))), s15, s16, some (.val (.int a))], by walk_at "z*", by walk_at "z", ?_, fun _ => by walk_at "z"; rfl⟩
  walk_at "z*"
  by_cases c : a ∈ l
  · rw [decide_eq_true c]; rfl
  · rw [decide_eq_false c]; rfl
theorem due_loop (n : Nat) (hn : N3 n) (rs : List Rl) (hr : ∀ r ∈ rs, RGood n r) (hl : rs.length ≤ 10) (s0 s1 s2 s3 s4 s5 s6 s7 s8 s9 s12 s13 s15 s16 v : Option SV) (hv : Fr v) :
    ∃ v', Fr v' ∧ forL (bindT (.nm 11)) (evSs G (callAt G T 39) b_law_L2) (fun _ => true) (((szs n).drop 1).map stE') [s0, s1, s2, s3, s4, s5, s6, s7, s8, s9, some (.val (.list [])), v, s12, s13, some (.val (.tuple (rs.map rlE))), s15, s16, none] =
      .nx [s0, s1, s2, s3, s4, s5, s6, s7, s8, s9, some (.val (.list ((((szs n).drop 1).flatMap (dueOf rs)).map rlE))), v', s12, s13, some (.val (.tuple (rs.map rlE))), s15, s16, none] := by
  obtain ⟨e', k1, s, v', rfl, k2, k3, k4⟩ := forL_nx (bind := bindT (.nm 11)) (body := evSs G (callAt G T 39) b_law_L2) (ok := fun _ => true) stE'
    (fun ys e => ∃ (s : List Rl) (v : Option SV), e = [s0, s1, s2, s3, s4, s5, s6, s7, s8, s9, some (.val (.list (s.map rlE))), v, s12, s13, some (.val (.tuple (rs.map rlE))), s15, s16, none] ∧ Fr v ∧ (∀ l ∈ ys, StOk n l) ∧ s ++ ys.flatMap (dueOf rs) = ((szs n).drop 1).flatMap (dueOf rs) ∧ s.length + ys.length * 6 ≤ 100) (fun _ _ _ => rfl)
    (by
      rintro l ys _ ⟨s, v, rfl, hv, hst, hs, hlen⟩
      have st := hst l List.mem_cons_self
      have q := lq2 n hn rs hr hl l st s0 s1 s2 s3 s4 s5 s6 s7 s8 s9 (some (.val (.list (s.map rlE)))) s12 s13 s15 s16
      have lo := lawCl_ok (rs := rs) (by have := hn.le; omega) (fun r h => (hr r h).ok) st
      have dl : (dueOf rs l).length ≤ 6 := by
        unfold dueOf; rw [List.length_map]
        have := List.length_filter_le (fun a => !decide (a ∈ l)) (lawCl rs l)
        have := lo.1.len
        have := hn.le
        omega
      rw [List.length_cons] at hlen
      have b1 := bop_lst (s.map rlE) ((dueOf rs l).map rlE)
      rw [if_pos (by rw [List.length_map, List.length_map, line_val]; omega), ← List.map_append] at b1
      refine ⟨[s0, s1, s2, s3, s4, s5, s6, s7, s8, s9, some (.val (.list (s.map rlE))), some (.val (.tuple (l.map PyData.int))), s12, s13, some (.val (.tuple (rs.map rlE))), s15, s16, none], by unfold stE'; walk_at "z*", [s0, s1, s2, s3, s4, s5, s6, s7, s8, s9, some (.val (.list ((s ++ dueOf rs l).map rlE))), some (.val (.tuple (l.map PyData.int))), s12, s13, some (.val (.tuple (rs.map rlE))), s15, s16, none], .inl ?_, s ++ dueOf rs l, _, rfl, fr_val _, fun l' h' => hst l' (List.mem_cons_of_mem _ h'), by rw [List.append_assoc, ← List.flatMap_cons]; exact hs, by rw [List.length_append]; omega⟩
      unfold b_law_L2
      walk_at "z*") ((szs n).drop 1) [s0, s1, s2, s3, s4, s5, s6, s7, s8, s9, some (.val (.list [])), v, s12, s13, some (.val (.tuple (rs.map rlE))), s15, s16, none]
    ⟨[], v, rfl, hv, fun l h => (mem_szs hn).mp (List.mem_of_mem_drop h), rfl, by unfold szs; split; decide; split <;> decide⟩
  refine ⟨v', k2, ?_⟩
  rw [k1]
  rw [List.flatMap_nil, List.append_nil] at k4
  rw [k4.1]
theorem repr_ok {xs : List D} (h : rOk (.tuple xs) = true) : p1 .repr (.tuple xs) = some (.v (.str (PyData.tuple xs).shown)) := by
  simp only [p1]
  exact if_pos h
theorem cut_tail_l (xs : List D) : cutD (some 1) none (.list xs) = some (.fr (.list (xs.drop 1))) := by
  unfold cutD cutL cutIx
  simp only [Option.some.injEq, EV.fr.injEq, PyData.list.injEq]
  rw [if_neg (by decide)]
  rcases xs with _ | ⟨x, xs⟩
  · rfl
  · have e : min (1 : Int).toNat (x :: xs).length = 1 := by simp
    rw [e, List.take_of_length_le (by simp)]
theorem cut_first_t (xs : List D) : cutD none (some 1) (.tuple xs) = some (.v (.tuple (xs.take 1))) := by
  unfold cutD cutL cutIx
  simp only [List.drop_zero, Nat.sub_zero, Option.some.injEq, EV.v.injEq, PyData.tuple.injEq]
  rw [if_neg (by decide)]
  rcases xs with _ | ⟨x, xs⟩
  · rfl
  · have e : min (1 : Int).toNat (x :: xs).length = 1 := by simp
    rw [e]
theorem sfE_eq {xs : List D} (h : sfE xs = true) : ssetOf xs = some (.fr (.list xs)) := by
  unfold sfE at h
  split at h
  · next ys e => rw [e, smL_eq _ _ h]
  · cases h
def sokL (s : Str) : Bool := s.cps.toList.all fun c => decide (c < 0x110000)
theorem sokL_ok {s : Str} (h : sokL s = true) : PyData.strOk s = true := by
  unfold sokL at h
  unfold PyData.strOk
  rw [← Array.all_toList]; exact h
theorem k_sokL0 : ∀ n ∈ [1, 2, 3], ∀ x ∈ ((famsL n).drop 0).take 12, (sokL (famE x).shown && sokL (PyData.tuple ((told n x).map rlE)).shown) = true := by decide +kernel
theorem k_sokL1 : ∀ n ∈ [1, 2, 3], ∀ x ∈ ((famsL n).drop 12).take 12, (sokL (famE x).shown && sokL (PyData.tuple ((told n x).map rlE)).shown) = true := by decide +kernel
theorem k_sokL2 : ∀ n ∈ [1, 2, 3], ∀ x ∈ ((famsL n).drop 24).take 12, (sokL (famE x).shown && sokL (PyData.tuple ((told n x).map rlE)).shown) = true := by decide +kernel
theorem k_sokL3 : ∀ n ∈ [1, 2, 3], ∀ x ∈ ((famsL n).drop 36).take 12, (sokL (famE x).shown && sokL (PyData.tuple ((told n x).map rlE)).shown) = true := by decide +kernel
theorem k_sokL (n : Nat) (hn : n ∈ [1, 2, 3]) (x : List (List Int)) (hx : x ∈ famsL n) : (sokL (famE x).shown && sokL (PyData.tuple ((told n x).map rlE)).shown) = true := by
  have e : ∀ n ∈ [1, 2, 3], famsL n = ((famsL n).drop 0).take 12 ++ ((famsL n).drop 12).take 12 ++ ((famsL n).drop 24).take 12 ++ ((famsL n).drop 36).take 12 := by decide +kernel
  rw [e n hn] at hx
  simp only [List.mem_append] at hx
  rcases hx with ((hx | hx) | hx) | hx
  · exact k_sokL0 n hn x hx
  · exact k_sokL1 n hn x hx
  · exact k_sokL2 n hn x hx
  · exact k_sokL3 n hn x hx
theorem k_sok (n : Nat) (hn : n ∈ [1, 2, 3]) (x : List (List Int)) (hx : x ∈ famsL n) : (PyData.strOk (famE x).shown && PyData.strOk (PyData.tuple ((told n x).map rlE)).shown) = true := by
  have h := k_sokL n hn x hx
  rw [Bool.and_eq_true] at h ⊢
  exact ⟨sokL_ok h.1, sokL_ok h.2⟩
theorem k_8 : ∀ n ∈ [1, 2, 3], ∀ x ∈ famsL n, x.length ≤ 8 := by decide +kernel
/-- the family of a scheme is one of all -/
theorem Fam_in {n : Nat} {rs : List Rl} (hn : N3 n) (hr : ∀ r ∈ rs, RGood n r) : ∃ x, x ∈ famsL n ∧ sortD ((Fam n rs).map stE') = x.map stE' := by
  have h := k_sub n hn _ (filter_subs (fun row => decide (lawCl rs row = row)) (szs n))
  have g : goodB n ((szs n).filter fun row => decide (lawCl rs row = row)) = true := Fam_good hn hr
  rw [g, Bool.not_true, Bool.false_or, List.any_eq_true] at h
  obtain ⟨x, hx, e⟩ := h
  exact ⟨x, hx, smL_eq _ _ e⟩
theorem turn_ok (s0 s2 s3 s4 s5 v6 v7 v8 v9 v10 v11 v12 v13 v14 v15 : Option SV) (h6 : Fr v6) (h7 : Fr v7) (h8 : Fr v8) (h9 : Fr v9) (h10 : Fr v10) (h11 : Fr v11) (h12 : Fr v12) (h13 : Fr v13) (h14 : Fr v14) (h15 : Fr v15) {o : Ob} (hD : Dr o) :
    ∃ (o' : Ob) (n : Nat) (rs : List Rl) (ts : List (List Int)) (y : List (List Int)) (u6 u8 u9 u10 u11 : Option SV),
      evSs G (callAt G T 39) b_law_L1 [s0, some (.own false o), s2, s3, s4, s5, v6, v7, v8, v9, v10, v11, v12, v13, v14, v15, none, none] =
        .nx [s0, some (.own false o'), s2, s3, s4, s5, u6, some (.val (schE n rs ts)), u8, u9, u10, u11, some (.val (famE y)), some (.val (.int n)), some (.val (.tuple (rs.map rlE))), some (.val (.tuple (ts.map stE'))), none, none] ∧
      Dr o' ∧ Sch n rs ts ∧ N3 n ∧ y ∈ famsL n ∧ Fr u6 ∧ Fr u8 ∧ Fr u9 ∧ Fr u10 ∧ Fr u11 := by
  obtain ⟨n, rs, ts, o1, c1, d1, S, hn⟩ := c_law_scheme 36 hD 3 (by decide)
  have hn : N3 n := N3.of ⟨S.n1, by omega⟩
  have hr := S.rg
  have ho : ∀ r ∈ rs, RlOk n r := fun r h => (hr r h).ok
  have hl : rs.length ≤ 10 := by have := S.r6; omega
  obtain ⟨x, hx, ex⟩ := Fam_in hn hr
  have mx := sorted_mem ex
  have klen := k_len n hn
  have lpos : 0 < ((famsL n).map famE).length := by rw [List.length_map, klen]; split; decide; split <;> decide
  have lmax : ((famsL n).map famE).length ≤ 45 := by rw [List.length_map, klen]; split; decide; split <;> decide
  obtain ⟨r, o2, c2, r1, r2, d2⟩ := take_ok (G := G) (T := T) (i := i__law_take) 38 rfl d1 (((famsL n).map famE).length : Nat) (by omega) (by omega)
  obtain ⟨yd, hyd, hym⟩ := atL_any ((famsL n).map famE) r r1 r2
  obtain ⟨y, hy, rfl⟩ := List.mem_map.mp hym
  have kdy := k_due n hn y hy
  have kdx := k_due n hn x hx
  simp only [Bool.and_eq_true, decide_eq_true_eq] at kdy kdx
  have tg : ∀ r ∈ told n y, RGood n r := fun r h => rGoodB_iff (List.all_eq_true.mp kdy.1.2 r h)
  have ho2 : RlsOk n rs := ⟨hr, hl⟩
  have uf : ∀ z, famE z = .tuple (z.map stE') := fun _ => rfl
  -- the scheme, its family, all families
  have A : ∀ t, evSs G (callAt G T 39) (.cons (.asg (.nm 7) (.call 23 (.cons (.v 1) (.cons (.k (.int 3)) .nil)))) (.cons (.asg (.tup (.cons (.nm 13) (.cons (.nm 14) (.cons (.nm 15) .nil)))) (.v 7)) (.cons (.asg (.nm 8) (.p1 .tuple (.p1 .sorted q_law_1))) (.cons (.asg (.nm 9) (.call 17 (.cons (.v 13) .nil))) t)))) [s0, (some (.own false o)), s2, s3, s4, s5, v6, v7, v8, v9, v10, v11, v12, v13, v14, v15, none, none] = evSs G (callAt G T 39) t [s0, (some (.own false o1)), s2, s3, s4, s5, v6, some (.val (.tuple [.int n, .tuple (rs.map rlE), .tuple (ts.map stE')])), some (.val (.tuple (x.map stE'))), some (.val (.tuple ((famsL n).map famE))), v10, v11, v12, some (.val (.int n)), some (.val (.tuple (rs.map rlE))), some (.val (.tuple (ts.map stE'))), none, none] := by
    intro t
    have sr1 : srt ((Fam n rs).map stE') = true := k_srt n hn _ (filter_subs (fun row => decide (lawCl rs row = row)) (szs n))
    have ps1 : p1 .sorted (.list ((Fam n rs).map stE')) = some (.fr (.list (x.map stE'))) := by
      simp only [p1]; rw [if_pos sr1, ex]
    have cF := smC_eq (k_fams n hn)
    have q1 := lq1 n hn rs hr hl s0 (some (.own false o1)) s2 s3 s4 s5 v6 (some (.val (schE n rs ts))) v8 v9 v10 v11 v12 (some (.val (.tuple (ts.map stE')))) none
    clear sr1 ex mx klen lpos lmax r1 r2 hym kdy kdx tg S uf hr ho hl hx hy ho2 c2 hyd
    unfold schE at *
    walk_at "z*"
  -- the family told, and due rules
  have B : ∃ w, Fr w ∧ ∀ t, evSs G (callAt G T 39) (.cons (.iff (.orr (.cons (.cmp .ne (.p1 .repr (.call 18 (.cons (.v 7) .nil))) (.p1 .repr (.v 8))) (.cons (.cmp .notIn (.v 8) (.v 9)) (.cons (.cmp .ne (.p1 .len (.v 9)) (.idx (.lst (.cons (.k (.int 1)) (.cons (.k (.int 4)) (.cons (.k (.int 45)) .nil)))) (.bin .sub (.v 13) (.k (.int 1))))) (.cons (.cmp .ne (.p1 .list (.v 9)) (.p1 .sset (.v 9))) .nil))))) (.cons (.ret (.k (.bool false))) .nil) .nil) (.cons (.asg (.nm 10) (.lst .nil)) (.cons (.for (.nm 11) (.sq (.cut (.call 25 (.cons (.v 13) .nil)) (.some (.k (.int 1))) .none)) b_law_L2) t))) [s0, (some (.own false o1)), s2, s3, s4, s5, v6, some (.val (.tuple [.int n, .tuple (rs.map rlE), .tuple (ts.map stE')])), some (.val (.tuple (x.map stE'))), some (.val (.tuple ((famsL n).map famE))), v10, v11, v12, some (.val (.int n)), some (.val (.tuple (rs.map rlE))), some (.val (.tuple (ts.map stE'))), none, none] = evSs G (callAt G T 39) t [s0, (some (.own false o1)), s2, s3, s4, s5, v6, some (.val (.tuple [.int n, .tuple (rs.map rlE), .tuple (ts.map stE')])), some (.val (.tuple (x.map stE'))), some (.val (.tuple ((famsL n).map famE))), some (.val (.list ((((szs n).drop 1).flatMap (dueOf rs)).map rlE))), w, v12, some (.val (.int n)), some (.val (.tuple (rs.map rlE))), some (.val (.tuple (ts.map stE'))), none, none] := by
    have cf := c_family n rs ts S hn
    rw [ex] at cf
    have kr := k_repr n hn x hx
    rw [Bool.and_eq_true] at kr
    have p1a := repr_ok kr.1
    have ss := sfE_eq (k_sset n hn)
    have ks := k_sok n hn x hx
    rw [Bool.and_eq_true] at ks
    have n1a : cop .ne (.str (famE x).shown) (.str (famE x).shown) = some false := by
      rw [cop_ne, fit_str _ ks.1, PyData.eqv]; simp
    rw [uf] at n1a
    have n2 : inD (.tuple (x.map stE')) (.tuple ((famsL n).map famE)) = some true := in_tuple_yes famE_enc (by decide) (a := x) trivial (fun _ _ => trivial) hx
    have n3 : cop .ne (.list ((famsL n).map famE)) (.list ((famsL n).map famE)) = some false := ne_same (enc_lst famE_enc) (by decide) (fun _ _ => trivial)
    have n5 : cop .ne (.int (((famsL n).map famE).length : Nat)) (.int (((famsL n).map famE).length : Nat)) = some false := by
      rw [cop_neI]; simp
    have hix : atL [.int 1, .int 4, .int 45] (ixOf 3 ((n : Int) - 1)) = some (.int (((famsL n).map famE).length : Nat)) := by
      rw [List.length_map, klen]
      rcases List.mem_cons.mp hn with rfl | h
      · rfl
      · rcases List.mem_cons.mp h with rfl | h
        · rfl
        · rcases List.mem_cons.mp h with rfl | h
          · rfl
          · cases h
    obtain ⟨w, hw, dl⟩ := due_loop n hn rs hr hl s0 (some (.own false o1)) s2 s3 s4 s5 v6 (some (.val (schE n rs ts))) (some (.val (.tuple (x.map stE')))) (some (.val (.tuple ((famsL n).map famE)))) v12 (some (.val (.int n))) (some (.val (.tuple (ts.map stE')))) none v11 h11
    have cl := smC_eq (k_lsets n hn)
    have ct := cut_tail_l ((szs n).map stE')
    rw [← List.map_drop] at ct
    refine ⟨w, hw, fun t => ?_⟩
    clear A kr ks ex mx klen lpos lmax r1 r2 hym kdy kdx tg S uf hr ho hl hx hy ho2 c1 c2 hyd
    unfold schE at *
    walk_at "z*"
  obtain ⟨w, hw, B⟩ := B
  have C : evSs G (callAt G T 39) (.cons (.iff (.cmp .ne (.p1 .repr (.call 19 (.cons (.v 13) (.cons (.v 8) .nil)))) (.p1 .repr (.p1 .tuple (.p1 .sorted (.v 10))))) (.cons (.ret (.k (.bool false))) .nil) .nil) (.cons (.asg (.nm 12) (.idx (.v 9) (.call 21 (.cons (.v 1) (.cons (.p1 .len (.v 9)) .nil))))) (.cons (.asg (.nm 6) (.call 19 (.cons (.v 13) (.cons (.v 12) .nil)))) (.cons (.iff (.cmp .ne (.p1 .tuple (.p1 .sorted q_law_3)) (.v 12)) (.cons (.ret (.k (.bool false))) .nil) .nil) .nil)))) [s0, (some (.own false o1)), s2, s3, s4, s5, v6, some (.val (.tuple [.int n, .tuple (rs.map rlE), .tuple (ts.map stE')])), some (.val (.tuple (x.map stE'))), some (.val (.tuple ((famsL n).map famE))), some (.val (.list ((((szs n).drop 1).flatMap (dueOf rs)).map rlE))), w, v12, some (.val (.int n)), some (.val (.tuple (rs.map rlE))), some (.val (.tuple (ts.map stE'))), none, none] = .nx [s0, (some (.own false o2)), s2, s3, s4, s5, some (.val (.tuple ((told n y).map rlE))), some (.val (.tuple [.int n, .tuple (rs.map rlE), .tuple (ts.map stE')])), some (.val (.tuple (x.map stE'))), some (.val (.tuple ((famsL n).map famE))), some (.val (.list ((((szs n).drop 1).flatMap (dueOf rs)).map rlE))), w, some (.val (.tuple (y.map stE'))), some (.val (.int n)), some (.val (.tuple (rs.map rlE))), some (.val (.tuple (ts.map stE'))), none, none] := by
    have sr3 : srt ((Fam n (told n y)).map stE') = true := k_srt n hn _ (filter_subs (fun row => decide (lawCl (told n y) row = row)) (szs n))
    have ey : sortD ((Fam n (told n y)).map stE') = y.map stE' := smL_eq _ _ (k_told n hn y hy)
    have ps3 : p1 .sorted (.list ((Fam n (told n y)).map stE')) = some (.fr (.list (y.map stE'))) := by
      simp only [p1]; rw [if_pos sr3, ey]
    have de : ((szs n).drop 1).flatMap (dueOf rs) = dueF n x := (due_eq hn ho mx).symm
    have ps2 : p1 .sorted (.list ((((szs n).drop 1).flatMap (dueOf rs)).map rlE)) = some (.fr (.list ((told n x).map rlE))) := by
      simp only [p1]
      rw [de, if_pos kdx.1.1, sortD_map rlE leR (fun _ _ => rfl)]; rfl
    have cR1 := smC_eq (k_rules n hn x hx)
    have cR2 := smC_eq (k_rules n hn y hy)
    have kr := k_repr n hn x hx
    rw [Bool.and_eq_true] at kr
    have p1b := repr_ok kr.2
    have ks := k_sok n hn x hx
    rw [Bool.and_eq_true] at ks
    have n1b : cop .ne (.str (PyData.tuple ((told n x).map rlE)).shown) (.str (PyData.tuple ((told n x).map rlE)).shown) = some false := by
      rw [cop_ne, fit_str _ ks.2, PyData.eqv]; simp
    have n4 : cop .ne (.tuple (y.map stE')) (.tuple (y.map stE')) = some false := ne_same famE_enc (by decide) (a := y) trivial
    have q3 := lq3 n hn (told n y) tg kdy.2 s0 (some (.own false o2)) s2 s3 s4 s5 (some (.val (schE n rs ts))) (some (.val (.tuple (x.map stE')))) (some (.val (.tuple ((famsL n).map famE)))) (some (.val (.list ((((szs n).drop 1).flatMap (dueOf rs)).map rlE)))) w (some (.val (.tuple (y.map stE')))) (some (.val (.tuple (rs.map rlE)))) (some (.val (.tuple (ts.map stE')))) none
    rw [uf] at cR1 cR2 hyd
    clear A B sr3 ey ex mx klen lpos lmax r1 r2 hym kdy kdx tg kr ks S uf hr ho hl hx hy de ho2 c1
    unfold schE at *
    walk_at "z*"
  refine ⟨o2, n, rs, ts, y, some (.val (.tuple ((told n y).map rlE))), some (.val (.tuple (x.map stE'))), some (.val (.tuple ((famsL n).map famE))), some (.val (.list ((((szs n).drop 1).flatMap (dueOf rs)).map rlE))), w, ?_, d2, S, hn, hy, fr_val _, fr_val _, fr_val _, fr_val _, hw⟩
  exact (A _).trans ((B _).trans C)
end Zv.K72

set_option Elab.async false
set_option autoImplicit false
set_option linter.all false
set_option maxRecDepth 100000
namespace Zv.K72
open PySem
local macro_rules | `(tactic| walk_at "z") => `(tactic| simp -dsimp only [R.bd_ok, R.bd_ex, R.bd_no, R.bd_ite, ↓z_bind_at, pure_at, liR_some, liR_none, z_lift_at, SR.ob_ok, SR.ob_ex, SR.ob_no, SR.ob_ite, SR.tn_nx, SR.tn_rt, SR.tn_bk, SR.tn_ct, SR.tn_ex, SR.tn_no, SR.tn_ite, slD_val, slD_own, slD_kept, look_v, look_fr, look_sl, rd_v, rd_fr, rd_sl, fzK_val, fzK_kept, fzK_own, fzK_lent, fz_v, fz_fr, fz_sl, putK_none, putK_val, putK_own, bdR_some, ev_k, ev_g, vK_val, vK_kept, vK_own, ev_v, ev_bin, negD_int, ev_neg, invD_int, ev_inv, ev_cmp, ev_chain, ev_nt, ev_an, ev_or, z_ev_ife, ev_tup, ev_lst, ev_idx, ev_cut, ev_call, ev_p1, ev_rev, ev_isi, pitK_at, ev_pit, strO_str, ev_splt, evO_none, intD_int, evO_some, evs_nil, evs_cons, z_evAn_one, evAn_cons, z_evOr_one, evOr_cons, evIf_nil, evIf_cons, fzAll_nil, fzAll_cons, frzAll_nil, frzAll_fr, frzAll_v, frzAll_sl, argK_val, argK_kept, argK_own, argOf_v, argOf_fr, argOf_sl, argsOf_nil, consO_some, argsOf_cons, callK_ok, callK_ex, callA_some, callM_at, callK_ite, backK_own, backOf_nil, backOf_v, backOf_fr, backOf_sl, backSlot_own, backSlot_kept, backSlot_kept', loseK_own, loseOf_nil, loseOf_v, loseOf_fr, loseOf_sl, slotsOf_nil, slotsOf_v, slotsOf_fr, slotsOf_sl, onceN_nil, onceN_one, asgT_nm, asgT_ow, asgT_owd, asgT_tup, thenO_some, putO_none, putO_val, putO_own, putS_at, bindT_nm, bindT_tup, bindT_lst, bindTs_nil, bindTs_cons, asgTs_nil, asgTs_cons, evIt_sq, evIt_rg, evIt_rg2, evIt_zip, evIt_enm, evSs_nil, evSs_cons, evS_doc, evS_asg, evS_par, evS_setI, isOwnK_own, isOwn_lt, appK_own, evS_app, extK_own, evS_ext, augK_int, augR_int, evS_aug, evS_ex, evS_if, evS_retN, evS_brk, evS_cnt, evS_pass, evS_raiseN, retK_val, retK_kept, retK_own, retK_lent, retOf_v, retOf_fr, retOf_sl, evS_ret, tryK_ex, tryK_rt, tryK_nx, tryK_ite, evS_try, evHs_k, evHs_nil, evS_for, evS_whl, fnK_rt, fnK_nx, fnK_ex, fnK_ite, outsOf_nil, outsOf_val, outsOf_own, bop_add, bop_sub, bop_tup, bop_lst, fit_int, cop_eqI, cop_neI, cop_eqB, cop_neB, cop_lt, cop_le, cop_gt, cop_ge, cop_is, cop_isNot, cop_in, cop_notIn, tr_bool, tr_int, tr_none, tr_tup, tr_lst, atL_some, idxL_at, idxT_at, ix_neg, ix_0, ix_1, ix_2, ix_3, ix_4, ix_5, ix_6, setOb_lst, setR_some, setK_at, p_len_l, p_len_t, p_tup_l, p_tup_t, p_lst_l, p_lst_t, rev_l, rev_t, p_abs, p_int, p_intb, p_all, p_any, eqv_int, eqv_str, dlst, isTy_int_int, isTy_int_bool, isTy_int_str, isTy_int_tuple, isTy_int_list, isTy_int_dict, isTy_int_none, isTy_bool_int, isTy_bool_bool, isTy_bool_str, isTy_bool_tuple, isTy_bool_list, isTy_bool_dict, isTy_bool_none, isTy_str_int, isTy_str_bool, isTy_str_str, isTy_str_tuple, isTy_str_list, isTy_str_dict, isTy_str_none, isTy_tuple_int, isTy_tuple_bool, isTy_tuple_str, isTy_tuple_tuple, isTy_tuple_list, isTy_tuple_dict, isTy_tuple_none, isTy_list_int, isTy_list_bool, isTy_list_str, isTy_list_tuple, isTy_list_list, isTy_list_dict, isTy_list_none, p1_lset_l, p1_lset_t, p1_sset_l, p1_sset_t, p1_max_l, p1_max_t, p1_min_l, p1_min_t, fr_none, fr_val, fr_own, putO_fr, putK_fr, lockOk_nil, lockOk_v, lockOk_fr, lockOk_sl, lockE_nil, lockE_v, lockE_fr, openE_nil, openE_v, openE_fr, lockK_own, lockE_one, openK_own, openK_lent, openE_one, stands_v, stands_fr, standK_some, stands_sl, items_l, items_t, zips_l, zips_t, enum_l, enum_t, wipe_nil, wipe_cons, merge_nil, merge_cons, List.getD_cons_zero, List.getD_cons_succ, map_id, sm_self, true_and, false_and, and_true, and_false, and_self, not_true_eq_false, not_false_eq_true, ite_self, ↓reduceIte, List.getElem?_cons_zero, List.getElem?_cons_succ, List.getElem?_nil, List.set_cons_zero, List.set_cons_succ, List.map_cons, List.map_nil, Option.map_some, Option.map_none, Bool.false_eq_true, Bool.and_true, Bool.true_and, Bool.and_false, Bool.false_and, Bool.and_self, Bool.not_true, Bool.not_false, List.length_cons, List.length_nil, List.replicate_succ, List.replicate_zero, List.cons_append, List.nil_append, decide_true, decide_false, decide_eq_true_eq, Nat.reduceAdd, Nat.reduceSub, Nat.reduceLT, Nat.reduceLeDiff, List.isEmpty_cons, List.isEmpty_nil, Int.reduceMul, Int.reduceAdd, beq_iff_eq, Int.reduceNeg, Int.reduceEq, Int.reduceBEq, Int.cast_ofNat_Int])
local macro_rules | `(tactic| walk_at "z*") => `(tactic| simp -dsimp only [R.bd_ok, R.bd_ex, R.bd_no, R.bd_ite, ↓z_bind_at, pure_at, liR_some, liR_none, z_lift_at, SR.ob_ok, SR.ob_ex, SR.ob_no, SR.ob_ite, SR.tn_nx, SR.tn_rt, SR.tn_bk, SR.tn_ct, SR.tn_ex, SR.tn_no, SR.tn_ite, slD_val, slD_own, slD_kept, look_v, look_fr, look_sl, rd_v, rd_fr, rd_sl, fzK_val, fzK_kept, fzK_own, fzK_lent, fz_v, fz_fr, fz_sl, putK_none, putK_val, putK_own, bdR_some, ev_k, ev_g, vK_val, vK_kept, vK_own, ev_v, ev_bin, negD_int, ev_neg, invD_int, ev_inv, ev_cmp, ev_chain, ev_nt, ev_an, ev_or, z_ev_ife, ev_tup, ev_lst, ev_idx, ev_cut, ev_call, ev_p1, ev_rev, ev_isi, pitK_at, ev_pit, strO_str, ev_splt, evO_none, intD_int, evO_some, evs_nil, evs_cons, z_evAn_one, evAn_cons, z_evOr_one, evOr_cons, evIf_nil, evIf_cons, fzAll_nil, fzAll_cons, frzAll_nil, frzAll_fr, frzAll_v, frzAll_sl, argK_val, argK_kept, argK_own, argOf_v, argOf_fr, argOf_sl, argsOf_nil, consO_some, argsOf_cons, callK_ok, callK_ex, callA_some, callM_at, callK_ite, backK_own, backOf_nil, backOf_v, backOf_fr, backOf_sl, backSlot_own, backSlot_kept, backSlot_kept', loseK_own, loseOf_nil, loseOf_v, loseOf_fr, loseOf_sl, slotsOf_nil, slotsOf_v, slotsOf_fr, slotsOf_sl, onceN_nil, onceN_one, asgT_nm, asgT_ow, asgT_owd, asgT_tup, thenO_some, putO_none, putO_val, putO_own, putS_at, bindT_nm, bindT_tup, bindT_lst, bindTs_nil, bindTs_cons, asgTs_nil, asgTs_cons, evIt_sq, evIt_rg, evIt_rg2, evIt_zip, evIt_enm, evSs_nil, evSs_cons, evS_doc, evS_asg, evS_par, evS_setI, isOwnK_own, isOwn_lt, appK_own, evS_app, extK_own, evS_ext, augK_int, augR_int, evS_aug, evS_ex, evS_if, evS_retN, evS_brk, evS_cnt, evS_pass, evS_raiseN, retK_val, retK_kept, retK_own, retK_lent, retOf_v, retOf_fr, retOf_sl, evS_ret, tryK_ex, tryK_rt, tryK_nx, tryK_ite, evS_try, evHs_k, evHs_nil, evS_for, evS_whl, fnK_rt, fnK_nx, fnK_ex, fnK_ite, outsOf_nil, outsOf_val, outsOf_own, bop_add, bop_sub, bop_tup, bop_lst, fit_int, cop_eqI, cop_neI, cop_eqB, cop_neB, cop_lt, cop_le, cop_gt, cop_ge, cop_is, cop_isNot, cop_in, cop_notIn, tr_bool, tr_int, tr_none, tr_tup, tr_lst, atL_some, idxL_at, idxT_at, ix_neg, ix_0, ix_1, ix_2, ix_3, ix_4, ix_5, ix_6, setOb_lst, setR_some, setK_at, p_len_l, p_len_t, p_tup_l, p_tup_t, p_lst_l, p_lst_t, rev_l, rev_t, p_abs, p_int, p_intb, p_all, p_any, eqv_int, eqv_str, dlst, isTy_int_int, isTy_int_bool, isTy_int_str, isTy_int_tuple, isTy_int_list, isTy_int_dict, isTy_int_none, isTy_bool_int, isTy_bool_bool, isTy_bool_str, isTy_bool_tuple, isTy_bool_list, isTy_bool_dict, isTy_bool_none, isTy_str_int, isTy_str_bool, isTy_str_str, isTy_str_tuple, isTy_str_list, isTy_str_dict, isTy_str_none, isTy_tuple_int, isTy_tuple_bool, isTy_tuple_str, isTy_tuple_tuple, isTy_tuple_list, isTy_tuple_dict, isTy_tuple_none, isTy_list_int, isTy_list_bool, isTy_list_str, isTy_list_tuple, isTy_list_list, isTy_list_dict, isTy_list_none, p1_lset_l, p1_lset_t, p1_sset_l, p1_sset_t, p1_max_l, p1_max_t, p1_min_l, p1_min_t, fr_none, fr_val, fr_own, putO_fr, putK_fr, lockOk_nil, lockOk_v, lockOk_fr, lockOk_sl, lockE_nil, lockE_v, lockE_fr, openE_nil, openE_v, openE_fr, lockK_own, lockE_one, openK_own, openK_lent, openE_one, stands_v, stands_fr, standK_some, stands_sl, items_l, items_t, zips_l, zips_t, enum_l, enum_t, wipe_nil, wipe_cons, merge_nil, merge_cons, List.getD_cons_zero, List.getD_cons_succ, map_id, sm_self, true_and, false_and, and_true, and_false, and_self, not_true_eq_false, not_false_eq_true, ite_self, ↓reduceIte, List.getElem?_cons_zero, List.getElem?_cons_succ, List.getElem?_nil, List.set_cons_zero, List.set_cons_succ, List.map_cons, List.map_nil, Option.map_some, Option.map_none, Bool.false_eq_true, Bool.and_true, Bool.true_and, Bool.and_false, Bool.false_and, Bool.and_self, Bool.not_true, Bool.not_false, List.length_cons, List.length_nil, List.replicate_succ, List.replicate_zero, List.cons_append, List.nil_append, decide_true, decide_false, decide_eq_true_eq, Nat.reduceAdd, Nat.reduceSub, Nat.reduceLT, Nat.reduceLeDiff, List.isEmpty_cons, List.isEmpty_nil, Int.reduceMul, Int.reduceAdd, beq_iff_eq, Int.reduceNeg, Int.reduceEq, Int.reduceBEq, Int.cast_ofNat_Int, *])
theorem law_true (ns : List Int) (hn : ns.length ≤ 63) : ∃ fr outs, callAt G T 40 i_law [.val (scr ns)] = .ok (.bool true) fr outs := by
  obtain ⟨xs, cd, hD⟩ := draw_ok (G := G) (T := T) (i := i__law_draw) 38 rfl ns hn
  have sc : PyData.list (ns.map PyData.int) = scr ns := rfl
  rw [sc] at cd
  obtain ⟨e', k1, o1, v2, v6, v7, v8, v9, v10, v11, v12, v13, v14, v15, rfl, d1, f2, f6, f7, f8, f9, f10, f11, f12, f13, f14, f15, last⟩ := forL_nx (bind := bindT (.nm 2)) (body := evSs G (callAt G T 39) b_law_L1) (ok := fun _ => true) PyData.int
    (fun ys e => ∃ (o : Ob) (v2 v6 v7 v8 v9 v10 v11 v12 v13 v14 v15 : Option SV), e = [some (.val (scr ns)), some (.own false o), v2, none, none, none, v6, v7, v8, v9, v10, v11, v12, v13, v14, v15, none, none] ∧ Dr o ∧ Fr v2 ∧ Fr v6 ∧ Fr v7 ∧ Fr v8 ∧ Fr v9 ∧ Fr v10 ∧ Fr v11 ∧ Fr v12 ∧ Fr v13 ∧ Fr v14 ∧ Fr v15 ∧
      (ys.length < 2 → ∃ (n : Nat) (rs : List Rl) (ts : List (List Int)) (y : List (List Int)), v7 = some (.val (schE n rs ts)) ∧ v12 = some (.val (famE y)) ∧ v13 = some (.val (.int n)) ∧ Sch n rs ts ∧ N3 n ∧ y ∈ famsL n)) (fun _ _ _ => rfl)
    (by
      rintro t ys _ ⟨o, v2, v6, v7, v8, v9, v10, v11, v12, v13, v14, v15, rfl, hD, f2, f6, f7, f8, f9, f10, f11, f12, f13, f14, f15, _⟩
      obtain ⟨o', n, rs, ts, y, u6, u8, u9, u10, u11, t1, t2, t3, t4, t5, g6, g8, g9, g10, g11⟩ := turn_ok (some (.val (scr ns))) (some (.val (.int t))) none none none v6 v7 v8 v9 v10 v11 v12 v13 v14 v15 f6 f7 f8 f9 f10 f11 f12 f13 f14 f15 hD
      exact ⟨_, by walk_at "z*", _, .inl t1, o', _, u6, _, u8, u9, u10, u11, _, _, _, _, rfl, t2, fr_val _, g6, fr_val _, g8, g9, g10, g11, fr_val _, fr_val _, fr_val _, fr_val _, fun _ => ⟨n, rs, ts, y, rfl, rfl, rfl, t3, t4, t5⟩⟩)
    (upTo 2) [some (.val (scr ns)), some (.own false (.lst xs)), none, none, none, none, none, none, none, none, none, none, none, none, none, none, none, none]
    ⟨.lst xs, none, none, none, none, none, none, none, none, none, none, none, rfl, hD, fr_none, fr_none, fr_none, fr_none, fr_none, fr_none, fr_none, fr_none, fr_none, fr_none, fr_none, fun h => absurd h (by decide)⟩
  obtain ⟨n, rs, ts, y, rfl, rfl, rfl, S, hN, hy⟩ := last (by decide)
  clear last
  have rg : ∀ e, rgR (.int 2) e = .ok ⟨(upTo 2).map PyData.int, [], fun _ => true⟩ e := rg_upTo 2 (by decide)
  obtain ⟨d, o2, co, d2, n1, n2⟩ := c_odd d1 n rs ts S
  obtain ⟨r3, o3, c3, a3, b3, d3⟩ := take_ok (G := G) (T := T) (i := i__law_take) 38 rfl d2 5 (by decide) (by decide)
  obtain ⟨r4, o4, c4, a4, b4, d4⟩ := take_ok (G := G) (T := T) (i := i__law_take) 38 rfl d3 9 (by decide) (by decide)
  obtain ⟨bad, hb, mb⟩ := atL_any bads r3 a3 b3
  obtain ⟨w, hw, mw⟩ := atL_any (wrongs (y.map stE')) r4 a4 b4
  have t0 := smC_eq (k_bad0 bad mb)
  have t1 := told_1 d n2 n1
  have t2 := smC_eq k_big
  have t3 := smC_eq (k_bad2 bad mb)
  have t4 := smC_eq (k_wrong n hN y hy w mw)
  have l8 : (y.map stE').length ≤ 8 := by rw [List.length_map]; exact k_8 n hN y hy
  have fe : famE y = .tuple (y.map stE') := rfl
  rw [fe] at k1
  generalize y.map stE' = zs at *
  have hb5 : bads.length = 5 := rfl
  have hw9 : (wrongs zs).length = 9 := rfl
  rw [hb5] at hb
  rw [hw9] at hw
  have ct1 := cut_tail zs
  have ct2 := cut_first_t zs
  have ba1 : bop .add (.tuple zs.reverse) (.tuple (zs.take 1)) = some (.v (.tuple (zs.reverse ++ zs.take 1))) := by
    rw [bop_tup, if_pos (by rw [List.length_reverse, List.length_take, line_val]; omega)]
  have ba2 : bop .add (.tuple zs) (.tuple [.none]) = some (.v (.tuple (zs ++ [.none]))) := by
    rw [bop_tup, if_pos (by rw [line_val]; simp only [List.length_cons, List.length_nil]; omega)]
  have ba3 : bop .add (.tuple [.list []]) (.tuple (zs.drop 1)) = some (.v (.tuple (.list [] :: zs.drop 1))) := by
    rw [bop_tup, if_pos (by rw [List.length_drop, line_val]; simp only [List.length_cons, List.length_nil]; omega)]; rfl
  have bm : bop .mul (.list [malf]) (.int 5) = some (.fr (.list [malf, malf, malf, malf, malf])) := rfl
  have eq : cop .eq (.list [malf, malf, malf, malf, malf]) (.list [malf, malf, malf, malf, malf]) = some true := by decide +kernel
  clear fe mb mw l8 hb5 hw9 n1 n2 S hN hy a3 b3 a4 b4 hn hD d1 d2 d3 d4
  unfold bads at hb
  unfold wrongs at hw
  unfold malf at *
  unfold big at *
  rw [call_of t_law rfl rfl]
  unfold b_law
  walk_at "z*"
  exact ⟨_, _, rfl⟩
end Zv.K72

set_option Elab.async false
set_option linter.all false
set_option maxRecDepth 100000
open PySem PySem.W PyProof.Rows
set_option maxHeartbeats 0 in
theorem PySem.Challenge.cw_keykinds_k72_whole_families_of_closed_se_holds : PySem.Challenge.rw_keykinds_k72_whole_families_of_closed_se.Holds := by
  w_on; o_law; k_head; (case hw => w_witness2)
  k_fill
  refine Zv.walk_z (l := PySem.Challenge.rw_keykinds_k72_whole_families_of_closed_se) (n := 63) (k := 40) (G := Zv.K72.G) (T := Zv.K72.T) (i := 28) rfl (by decide) rfl ⟨rfl, by decide, by decide⟩ (fun w h Y => PySem.W.kIn_of Y) ?F ?RUN
  case F =>
    intro w mg fa h KX G hmg
    refine' Zv.K72.facts KX G hmg ?a0 ?l0 ?c0 ?k0 ?a1 ?l1 ?c1 ?k1 ?a2 ?l2 ?c2 ?k2 ?a3 ?l3 ?c3 ?k3 ?a4 ?l4 ?c4 ?k4 ?a5 ?l5 ?c5 ?k5 ?a6 ?l6 ?c6 ?k6 ?a7 ?l7 ?c7 ?k7 ?a8 ?l8 ?c8 ?k8 ?a9 ?l9 ?c9 ?k9 ?a10 ?l10 ?c10 ?k10 ?a11 ?l11 ?c11 ?k11 ?a12 ?l12 ?c12 ?k12 ?a13 ?l13 ?c13 ?k13 ?a14 ?l14 ?c14 ?k14 ?a15 ?l15 ?c15 ?k15 ?a16 ?l16 ?c16 ?k16 ?a17 ?l17 ?c17 ?k17 ?a18 ?l18 ?c18 ?k18 ?a19 ?l19 ?c19 ?k19 ?a20 ?l20 ?c20 ?k20 ?a21 ?l21 ?c21 ?k21 ?a22 ?l22 ?c22 ?k22 ?a23 ?l23 ?c23 ?k23 ?a24 ?l24 ?c24 ?k24 ?a25 ?l25 ?c25 ?k25 ?a26 ?l26 ?c26 ?k26 ?a27 ?l27 ?c27 ?k27 ?a28 ?l28 ?c28 ?k28 ?w0 ?w1 ?w2 ?w3 ?z_len ?z_tuple ?z_list ?z_all ?z_any ?z_abs ?z_int ?z_sum ?z_max ?z_min ?z_sorted ?z_repr ?z_str ?z_set ?z_bool ?z_isinstance ?z_range ?z_zip ?z_enumerate ?z_dict ?z_iter ?xC ?xE ?xK ?xB ?xT ?xI ?xS
    (case a0 => k_is); (case l0 => k_is); (case c0 => k_is); (case k0 => k_is); (case a1 => k_is); (case l1 => k_is); (case c1 => k_is); (case k1 => k_is); (case a2 => k_is); (case l2 => k_is); (case c2 => k_is); (case k2 => k_is); (case a3 => k_is); (case l3 => k_is); (case c3 => k_is); (case k3 => k_is); (case a4 => k_is); (case l4 => k_is); (case c4 => k_is); (case k4 => k_is); (case a5 => k_is); (case l5 => k_is); (case c5 => k_is); (case k5 => k_is); (case a6 => k_is); (case l6 => k_is); (case c6 => k_is); (case k6 => k_is); (case a7 => k_is); (case l7 => k_is); (case c7 => k_is); (case k7 => k_is); (case a8 => k_is); (case l8 => k_is); (case c8 => k_is); (case k8 => k_is); (case a9 => k_is); (case l9 => k_is); (case c9 => k_is); (case k9 => k_is); (case a10 => k_is); (case l10 => k_is); (case c10 => k_is); (case k10 => k_is); (case a11 => k_is); (case l11 => k_is); (case c11 => k_is); (case k11 => k_is); (case a12 => k_is); (case l12 => k_is); (case c12 => k_is); (case k12 => k_is); (case a13 => k_is); (case l13 => k_is); (case c13 => k_is); (case k13 => k_is); (case a14 => k_is); (case l14 => k_is); (case c14 => k_is); (case k14 => k_is); (case a15 => k_is); (case l15 => k_is); (case c15 => k_is); (case k15 => k_is); (case a16 => k_is); (case l16 => k_is); (case c16 => k_is); (case k16 => k_is); (case a17 => k_is); (case l17 => k_is); (case c17 => k_is); (case k17 => k_is); (case a18 => k_is); (case l18 => k_is); (case c18 => k_is); (case k18 => k_is); (case a19 => k_is); (case l19 => k_is); (case c19 => k_is); (case k19 => k_is); (case a20 => k_is); (case l20 => k_is); (case c20 => k_is); (case k20 => k_is); (case a21 => k_is); (case l21 => k_is); (case c21 => k_is); (case k21 => k_is); (case a22 => k_is); (case l22 => k_is); (case c22 => k_is); (case k22 => k_is); (case a23 => k_is); (case l23 => k_is); (case c23 => k_is); (case k23 => k_is); (case a24 => k_is); (case l24 => k_is); (case c24 => k_is); (case k24 => k_is); (case a25 => k_is); (case l25 => k_is); (case c25 => k_is); (case k25 => k_is); (case a26 => k_is); (case l26 => k_is); (case c26 => k_is); (case k26 => k_is); (case a27 => k_is); (case l27 => k_is); (case c27 => k_is); (case k27 => k_is); (case a28 => k_is); (case l28 => k_is); (case c28 => k_is); (case k28 => k_is); (case w0 => k_is); (case w1 => k_is); (case w2 => k_is); (case w3 => k_is); (case z_len => k_is); (case z_tuple => k_is); (case z_list => k_is); (case z_all => k_is); (case z_any => k_is); (case z_abs => k_is); (case z_int => k_is); (case z_sum => k_is); (case z_max => k_is); (case z_min => k_is); (case z_sorted => k_is); (case z_repr => k_is); (case z_str => k_is); (case z_set => k_is); (case z_bool => k_is); (case z_isinstance => k_is); (case z_range => k_is); (case z_zip => k_is); (case z_enumerate => k_is); (case z_dict => k_is); (case z_iter => k_is); (case xC => k_is); (case xE => k_exc); (case xK => k_is); (case xB => k_is); (case xT => k_is); (case xI => k_is); (case xS => k_is)
  case RUN => exact Zv.K72.law_true
