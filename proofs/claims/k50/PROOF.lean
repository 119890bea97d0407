import PyProof.Rows.All
import Wide.All
import OpenK.AllK
import Wide.FinOn
import PySem.Str
import HandS.Comp
import HandS.ForMost
import HandS.ForExc
import HandS.Deep
import HandS.TupAny
import HandS.Defaults
import KE.KDictKeyed
import KE.SortData
import KE.DataMinMax
import HandS.IsInst
import HandS.Conv
import HandS.TupLen
import KE.KDictList
import KE.KDictSum
import HandS.More
import HandS.Zip
import HandS.Star
import HandS.Dict
import HandS.Strs
import KE.KDictPairs
import KE.KDictZip
import HandS.Keys
import HandS.Property
import HandS.SlotsOwn
import HandS.HeadHook2
import HandS.HeadEnd
import HandS.HeadHook1
import HandS.Head0
import HandS.Head1
import HandS.Head2
import PySem.Challenge.RW_ringrests_k50_whole_beats_followed_far
set_option Elab.async false
section
set_option linter.all false
/-! V1: data by value, the little language, its evaluator. Plain Lean: no model in sight. -/
namespace VS
open PySem

/-- data, by value -/
inductive D where
  | non | bl (b : Bool) | int (i : Int) | str (x : Str)
  | tup (l : List D) | lst (l : List D) | dct (l : List (D × D))
  | ins (c : Nat) (l : List D) | exc (c : Nat) (l : List D) | tape

namespace D
mutual
def beq : D → D → Bool
  | .non, .non => true
  | .bl a, .bl b => a == b
  | .int a, .int b => decide (a = b)
  | .str a, .str b => decide (a = b)
  | .tup a, .tup b => beqL a b
  | .lst a, .lst b => beqL a b
  | .dct a, .dct b => beqP a b
  | .ins c a, .ins e b => decide (c = e) && beqL a b
  | .exc c a, .exc e b => decide (c = e) && beqL a b
  | .tape, .tape => true
  | _, _ => false
def beqL : List D → List D → Bool
  | [], [] => true
  | a :: as, b :: bs => beq a b && beqL as bs
  | _, _ => false
def beqP : List (D × D) → List (D × D) → Bool
  | [], [] => true
  | (a, c) :: as, (b, e) :: bs => beq a b && (beq c e && beqP as bs)
  | _, _ => false
end
mutual
theorem beq_self : ∀ a : D, beq a a = true
  | .non => rfl
  | .bl b => by simp [beq]
  | .int i => by simp [beq]
  | .str x => by simp [beq]
  | .tup l => by rw [beq]; exact beqL_self l
  | .lst l => by rw [beq]; exact beqL_self l
  | .dct l => by rw [beq]; exact beqP_self l
  | .ins c l => by rw [beq, beqL_self l]; simp
  | .exc c l => by rw [beq, beqL_self l]; simp
  | .tape => rfl
theorem beqL_self : ∀ a : List D, beqL a a = true
  | [] => rfl
  | a :: as => by rw [beqL, beq_self a, beqL_self as]; rfl
theorem beqP_self : ∀ a : List (D × D), beqP a a = true
  | [] => rfl
  | (a, c) :: as => by rw [beqP, beq_self a, beq_self c, beqP_self as]; rfl
end
mutual
theorem eq_of_beq : ∀ a b : D, beq a b = true → a = b
  | .non, b, h => by cases b <;> first | rfl | simp [beq] at h
  | .bl x, b, h => by cases b <;> simp [beq] at h; rw [h]
  | .int x, b, h => by cases b <;> simp [beq] at h; rw [h]
  | .str x, b, h => by cases b <;> simp [beq] at h; rw [h]
  | .tup x, b, h => by cases b <;> simp [beq] at h; rw [eq_of_beqL _ _ h]
  | .lst x, b, h => by cases b <;> simp [beq] at h; rw [eq_of_beqL _ _ h]
  | .dct x, b, h => by cases b <;> simp [beq] at h; rw [eq_of_beqP _ _ h]
  | .ins c x, b, h => by cases b <;> simp [beq] at h; rw [h.1, eq_of_beqL _ _ h.2]
  | .exc c x, b, h => by cases b <;> simp [beq] at h; rw [h.1, eq_of_beqL _ _ h.2]
  | .tape, b, h => by cases b <;> first | rfl | simp [beq] at h
theorem eq_of_beqL : ∀ a b : List D, beqL a b = true → a = b
  | [], b, h => by cases b <;> first | rfl | simp [beqL] at h
  | a :: as, b, h => by
    cases b with
    | nil => simp [beqL] at h
    | cons b bs =>
      rw [beqL, Bool.and_eq_true] at h
      rw [eq_of_beq a b h.1, eq_of_beqL as bs h.2]
theorem eq_of_beqP : ∀ a b : List (D × D), beqP a b = true → a = b
  | [], b, h => by cases b <;> first | rfl | simp [beqP] at h
  | (a, c) :: as, b, h => by
    cases b with
    | nil => simp [beqP] at h
    | cons b bs =>
      obtain ⟨b, e⟩ := b
      rw [beqP, Bool.and_eq_true, Bool.and_eq_true] at h
      rw [eq_of_beq a b h.1, eq_of_beq c e h.2.1, eq_of_beqP as bs h.2.2]
end
instance : DecidableEq D := fun a b => if h : beq a b = true then .isTrue (eq_of_beq a b h) else .isFalse fun e => h (e ▸ beq_self a)
instance : Inhabited D := ⟨.non⟩
end D

/-! ### results -/
structure Tape where
  large : List Int
  rest : Int
  cells : List Int
  turn : Int
inductive Res (α : Type) where
  | ok (a : α) | ex (c : Nat) (l : List D)
/-- none: not served -/
def M (α : Type) := Tape → Option (Res α × Tape)
def ret {α : Type} (a : α) : M α := fun t => some (.ok a, t)
def stuck {α : Type} : M α := fun _ => none
def rse {α : Type} (c : Nat) (l : List D) : M α := fun t => some (.ex c l, t)
def lft {α : Type} (o : Option α) : M α := fun t => o.map fun a => (.ok a, t)
def bnd {α β : Type} (m : M α) (f : α → M β) : M β := fun t => match m t with
  | none => none
  | some (.ok a, t') => f a t'
  | some (.ex c l, t') => some (.ex c l, t')
/-- no exception may leave -/
def sealM {α : Type} (m : M α) : M α := fun t => match m t with
  | some (.ok a, t') => some (.ok a, t')
  | _ => none

@[simp] theorem bnd_ret {α β : Type} (a : α) (f : α → M β) : bnd (ret a) f = f a := rfl
@[simp] theorem bnd_stuck {α β : Type} (f : α → M β) : bnd (stuck : M α) f = stuck := rfl
@[simp] theorem bnd_rse {α β : Type} (c : Nat) (l : List D) (f : α → M β) : bnd (rse c l : M α) f = rse c l := rfl
@[simp] theorem bnd_some {α β : Type} (a : α) (f : α → M β) : bnd (lft (some a)) f = f a := rfl
@[simp] theorem bnd_none {α β : Type} (f : α → M β) : bnd (lft (none : Option α)) f = stuck := rfl
@[simp] theorem lft_some {α : Type} (a : α) : lft (some a) = ret a := rfl
@[simp] theorem lft_none {α : Type} : lft (none : Option α) = stuck := rfl
@[simp] theorem seal_ret {α : Type} (a : α) : sealM (ret a) = ret a := rfl
theorem bnd_bnd {α β γ : Type} (m : M α) (f : α → M β) (g : β → M γ) : bnd (bnd m f) g = bnd m fun a => bnd (f a) g := by
  funext t
  unfold bnd
  cases m t with
  | none => rfl
  | some p => obtain ⟨r, t'⟩ := p; cases r <;> rfl
theorem bnd_ok {α β : Type} {m : M α} {f : α → M β} {t : Tape} {a : α} {t' : Tape} (h : m t = some (.ok a, t')) : bnd m f t = f a t' := by
  unfold bnd; rw [h]

/-! ### what is worked out by value -/
def lim : Nat := 16777216

inductive Bop where | add | sub | mul | fdiv | mod | pow
inductive Cop where | eq | ne | lt | le | gt | ge | mem | nmem
  deriving DecidableEq
/-- the pieces of data that == | < | sorted are served for; depth at most n -/
def plain : Nat → D → Bool
  | _, .non => true
  | _, .bl _ => true
  | _, .int _ => true
  | _, .str x => x.cps.all (· < 0x110000)
  | n + 1, .tup l => l.all (plain n)
  | n + 1, .lst l => l.all (plain n)
  | _, _ => false
mutual
/-- == of Python on plain data -/
def pyEq : D → D → Bool
  | .non, .non => true
  | .bl a, .bl b => a == b
  | .bl a, .int b => (if a then (1 : Int) else 0) == b
  | .int a, .bl b => a == (if b then (1 : Int) else 0)
  | .int a, .int b => a == b
  | .str a, .str b => a == b
  | .tup a, .tup b => pyEqL a b
  | .lst a, .lst b => pyEqL a b
  | _, _ => false
def pyEqL : List D → List D → Bool
  | [], [] => true
  | a :: as, b :: bs => pyEq a b && pyEqL as bs
  | _, _ => false
end
mutual
/-- two that can be compared, place by place -/
def alikeD : D → D → Bool
  | .non, .non => true
  | .bl _, .bl _ => true
  | .int _, .int _ => true
  | .str _, .str _ => true
  | .tup a, .tup b => alikeL a b
  | .lst a, .lst b => alikeL a b
  | _, _ => false
def alikeL : List D → List D → Bool
  | a :: as, b :: bs => alikeD a b && alikeL as bs
  | [], _ => true
  | _ :: _, [] => true
end
mutual
/-- < of alike data -/
def ltD : D → D → Bool
  | .bl a, .bl b => !a && b
  | .int a, .int b => decide (a < b)
  | .str a, .str b => decide (a.cps.toList < b.cps.toList)
  | .tup a, .tup b => ltL a b
  | .lst a, .lst b => ltL a b
  | _, _ => false
def ltL : List D → List D → Bool
  | a :: as, b :: bs => if pyEq a b then ltL as bs else ltD a b
  | [], _ :: _ => true
  | _, [] => false
end
def leD (a b : D) : Bool := !ltD b a

/-- what can be a key: no truths; depth at most n -/
def isKey : Nat → D → Bool
  | _, .non => true
  | _, .int _ => true
  | _, .str _ => true
  | n + 1, .tup l => l.all (isKey n)
  | _, _ => false
def isTup : D → Bool
  | .tup _ => true
  | _ => false
/-- k may be asked of the dict: its keys are all tuples, or all are none -/
def isKeyT : D → Bool
  | .tup l => isKey 8 (.tup l)
  | _ => false
def keyOk (kvs : List (D × D)) (k : D) : Bool := isKeyT k && kvs.all fun p => isTup p.1 == isTup k
def dget : List (D × D) → D → Option D
  | [], _ => none
  | (k', v) :: r, k => if k' = k then some v else dget r k
def dput : List (D × D) → D → D → List (D × D)
  | [], k, v => [(k, v)]
  | (k', v') :: r, k, v => if k' = k then (k', v) :: r else (k', v') :: dput r k v

/-- items of what can be walked, from the start -/
def seqOf : D → Option (List D)
  | .tup l => some l
  | .lst l => some l
  | _ => none
/-- what a for walks -/
def iterOf : D → Option (List D)
  | .tup l => some l
  | .lst l => some l
  | _ => none
def sizeOf? : D → Option Nat
  | .tup l => some l.length
  | .lst l => some l.length
  | .dct l => some l.length
  | .str x => if x.length ≤ lim then some x.length else none
  | _ => none
/-- the place that an index means -/
def ixOf (n : Nat) (i : Int) : Option Nat := if 0 ≤ i then (if i.toNat < n then some i.toNat else none) else if 0 ≤ i + n then some (i + n).toNat else none
def cutOf (n : Nat) (d : Nat) : Option Int → Nat
  | none => d
  | some i => if i < 0 then (i + n).toNat else min i.toNat n
def cutL {α : Type} (l : List α) (lo hi : Option Int) : List α := (l.drop (cutOf l.length 0 lo)).take (cutOf l.length l.length hi - cutOf l.length 0 lo)
def small64 (i : Int) : Bool := decide (-(2 ^ 64) < i ∧ i < 2 ^ 64)

def binS : Bop → D → D → Option D
  | .add, .int a, .int b => some (.int (a + b))
  | .add, .tup a, .tup b => if a.length + b.length ≤ lim then some (.tup (a ++ b)) else none
  | .add, .lst a, .lst b => if a.length + b.length ≤ lim then some (.lst (a ++ b)) else none
  | .sub, .int a, .int b => some (.int (a - b))
  | .mul, .int a, .int b => if small64 a || small64 b then some (.int (a * b)) else none
  | .fdiv, .int a, .int b => if b ≠ 0 ∧ b.natAbs < 1073741824 then some (.int (a.fdiv b)) else none
  | .mod, .int a, .int b => if b ≠ 0 then some (.int (a.fmod b)) else none
  | .pow, .int a, .int b => if 0 ≤ b ∧ b ≤ 1000000 ∧ a.natAbs < 2 ^ 64 then some (.int (a ^ b.toNat)) else none
  | _, _, _ => none
def eqS (x y : D) : Option Bool := if plain 60 x && plain 60 y then some (pyEq x y) else none
def isIns : D → Bool
  | .ins _ _ => true
  | _ => false
def cmpS : Cop → D → D → Option Bool
  | .eq, x, y => eqS x y
  | .ne, x, y => (eqS x y).map (!·)
  | .lt, .non, _ => none
  | .lt, x, y => if plain 60 x && plain 60 y && alikeD x y then some (ltD x y) else none
  | .gt, .int a, .int b => some (decide (b < a))
  | .le, .int a, .int b => some (decide (a ≤ b))
  | .ge, .int a, .int b => some (decide (b ≤ a))
  | .mem, x, .dct kvs => if keyOk kvs x then some (dget kvs x).isSome else none
  | .mem, x, .lst l => if plain 60 x && l.all (plain 60) then some (l.any fun y => pyEq y x) else none
  | .mem, x, .tup l => if plain 60 x && l.all (plain 60) then some (l.any fun y => pyEq y x) else none
  | .nmem, x, .dct kvs => if keyOk kvs x then some (!(dget kvs x).isSome) else none
  | .nmem, x, .lst l => if plain 60 x && l.all (plain 60) then some (!(l.any fun y => pyEq y x)) else none
  | .nmem, x, .tup l => if plain 60 x && l.all (plain 60) then some (!(l.any fun y => pyEq y x)) else none
  | _, _, _ => none
def subS : D → D → Option D
  | .tup l, .int i => (ixOf l.length i).bind (l[·]?)
  | .lst l, .int i => (ixOf l.length i).bind (l[·]?)
  | .dct kvs, k => if keyOk kvs k then dget kvs k else none
  | _, _ => none
/-- what the tape tells by a name -/
def tget (t : Tape) (s : Str) : Option D := if s = "rest" then some (.int t.rest) else if s = "turn" then some (.int t.turn) else if s = "cells" then some (.lst (t.cells.map .int)) else none
def subM : D → D → M D
  | .tape, .str s => fun t => (tget t s).map fun d => (.ok d, t)
  | x, y => lft (subS x y)
def tput (t : Tape) (s : Str) (n : Int) : Option Tape := if s = "rest" then some { t with rest := n } else if s = "turn" then some { t with turn := n } else none
def optI : D → Option (Option Int)
  | .non => some none
  | .int i => some (some i)
  | _ => none
def slcS (x : D) (lo hi : Option Int) : Option D := match x with
  | .tup l => some (.tup (cutL l lo hi))
  | .lst l => some (.lst (cutL l lo hi))
  | _ => none

inductive Blt where
  | len | int | abs | min | max | sorted | list | tuple | dictL | allB | anyB | isInt | isBool | isStr | isTuple | isList | isListTuple | isDict | isCls (c : Nat) | sortedSet | lenSet | sumL | sumI | index | count | get | listZip | listRange
  deriving DecidableEq
def intsOf : List D → Option (List Int)
  | [] => some []
  | .int i :: r => (intsOf r).map (i :: ·)
  | _ => none
def boolsOf : List D → Option (List Bool)
  | [] => some []
  | .bl b :: r => (boolsOf r).map (b :: ·)
  | _ => none
def pairsOf : List D → Option (List (D × D))
  | [] => some []
  | .tup [k, v] :: r => (pairsOf r).map ((k, v) :: ·)
  | _ => none
/-- store one behind another, each key being asked -/
def dputs : List (D × D) → List (D × D) → Option (List (D × D))
  | kvs, [] => some kvs
  | kvs, (k, v) :: r => if keyOk kvs k then dputs (dput kvs k v) r else none
def allAlike (l : List D) : Bool := l.all fun a => l.all fun b => alikeD a b
/-- sorted is served: plain, alike, all tuples with an item or none a tuple, a None -/
def sortable (l : List D) : Bool := l.all (plain 60) && allAlike l && (l.all (fun d => match d with | .tup (_ :: _) => true | _ => false) || l.all (fun d => match d with | .tup _ => false | .non => false | _ => true))
def sortD (l : List D) : List D := l.mergeSort leD
def minD : List D → Option D
  | [] => none
  | x :: r => some (r.foldl (fun m y => if ltD y m then y else m) x)
def maxD : List D → Option D
  | [] => none
  | x :: r => some (r.foldl (fun m y => if ltD m y then y else m) x)
def indexD (l : List D) (x : D) : Option Nat := match l with
  | [] => none
  | y :: r => if pyEq y x then some 0 else (indexD r x).map (· + 1)
def dedup : List D → List D
  | [] => []
  | x :: r => if x ∈ r then dedup r else x :: dedup r
def rangeL (lo : Int) : Nat → List D
  | 0 => []
  | n + 1 => .int lo :: rangeL (lo + 1) n
def rangeS (lo step : Int) : Nat → List D
  | 0 => []
  | n + 1 => .int lo :: rangeS (lo + step) step n
def inR (i : Int) : Bool := decide (-(2 ^ 62) ≤ i ∧ i < 2 ^ 62)
/-- the items of a range -/
def rangeOf : List D → Option (List D)
  | [.int j] => if inR j then some (rangeL 0 j.toNat) else none
  | [.int i, .int j] => if inR i && inR j then some (rangeL i (j - i).toNat) else none
  | [.int i, .int j, .int s] => if inR i && inR j && decide (0 < s ∧ s < 2 ^ 30) then some (rangeS i s ((j - i + s - 1) / s).toNat) else none
  | _ => none
def zipL : List D → List D → List D
  | a :: as, b :: bs => .tup [a, b] :: zipL as bs
  | _, _ => []
def enumL (i : Int) : List D → List D
  | [] => []
  | a :: as => .tup [.int i, a] :: enumL (i + 1) as
def enumOf : D → Option (List D)
  | .lst l => some (enumL 0 l)
  | _ => none
def zipOf : D → D → Option (List D)
  | .lst l, .lst m => some (zipL l m)
  | .tup l, .tup m => some (zipL l m)
  | _, _ => none
def itemsOf : D → Option (List D)
  | .dct kvs => some (kvs.map fun p => .tup [p.1, p.2])
  | _ => none
def valuesOf : D → Option (List D)
  | .dct kvs => some (kvs.map (·.2))
  | _ => none
/-- what isinstance with a built-in type is served for -/
def okIs : D → Bool
  | .ins _ _ => false
  | .exc _ _ => false
  | .tape => false
  | _ => true
def isB (p : D → Bool) : List D → Option D
  | [x] => if okIs x then some (.bl (p x)) else none
  | _ => none
def isC (c : Nat) : List D → Option D
  | [.ins e _] => if e = c then some (.bl true) else none
  | [x] => if okIs x then some (.bl false) else none
  | _ => none
def bltS : Blt → List D → Option D
  | .len, [x] => (sizeOf? x).map fun (n : Nat) => .int (n : Int)
  | .int, [.int i] => some (.int i)
  | .abs, [.int i] => some (.int (if i < 0 then -i else i))
  | .min, [.int a, .int b] => some (.int (if b < a then b else a))
  | .max, [.int a, .int b] => some (.int (if b > a then b else a))
  | .min, [x] => (seqOf x).bind fun l => if sortable l && l.all (fun d => decide (d ≠ .non)) then minD l else none
  | .max, [x] => (seqOf x).bind fun l => if sortable l && l.all (fun d => decide (d ≠ .non)) then maxD l else none
  | .sorted, [.dct kvs] => if sortable (kvs.map (·.1)) then some (.lst (sortD (kvs.map (·.1)))) else none
  | .sorted, [.lst l] => if sortable l then some (.lst (sortD l)) else none
  | .list, [x] => (seqOf x).map .lst
  | .tuple, [x] => (seqOf x).map .tup
  | .dictL, [.lst l] => (pairsOf l).bind fun ps => (dputs [] ps).map .dct
  | .allB, [.lst l] => (boolsOf l).map fun bs => .bl (bs.all id)
  | .anyB, [.lst l] => (boolsOf l).map fun bs => .bl (bs.any id)
  | .isInt, l => isB (fun d => match d with | .int _ => true | .bl _ => true | _ => false) l
  | .isBool, l => isB (fun d => match d with | .bl _ => true | _ => false) l
  | .isStr, l => isB (fun d => match d with | .str _ => true | _ => false) l
  | .isTuple, l => isB (fun d => match d with | .tup _ => true | _ => false) l
  | .isList, l => isB (fun d => match d with | .lst _ => true | _ => false) l
  | .isListTuple, l => isB (fun d => match d with | .lst _ => true | .tup _ => true | _ => false) l
  | .isDict, l => isB (fun d => match d with | .dct _ => true | _ => false) l
  | .isCls c, l => isC c l
  | .sortedSet, [x] => (seqOf x).bind fun l => if sortable l && l.all isKeyT then some (.lst (sortD (dedup l))) else none
  | .lenSet, [x] => (seqOf x).bind fun l => if l.all isKeyT then some (.int (dedup l).length) else none
  | .index, [x, y] => (seqOf x).bind fun l => if plain 60 y && l.all (plain 60) then (indexD l y).map fun (n : Nat) => .int (n : Int) else none
  | .count, [x, y] => (seqOf x).bind fun l => if plain 60 y && l.all (plain 60) then some (.int (l.countP fun z => pyEq z y)) else none
  | .get, [.dct kvs, k] => if keyOk kvs k then some ((dget kvs k).getD .non) else none
  | .get, [.dct kvs, k, x] => if keyOk kvs k then some ((dget kvs k).getD x) else none
  | .listZip, [.lst a, .lst b] => some (.lst (zipL a b))
  | .listRange, l => (rangeOf l).bind fun r => if r.length ≤ lim then some (.lst r) else none
  | _, _ => none

def mtOk : Blt → D → Bool
  | .index, .tup _ => true
  | .index, .lst _ => true
  | .count, .tup _ => true
  | .count, .lst _ => true
  | .get, .dct _ => true
  | _, _ => false

/-! ### the language -/
/-- a target -/
inductive Tg where
  | nm (i : Nat) | tp (l : List Tg)
mutual
def tgSlots : Tg → List Nat
  | .nm i => [i]
  | .tp l => tgsSlots l
def tgsSlots : List Tg → List Nat
  | [] => []
  | t :: ts => tgSlots t ++ tgsSlots ts
end
mutual
inductive Ex where
  | lit (d : D)
  | var (i : Nat)
  /-- read where it stands, owned or not -/
  | bor (i : Nat)
  | tup (es : List Ex)
  | tupS (ss : List Bool) (es : List Ex)
  | lst (es : List Ex)
  /-- key, value, key, value, .. -/
  | dsp (kvs : List Ex)
  | bin (o : Bop) (a b : Ex)
  | neg (a : Ex)
  | cmp (o : Cop) (a b : Ex)
  | cmp2 (o p : Cop) (a b c : Ex)
  | isN (a : Ex)
  | notN (a : Ex)
  | and (a b : Ex)
  | or (a b : Ex)
  | not (a : Ex)
  | ife (c a b : Ex)
  | sub (a i : Ex)
  | slc (a lo hi : Ex)
  | rev (a : Ex)
  | att (a : Ex) (c f : Nat)
  /-- tape["large"].pop(0) if tape["large"] != [] else f(tape) -/
  | tnx (i f : Nat)
  | call (f : Nat) (es : List Ex)
  | blt (b : Blt) (es : List Ex)
  /-- a method: the receiver is looked at ahead of the arguments -/
  | mt (b : Blt) (o : Ex) (es : List Ex)
  | comp (own : List Nat) (tg : Tg) (it : It) (ifs : List Ex) (elt : Ex)
  | comp2 (own : List Nat) (own2 : List Nat) (tg : Tg) (it : It) (ifs : List Ex) (tg2 : Tg) (it2 : It) (ifs2 : List Ex) (elt : Ex)
  | dcomp (own : List Nat) (tg : Tg) (it : It) (ifs : List Ex) (k v : Ex)
inductive It where
  | seq (e : Ex)
  | range (es : List Ex)
  | enum (e : Ex)
  | zip (a b : Ex)
  | items (e : Ex)
  | values (e : Ex)
end
inductive Stm where
  | expr (e : Ex)
  | asg (tg : Tg) (e : Ex)
  /-- x = e: a new object that the slot alone holds -/
  | new (i : Nat) (e : Ex)
  | par (i j : Nat) (oi oj : Bool) (a b : Ex)
  | app (i : Nat) (e : Ex)
  /-- i.append(j.pop(e)) -/
  | appPop (i j : Nat) (e : Ex)
  | ext (i : Nat) (e : Ex)
  | put (i : Nat) (k v : Ex)
  | aug (i : Nat) (o : Bop) (e : Ex)
  | ret (e : Ex)
  | retN
  | iff (c : Ex) (a b : List Stm)
  | for (tg : Tg) (it : It) (b : List Stm)
  | while (c : Ex) (b : List Stm)
  | raise (c : Nat) (es : List Ex)
  | brk
  | cont
  | pass
  /-- code that the run never comes to -/
  | nev
  | frz (is : List Nat) (s : Stm)

abbrev Env := List (Option (D × Bool))
/-- a slot's value: as it is (frozen alone); where it stands -/
def getV (ρ : Env) (i : Nat) : Option D := match ρ[i]? with
  | some (some (d, false)) => some d
  | _ => none
def getB (ρ : Env) (i : Nat) : Option D := match ρ[i]? with
  | some (some (d, _)) => some d
  | _ => none
def setV (ρ : Env) (i : Nat) (d : D) (o : Bool) : Env := ρ.set i (some (d, o))
mutual
def setT : Tg → D → Env → Option Env
  | .nm i, d, ρ => some (setV ρ i d false)
  | .tp l, .tup ds, ρ => setTs l ds ρ
  | .tp _, _, _ => none
def setTs : List Tg → List D → Env → Option Env
  | [], [], ρ => some ρ
  | t :: ts, d :: ds, ρ => (setT t d ρ).bind fun ρ => setTs ts ds ρ
  | _, _, _ => none
end
/-- own slots forgotten; none of them is owned -/
def wipeE (ρ : Env) : List Nat → Option Env
  | [] => some ρ
  | i :: is => (wipeE ρ is).bind fun ρ' => match ρ'[i]? with
    | some (some (_, true)) => none
    | _ => some (ρ'.set i none)
def isTapeAt (ρ : Env) (i : Nat) : Bool := match getV ρ i with
  | some .tape => true
  | _ => false
/-- the next large number -/
def tnxM (m : M D) : M D := fun t => match t.large with
  | x :: r => some (.ok (.int x), { t with large := r })
  | [] => match m t with
    | some (.ok (.int n), t') => some (.ok (.int n), t')
    | _ => none
def flatM (f : D → M (List D)) : List D → M (List D)
  | [] => ret []
  | x :: xs => bnd (f x) fun a => bnd (flatM f xs) fun b => ret (a ++ b)
def foldM {β : Type} (f : β → D → M β) : β → List D → M β
  | b, [] => ret b
  | b, x :: xs => bnd (f b x) fun b' => foldM f b' xs
def truth : D → Option Bool
  | .bl b => some b
  | _ => none

def pairUp : List D → Option (List (D × D))
  | [] => some []
  | k :: v :: r => (pairUp r).map ((k, v) :: ·)
  | _ => none
/-- pairs that are made at each turn go to a target of several -/
def itW : It → Bool
  | .enum _ => true
  | .zip _ _ => true
  | _ => false
def isTp : Tg → Bool
  | .tp _ => true
  | _ => false
def okIt (it : It) (tg : Tg) : Bool := !(itW it) || isTp tg
section
/-! what the defs called give -/
variable (Φ : Nat → List D → M D)
mutual
def ev : Ex → Env → M D
  | .lit d, _ => ret d
  | .var i, ρ => lft (getV ρ i)
  | .bor i, ρ => lft (getB ρ i)
  | .tup es, ρ => bnd (evs es ρ) fun ds => if ds.length ≤ lim then ret (.tup ds) else stuck
  | .tupS ss es, ρ => bnd (evSt es ss ρ) fun l => if l.length ≤ lim then ret (.tup l) else stuck
  | .lst es, ρ => bnd (evs es ρ) fun ds => if ds.length ≤ lim then ret (.lst ds) else stuck
  | .dsp kvs, ρ => bnd (evs kvs ρ) fun ds => lft ((pairUp ds).bind fun ps => (dputs [] ps).map .dct)
  | .bin o a b, ρ => bnd (ev a ρ) fun x => bnd (ev b ρ) fun y => lft (binS o x y)
  | .neg a, ρ => bnd (ev a ρ) fun x => match x with
    | .int i => ret (.int (-i))
    | _ => stuck
  | .cmp o a b, ρ => bnd (ev a ρ) fun x => bnd (ev b ρ) fun y => if isIns x && isIns y then (match o with
      | .eq => Φ 0 [x, y]
      | _ => stuck) else lft ((cmpS o x y).map .bl)
  | .cmp2 o p a b c, ρ => bnd (ev a ρ) fun x => bnd (ev b ρ) fun y => bnd (lft (cmpS o x y)) fun k => if k then bnd (ev c ρ) fun z => lft ((cmpS p y z).map .bl) else ret (.bl false)
  | .isN a, ρ => bnd (ev a ρ) fun x => ret (.bl (decide (x = .non)))
  | .notN a, ρ => bnd (ev a ρ) fun x => ret (.bl (!decide (x = .non)))
  | .and a b, ρ => bnd (ev a ρ) fun x => bnd (lft (truth x)) fun k => if k then ev b ρ else ret (.bl false)
  | .or a b, ρ => bnd (ev a ρ) fun x => bnd (lft (truth x)) fun k => if k then ret (.bl true) else ev b ρ
  | .not a, ρ => bnd (ev a ρ) fun x => bnd (lft (truth x)) fun k => ret (.bl (!k))
  | .ife c a b, ρ => bnd (ev c ρ) fun x => bnd (lft (truth x)) fun k => if k then ev a ρ else ev b ρ
  | .sub a i, ρ => bnd (ev a ρ) fun x => bnd (ev i ρ) fun y => subM x y
  | .slc a lo hi, ρ => bnd (ev a ρ) fun x => bnd (ev lo ρ) fun y => bnd (lft (optI y)) fun l => bnd (ev hi ρ) fun z => bnd (lft (optI z)) fun u => lft (slcS x l u)
  | .rev a, ρ => bnd (ev a ρ) fun x => match x with
    | .tup l => ret (.tup l.reverse)
    | .lst l => ret (.lst l.reverse)
    | _ => stuck
  | .att a c f, ρ => bnd (ev a ρ) fun x => match x with
    | .ins e l => if e = c then lft l[f]? else stuck
    | _ => stuck
  | .tnx i f, ρ => if isTapeAt ρ i then tnxM (Φ f [.tape]) else stuck
  | .call f es, ρ => bnd (evs es ρ) fun ds => Φ f ds
  | .blt b es, ρ => bnd (evs es ρ) fun ds => lft (bltS b ds)
  | .mt b o es, ρ => bnd (ev o ρ) fun d => if mtOk b d then bnd (evs es ρ) fun ds => lft (bltS b (d :: ds)) else stuck
  | .comp own tg it ifs elt, ρ => if okIt it tg then (bnd (evI it ρ) fun items => match wipeE ρ own with
    | none => stuck
    | some ρ₀ => bnd (sealM (flatM (fun d => bnd (lft (setT tg d ρ₀)) fun ρ₁ => bnd (evT ifs ρ₁) fun k => if k then bnd (ev elt ρ₁) fun y => ret [y] else ret []) items)) fun l => if l.length ≤ lim then ret (.lst l) else stuck) else stuck
  | .comp2 own own2 tg it ifs tg2 it2 ifs2 elt, ρ => if okIt it tg && okIt it2 tg2 then (bnd (evI it ρ) fun items => match wipeE ρ own with
    | none => stuck
    | some ρ₀ => bnd (sealM (flatM (fun d => bnd (lft (setT tg d ρ₀)) fun ρ₁ => bnd (evT ifs ρ₁) fun k => if k then
        bnd (evI it2 ρ₁) fun items2 => match wipeE ρ₁ own2 with
          | none => stuck
          | some ρ₂ => flatM (fun d2 => bnd (lft (setT tg2 d2 ρ₂)) fun ρ₃ => bnd (evT ifs2 ρ₃) fun k2 => if k2 then bnd (ev elt ρ₃) fun y => ret [y] else ret []) items2
        else ret []) items)) fun l => if l.length ≤ lim then ret (.lst l) else stuck) else stuck
  | .dcomp own tg it ifs kx vx, ρ => bnd (evI it ρ) fun items => match wipeE ρ own with
    | none => stuck
    | some ρ₀ => bnd (sealM (foldM (fun kvs d => bnd (lft (setT tg d ρ₀)) fun ρ₁ => bnd (evT ifs ρ₁) fun k => if k then
        bnd (ev kx ρ₁) fun y => bnd (ev vx ρ₁) fun z => if keyOk kvs y then ret (dput kvs y z) else stuck else ret kvs) [] items)) fun l => if l.length ≤ lim then ret (.dct l) else stuck
def evs : List Ex → Env → M (List D)
  | [], _ => ret []
  | e :: es, ρ => bnd (ev e ρ) fun d => bnd (evs es ρ) fun ds => ret (d :: ds)
/-- starred parts opened -/
def evSt : List Ex → List Bool → Env → M (List D)
  | [], _, _ => ret []
  | e :: es, s :: ss, ρ => bnd (ev e ρ) fun d => bnd (lft (if s then seqOf d else some [d])) fun l => bnd (evSt es ss ρ) fun m => ret (l ++ m)
  | _ :: _, [], _ => stuck
def evT : List Ex → Env → M Bool
  | [], _ => ret true
  | [e], ρ => bnd (ev e ρ) fun x => lft (truth x)
  | _, _ => stuck
def evI : It → Env → M (List D)
  | .seq e, ρ => bnd (ev e ρ) fun x => lft (iterOf x)
  | .range es, ρ => bnd (evs es ρ) fun ds => lft (rangeOf ds)
  | .enum e, ρ => bnd (ev e ρ) fun x => lft (enumOf x)
  | .zip a b, ρ => bnd (ev a ρ) fun x => bnd (ev b ρ) fun y => lft (zipOf x y)
  | .items e, ρ => bnd (ev e ρ) fun x => lft (itemsOf x)
  | .values e, ρ => bnd (ev e ρ) fun x => lft (valuesOf x)
end

/-- what gives a new object each time, where it gives a list or a dict -/
def frs : Ex → Bool
  | .lst _ => true
  | .dsp _ => true
  | .comp .. => true
  | .comp2 .. => true
  | .dcomp .. => true
  | .bin .add _ _ => true
  | .bin .mul _ _ => true
  | .blt .sorted _ => true
  | .blt .list _ => true
  | .blt .dictL _ => true
  | .blt .listZip _ => true
  | .blt .listRange _ => true
  | .blt .sortedSet _ => true
  | .slc .. => true
  | .rev _ => true
  | _ => false
def frB (b : Blt) : Bool := frs (.blt b [])
def isMut : D → Bool
  | .lst _ => true
  | .dct _ => true
  | _ => false
mutual
/-- the slots read as values, or hidden -/
def vr : Ex → List Nat
  | .lit _ => []
  | .var i => [i]
  | .bor _ => []
  | .tup es => vrs es
  | .tupS _ es => vrs es
  | .lst es => vrs es
  | .dsp es => vrs es
  | .bin _ a b => vr a ++ vr b
  | .neg a => vr a
  | .cmp _ a b => vr a ++ vr b
  | .cmp2 _ _ a b c => vr a ++ (vr b ++ vr c)
  | .isN a => vr a
  | .notN a => vr a
  | .and a b => vr a ++ vr b
  | .or a b => vr a ++ vr b
  | .not a => vr a
  | .ife c a b => vr c ++ (vr a ++ vr b)
  | .sub a b => vr a ++ vr b
  | .slc a b c => vr a ++ (vr b ++ vr c)
  | .rev a => vr a
  | .att a _ _ => vr a
  | .tnx i _ => [i]
  | .call _ es => vrs es
  | .blt _ es => vrs es
  | .mt _ o es => vr o ++ vrs es
  | .comp own _ it ifs e => own ++ (vrI it ++ (vrs ifs ++ vr e))
  | .comp2 own own2 _ it ifs _ it2 ifs2 e => own ++ (own2 ++ (vrI it ++ (vrs ifs ++ (vrI it2 ++ (vrs ifs2 ++ vr e)))))
  | .dcomp own _ it ifs a b => own ++ (vrI it ++ (vrs ifs ++ (vr a ++ vr b)))
def vrs : List Ex → List Nat
  | [] => []
  | e :: es => vr e ++ vrs es
def vrI : It → List Nat
  | .seq e => vr e
  | .range es => vrs es
  | .enum e => vr e
  | .zip a b => vr a ++ vr b
  | .items e => vr e
  | .values e => vr e
end
/-- a slot that is walked where it stands -/
def brI : It → List Nat
  | .seq (.bor i) => [i]
  | .enum (.bor i) => [i]
  | .zip (.bor i) (.bor j) => [i, j]
  | .zip (.bor i) _ => [i]
  | .zip _ (.bor j) => [j]
  | .items (.bor i) => [i]
  | .values (.bor i) => [i]
  | _ => []
inductive Fl where
  | nx | rt (d : D) | bk | ct
def frzE (ρ : Env) : List Nat → Env
  | [] => ρ
  | i :: is => match (frzE ρ is)[i]? with
    | some (some (d, true)) => (frzE ρ is).set i (some (d, false))
    | _ => frzE ρ is
def forL (f : D → Env → M (Fl × Env)) : List D → Env → M (Fl × Env)
  | [], ρ => ret (.nx, ρ)
  | x :: xs, ρ => bnd (f x ρ) fun r => match r.1 with
    | .nx => forL f xs r.2
    | .ct => forL f xs r.2
    | .bk => ret (.nx, r.2)
    | .rt d => ret (.rt d, r.2)
def whileL (c : Env → M Bool) (f : Env → M (Fl × Env)) : Nat → Env → M (Fl × Env)
  | 0, _ => stuck
  | n + 1, ρ => bnd (c ρ) fun k => if k then bnd (f ρ) fun r => match r.1 with
      | .nx => whileL c f n r.2
      | .ct => whileL c f n r.2
      | .bk => ret (.nx, r.2)
      | .rt d => ret (.rt d, r.2)
    else ret (.nx, ρ)
def putL (l : List D) (x y : D) (ρ : Env) (i : Nat) : Option (Fl × Env) := match x with
  | .int j => (ixOf l.length j).map fun n => (.nx, setV ρ i (.lst (l.set n y)) true)
  | _ => none
def tputM (ρ : Env) : D → D → M (Fl × Env)
  | .str s, .int n => fun t => (tput t s n).map fun t2 => (.ok (.nx, ρ), t2)
  | _, _ => stuck
def popL (l m : List D) (d : D) (ρ : Env) (i j : Nat) : Option (Fl × Env) := match d with
  | .int n => if inR n && decide (l.length < lim) then (ixOf m.length n).bind fun q => m[q]?.map fun x => (.nx, setV (setV ρ j (.lst (m.eraseIdx q)) true) i (.lst (l ++ [x])) true) else none
  | _ => none
def extL (l : List D) (d : D) (ρ : Env) (i : Nat) : Option (Fl × Env) := match d with
  | .lst m => if l.length + m.length ≤ lim then some (.nx, setV ρ i (.lst (l ++ m)) true) else none
  | _ => none
/-- the owned list, the owned dict of a slot -/
def lstAt (ρ : Env) (i : Nat) : Option (List D) := match ρ[i]? with
  | some (some (.lst l, true)) => some l
  | _ => none
def dctAt (ρ : Env) (i : Nat) : Option (List (D × D)) := match ρ[i]? with
  | some (some (.dct l, true)) => some l
  | _ => none
theorem lstAt_eq {ρ : Env} {i : Nat} {l : List D} (h : lstAt ρ i = some l) : ρ[i]? = some (some (.lst l, true)) := by
  unfold lstAt at h
  split at h
  · cases h; assumption
  · cases h
theorem dctAt_eq {ρ : Env} {i : Nat} {l : List (D × D)} (h : dctAt ρ i = some l) : ρ[i]? = some (some (.dct l, true)) := by
  unfold dctAt at h
  split at h
  · cases h; assumption
  · cases h
def augS (o : Bop) (x y : D) : Option D := match o, x, y with
  | .add, .int a, .int b => some (.int (a + b))
  | .sub, .int a, .int b => some (.int (a - b))
  | _, _, _ => none
/-! fu: how many turns a while may take -/
mutual
def exec (fu : Nat) : Stm → Env → M (Fl × Env)
  | .expr e, ρ => bnd (ev Φ e ρ) fun _ => ret (.nx, ρ)
  | .asg tg e, ρ => bnd (ev Φ e ρ) fun d => bnd (lft (setT tg d ρ)) fun ρ' => ret (.nx, ρ')
  | .new i e, ρ => bnd (ev Φ e ρ) fun d => if frs e && isMut d then ret (.nx, setV ρ i d true) else stuck
  | .par i j oi oj a b, ρ => bnd (ev Φ a ρ) fun x => if !oi || (frs a && isMut x) then bnd (ev Φ b ρ) fun y => if !oj || (frs b && isMut y) then ret (.nx, setV (setV ρ i x oi) j y oj) else stuck else stuck
  | .app i e, ρ => match lstAt ρ i with
    | some l => bnd (ev Φ e ρ) fun d => if l.length < lim then ret (.nx, setV ρ i (.lst (l ++ [d])) true) else stuck
    | none => stuck
  | .ext i e, ρ => match lstAt ρ i with
    | some l => bnd (ev Φ e ρ) fun d => lft (extL l d ρ i)
    | none => stuck
  | .put i k v, ρ => match dctAt ρ i with
    | some kvs => bnd (ev Φ v ρ) fun y => bnd (ev Φ k ρ) fun x => if keyOk kvs x && decide (kvs.length < lim) then ret (.nx, setV ρ i (.dct (dput kvs x y)) true) else stuck
    | none => match lstAt ρ i with
      | some l => bnd (ev Φ v ρ) fun y => bnd (ev Φ k ρ) fun x => lft (putL l x y ρ i)
      | none => if isTapeAt ρ i then bnd (ev Φ v ρ) fun y => bnd (ev Φ k ρ) fun x => tputM ρ x y else stuck
  | .appPop i j e, ρ => match lstAt ρ i with
    | some _ => match lstAt ρ j with
      | some _ => if i = j then stuck else bnd (ev Φ e ρ) fun d => lft ((lstAt ρ i).bind fun l => (lstAt ρ j).bind fun m => popL l m d ρ i j)
      | none => stuck
    | none => stuck
  | .aug i o e, ρ => bnd (lft (getV ρ i)) fun x => bnd (ev Φ e ρ) fun y => bnd (lft (augS o x y)) fun z => ret (.nx, setV ρ i z false)
  | .ret e, ρ => bnd (ev Φ e ρ) fun d => ret (.rt d, ρ)
  | .retN, ρ => ret (.rt .non, ρ)
  | .iff c a b, ρ => bnd (ev Φ c ρ) fun x => bnd (lft (truth x)) fun k => if k then execs fu a ρ else execs fu b ρ
  | .for tg it b, ρ => if okIt it tg && (brI it).all (fun i => match ρ[i]? with | some (some (_, true)) => false | _ => true) then bnd (evI Φ it ρ) fun l => forL (fun d ρ => bnd (lft (setT tg d ρ)) fun ρ' => execs fu b ρ') l ρ else stuck
  | .while c b, ρ => whileL (fun ρ => bnd (ev Φ c ρ) fun x => lft (truth x)) (fun ρ => execs fu b ρ) fu ρ
  | .raise c es, ρ => bnd (evs Φ es ρ) fun ds => rse c ds
  | .brk, ρ => ret (.bk, ρ)
  | .cont, ρ => ret (.ct, ρ)
  | .pass, ρ => ret (.nx, ρ)
  | .nev, _ => stuck
  | .frz is s, ρ => exec fu s (frzE ρ is)
def execs (fu : Nat) : List Stm → Env → M (Fl × Env)
  | [], ρ => ret (.nx, ρ)
  | s :: ss, ρ => bnd (exec fu s ρ) fun r => match r.1 with
    | .nx => execs fu ss r.2
    | f => ret (f, r.2)
end
/-- a def: how many slots, its body; called -/
structure Fn where
  slots : Nat
  body : List Stm
def run (fu : Nat) (F : Fn) (ds : List D) : M D :=
  bnd (execs Φ fu F.body (ds.map (fun d => some (d, false)) ++ List.replicate (F.slots - ds.length) none)) fun r => match r.1 with
    | .nx => ret .non
    | .rt d => ret d
    | _ => stuck
end
end VS
end
section
set_option linter.all false
set_option autoImplicit false
/-! V2: from the model's syntax to the little language. -/
namespace VS
open PySem

/-- a def's number; how it may be called: so many by place, these names, the others' values -/
structure GFn where
  f : Nat
  sh : List (Nat × List Str × List D)
/-- what a module's name stands for -/
inductive GK where
  | fn (g : GFn) | cls (g : GFn) | const (d : D) | exc (n : Nat) (arg : Bool) | cid (c : Nat)
/-- what an attribute is: a field of a class's instances, a property -/
inductive AK where
  | fld (c i : Nat) | prop (f : Nat)
structure SE where
  N : List Str
  sc : Scope
  g : List (Str × GK)
  att : List (Str × AK)
  cids : List (Str × Nat)
  ow : List Nat
  fn : Str → Bool

def okName (x : Str) : Bool := !(x == ("__debug__" : Str)) && !(x == ("__classdict__" : Str)) && !(x == ("__name__" : Str))
def SE.slot (se : SE) (x : Str) : Option Nat := if okName x then match se.sc.names.lookup x with
  | some .local => se.N.idxOf? x
  | some .cell => se.N.idxOf? x
  | some .free => se.N.idxOf? x
  | _ => none else none
def SE.loc (se : SE) (x : Str) : Option Nat := if okName x then match se.sc.names.lookup x with
  | some .local => se.N.idxOf? x
  | some .cell => if se.fn x then se.N.idxOf? x else none
  | _ => none else none
def SE.isGl (se : SE) (x : Str) : Bool := okName x && decide (se.sc.names.lookup x = some .globalImplicit)
def ownOf (N : List Str) (scope : Scope) : List (Str × Nat) := scope.names.filterMap fun (x, k) => match k with
  | .local => (N.idxOf? x).map fun i => (x, i)
  | .cell => (N.idxOf? x).map fun i => (x, i)
  | _ => none
def SE.blk (se : SE) (scope : Scope) : SE := { se with sc := L2.relS scope se.sc, fn := fun x => scope.names.lookup x == some .cell, ow := [] }
def trAll {α β : Type} (f : α → Option β) : List α → Option (List β)
  | [] => some []
  | a :: as => (f a).bind fun b => (trAll f as).map (b :: ·)
mutual
def trTg : Nat → SE → Expr → Option Tg
  | 0, _, _ => none
  | n + 1, se, e => match e with
    | .Name x _ => (se.loc x).map .nm
    | .Tuple es _ _ => (trTgs n se es).map .tp
    | _ => none
def trTgs : Nat → SE → List Expr → Option (List Tg)
  | 0, _, _ => none
  | n + 1, se, es => match es with
    | [] => some []
    | e :: es => (trTg n se e).bind fun t => (trTgs n se es).map (t :: ·)
end
def trOp : Operator → Option Bop
  | .Add => some .add
  | .Sub => some .sub
  | .Mult => some .mul
  | .FloorDiv => some .fdiv
  | .Mod => some .mod
  | .Pow => some .pow
  | _ => none
def trCmp : CmpOp → Option Cop
  | .Eq => some .eq
  | .NotEq => some .ne
  | .Lt => some .lt
  | .LtE => some .le
  | .Gt => some .gt
  | .GtE => some .ge
  | .In => some .mem
  | .NotIn => some .nmem
  | _ => none
def trConst : Const → Option D
  | .none => some .non
  | .bool b => some (.bl b)
  | .int i => some (.int i)
  | .str x => some (.str x)
  | _ => none
def trName (se : SE) (x : Str) : Option Ex := match se.slot x with
  | some i => some (.var i)
  | none => if se.isGl x then match se.g.lookup x with
    | some (.const d) => some (.lit d)
    | _ => none else none
/-- a call's arguments: so many by place, then these names, the others by default -/
def shapeOk (g : GFn) (n : Nat) (ks : List Str) : Option (List D) := (g.sh.find? fun p => decide (p.1 = n) && decide (p.2.1 = ks)).map (·.2.2)
def kwNames : List Keyword → Option (List Str) := trAll fun k => k.arg
def tyOf (x : Str) : Option Blt :=
  if x = "int" then some .isInt else if x = "bool" then some .isBool else if x = "str" then some .isStr
  else if x = "tuple" then some .isTuple else if x = "list" then some .isList else if x = "dict" then some .isDict else none
def andAll : List Ex → Option Ex
  | [] => none
  | [a] => some a
  | a :: r => (andAll r).map (.and a)
def orAll : List Ex → Option Ex
  | [] => none
  | [a] => some a
  | a :: r => (orAll r).map (.or a)
/-- the built-ins of one argument list, by name -/
def blt1 (x : Str) : Option Blt :=
  if x = "len" then some .len else if x = "int" then some .int else if x = "abs" then some .abs else if x = "min" then some .min else if x = "max" then some .max
  else if x = "sorted" then some .sorted else if x = "list" then some .list else if x = "tuple" then some .tuple else if x = "dict" then some .dictL
  else if x = "all" then some .allB else if x = "any" then some .anyB else none
/-- no zero-argument call ahead of a dot -/
def abOk : Expr → Bool
  | .Call (.Name _ _) [] [] _ => false
  | _ => true
def isTupE : Expr → Bool
  | .Tuple .. => true
  | _ => false
def allIn (l m : List Nat) : Bool := l.all (m.contains ·)
def isStar : Expr → Bool
  | .Starred .. => true
  | _ => false
def unStar : Expr → Expr
  | .Starred e _ => e
  | e => e
/-- tape["large"].pop(0) if tape["large"] != [] else b, the slot of the tape -/
def trNx (se : SE) : Expr → Expr → Option Nat
  | .Compare (.Subscript (.Name x _) (.Constant (.str k1) _ _) _) [.NotEq] [.List [] _] _, .Call (.Attribute (.Subscript (.Name y _) (.Constant (.str k2) _ _) _) m q) [.Constant (.int i) _ _] [] p =>
    if decide (x = y) && decide (k1 = "large") && decide (k2 = "large") && decide (m = "pop") && decide (i = 0) && (q.endLine == p.line) then se.slot x else none
  | _, _ => none
mutual
def tr : Nat → SE → Expr → Option Ex
  | 0, _, _ => none
  | n + 1, se, e => match e with
    | .Constant c _ _ => (trConst c).map .lit
    | .Name x _ => trName se x
    | .Tuple es _ _ => if es.any isStar then (trSt n se es).map (.tupS (es.map isStar)) else (trL n se es).map .tup
    | .List es _ => (trL n se es).map .lst
    | .Dict [] [] _ => some (.dsp [])
    | .BinOp a o b _ => (trO n se a).bind fun a => (trO n se b).bind fun b => (trOp o).map fun o => .bin o a b
    | .UnaryOp .USub a _ => (tr n se a).map .neg
    | .UnaryOp .Not a _ => (tr n se a).map .not
    | .BoolOp .And es _ => (trL n se es).bind andAll
    | .BoolOp .Or es _ => (trL n se es).bind orAll
    | .Compare a [o] [b] _ => trCmp1 n se a o b
    | .Compare a [o, p] [b, c] _ => if lastMarks [o, p] [b, c] then none else (tr n se a).bind fun a => (tr n se b).bind fun b => (tr n se c).bind fun c => (trCmp o).bind fun o => (trCmp p).map fun p => .cmp2 o p a b c
    | .IfExp c a b _ => match trNx se c a with
      | some i => (match tr n se b with
        | some (.call f [.var j]) => if i = j then some (.tnx i f) else none
        | _ => none)
      | none => (tr n se c).bind fun c => (tr n se a).bind fun a => (tr n se b).map fun b => .ife c a b
    | .Subscript a i _ => trSub n se a i
    | .Attribute a x _ => if abOk a then (match se.att.lookup x with
      | some (.fld c i) => (tr n se a).map fun a => .att a c i
      | some (.prop f) => (tr n se a).map fun a => .call f [a]
      | none => none) else none
    | .ListComp elt gs scope _ => trLc n se elt gs scope
    | .Call f args kws p => trCl n se f args kws p
    | _ => none
def trL : Nat → SE → List Expr → Option (List Ex)
  | 0, _, _ => none
  | n + 1, se, es => match es with
    | [] => some []
    | e :: es => (tr n se e).bind fun e => (trL n se es).map (e :: ·)
def trLO : Nat → SE → List Expr → Option (List Ex)
  | 0, _, _ => none
  | n + 1, se, es => match es with
    | [] => some []
    | e :: es => (trO n se e).bind fun e => (trLO n se es).map (e :: ·)
/-- items of a display with stars -/
def trSt : Nat → SE → List Expr → Option (List Ex)
  | 0, _, _ => none
  | n + 1, se, es => match es with
    | [] => some []
    | .Starred e _ :: es => (trO n se e).bind fun e => (trSt n se es).map (e :: ·)
    | e :: es => (tr n se e).bind fun e => (trSt n se es).map (e :: ·)
def trCmp1 : Nat → SE → Expr → CmpOp → Expr → Option Ex
  | 0, _, _, _, _ => none
  | n + 1, se, a, o, b => match o, b with
    | .Is, .Constant .none _ _ => (tr n se a).map .isN
    | .IsNot, .Constant .none _ _ => (tr n se a).map .notN
    | o, b => if behindInMarks o b then none else (trO n se a).bind fun a => (trO n se b).bind fun b => (trCmp o).map fun o => .cmp o a b
def trSub : Nat → SE → Expr → Expr → Option Ex
  | 0, _, _, _ => none
  | n + 1, se, a, i => match i with
    | .Slice lo hi none _ => (trO n se a).bind fun a => (trPart n se lo).bind fun lo => (trPart n se hi).map fun hi => .slc a lo hi
    | .Slice _ _ (some _) _ => none
    | i => (trO n se a).bind fun a => (tr n se i).map fun i => .sub a i
def trLc : Nat → SE → Expr → List Comprehension → Scope → Option Ex
  | 0, _, _, _, _ => none
  | n + 1, se, elt, gs, scope =>
    let own := ownOf se.N scope
    if L2.blkC se.N se.sc scope own then (match gs with
      | [⟨tg, it, ifs, 0⟩] => if ifs.length ≤ 1 then (trI n se (isTupE tg) it).bind fun it => (trTg n (se.blk scope) tg).bind fun tg => (trL n (se.blk scope) ifs).bind fun ifs => (tr n (se.blk scope) elt).bind fun elt =>
          if allIn (tgSlots tg) (own.map (·.2)) then some (.comp (own.map (·.2)) tg it ifs elt) else none
        else none
      | [⟨tg, it, ifs, 0⟩, ⟨tg2, it2, ifs2, 0⟩] => if ifs.length ≤ 1 && ifs2.length ≤ 1 then
          (trI n se (isTupE tg) it).bind fun it => (trTg n (se.blk scope) tg).bind fun tg => (trL n (se.blk scope) ifs).bind fun ifs => (trI n (se.blk scope) (isTupE tg2) it2).bind fun it2 => (trTg n (se.blk scope) tg2).bind fun tg2 =>
          (trL n (se.blk scope) ifs2).bind fun ifs2 => (tr n (se.blk scope) elt).bind fun elt =>
            if allIn (tgSlots tg) (own.map (·.2)) && allIn (tgSlots tg2) (own.map (·.2)) then some (.comp2 (own.map (·.2)) (tgSlots tg2) tg it ifs tg2 it2 ifs2 elt) else none
        else none
      | _ => none) else none
def trCl : Nat → SE → Expr → List Expr → List Keyword → Pos → Option Ex
  | 0, _, _, _, _, _ => none
  | n + 1, se, f, args, kws, p => match f with
    | .Name x _ => if se.isGl x then (match se.g.lookup x with
      | some (.fn g) => trCall n se g args kws
      | some (.cls g) => trCall n se g args kws
      | some _ => none
      | none => if kws.isEmpty then trBlt n se x args else none) else none
    | .Attribute o m q => if kws.isEmpty && abOk o && (q.endLine == p.line) then trMeth n se o m args else none
    | _ => none
/-- an operand: a slot may be read where it stands -/
def trO : Nat → SE → Expr → Option Ex
  | 0, _, _ => none
  | n + 1, se, e => match e with
    | .Name x _ => (match se.slot x with
      | some i => some (.bor i)
      | none => trName se x)
    | e => tr n se e
def trPart : Nat → SE → Option Expr → Option Ex
  | 0, _, _ => none
  | n + 1, se, e => match e with
    | none => some (.lit .non)
    | some e => tr n se e
def trKw : Nat → SE → List Keyword → Option (List Ex)
  | 0, _, _ => none
  | n + 1, se, ks => match ks with
    | [] => some []
    | k :: ks => (tr n se k.value).bind fun e => (trKw n se ks).map (e :: ·)
def trCall : Nat → SE → GFn → List Expr → List Keyword → Option Ex
  | 0, _, _, _, _ => none
  | n + 1, se, g, args, kws => (kwNames kws).bind fun ks => (shapeOk g args.length ks).bind fun ds => (trL n se args).bind fun as => (trKw n se kws).map fun bs => .call g.f (as ++ (bs ++ ds.map .lit))
def trBlt : Nat → SE → Str → List Expr → Option Ex
  | 0, _, _, _ => none
  | n + 1, se, x, args => match args with
    | [.Call (.Name y _) as [] _] =>
      if se.isGl y && (se.g.lookup y).isNone && y = "range" && x = "list" then (if as.isEmpty then none else (trL n se as).map (.blt .listRange))
      else if se.isGl y && (se.g.lookup y).isNone && y = "zip" && x = "list" then (trLO n se as).bind fun as => if as.length = 2 then some (.blt .listZip as) else none
      else (blt1 x).bind fun b => (trLO n se args).map (.blt b)
    | [a, .Name y _] => if x = "isinstance" then (trO n se a).bind fun a => if se.isGl y then (match se.cids.lookup y with
        | some c => some (.blt (.isCls c) [a])
        | none => if (se.g.lookup y).isNone then (tyOf y).map fun b => .blt b [a] else none) else none
      else (blt1 x).bind fun b => (trLO n se args).map (.blt b)
    | [a, .Tuple [.Name y _, .Name z _] _ _] => if x = "isinstance" then (if se.isGl y && se.isGl z && (se.g.lookup y).isNone && (se.g.lookup z).isNone && y = "list" && z = "tuple" then (trO n se a).map fun a => .blt .isListTuple [a] else none)
      else (blt1 x).bind fun b => (trLO n se args).map (.blt b)
    | [] => none
    | args => (blt1 x).bind fun b => (trLO n se args).map (.blt b)
def trMeth : Nat → SE → Expr → Str → List Expr → Option Ex
  | 0, _, _, _, _ => none
  | n + 1, se, o, m, args => match args with
    | [a] => if m = "index" then (trO n se o).bind fun o => (trO n se a).map fun a => .mt .index o [a] else none
    | _ => none
def trI : Nat → SE → Bool → Expr → Option It
  | 0, _, _, _ => none
  | n + 1, se, tp, e => match e with
    | .Call (.Name x p) as [] q => if se.isGl x && (se.g.lookup x).isNone then
        (if x = "range" then (trL n se as).bind fun as => if as.length ≤ 2 then some (.range as) else none
        else if x = "enumerate" then (if tp then (trLO n se as).bind fun as => (match as with | [a] => some (.enum a) | _ => none) else none)
        else if x = "zip" then (if tp then (trLO n se as).bind fun as => (match as with | [a, b] => some (.zip a b) | _ => none) else none)
        else (tr n se (.Call (.Name x p) as [] q)).map .seq)
      else (tr n se (.Call (.Name x p) as [] q)).map .seq
    | .Set .. => none
    | e => (trO n se e).map .seq
end
/-! ### the statements -/
def frzS (ow : List Nat) (l : List Nat) (s : Stm) : Stm := match l.filter (ow.contains ·) with
  | [] => s
  | is => .frz is.eraseDups s
def isLoc (se : SE) (x : Str) : Bool := decide (se.sc.names.lookup x = some .local)
/-- a comprehension's own names -/
def compScope : Expr → Option Scope
  | .ListComp _ _ s _ => some s
  | .SetComp _ _ s _ => some s
  | .DictComp _ _ _ s _ => some s
  | _ => none
/-- the store goes before the block's end (swapsWith) -/
def swaps (se : SE) (e : Expr) (x : Str) (px : Pos) : Bool := match compScope e with
  | some s => isLoc se x && px.line == e.pos.line && !(s.names.any fun (n, k) => n == x && (k == .local || k == .cell))
  | none => false
/-- names stored from the right (swappedStores) -/
def parOk (se : SE) (ts vs : List Expr) : Bool := !(vs.any isStar) && (match ts with
  | [.Name x px, .Name y py] => isLoc se x && isLoc se y && (py.line == px.line) && !(x == y)
  | _ => false) && !(vs.all (foldedForSure 8)) && !(vs.all (constantsAlone 8))
/-- .. plainly, from the left -/
def seqOk (se : SE) (ts vs : List Expr) : Bool := (match ts with
  | [.Name x px, .Name y py] => !(isLoc se x && isLoc se y && (py.line == px.line))
  | _ => false) || vs.all (foldedForSure 8)
def augOp : Operator → Option Bop
  | .Add => some .add
  | .Sub => some .sub
  | _ => none
/-- x.append(y.pop(e)): the places, e -/
def trPop (se : SE) : Expr → Option (Nat × Nat × Expr)
  | .Call (.Attribute (.Name x _) m q) [.Call (.Attribute (.Name y _) m2 q2) [e] [] p2] [] p =>
    if (q.endLine == p.line) && decide (m = "append") && (q2.endLine == p2.line) && decide (m2 = "pop") && !(isStar e) then (se.slot x).bind fun i => (se.slot y).map fun j => (i, j, e) else none
  | _ => none
/-- an expression as a statement -/
def trEx1 (n : Nat) (se : SE) : Expr → Option Stm
  | .Constant (.str _) _ _ => some .pass
  | .Call (.Attribute (.Name x _) m q) [e] [] p => if (q.endLine == p.line) && decide (m = "append") then (se.slot x).bind fun i => (tr n se e).map fun e => frzS se.ow (vr e) (.app i e) else none
  | .Call (.Name x q) args kws p => (tr n se (.Call (.Name x q) args kws p)).map fun e => frzS se.ow (vr e) (.expr e)
  | _ => none
def trEx (n : Nat) (se : SE) (e : Expr) : Option Stm := match trPop se e with
  | some (i, j, e) => (tr n se e).map fun e => frzS se.ow (vr e) (.appPop i j e)
  | none => trEx1 n se e
def trPar (n : Nat) (se : SE) (i j : Nat) (ts : List Expr) (a b e : Expr) : Option Stm :=
  if parOk se ts [a, b] then (tr n se a).bind fun a => (tr n se b).map fun b => frzS se.ow (vr a ++ vr b) (.par i j (se.ow.contains i && frs a) (se.ow.contains j && frs b) a b)
  else if seqOk se ts [a, b] then (tr n se e).map fun e => frzS se.ow (vr e) (.asg (.tp [.nm i, .nm j]) e)
  else none
/-- an assignment -/
def trAs (n : Nat) (se : SE) : List Expr → Expr → Option Stm
  | [.Name x _], e => (se.loc x).bind fun i => (tr n se e).map fun e => frzS se.ow (vr e) (if se.ow.contains i && frs e then .new i e else .asg (.nm i) e)
  | [.Subscript (.Name x _) k _], v => (se.slot x).bind fun i => (tr n se v).bind fun v => (tr n se k).map fun k => frzS se.ow (vr v ++ vr k) (.put i k v)
  | [.Tuple [.Name x px, .Name y py] _ _], .Tuple [a, b] k2 p2 => (se.loc x).bind fun i => (se.loc y).bind fun j => trPar n se i j [.Name x px, .Name y py] a b (.Tuple [a, b] k2 p2)
  | [.Tuple ts k p], e => if isTupE e then none else (trTg n se (.Tuple ts k p)).bind fun tg => (tr n se e).map fun e => frzS se.ow (vr e) (.asg tg e)
  | _, _ => none
mutual
def trS : Nat → SE → Stmt → Option Stm
  | 0, _, _ => none
  | n + 1, se, s => match s with
    | .Expr e _ => trEx n se e
    | .Return none _ => some .retN
    | .Return (some e) _ => (tr n se e).map fun e => frzS se.ow (vr e) (.ret e)
    | .Assign ts e _ => trAs n se ts e
    | .AugAssign (.Name x _) o e _ => (se.loc x).bind fun i => (augOp o).bind fun o => (tr n se e).map fun e => frzS se.ow (vr e) (.aug i o e)
    | .If c a b _ => (tr n se c).bind fun c => (trSs n se a).bind fun a => (trSs n se b).map fun b => frzS se.ow (vr c) (.iff c a b)
    | .For tg it b [] _ => (trI n se (isTupE tg) it).bind fun it => (trTg n se tg).bind fun tg => (trSs n se b).map fun b => frzS se.ow (brI it ++ vrI it) (.for tg it b)
    | .While c b [] _ => (tr n se c).bind fun c => (trSs n se b).map fun b => frzS se.ow (vr c) (.while c b)
    | .Raise .. => some .nev
    | .Break _ => some .brk
    | .Continue _ => some .cont
    | .Pass _ => some .pass
    | _ => none
def trSs : Nat → SE → List Stmt → Option (List Stm)
  | 0, _, _ => none
  | n + 1, se, ss => match ss with
    | [] => some []
    | s :: ss => (trS n se s).bind fun s => (trSs n se ss).map (s :: ·)
end
end VS
end
section
set_option Elab.async false
set_option linter.all false
set_option maxRecDepth 100000
set_option maxHeartbeats 4000000
set_option autoImplicit false
/-! V3: what data mean over the abstract heap; the readings made of the evaluator. -/
namespace VS
open PySem PySem.Spec PyProof.Rows L2

/-- what stays through the law's run: the program, the world, the written part, the tape's addresses, the classes -/
structure Kx where
  P : Program
  w : World
  K : PySem.W.Frag
  tp : Addr
  lp : Addr
  cp : Addr
  cl : Nat → Addr
  ec : Nat → Addr
  /-- is there a tape? -/
  on : Bool

mutual
def nkey : D → NestedKey
  | .int i => .num i
  | .str x => .text x
  | .tup l => .tup (nkeys l)
  | _ => .none
def nkeys : List D → List NestedKey
  | [] => []
  | d :: ds => nkey d :: nkeys ds
end
/-- the attributes of a class's instances, in their order -/
def flds : Nat → List Str
  | 0 => ["own_rules", "own_nexts"]
  | _ => []
/-- a dict's object, by its entries -/
def dicO (a : Addr) (es : List DictEntry) : HO := .ext fun h => (∃ o ep, h.get? a = some o ∧ o.ExactDict ∧ o.data = .dict es.toArray ep) ∧ es.length ≤ sizeLine ∧ (a == sysModules) = false
def kvsOk (kvs : List (D × D)) : Prop := (kvs.map (·.1)).Nodup ∧ ∀ p ∈ kvs, keyOk kvs p.1 = true

/-- a tuple with the whole of its object: it has no dict -/
def TupX (F : Hp) (a : Addr) (vs : List V) : Prop := ∃ o, F a = some (.frz o (.tup vs)) ∧ o.dict = none
theorem TupX.rd {F : Hp} {a : Addr} {vs : List V} (h : TupX F a vs) : Rd F a (.tup vs) := let ⟨o, e, _⟩ := h; .inr ⟨o, e⟩
mutual
/-- the value v is the data d, all that it reaches standing in F -/
def Rep (k : Kx) (F : Hp) : D → V → Prop
  | .non, v => v = .non
  | .bl b, v => v = .bl b
  | .int i, v => v = .int i
  | .str x, v => v = .str x
  | .tup ds, v => ∃ a vs, v = .ref a ∧ TupX F a vs ∧ RepL k F ds vs
  | .lst ds, v => ∃ a vs, v = .ref a ∧ Rd F a (.lst vs) ∧ RepL k F ds vs
  | .dct kvs, v => ∃ a es, v = .ref a ∧ F a = some (dicO a es) ∧ kvsOk kvs ∧ RepP k F kvs es
  | .ins c ds, v => ∃ a dx vs, v = .ref a ∧ F a = some (.ins (k.cl c) dx ((flds c).zip vs)) ∧ vs.length = (flds c).length ∧ RepL k F ds vs
  | .exc c _, v => v = .ref c
  | .tape, v => k.on = true ∧ v = .ref k.tp
def RepL (k : Kx) (F : Hp) : List D → List V → Prop
  | [], vs => vs = []
  | d :: ds, vs => ∃ v r, vs = v :: r ∧ Rep k F d v ∧ RepL k F ds r
def RepP (k : Kx) (F : Hp) : List (D × D) → List DictEntry → Prop
  | [], es => es = []
  | (a, b) :: ps, es => ∃ e r, es = e :: r ∧ e.hash = (nkey a).hash k.w ∧ (∃ x, Rep k F a x ∧ RelV x e.key) ∧ (∃ y, Rep k F b y ∧ RelV y e.val) ∧ RepP k F ps r
end
/-- F is a part of H -/
def Sub (F H : Hp) : Prop := ∀ a o, F a = some o → H a = some o
theorem Sub.refl {F : Hp} : Sub F F := fun _ _ h => h
theorem Sub.trans {F G H : Hp} (a : Sub F G) (b : Sub G H) : Sub F H := fun x o h => b x o (a x o h)
theorem Sub.rd {F H : Hp} (s : Sub F H) {a : Addr} {u : HO} (h : Rd F a u) : Rd H a u := h.elim (fun z => .inl (s _ _ z)) fun ⟨o, z⟩ => .inr ⟨o, s _ _ z⟩
theorem Sub.tx {F H : Hp} (s : Sub F H) {a : Addr} {vs : List V} (h : TupX F a vs) : TupX H a vs := let ⟨o, e, d⟩ := h; ⟨o, s _ _ e, d⟩
/-- a list, a tuple that is read -/
theorem Sub.sqL {F H : Hp} (s : Sub F H) {K : PySem.W.Frag} {a : Addr} {vs : List V} (h : SqL K F a vs) : SqL K H a vs := h.elim (fun z => .inl (s.rd z)) .inr
theorem Sub.sqT {F H : Hp} (s : Sub F H) {K : PySem.W.Frag} {a : Addr} {vs : List V} (h : SqT K F a vs) : SqT K H a vs := h.elim (fun z => .inl (s.rd z)) .inr
mutual
theorem Rep.mono {k : Kx} {F H : Hp} (s : Sub F H) : ∀ (d : D) (v : V), Rep k F d v → Rep k H d v
  | .non, _, h => h
  | .bl _, _, h => h
  | .int _, _, h => h
  | .str _, _, h => h
  | .tup ds, _, ⟨a, vs, e, q, r⟩ => ⟨a, vs, e, s.tx q, RepL.mono s ds vs r⟩
  | .lst ds, _, ⟨a, vs, e, q, r⟩ => ⟨a, vs, e, s.rd q, RepL.mono s ds vs r⟩
  | .dct kvs, _, ⟨a, es, e, q, n, r⟩ => ⟨a, es, e, s _ _ q, n, RepP.mono s kvs es r⟩
  | .ins c ds, _, ⟨a, dx, vs, e, q, l, r⟩ => ⟨a, dx, vs, e, s _ _ q, l, RepL.mono s ds vs r⟩
  | .exc _ _, _, h => h
  | .tape, _, h => h
theorem RepL.mono {k : Kx} {F H : Hp} (s : Sub F H) : ∀ (ds : List D) (vs : List V), RepL k F ds vs → RepL k H ds vs
  | [], _, h => h
  | d :: ds, _, ⟨v, r, e, h, t⟩ => ⟨v, r, e, Rep.mono s d v h, RepL.mono s ds r t⟩
theorem RepP.mono {k : Kx} {F H : Hp} (s : Sub F H) : ∀ (ps : List (D × D)) (es : List DictEntry), RepP k F ps es → RepP k H ps es
  | [], _, h => h
  | (a, b) :: ps, _, ⟨e, r, q, hh, ⟨x, hx, rx⟩, ⟨y, hy, ry⟩, t⟩ => ⟨e, r, q, hh, ⟨x, Rep.mono s a x hx, rx⟩, ⟨y, Rep.mono s b y hy, ry⟩, RepP.mono s ps r t⟩
end
theorem RepL.length {k : Kx} {F : Hp} : ∀ {ds : List D} {vs : List V}, RepL k F ds vs → vs.length = ds.length
  | [], _, h => by rw [h]; rfl
  | _ :: _, _, ⟨_, _, e, _, t⟩ => by rw [e, List.length_cons, List.length_cons, RepL.length t]
theorem RepL.append {k : Kx} {F : Hp} : ∀ {ds es : List D} {vs us : List V}, RepL k F ds vs → RepL k F es us → RepL k F (ds ++ es) (vs ++ us)
  | [], _, _, _, h, g => by rw [h]; exact g
  | _ :: _, _, _, _, ⟨v, r, e, h, t⟩, g => ⟨v, r ++ _, by rw [e]; rfl, h, RepL.append t g⟩
theorem RepL.get {k : Kx} {F : Hp} : ∀ {ds : List D} {vs : List V} {i : Nat} {d : D}, RepL k F ds vs → ds[i]? = some d → ∃ v, vs[i]? = some v ∧ Rep k F d v
  | [], _, _, _, _, e => by simp at e
  | d :: ds, _, 0, _, ⟨v, r, q, h, t⟩, e => by simp at e; subst e; subst q; exact ⟨v, rfl, h⟩
  | d :: ds, _, i + 1, x, ⟨v, r, q, h, t⟩, e => by subst q; exact RepL.get (i := i) t (by simpa using e)
theorem RepL.getV {k : Kx} {F : Hp} : ∀ {ds : List D} {vs : List V} {i : Nat} {v : V}, RepL k F ds vs → vs[i]? = some v → ∃ d, ds[i]? = some d ∧ Rep k F d v
  | [], _, _, _, h, e => by rw [h] at e; simp at e
  | d :: ds, _, 0, _, ⟨v, r, q, h, t⟩, e => by subst q; simp at e; subst e; exact ⟨d, rfl, h⟩
  | d :: ds, _, i + 1, x, ⟨v, r, q, h, t⟩, e => by subst q; exact RepL.getV (i := i) t (by simpa using e)
theorem RepL.take {k : Kx} {F : Hp} : ∀ {ds : List D} {vs : List V} (n : Nat), RepL k F ds vs → RepL k F (ds.take n) (vs.take n)
  | _, _, 0, _ => by simp [RepL]
  | [], _, n + 1, h => by rw [h]; simp [RepL]
  | d :: ds, _, n + 1, ⟨v, r, q, h, t⟩ => by subst q; exact ⟨v, r.take n, rfl, h, RepL.take n t⟩
theorem RepL.drop {k : Kx} {F : Hp} : ∀ {ds : List D} {vs : List V} (n : Nat), RepL k F ds vs → RepL k F (ds.drop n) (vs.drop n)
  | _, _, 0, h => h
  | [], _, n + 1, h => by rw [h]; simp [RepL]
  | d :: ds, _, n + 1, ⟨v, r, q, h, t⟩ => by subst q; exact RepL.drop n t
theorem RepL.set {k : Kx} {F : Hp} {y : D} {u : V} (hy : Rep k F y u) : ∀ {ds : List D} {vs : List V} (n : Nat), RepL k F ds vs → RepL k F (ds.set n y) (vs.set n u)
  | [], _, _, h => by rw [h]; simp [RepL]
  | d :: ds, _, 0, ⟨v, r, q, h, t⟩ => by subst q; exact ⟨u, r, rfl, hy, t⟩
  | d :: ds, _, n + 1, ⟨v, r, q, h, t⟩ => by subst q; exact ⟨v, r.set n u, rfl, h, RepL.set hy n t⟩
theorem RepL.reverse {k : Kx} {F : Hp} : ∀ {ds : List D} {vs : List V}, RepL k F ds vs → RepL k F ds.reverse vs.reverse
  | [], _, h => by rw [h]; simp [RepL]
  | d :: ds, _, ⟨v, r, q, h, t⟩ => by
    subst q
    rw [List.reverse_cons, List.reverse_cons]
    exact RepL.append (RepL.reverse t) ⟨v, [], rfl, h, rfl⟩

/-! ### objects that are changed -/
/-- the object at a, o, is the data d, all that it holds standing in F -/
def ObjR (k : Kx) (F : Hp) (a : Addr) (o : HO) : D → Prop
  | .lst ds => ∃ vs, o = .lst vs ∧ RepL k F ds vs
  | .dct kvs => ∃ es, o = dicO a es ∧ kvsOk kvs ∧ RepP k F kvs es
  | _ => False
theorem ObjR.mono {k : Kx} {F H : Hp} (s : Sub F H) {a : Addr} {o : HO} : ∀ {d : D}, ObjR k F a o d → ObjR k H a o d
  | .lst ds, ⟨vs, e, r⟩ => ⟨vs, e, RepL.mono s ds vs r⟩
  | .dct kvs, ⟨es, e, n, r⟩ => ⟨es, e, n, RepP.mono s kvs es r⟩
theorem ObjR.rep {k : Kx} {F : Hp} {a : Addr} {o : HO} (h : F a = some o) : ∀ {d : D}, ObjR k F a o d → Rep k F d (.ref a)
  | .lst ds, ⟨vs, e, r⟩ => ⟨a, vs, rfl, .inl (by rw [h, e]), r⟩
  | .dct kvs, ⟨es, e, n, r⟩ => ⟨a, es, rfl, by rw [h, e], n, r⟩
theorem ObjR.mut {k : Kx} {F : Hp} {a : Addr} {o : HO} : ∀ {d : D}, ObjR k F a o d → isMut d = true
  | .lst _, _ => rfl
  | .dct _, _ => rfl
/-- the value v is d, its own object standing in H, all that this holds in F -/
def RepT (k : Kx) (F H : Hp) : D → V → Prop
  | .lst ds, v => ∃ a vs, v = .ref a ∧ Rd H a (.lst vs) ∧ RepL k F ds vs
  | .dct kvs, v => ∃ a es, v = .ref a ∧ H a = some (dicO a es) ∧ kvsOk kvs ∧ RepP k F kvs es
  | d, v => Rep k F d v
theorem Rep.top {k : Kx} {F H : Hp} (s : Sub F H) : ∀ {d : D} {v : V}, Rep k F d v → RepT k F H d v
  | .lst ds, _, ⟨a, vs, e, q, r⟩ => ⟨a, vs, e, s.rd q, r⟩
  | .dct kvs, _, ⟨a, es, e, q, n, r⟩ => ⟨a, es, e, s _ _ q, n, r⟩
  | .non, _, h => h
  | .bl _, _, h => h
  | .int _, _, h => h
  | .str _, _, h => h
  | .tup _, _, h => h
  | .ins _ _, _, h => h
  | .exc _ _, _, h => h
  | .tape, _, h => h
theorem ObjR.top {k : Kx} {F H : Hp} {a : Addr} {o : HO} (h : H a = some o) : ∀ {d : D}, ObjR k F a o d → RepT k F H d (.ref a)
  | .lst ds, ⟨vs, e, r⟩ => ⟨a, vs, rfl, .inl (by rw [h, e]), r⟩
  | .dct kvs, ⟨es, e, n, r⟩ => ⟨a, es, rfl, by rw [h, e], n, r⟩
theorem RepT.rep {k : Kx} {F H : Hp} (s : Sub F H) : ∀ {d : D} {v : V}, RepT k F H d v → Rep k H d v
  | .lst ds, _, ⟨a, vs, e, q, r⟩ => ⟨a, vs, e, q, RepL.mono s ds vs r⟩
  | .dct kvs, _, ⟨a, es, e, q, n, r⟩ => ⟨a, es, e, q, n, RepP.mono s kvs es r⟩
  | .non, _, h => h
  | .bl _, _, h => h
  | .int _, _, h => h
  | .str _, _, h => h
  | .tup ds, v, h => Rep.mono s (.tup ds) v h
  | .ins c ds, v, h => Rep.mono s (.ins c ds) v h
  | .exc _ _, _, h => h
  | .tape, _, h => h

/-! ### the tape -/
structure TapeS (k : Kx) (H F : Hp) (t : Tape) : Prop where
  d : H k.tp = some (.dK [(.inr "large", .ref k.lp), (.inr "rest", .int t.rest), (.inr "cells", .ref k.cp), (.inr "turn", .int t.turn)])
  l : H k.lp = some (.lst (t.large.map V.int))
  c : H k.cp = some (.lst (t.cells.map V.int))
  fd : F k.tp = none
  fl : F k.lp = none
  fc : F k.cp = some (.lst (t.cells.map V.int))
  n1 : k.tp ≠ k.lp
  n2 : k.tp ≠ k.cp
  n3 : k.lp ≠ k.cp
def TapeOk (k : Kx) (H F : Hp) (t : Tape) : Prop := k.on = true → TapeS k H F t
def onTape (k : Kx) (a : Addr) : Prop := k.on = true ∧ (a = k.tp ∨ a = k.lp ∨ a = k.cp)
theorem TapeOk.same {k : Kx} {H F H' F' : Hp} {t : Tape} (x : TapeOk k H F t) (h : ∀ a, onTape k a → H' a = H a ∧ F' a = F a) : TapeOk k H' F' t := fun on =>
  have x := x on
  have ht := h k.tp ⟨on, .inl rfl⟩
  have hl := h k.lp ⟨on, .inr (.inl rfl)⟩
  have hc := h k.cp ⟨on, .inr (.inr rfl)⟩
  ⟨ht.1.trans x.d, hl.1.trans x.l, hc.1.trans x.c, ht.2.trans x.fd, hl.2.trans x.fl, hc.2.trans x.fc, x.n1, x.n2, x.n3⟩

/-! ### the state -/
/-- what is protected: the addresses of P stand as in H, F -/
structure Ct where
  k : Kx
  P : Addr → Prop
  H : Hp
  F : Hp
  hp : ∀ a, P a → ∃ o, H a = some o
  pt : ∀ a, P a → ¬ onTape k a
structure Rel (c : Ct) (ρ : Env) (t : Tape) (σ : L2.St) (H F : Hp) : Prop where
  sub : Sub F H
  prot : ∀ a, c.P a → H a = c.H a ∧ F a = c.F a
  tape : TapeOk c.k H F t
  len : ρ.length = σ.length
  frz : ∀ (i : Nat) (d : D), ρ[i]? = some (some (d, false)) → ∃ v, σ[i]? = some (some v) ∧ Rep c.k F d v
  own : ∀ (i : Nat) (d : D), ρ[i]? = some (some (d, true)) → ∃ a o, σ[i]? = some (some (V.ref a)) ∧ H a = some o ∧ F a = none ∧ ObjR c.k F a o d ∧ ¬ c.P a ∧ ¬ onTape c.k a
  sep : ∀ (i j : Nat) (d e : D) (a : Addr), ρ[i]? = some (some (d, true)) → ρ[j]? = some (some (e, true)) → σ[i]? = some (some (V.ref a)) → σ[j]? = some (some (V.ref a)) → i = j
section
variable {c : Ct} {ρ : Env} {t t' : Tape} {σ : L2.St} {H F H' F' : Hp}
/-- the heap has grown: what stood stands, new objects may be frozen -/
structure Ext (H F H' F' : Hp) : Prop where
  sub : Sub F' H'
  old : ∀ a o, H a = some o → H' a = some o ∧ F' a = F a
theorem Rel.ext (R : Rel c ρ t σ H F) (x : Ext H F H' F') (hs : Sub F F') : Rel c ρ t σ H' F' where
  sub := x.sub
  prot := fun a p => by
    obtain ⟨o, e⟩ := c.hp a p
    obtain ⟨h1, h2⟩ := R.prot a p
    obtain ⟨h3, h4⟩ := x.old a o (h1.trans e)
    exact ⟨h3.trans e.symm, h4.trans h2⟩
  tape := R.tape.same fun a ha => by
    have e : ∃ o, H a = some o := by
      obtain ⟨on, ha⟩ := ha
      rcases ha with e | e | e <;> subst e
      · exact ⟨_, (R.tape on).d⟩
      · exact ⟨_, (R.tape on).l⟩
      · exact ⟨_, (R.tape on).c⟩
    obtain ⟨o, e⟩ := e
    rw [(x.old a o e).1, e]
    exact ⟨rfl, (x.old a o e).2⟩
  len := R.len
  frz := fun i d e => let ⟨v, h1, h2⟩ := R.frz i d e; ⟨v, h1, h2.mono hs⟩
  own := fun i d e => by
    obtain ⟨a, o, h1, h2, h3, h4, h5⟩ := R.own i d e
    exact ⟨a, o, h1, (x.old a o h2).1, (x.old a o h2).2.trans h3, h4.mono hs, h5⟩
  sep := R.sep
/-- a temporary object is frozen -/
theorem Rel.freeze (R : Rel c ρ t σ H F) {a : Addr} {o : HO} (ha : H a = some o) (hf : F a = none) (hp : ¬ c.P a) (ht : ¬ onTape c.k a) (hn : ∀ (i : Nat) (d : D), ρ[i]? = some (some (d, true)) → σ[i]? ≠ some (some (V.ref a))) : Rel c ρ t σ H (upd F a o) ∧ Sub F (upd F a o) := by
  have hs : Sub F (upd F a o) := fun b u h => by
    rw [upd_ne (ne_of_none h hf)]
    exact h
  refine ⟨⟨fun b u h => ?_, fun b p => ⟨(R.prot b p).1, ?_⟩, R.tape.same fun b hb => ⟨rfl, upd_ne fun e => ht (e ▸ hb)⟩, R.len, fun i d e => ?_, fun i d e => ?_, R.sep⟩, hs⟩
  · by_cases e : b = a
    · subst e
      rw [upd_same] at h
      cases h
      exact ha
    · rw [upd_ne e] at h
      exact R.sub b u h
  · rw [upd_ne (fun (e : b = a) => hp (e ▸ p))]
    exact (R.prot b p).2
  · obtain ⟨v, h1, h2⟩ := R.frz i d e
    exact ⟨v, h1, h2.mono hs⟩
  · obtain ⟨b, u, h1, h2, h3, h4, h5⟩ := R.own i d e
    have nb : b ≠ a := fun z => hn i d e (by rw [h1, z])
    exact ⟨b, u, h1, h2, by rw [upd_ne nb]; exact h3, h4.mono hs, h5⟩
end

/-! ### exceptions -/
/-- the attribute that an error class's __init__ stores -/
def xfld : Nat → Str := fun n => if n < 100 then "part" else "index"
def XRep (k : Kx) (F H : Hp) (n : Nat) (l : List D) (dx : Option Addr) : Prop := match l with
  | [] => dx = none
  | [a] => ∃ dd v, dx = some dd ∧ H dd = some (.xd [(xfld n, v)]) ∧ Rep k F a v
  | _ => False

/-! ### the readings -/
/-- what an operand's value is: where it stands in its slot, or frozen -/
def Opd (k : Kx) (ρ : Env) (σ : L2.St) (F : Hp) : Ex → D → V → Prop
  | .bor i, d, v => σ[i]? = some (some v) ∧ getB ρ i = some d
  | _, d, v => Rep k F d v
def isBor : Ex → Bool
  | .bor _ => true
  | _ => false
theorem Opd.rep {k : Kx} {ρ : Env} {σ : L2.St} {F : Hp} : ∀ {e : Ex} {d : D} {v : V}, isBor e = false → Opd k ρ σ F e d v → Rep k F d v := fun {e d v} hb h => by
  cases e <;> first | exact h | cases hb
theorem Opd.of {k : Kx} {ρ : Env} {σ : L2.St} {F : Hp} : ∀ {e : Ex} {d : D} {v : V}, isBor e = false → Rep k F d v → Opd k ρ σ F e d v := fun {e d v} hb h => by
  cases e <;> first | exact h | cases hb
theorem Opd.mono {k : Kx} {ρ : Env} {σ : L2.St} {F G : Hp} (s : Sub F G) : ∀ {e : Ex} {d : D} {v : V}, Opd k ρ σ F e d v → Opd k ρ σ G e d v := fun {e d v} h => by
  cases hb : isBor e with
  | false => exact .of hb ((h.rep hb).mono s)
  | true => cases e <;> first | exact h | cases hb
theorem Opd.top {c : Ct} {ρ : Env} {t : Tape} {σ : L2.St} {H F : Hp} (R : Rel c ρ t σ H F) : ∀ {e : Ex} {d : D} {v : V}, Opd c.k ρ σ F e d v → RepT c.k F H d v := fun {e d v} h => by
  cases hb : isBor e with
  | false => exact (h.rep hb).top R.sub
  | true =>
    cases e with
    | bor i =>
      obtain ⟨h1, h2⟩ := h
      unfold getB at h2
      cases q : ρ[i]? with
      | none => rw [q] at h2; cases h2
      | some x =>
        rw [q] at h2
        cases x with
        | none => cases h2
        | some p =>
          obtain ⟨d', o⟩ := p
          cases o with
          | false =>
            have e : d' = d := Option.some.inj h2
            subst e
            obtain ⟨v', h3, h4⟩ := R.frz i d' q
            rw [h3] at h1
            cases h1
            exact h4.top R.sub
          | true =>
            have e : d' = d := Option.some.inj h2
            subst e
            obtain ⟨a, o, h3, h4, h5, h6, _⟩ := R.own i d' q
            rw [h3] at h1
            cases h1
            exact h6.top h4
    | _ => cases hb

/-- an object just made at p -/
def ObjN (k : Kx) (F : Hp) (p : Addr) (o : HO) : D → Prop
  | .tup ds => ∃ vs ob, o = .frz ob (.tup vs) ∧ ob.dict = none ∧ RepL k F ds vs
  | d => ObjR k F p o d
/-- a value that came: what stood, or one new object -/
def New (k : Kx) (F H : Hp) (d : D) (v : V) (H' : Hp) : Prop := (H' = H ∧ Rep k F d v) ∨ ∃ p o, H p = none ∧ v = .ref p ∧ H' = upd H p o ∧ ObjN k F p o d
/-- a pair just made, as it is walked: all of its object is not known -/
def RepW (k : Kx) (wk : Bool) (F H : Hp) (d : D) (v : V) : Prop := Rep k F d v ∨ (wk = true ∧ ∃ p ds vs, d = .tup ds ∧ v = .ref p ∧ H p = some (.tup vs) ∧ RepL k F ds vs)
def NewW (k : Kx) (wk : Bool) (F H : Hp) (d : D) (v : V) (H' : Hp) : Prop := New k F H d v H' ∨ (wk = true ∧ ∃ p ds vs, H p = none ∧ d = .tup ds ∧ v = .ref p ∧ H' = upd H p (.tup vs) ∧ RepL k F ds vs)
/-- .. fr: a list or a dict is a new one -/
def NewF (fr : Bool) (k : Kx) (F H : Hp) (d : D) (v : V) (H' : Hp) : Prop := (H' = H ∧ Rep k F d v ∧ (fr = true → isMut d = false)) ∨ ∃ p o, H p = none ∧ v = .ref p ∧ H' = upd H p o ∧ ObjN k F p o d
theorem NewF.new {fr : Bool} {k : Kx} {F H H' : Hp} {d : D} {v : V} (n : NewF fr k F H d v H') : New k F H d v H' := n.elim (fun z => .inl ⟨z.1, z.2.1⟩) .inr
theorem NewF.int {fr : Bool} {k : Kx} {F H : Hp} {i : Int} : NewF fr k F H (.int i) (.int i) H := .inl ⟨rfl, rfl, fun _ => rfl⟩
theorem NewF.bl {fr : Bool} {k : Kx} {F H : Hp} {b : Bool} : NewF fr k F H (.bl b) (.bl b) H := .inl ⟨rfl, rfl, fun _ => rfl⟩
theorem ObjN.mono {k : Kx} {F G : Hp} (s : Sub F G) {p : Addr} {o : HO} : ∀ {d : D}, ObjN k F p o d → ObjN k G p o d
  | .tup ds, ⟨vs, ob, e, d, r⟩ => ⟨vs, ob, e, d, RepL.mono s ds vs r⟩
  | .lst ds, h => ObjR.mono (a := p) (o := o) (d := .lst ds) s h
  | .dct ds, h => ObjR.mono (a := p) (o := o) (d := .dct ds) s h
theorem ObjN.rep {k : Kx} {F : Hp} {p : Addr} {o : HO} (h : F p = some o) : ∀ {d : D}, ObjN k F p o d → Rep k F d (.ref p)
  | .tup ds, ⟨vs, ob, e, d, r⟩ => ⟨p, vs, rfl, ⟨ob, by rw [h, e], d⟩, r⟩
  | .lst ds, x => ObjR.rep (d := .lst ds) h x
  | .dct ds, x => ObjR.rep (d := .dct ds) h x
theorem sub_upd {F : Hp} {p : Addr} {o : HO} (h : F p = none) : Sub F (upd F p o) := fun b u e => by
  rw [upd_ne (ne_of_none e h)]
  exact e
theorem ext_new {F H : Hp} (s : Sub F H) {p : Addr} {o : HO} (h : H p = none) : Ext H F (upd H p o) (upd F p o) := ⟨fun b u e => by
  by_cases z : b = p
  · subst z
    rw [upd_same] at e ⊢
    exact e
  · rw [upd_ne z] at e ⊢
    exact s b u e, fun b u e => by
  have z := ne_of_none e h
  rw [upd_ne z, upd_ne z]
  exact ⟨e, rfl⟩⟩
theorem ext_loose {F H : Hp} (s : Sub F H) {p : Addr} {o : HO} (h : H p = none) : Ext H F (upd H p o) F := ⟨fun b u e => by
  rw [upd_ne (ne_of_none (s b u e) h)]
  exact s b u e, fun b u e => by
  rw [upd_ne (ne_of_none e h)]
  exact ⟨e, rfl⟩⟩
theorem Sub.none {F H : Hp} (s : Sub F H) {p : Addr} (h : H p = none) : F p = none := by
  cases q : F p with
  | none => rfl
  | some o => rw [s p o q] at h; cases h
theorem New.frz {c : Ct} {ρ : Env} {t : Tape} {σ : L2.St} {H F H' : Hp} {d : D} {v : V} (R : Rel c ρ t σ H F) (n : New c.k F H d v H') : ∃ F', Rel c ρ t σ H' F' ∧ Sub F F' ∧ Rep c.k F' d v := by
  rcases n with ⟨e, r⟩ | ⟨p, o, hp, e, eH, r⟩
  · subst e
    exact ⟨F, R, Sub.refl, r⟩
  · subst e eH
    have hf := R.sub.none hp
    exact ⟨upd F p o, R.ext (ext_new R.sub hp) (sub_upd hf), sub_upd hf, (r.mono (sub_upd hf)).rep upd_same⟩

/-- what stood stands: the tape aside -/
def Keep (k : Kx) (H H' : Hp) : Prop := ∀ a o, H a = some o → ¬ onTape k a → H' a = some o
theorem Keep.refl {k : Kx} {H : Hp} : Keep k H H := fun _ _ h _ => h
theorem Keep.trans {k : Kx} {H H' H'' : Hp} (x : Keep k H H') (y : Keep k H' H'') : Keep k H H'' := fun a o h n => y a o (x a o h n) n
theorem Keep.new {k : Kx} {H : Hp} {p : Addr} {u : HO} (h : H p = none) : Keep k H (upd H p u) := fun a o e _ => by
  rw [upd_ne (ne_of_none e h)]
  exact e
theorem New.keep {k : Kx} {F H H' : Hp} {d : D} {v : V} (n : New k F H d v H') : Keep k H H' := by
  rcases n with ⟨e, _⟩ | ⟨p, o, hp, _, e, _⟩
  · rw [e]; exact .refl
  · rw [e]; exact .new hp
theorem NewW.frz {c : Ct} {ρ : Env} {t : Tape} {σ : L2.St} {H F H' : Hp} {d : D} {v : V} {wk : Bool} (R : Rel c ρ t σ H F) (n : NewW c.k wk F H d v H') : ∃ F', Rel c ρ t σ H' F' ∧ Sub F F' ∧ RepW c.k wk F' H' d v := by
  rcases n with n | ⟨w, p, ds, vs, hp, e, ev, eH, r⟩
  · obtain ⟨F', R', s, rp⟩ := n.frz R
    exact ⟨F', R', s, .inl rp⟩
  · subst e ev eH
    exact ⟨F, R.ext (ext_loose R.sub hp) .refl, .refl, .inr ⟨w, p, ds, vs, rfl, rfl, upd_same, r⟩⟩
theorem NewW.keep {k : Kx} {F H H' : Hp} {d : D} {v : V} {wk : Bool} (n : NewW k wk F H d v H') : Keep k H H' := by
  rcases n with n | ⟨_, p, ds, vs, hp, _, _, e, _⟩
  · exact n.keep
  · rw [e]; exact .new hp
def Out {α : Type} (E : XK) (c : Ct) (ρ : Env) (σ : L2.St) (H F : Hp) (t' : Tape) (ok : α → Hp → Hp → Prop) : Res α → Prop
  | .ok a => ∀ H' F', Rel c ρ t' σ H' F' → Sub F F' → Keep c.k H H' → ok a H' F'
  | .ex n l => ∀ H' F' dx, Rel c ρ t' σ H' F' → Sub F F' → Keep c.k H H' → XRep c.k F' H' n l dx → E (.ref (c.k.ec n)) dx H'
theorem Out.sub {α : Type} {E : XK} {c : Ct} {ρ : Env} {σ : L2.St} {F G H H' : Hp} {t' : Tape} {ok : α → Hp → Hp → Prop} (s : Sub F G) (kp : Keep c.k H H') : ∀ {r : Res α}, Out E c ρ σ H F t' ok r → Out E c ρ σ H' G t' ok r
  | .ok _, h => fun H' F' R q z => h H' F' R (s.trans q) (kp.trans z)
  | .ex _ _, h => fun H' F' dx R q z => h H' F' dx R (s.trans q) (kp.trans z)
section
variable (Φ : Nat → List D → M D) (k : Kx) (E : XK)
/-- the reading of an expression: what the evaluator says of it -/
def T (e : Ex) : TE := fun σ H Q => ∃ c ρ t F, c.k = k ∧ Rel c ρ t σ H F ∧ ∃ r t', ev Φ e ρ t = some (r, t') ∧ Out E c ρ σ H F t' (fun d H' F' => ∀ v, Opd k ρ σ F' e d v → Q v H') r
/-- .. of arguments -/
def OpdL (k : Kx) (ρ : Env) (σ : L2.St) (F : Hp) : List Ex → List D → List V → Prop
  | [], ds, vs => ds = [] ∧ vs = []
  | e :: es, ds, vs => ∃ d dr v vr, ds = d :: dr ∧ vs = v :: vr ∧ Opd k ρ σ F e d v ∧ OpdL k ρ σ F es dr vr
def TL (es : List Ex) : TA := fun σ H Q => ∃ c ρ t F, c.k = k ∧ Rel c ρ t σ H F ∧ ∃ r t', evs Φ es ρ t = some (r, t') ∧ Out E c ρ σ H F t' (fun ds H' F' => ∀ vs, OpdL k ρ σ F' es ds vs → Q vs H') r
/-- .. of a test -/
def TT' (e : Ex) : TT := fun σ H Q => ∃ c ρ t F, c.k = k ∧ Rel c ρ t σ H F ∧ ∃ r t', bnd (ev Φ e ρ) (fun x => lft (truth x)) t = some (r, t') ∧ Out E c ρ σ H F t' (fun b H' _ => Q b H') r
end
theorem OpdL.rep {k : Kx} {ρ : Env} {σ : L2.St} {F : Hp} : ∀ {es : List Ex} {ds : List D} {vs : List V}, (es.any isBor) = false → OpdL k ρ σ F es ds vs → RepL k F ds vs
  | [], _, _, _, ⟨h1, h2⟩ => by subst h1 h2; rfl
  | e :: es, _, _, hb, ⟨d, dr, v, vr, h1, h2, h3, h4⟩ => by
    subst h1 h2
    rw [List.any_cons, Bool.or_eq_false_iff] at hb
    exact ⟨v, vr, rfl, h3.rep hb.1, OpdL.rep hb.2 h4⟩
theorem OpdL.mono {k : Kx} {ρ : Env} {σ : L2.St} {F G : Hp} (s : Sub F G) : ∀ {es : List Ex} {ds : List D} {vs : List V}, OpdL k ρ σ F es ds vs → OpdL k ρ σ G es ds vs
  | [], _, _, h => h
  | e :: es, _, _, ⟨d, dr, v, vr, h1, h2, h3, h4⟩ => ⟨d, dr, v, vr, h1, h2, h3.mono s, OpdL.mono s h4⟩
section
variable {Φ : Nat → List D → M D} {k : Kx} {E : XK} {c : Ct} {ρ : Env} {t t' : Tape} {σ : L2.St} {H F : Hp}
theorem T_bind {α : Type} {a : Ex} {f : D → M α} {r : Res α} {ok : α → Hp → Hp → Prop} {K : VK} (hk : c.k = k) (R : Rel c ρ t σ H F) (h : bnd (ev Φ a ρ) f t = some (r, t')) (o : Out E c ρ σ H F t' ok r)
    (g : ∀ d t1 v H1 F1, ev Φ a ρ t = some (.ok d, t1) → f d t1 = some (r, t') → Rel c ρ t1 σ H1 F1 → Sub F F1 → Opd k ρ σ F1 a d v → Keep c.k H H1 → Out E c ρ σ H1 F1 t' ok r → K v H1) : T Φ k E a σ H K := by
  unfold bnd at h
  cases q : ev Φ a ρ t with
  | none => rw [q] at h; cases h
  | some p =>
    obtain ⟨x, t1⟩ := p
    rw [q] at h
    cases x with
    | ok d => exact ⟨c, ρ, t, F, hk, R, .ok d, t1, q, fun H1 F1 R1 s1 z1 v hv => g d t1 v H1 F1 q h R1 s1 hv z1 (o.sub s1 z1)⟩
    | ex n l =>
      cases h
      exact ⟨c, ρ, t, F, hk, R, .ex n l, t', q, o⟩
theorem TL_bind {α : Type} {es : List Ex} {f : List D → M α} {r : Res α} {ok : α → Hp → Hp → Prop} {K : List V → Hp → Prop} (hk : c.k = k) (R : Rel c ρ t σ H F) (h : bnd (evs Φ es ρ) f t = some (r, t')) (o : Out E c ρ σ H F t' ok r)
    (g : ∀ ds t1 vs H1 F1, evs Φ es ρ t = some (.ok ds, t1) → f ds t1 = some (r, t') → Rel c ρ t1 σ H1 F1 → Sub F F1 → OpdL k ρ σ F1 es ds vs → Keep c.k H H1 → Out E c ρ σ H1 F1 t' ok r → K vs H1) : TL Φ k E es σ H K := by
  unfold bnd at h
  cases q : evs Φ es ρ t with
  | none => rw [q] at h; cases h
  | some p =>
    obtain ⟨x, t1⟩ := p
    rw [q] at h
    cases x with
    | ok d => exact ⟨c, ρ, t, F, hk, R, .ok d, t1, q, fun H1 F1 R1 s1 z1 v hv => g d t1 v H1 F1 q h R1 s1 hv z1 (o.sub s1 z1)⟩
    | ex n l =>
      cases h
      exact ⟨c, ρ, t, F, hk, R, .ex n l, t', q, o⟩
theorem lft_some' {α : Type} {o : Option α} {t t' : Tape} {r : Res α} (h : lft o t = some (r, t')) : ∃ a, o = some a ∧ r = .ok a ∧ t' = t := by
  cases o with
  | none => cases h
  | some a => cases h; exact ⟨a, rfl, rfl, rfl⟩
end
theorem _root_.L2.PE.weak {X : Cx} {e : Expr} {t u : TE} (h : PE X e t) (w : ∀ σ H Q, u σ H Q → t σ H Q) : PE X e u := ⟨fun pins s σ H Q I q => h.run pins s σ H Q I (w σ H Q q)⟩
theorem _root_.L2.PT.weak {X : Cx} {e : Expr} {t u : TT} (h : PT X e t) (w : ∀ σ H Q, u σ H Q → t σ H Q) : PT X e u := ⟨fun pins s σ H Q I q => h.run pins s σ H Q I (w σ H Q q)⟩
theorem _root_.L2.PA.weak {X : Cx} {e : List Expr} {t u : TA} (h : PA X e t) (w : ∀ σ H Q, u σ H Q → t σ H Q) : PA X e u := ⟨fun pos pins s σ H Q I q => h.run pos pins s σ H Q I (w σ H Q q)⟩
theorem _root_.L2.PS.weak {X : Cx} {e : Stmt} {t u : TS} (h : PS X e t) (w : ∀ D σ H, u D σ H → t D σ H) : PS X e u := ⟨fun pins s σ H D I q => h.run pins s σ H D I (w D σ H q)⟩
theorem _root_.L2.PSs.weak {X : Cx} {e : List Stmt} {t u : TS} (h : PSs X e t) (w : ∀ D σ H, u D σ H → t D σ H) : PSs X e u := ⟨fun pins s σ H D I q => h.run pins s σ H D I (w D σ H q)⟩
end VS
end
section
set_option Elab.async false
set_option linter.all false
set_option maxRecDepth 100000
set_option maxHeartbeats 4000000
set_option autoImplicit false
/-! V4a: the operators, by values. -/
namespace VS
open PySem PySem.Spec PyProof.Rows L2

/-! ### plain data as the library's data -/
mutual
def toPy : D → PyData
  | .bl b => .bool b
  | .int i => .int i
  | .str x => .str x
  | .tup l => .tuple (toPys l)
  | .lst l => .list (toPys l)
  | _ => .none
def toPys : List D → List PyData
  | [] => []
  | d :: ds => toPy d :: toPys ds
end
theorem toPys_map : ∀ l : List D, toPys l = l.map toPy
  | [] => rfl
  | d :: ds => by rw [toPys, toPys_map ds]; rfl
theorem plain_all {n : Nat} {l : List D} (h : l.all (plain n) = true) : ∀ d ∈ l, plain n d = true := fun d m => List.all_eq_true.mp h d m
theorem plain_tup {n : Nat} {l : List D} (h : plain n (.tup l) = true) : ∃ m, n = m + 1 ∧ l.all (plain m) = true := by
  cases n with
  | zero => cases h
  | succ m => exact ⟨m, rfl, h⟩
theorem plain_lst {n : Nat} {l : List D} (h : plain n (.lst l) = true) : ∃ m, n = m + 1 ∧ l.all (plain m) = true := by
  cases n with
  | zero => cases h
  | succ m => exact ⟨m, rfl, h⟩
theorem plain_tup_of {n : Nat} {l : List D} (h : l.all (plain n) = true) : plain (n + 1) (.tup l) = true := h
theorem plain_lst_of {n : Nat} {l : List D} (h : l.all (plain n) = true) : plain (n + 1) (.lst l) = true := h
mutual
theorem toPy_lay : ∀ (d : D) (n : Nat), plain n d = true → (toPy d).canLay0 = true ∧ (toPy d).depth ≤ n
  | .non, _, _ => ⟨rfl, Nat.zero_le _⟩
  | .bl _, _, _ => ⟨rfl, Nat.zero_le _⟩
  | .int _, _, _ => ⟨rfl, Nat.zero_le _⟩
  | .str x, n, h => ⟨by cases n <;> exact h, Nat.zero_le _⟩
  | .tup l, n, h => by
    obtain ⟨m, e, h⟩ := plain_tup h
    subst e
    obtain ⟨h1, h2⟩ := toPys_lay l m (plain_all h)
    exact ⟨h1, Nat.succ_le_succ h2⟩
  | .lst l, n, h => by
    obtain ⟨m, e, h⟩ := plain_lst h
    subst e
    obtain ⟨h1, h2⟩ := toPys_lay l m (plain_all h)
    exact ⟨h1, Nat.succ_le_succ h2⟩
  | .dct _, n, h => by cases n <;> cases h
  | .ins _ _, n, h => by cases n <;> cases h
  | .exc _ _, n, h => by cases n <;> cases h
  | .tape, n, h => by cases n <;> cases h
theorem toPys_lay : ∀ (l : List D) (n : Nat), (∀ d ∈ l, plain n d = true) → PyData.canLayAll0 (toPys l) = true ∧ PyData.depthAll (toPys l) ≤ n
  | [], _, _ => ⟨rfl, Nat.zero_le _⟩
  | d :: ds, n, h => by
    obtain ⟨h1, h2⟩ := toPy_lay d n (h d (List.mem_cons_self ..))
    obtain ⟨h3, h4⟩ := toPys_lay ds n fun e m => h e (List.mem_cons_of_mem _ m)
    refine ⟨?_, ?_⟩
    · show ((toPy d).canLay0 && PyData.canLayAll0 (toPys ds)) = true
      rw [h1, h3]
      rfl
    · show max (toPy d).depth (PyData.depthAll (toPys ds)) ≤ n
      omega
end
theorem shaped_of {d : D} (h : plain 60 d = true) : SeqAt.shaped (toPy d) = true := by
  obtain ⟨h1, h2⟩ := toPy_lay d 60 h
  unfold SeqAt.shaped
  rw [h1]
  exact decide_eq_true (by omega)
mutual
theorem Rep.dp {k : Kx} {F : Hp} {K : PySem.W.Frag} : ∀ (d : D) (v : V) (n : Nat), plain n d = true → Rep k F d v → Dp K F v (toPy d)
  | .non, _, _, _, h => by rw [show _ = _ from h]; exact .non
  | .bl b, _, _, _, h => by rw [show _ = _ from h]; exact .bl b
  | .int i, _, _, _, h => by rw [show _ = _ from h]; exact .int i
  | .str x, _, _, _, h => by rw [show _ = _ from h]; exact .str x
  | .tup l, _, n, hp, ⟨a, vs, e, q, r⟩ => by
    obtain ⟨m, _, hp⟩ := plain_tup hp
    rw [e]
    exact .tup (.inl q.rd) (RepL.dp l vs m (plain_all hp) r)
  | .lst l, _, n, hp, ⟨a, vs, e, q, r⟩ => by
    obtain ⟨m, _, hp⟩ := plain_lst hp
    rw [e]
    exact .lst (.inl q) (RepL.dp l vs m (plain_all hp) r)
  | .dct _, _, n, h, _ => by cases n <;> cases h
  | .ins _ _, _, n, h, _ => by cases n <;> cases h
  | .exc _ _, _, n, h, _ => by cases n <;> cases h
  | .tape, _, n, h, _ => by cases n <;> cases h
theorem RepL.dp {k : Kx} {F : Hp} {K : PySem.W.Frag} : ∀ (l : List D) (vs : List V) (n : Nat), (∀ d ∈ l, plain n d = true) → RepL k F l vs → DpAll K F vs (toPys l)
  | [], _, _, _, h => by rw [show _ = _ from h]; exact .nil
  | d :: ds, _, n, hp, ⟨v, r, e, h, t⟩ => by
    rw [e]
    exact .cons (Rep.dp d v n (hp d (List.mem_cons_self ..)) h) (RepL.dp ds r n (fun x m => hp x (List.mem_cons_of_mem _ m)) t)
end
theorem RepT.dp {k : Kx} {F H : Hp} {K : PySem.W.Frag} (s : Sub F H) {d : D} {v : V} {n : Nat} (hp : plain n d = true) (h : RepT k F H d v) : Dp K H v (toPy d) := Rep.dp d v n hp (h.rep s)
mutual
theorem pyEq_eqv : ∀ (a b : D) (n m : Nat), plain n a = true → plain m b = true → pyEq a b = PyData.eqv (toPy a) (toPy b)
  | .non, b, _, m, _, hb => by cases b <;> first | rfl | (cases m <;> cases hb)
  | .bl x, b, _, m, _, hb => by cases b <;> first | rfl | (cases m <;> cases hb)
  | .int x, b, _, m, _, hb => by cases b <;> first | rfl | (cases m <;> cases hb)
  | .str x, b, _, m, _, hb => by cases b <;> first | rfl | (cases m <;> cases hb)
  | .tup l, b, n, m, ha, hb => by
    obtain ⟨n', _, ha⟩ := plain_tup ha
    cases b with
    | tup l' =>
      obtain ⟨m', _, hb⟩ := plain_tup hb
      exact pyEqL_eqv l l' n' m' (plain_all ha) (plain_all hb)
    | _ => first | rfl | (cases m <;> cases hb)
  | .lst l, b, n, m, ha, hb => by
    obtain ⟨n', _, ha⟩ := plain_lst ha
    cases b with
    | lst l' =>
      obtain ⟨m', _, hb⟩ := plain_lst hb
      exact pyEqL_eqv l l' n' m' (plain_all ha) (plain_all hb)
    | _ => first | rfl | (cases m <;> cases hb)
  | .dct _, _, n, _, h, _ => by cases n <;> cases h
  | .ins _ _, _, n, _, h, _ => by cases n <;> cases h
  | .exc _ _, _, n, _, h, _ => by cases n <;> cases h
  | .tape, _, n, _, h, _ => by cases n <;> cases h
theorem pyEqL_eqv : ∀ (a b : List D) (n m : Nat), (∀ d ∈ a, plain n d = true) → (∀ d ∈ b, plain m d = true) → pyEqL a b = PyData.eqvAll (toPys a) (toPys b)
  | [], b, _, _, _, _ => by cases b <;> rfl
  | a :: as, b, n, m, ha, hb => by
    cases b with
    | nil => rfl
    | cons b bs =>
      show (pyEq a b && pyEqL as bs) = (PyData.eqv (toPy a) (toPy b) && PyData.eqvAll (toPys as) (toPys bs))
      rw [pyEq_eqv a b n m (ha a (List.mem_cons_self ..)) (hb b (List.mem_cons_self ..)), pyEqL_eqv as bs n m (fun x h => ha x (List.mem_cons_of_mem _ h)) fun x h => hb x (List.mem_cons_of_mem _ h)]
end
theorem any_eqv {l : List D} {x : D} (hl : l.all (plain 60) = true) (hx : plain 60 x = true) : (toPys l).any (fun z => PyData.eqv z (toPy x)) = l.any fun y => pyEq y x := by
  rw [toPys_map]
  induction l with
  | nil => rfl
  | cons d ds ih =>
    rw [List.all_cons, Bool.and_eq_true] at hl
    rw [List.map_cons, List.any_cons, List.any_cons, ih hl.2, pyEq_eqv d x 60 60 hl.1 hx]

/-! ### readings of operators -/
def rV2 (k : Kx) (sem : D → D → Option D) : R2 := fun x y H Q => ∃ F d1 d2 d, Sub F H ∧ RepT k F H d1 x ∧ RepT k F H d2 y ∧ sem d1 d2 = some d ∧ ∀ v H', New k F H d v H' → Q v H'
section
variable {X : Cx} {k : Kx}
theorem lim_eq : lim = sizeLine := rfl
theorem Inv.rdL {pins : List (Addr × Obj)} {σ : L2.St} {H : Hp} {s : Shared} {a : Addr} {vs : List V} (I : Inv X pins σ H s) (h : Rd H a (.lst vs)) : vs.length ≤ sizeLine ∧ ∃ (its : List Value) (n : Nat), Vals vs its ∧ s.heap.get? a = some { cls := .type "list", data := .seq its.toArray n } := by
  obtain ⟨z, its, n, r, e⟩ := h.ok I.hok
  exact ⟨z, its, n, r, e⟩
/-- .. a list or a dict being a new one -/
def rF2 (k : Kx) (sem : D → D → Option D) : R2 := fun x y H Q => ∃ F d1 d2 d, Sub F H ∧ RepT k F H d1 x ∧ RepT k F H d2 y ∧ sem d1 d2 = some d ∧ ∀ v H', NewF true k F H d v H' → Q v H'
theorem New.int {F H : Hp} {i : Int} : New k F H (.int i) (.int i) H := .inl ⟨rfl, rfl⟩
theorem New.bl {F H : Hp} {b : Bool} : New k F H (.bl b) (.bl b) H := .inl ⟨rfl, rfl⟩
/-- the object of a new tuple, whole -/
theorem tup_new {P : Program} {w : World} {G : Hp} {h : Heap} {xs : List V} {its : List Value} (hz : xs.length ≤ sizeLine) (r : Vals xs its) : ObjOk P w G (h.push { cls := .type "tuple", data := .seq its.toArray }) h.objs.size (.frz { cls := .type "tuple", data := .seq its.toArray } (.tup xs)) :=
  ⟨Heap.get?_push_size _ rfl, hz, its, r, IsTup.new _ _⟩
/-- t + u -/
def rCatX (K : PySem.W.Frag) : R2 := fun x y H Q => ∃ a b xs ys, x = .ref a ∧ y = .ref b ∧ SqT K H a xs ∧ SqT K H b ys ∧ xs.length + ys.length ≤ sizeLine ∧
  (xs = [] → Q (.ref b) H) ∧ (xs ≠ [] → ys = [] → Q (.ref a) H) ∧ (xs ≠ [] → ys ≠ [] → ∀ p ob, H p = none → ob.dict = none → Q (.ref p) (upd H p (.frz ob (.tup (xs ++ ys)))))
theorem op_catX : OpR X (binaryOp .Add) (rCatX X.K) := by
  intro pins s σ H x y v u Q I rx ry h
  obtain ⟨a, b, xs, ys, rfl, rfl, ha, hb, hz, q0, q1, q2⟩ := h
  cases rx
  cases ry
  obtain ⟨its, r1, p1, _⟩ := I.tuple ha
  obtain ⟨its2, r2, p2, _⟩ := I.tuple hb
  by_cases hx : xs = []
  · subst hx
    cases r1
    exact cat_tup0 p1 p2 ⟨.ref b, H, I, rfl, q0 rfl⟩
  · refine HT.cat_tup p1 p2 (fun z => hx (r1.nil_iff.mp z)) (fun z => ⟨.ref a, H, I, rfl, q1 hx (r2.nil_iff.mp z)⟩) (fun z => ?_) (by rw [← r1.length, ← r2.length]; exact hz)
    exact ⟨.ref s.heap.objs.size, _, I.laid (t' := s.toks) (fun b ob q => Heap.get?_push_of_some _ q) (Nat.le_refl _) (tup_new (by rw [List.length_append]; exact hz) (r1.append r2)), rfl, q2 hx (fun w => z (r2.nil_iff.mpr w)) _ _ (I.hok.fresh (Nat.le_refl _)) rfl⟩
theorem o_add : OpR X (binaryOp .Add) (rF2 k (binS .add)) := by
  rintro pins s σ H x y v u Q I rx ry ⟨F, d1, d2, d, hs, h1, h2, hd, q⟩
  cases d1 <;> cases d2 <;> first | (cases hd; done) | skip
  · rename_i a b
    cases h1
    cases h2
    cases hd
    exact op_add pins s σ H _ _ v u Q I rx ry ⟨a, b, rfl, rfl, q _ _ .int⟩
  · rename_i a b
    obtain ⟨p, vs, rfl, g1, r1⟩ := h1
    obtain ⟨p', vs', rfl, g2, r2⟩ := h2
    have hd' : (if a.length + b.length ≤ lim then some (D.tup (a ++ b)) else none) = some d := hd
    by_cases hz : a.length + b.length ≤ lim
    · rw [if_pos hz] at hd'
      cases hd'
      have l1 := r1.length
      have l2 := r2.length
      rw [lim_eq] at hz
      refine op_catX pins s σ H _ _ v u Q I rx ry ⟨p, p', vs, vs', rfl, rfl, .inl (hs.rd g1.rd), .inl (hs.rd g2.rd), by omega, fun e => ?_, fun _ e => ?_, fun _ _ n ob hn hd => ?_⟩
      · subst e
        have ea : a = [] := List.length_eq_zero_iff.mp (by rw [← l1]; rfl)
        subst ea
        exact q _ _ (.inl ⟨rfl, ⟨p', vs', rfl, g2, r2⟩, fun _ => rfl⟩)
      · subst e
        have ea : b = [] := List.length_eq_zero_iff.mp (by rw [← l2]; rfl)
        subst ea
        refine q _ _ (.inl ⟨rfl, ⟨p, vs, rfl, g1, ?_⟩, fun _ => rfl⟩)
        rw [List.append_nil]
        exact r1
      · exact q _ _ (.inr ⟨n, _, hn, rfl, rfl, _, ob, rfl, hd, r1.append r2⟩)
    · rw [if_neg hz] at hd'
      cases hd'
  · rename_i a b
    obtain ⟨p, vs, rfl, g1, r1⟩ := h1
    obtain ⟨p', vs', rfl, g2, r2⟩ := h2
    have hd' : (if a.length + b.length ≤ lim then some (D.lst (a ++ b)) else none) = some d := hd
    by_cases hz : a.length + b.length ≤ lim
    · rw [if_pos hz] at hd'
      cases hd'
      cases rx
      cases ry
      obtain ⟨z1, its, n, v1, e1⟩ := Inv.rdL I g1
      obtain ⟨z2, its2, n2, v2, e2⟩ := Inv.rdL I g2
      have l1 := r1.length
      have l2 := r2.length
      have m1 := v1.length
      have m2 := v2.length
      rw [lim_eq] at hz
      refine PySem.P.add_list e1 e2 ?_ (by rw [List.size_toArray, List.size_toArray]; omega)
      rw [show its.toArray ++ its2.toArray = (its ++ its2).toArray by simp]
      exact ⟨.ref _, _, I.lnew (t' := s.toks) (v1.append v2) (by rw [List.length_append]; omega), rfl, q _ _ (.inr ⟨_, _, I.fresh, rfl, rfl, _, rfl, r1.append r2⟩)⟩
    · rw [if_neg hz] at hd'
      cases hd'
theorem o_sub : OpR X (binaryOp .Sub) (rF2 k (binS .sub)) := by
  rintro pins s σ H x y v u Q I rx ry ⟨F, d1, d2, d, hs, h1, h2, hd, q⟩
  cases d1 <;> cases d2 <;> first | (cases hd; done) | skip
  rename_i a b
  cases h1
  cases h2
  cases hd
  exact op_sub pins s σ H _ _ v u Q I rx ry ⟨a, b, rfl, rfl, q _ _ .int⟩
theorem o_mul : OpR X (binaryOp .Mult) (rF2 k (binS .mul)) := by
  rintro pins s σ H x y v u Q I rx ry ⟨F, d1, d2, d, hs, h1, h2, hd, q⟩
  cases d1 <;> cases d2 <;> first | (cases hd; done) | skip
  rename_i a b
  cases h1
  cases h2
  have hd' : (if (small64 a || small64 b) = true then some (D.int (a * b)) else none) = some d := hd
  by_cases hz : (small64 a || small64 b) = true
  · rw [if_pos hz] at hd'
    cases hd'
    exact op_mul pins s σ H _ _ v u Q I rx ry ⟨a, b, rfl, rfl, (Bool.or_eq_true_iff.mp hz).imp of_decide_eq_true of_decide_eq_true, q _ _ .int⟩
  · rw [if_neg hz] at hd'
    cases hd'
theorem o_fdiv : OpR X (binaryOp .FloorDiv) (rF2 k (binS .fdiv)) := by
  rintro pins s σ H x y v u Q I rx ry ⟨F, d1, d2, d, hs, h1, h2, hd, q⟩
  cases d1 <;> cases d2 <;> first | (cases hd; done) | skip
  rename_i a b
  cases h1
  cases h2
  have hd' : (if b ≠ 0 ∧ b.natAbs < 1073741824 then some (D.int (a.fdiv b)) else none) = some d := hd
  by_cases hz : b ≠ 0 ∧ b.natAbs < 1073741824
  · rw [if_pos hz] at hd'
    cases hd'
    exact op_fdivN pins s σ H _ _ v u Q I rx ry ⟨a, b, rfl, rfl, hz, q _ _ .int⟩
  · rw [if_neg hz] at hd'
    cases hd'
theorem o_mod : OpR X (binaryOp .Mod) (rF2 k (binS .mod)) := by
  rintro pins s σ H x y v u Q I rx ry ⟨F, d1, d2, d, hs, h1, h2, hd, q⟩
  cases d1 <;> cases d2 <;> first | (cases hd; done) | skip
  rename_i a b
  cases h1
  cases h2
  have hd' : (if b ≠ 0 then some (D.int (a.fmod b)) else none) = some d := hd
  by_cases hz : b ≠ 0
  · rw [if_pos hz] at hd'
    cases hd'
    exact op_modN pins s σ H _ _ v u Q I rx ry ⟨a, b, rfl, rfl, hz, q _ _ .int⟩
  · rw [if_neg hz] at hd'
    cases hd'
theorem o_pow : OpR X (binaryOp .Pow) (rF2 k (binS .pow)) := by
  rintro pins s σ H x y v u Q I rx ry ⟨F, d1, d2, d, hs, h1, h2, hd, q⟩
  cases d1 <;> cases d2 <;> first | (cases hd; done) | skip
  rename_i a b
  cases h1
  cases h2
  have hd' : (if 0 ≤ b ∧ b ≤ 1000000 ∧ a.natAbs < 2 ^ 64 then some (D.int (a ^ b.toNat)) else none) = some d := hd
  by_cases hz : 0 ≤ b ∧ b ≤ 1000000 ∧ a.natAbs < 2 ^ 64
  · rw [if_pos hz] at hd'
    cases hd'
    exact op_pow pins s σ H _ _ v u Q I rx ry ⟨a, b, rfl, rfl, hz, q _ _ .int⟩
  · rw [if_neg hz] at hd'
    cases hd'
def opOf : Bop → Operator
  | .add => .Add
  | .sub => .Sub
  | .mul => .Mult
  | .fdiv => .FloorDiv
  | .mod => .Mod
  | .pow => .Pow
theorem o_bin (o : Bop) : OpR X (binaryOp (opOf o)) (rF2 k (binS o)) := by
  cases o
  · exact o_add
  · exact o_sub
  · exact o_mul
  · exact o_fdiv
  · exact o_mod
  · exact o_pow
end
end VS
end
section
set_option Elab.async false
set_option linter.all false
set_option maxRecDepth 100000
set_option maxHeartbeats 4000000
set_option autoImplicit false
/-! V4d: dicts whose keys are tuples (of any depth to 8). -/
namespace VS
open PySem PySem.Spec PyProof.Rows L2

mutual
theorem nkey_inj : ∀ (a b : D) (n m : Nat), isKey n a = true → isKey m b = true → nkey a = nkey b → a = b
  | .non, b, _, m, _, hb, e => by
    cases b with
    | non => rfl
    | int _ => cases e
    | str _ => cases e
    | tup _ => cases e
    | _ => cases m <;> cases hb
  | .int x, b, _, m, _, hb, e => by
    cases b with
    | non => cases e
    | int _ => cases e; rfl
    | str _ => cases e
    | tup _ => cases e
    | _ => cases m <;> cases hb
  | .str x, b, _, m, _, hb, e => by
    cases b with
    | non => cases e
    | int _ => cases e
    | str _ => cases e; rfl
    | tup _ => cases e
    | _ => cases m <;> cases hb
  | .tup l, b, n, m, ha, hb, e => by
    cases b with
    | non => cases e
    | int _ => cases e
    | str _ => cases e
    | tup l' =>
      cases n with
      | zero => cases ha
      | succ n =>
        cases m with
        | zero => cases hb
        | succ m =>
          have e' : nkeys l = nkeys l' := NestedKey.tup.inj e
          rw [nkeys_inj l l' n m (fun d h => List.all_eq_true.mp ha d h) (fun d h => List.all_eq_true.mp hb d h) e']
    | _ => cases m <;> cases hb
  | .bl _, _, n, _, ha, _, _ => by cases n <;> cases ha
  | .lst _, _, n, _, ha, _, _ => by cases n <;> cases ha
  | .dct _, _, n, _, ha, _, _ => by cases n <;> cases ha
  | .ins _ _, _, n, _, ha, _, _ => by cases n <;> cases ha
  | .exc _ _, _, n, _, ha, _, _ => by cases n <;> cases ha
  | .tape, _, n, _, ha, _, _ => by cases n <;> cases ha
theorem nkeys_inj : ∀ (a b : List D) (n m : Nat), (∀ d ∈ a, isKey n d = true) → (∀ d ∈ b, isKey m d = true) → nkeys a = nkeys b → a = b
  | [], b, _, _, _, _, e => by
    cases b with
    | nil => rfl
    | cons _ _ => cases e
  | a :: as, b, n, m, ha, hb, e => by
    cases b with
    | nil => cases e
    | cons b bs =>
      have e' : nkey a :: nkeys as = nkey b :: nkeys bs := e
      injection e' with e1 e2
      rw [nkey_inj a b n m (ha a (List.mem_cons_self ..)) (hb b (List.mem_cons_self ..)) e1, nkeys_inj as bs n m (fun d h => ha d (List.mem_cons_of_mem _ h)) (fun d h => hb d (List.mem_cons_of_mem _ h)) e2]
end
mutual
theorem nkey_depth : ∀ (a : D) (n : Nat), isKey n a = true → (nkey a).depth ≤ n
  | .non, _, _ => Nat.zero_le _
  | .int _, _, _ => Nat.zero_le _
  | .str _, _, _ => Nat.zero_le _
  | .tup l, n, h => by
    cases n with
    | zero => cases h
    | succ n => exact Nat.succ_le_succ (nkeys_depth l n fun d m => List.all_eq_true.mp h d m)
  | .bl _, n, ha => by cases n <;> cases ha
  | .lst _, n, ha => by cases n <;> cases ha
  | .dct _, n, ha => by cases n <;> cases ha
  | .ins _ _, n, ha => by cases n <;> cases ha
  | .exc _ _, n, ha => by cases n <;> cases ha
  | .tape, n, ha => by cases n <;> cases ha
theorem nkeys_depth : ∀ (a : List D) (n : Nat), (∀ d ∈ a, isKey n d = true) → NestedKey.depthAll (nkeys a) ≤ n
  | [], _, _ => Nat.zero_le _
  | a :: as, n, h => by
    have h1 := nkey_depth a n (h a (List.mem_cons_self ..))
    have h2 := nkeys_depth as n fun d m => h d (List.mem_cons_of_mem _ m)
    show max (nkey a).depth (NestedKey.depthAll (nkeys as)) ≤ n
    omega
end
theorem isKeyT_8 {k : D} (h : isKeyT k = true) : isKey 8 k = true := by
  cases k <;> first | exact h | cases h
theorem keyOk_8 {kvs : List (D × D)} {k : D} (h : keyOk kvs k = true) : isKey 8 k = true := isKeyT_8 (Bool.and_eq_true_iff.mp h).1
theorem keyOk_tup {kvs : List (D × D)} {l : List D} (h : keyOk kvs (.tup l) = true) : ∀ p ∈ kvs, isTup p.1 = true := fun p m => by
  have q := List.all_eq_true.mp (Bool.and_eq_true_iff.mp h).2 p m
  exact beq_iff_eq.mp q

section
variable {P : Program} {w : World} {H : Hp} {h : Heap}
mutual
theorem nested_of {k : Kx} (ok : HOk P w H h) : ∀ (d : D) (n : Nat) (v : V) (u : Value), isKey n d = true → Rep k H d v → RelV v u → NestedIs h (nkey d) u
  | .non, _, _, _, _, r, q => by cases r; cases q; exact .none
  | .int i, _, _, _, _, r, q => by cases r; obtain ⟨t, rfl⟩ := q; exact .int _ _
  | .str x, _, _, _, _, r, q => by cases r; obtain ⟨t, rfl⟩ := q; exact .text _ _
  | .tup l, n, _, _, hk, ⟨a, vs, e, g, r⟩, q => by
    cases n with
    | zero => cases hk
    | succ n =>
      cases e
      cases q
      obtain ⟨z, its, rv, o, ho, hc, m, hd⟩ := g.rd.ok ok
      exact .tup ho hc hd (nesteds_of ok l n vs its (fun d hm => List.all_eq_true.mp hk d hm) r rv)
  | .bl _, n, _, _, ha, _, _ => by cases n <;> cases ha
  | .lst _, n, _, _, ha, _, _ => by cases n <;> cases ha
  | .dct _, n, _, _, ha, _, _ => by cases n <;> cases ha
  | .ins _ _, n, _, _, ha, _, _ => by cases n <;> cases ha
  | .exc _ _, n, _, _, ha, _, _ => by cases n <;> cases ha
  | .tape, n, _, _, ha, _, _ => by cases n <;> cases ha
theorem nesteds_of {k : Kx} (ok : HOk P w H h) : ∀ (ds : List D) (n : Nat) (vs : List V) (us : List Value), (∀ d ∈ ds, isKey n d = true) → RepL k H ds vs → Vals vs us → NestedAll h (nkeys ds) us
  | [], _, _, _, _, r, q => by cases r; cases q; exact .nil
  | d :: ds, n, _, _, hk, ⟨v, r, e, h1, h2⟩, q => by
    cases e
    cases q with
    | cons q1 q2 => exact .cons (nested_of ok d n v _ (hk d (List.mem_cons_self ..)) h1 q1) (nesteds_of ok ds n r _ (fun x m => hk x (List.mem_cons_of_mem _ m)) h2 q2)
end
theorem key_is {k : Kx} (ok : HOk P w H h) {l : List D} {b : Addr} (hk : isKey 8 (.tup l) = true) (r : Rep k H (.tup l) (.ref b)) : (nestedKind P w).is h (nkey (.tup l)) b :=
  ⟨nested_of ok _ 8 _ _ hk r rfl, nkey_depth _ 8 hk⟩
end

/-- the entries of a dict with tuple keys -/
def XR (k : Kx) (F : Hp) : List (D × D) → List (NestedKey × Addr × Value) → Prop
  | [], xs => xs = []
  | (a, b) :: ps, xs => ∃ x r, xs = x :: r ∧ x.1 = nkey a ∧ isTup a = true ∧ Rep k F a (.ref x.2.1) ∧ (∃ y, Rep k F b y ∧ RelV y x.2.2) ∧ XR k F ps r
theorem XR.mono {k : Kx} {F G : Hp} (s : Sub F G) : ∀ {ps : List (D × D)} {xs : List (NestedKey × Addr × Value)}, XR k F ps xs → XR k G ps xs
  | [], _, h => h
  | (a, b) :: ps, _, ⟨x, r, e, h1, h2, h3, ⟨y, h4, h5⟩, h6⟩ => ⟨x, r, e, h1, h2, h3.mono s, ⟨y, h4.mono s, h5⟩, XR.mono s h6⟩
theorem XR.length {k : Kx} {F : Hp} : ∀ {ps : List (D × D)} {xs : List (NestedKey × Addr × Value)}, XR k F ps xs → xs.length = ps.length
  | [], _, h => by rw [h]; rfl
  | (a, b) :: ps, _, ⟨x, r, e, _, _, _, _, h6⟩ => by rw [e, List.length_cons, List.length_cons, XR.length h6]
theorem XR.keys {k : Kx} {F : Hp} : ∀ {ps : List (D × D)} {xs : List (NestedKey × Addr × Value)}, XR k F ps xs → xs.map (·.1) = ps.map fun p => nkey p.1
  | [], _, h => by rw [h]; rfl
  | (a, b) :: ps, _, ⟨x, r, e, h1, _, _, _, h6⟩ => by rw [e, List.map_cons, List.map_cons, XR.keys h6, h1]
theorem XR.of {k : Kx} {F : Hp} {P : Program} : ∀ {ps : List (D × D)} {es : List DictEntry}, RepP k F ps es → (∀ p ∈ ps, isTup p.1 = true) → ∃ xs, es = xs.map (entryOfKey (nestedKind P k.w)) ∧ XR k F ps xs
  | [], es, h, _ => ⟨[], by rw [h]; rfl, rfl⟩
  | (a, b) :: ps, es, ⟨e, r, q, hh, ⟨x, hx, rx⟩, ⟨y, hy, ry⟩, t⟩, ht => by
    obtain ⟨xs, e1, e2⟩ := XR.of (P := P) t fun p m => ht p (List.mem_cons_of_mem _ m)
    have hta : isTup a = true := ht _ (List.mem_cons_self ..)
    cases a with
    | tup l =>
      obtain ⟨c, vs, ex, g, rl⟩ := hx
      subst ex
      have ek : e.key = .ref c := rx
      refine ⟨(nkey (.tup l), c, e.val) :: xs, ?_, _, _, rfl, rfl, rfl, ⟨c, vs, rfl, g, rl⟩, ⟨y, hy, ry⟩, e2⟩
      rw [q, List.map_cons, e1]
      obtain ⟨eh, ekk, ev⟩ := e
      cases ek
      have hh' : eh = _ := hh
      rw [hh']
      rfl
    | _ => cases hta
theorem XR.rep {k : Kx} {F : Hp} {P : Program} : ∀ {ps : List (D × D)} {xs : List (NestedKey × Addr × Value)}, XR k F ps xs → RepP k F ps (xs.map (entryOfKey (nestedKind P k.w)))
  | [], _, h => by rw [h]; rfl
  | (a, b) :: ps, _, ⟨x, r, e, h1, _, h3, h4, h6⟩ => by
    rw [e, List.map_cons]
    refine ⟨_, _, rfl, ?_, ⟨_, h3, rfl⟩, h4, XR.rep h6⟩
    show NestedKey.hash k.w x.1 = _
    rw [h1]
theorem XR.get {k : Kx} {F : Hp} : ∀ {ps : List (D × D)} {xs : List (NestedKey × Addr × Value)} {q : D}, XR k F ps xs → (∀ p ∈ ps, isKey 8 p.1 = true) → isKey 8 q = true →
    match dget ps q with
    | some d => ∃ p y, atKey xs (nkey q) = some p ∧ Rep k F d y ∧ RelV y p.2
    | none => atKey xs (nkey q) = none
  | [], _, q, h, _, _ => by rw [h]; rfl
  | (a, b) :: ps, _, q, ⟨x, r, e, h1, _, h3, ⟨y, h4, h5⟩, h6⟩, hk, hq => by
    subst e
    have ih := XR.get h6 (fun p m => hk p (List.mem_cons_of_mem _ m)) hq
    by_cases ea : a = q
    · subst ea
      have e1 : dget ((a, b) :: ps) a = some b := by unfold dget; rw [if_pos rfl]
      rw [e1]
      refine ⟨x.2, y, ?_, h4, h5⟩
      unfold atKey
      rw [List.find?_cons, decide_eq_true h1]
      rfl
    · have e1 : dget ((a, b) :: ps) q = dget ps q := by
        show (if a = q then some b else dget ps q) = _
        rw [if_neg ea]
      have e2 : atKey (x :: r) (nkey q) = atKey r (nkey q) := by
        unfold atKey
        rw [List.find?_cons, decide_eq_false fun z => ea (nkey_inj a q 8 8 (hk _ (List.mem_cons_self ..)) hq (h1.symm.trans z))]
      rw [e1, e2]
      exact ih
theorem dput_keys : ∀ (ps : List (D × D)) (q v : D), (dput ps q v).map (·.1) = if (dget ps q).isSome then ps.map (·.1) else ps.map (·.1) ++ [q]
  | [], q, v => rfl
  | (a, b) :: ps, q, v => by
    by_cases e : a = q
    · have e1 : dput ((a, b) :: ps) q v = (a, v) :: ps := by
        show (if a = q then _ else _) = _
        rw [if_pos e]
      have e2 : dget ((a, b) :: ps) q = some b := by
        show (if a = q then some b else dget ps q) = _
        rw [if_pos e]
      rw [e1, e2]
      rfl
    · have e1 : dput ((a, b) :: ps) q v = (a, b) :: dput ps q v := by
        show (if a = q then _ else _) = _
        rw [if_neg e]
      have e2 : dget ((a, b) :: ps) q = dget ps q := by
        show (if a = q then some b else dget ps q) = _
        rw [if_neg e]
      rw [e1, e2, List.map_cons, dput_keys ps q v]
      cases (dget ps q).isSome <;> rfl
theorem dget_mem : ∀ {ps : List (D × D)} {q : D}, (dget ps q).isSome = decide (q ∈ ps.map (·.1))
  | [], q => rfl
  | (a, b) :: ps, q => by
    show (if a = q then some b else dget ps q).isSome = _
    by_cases e : a = q
    · rw [if_pos e, e]
      simp
    · rw [if_neg e, dget_mem]
      have e' : q ≠ a := fun z => e z.symm
      simp [e']
theorem XR.put_new {k : Kx} {F : Hp} {q v : D} {c : Addr} {u : Value} {y : V} (hq : isTup q = true) (rq : Rep k F q (.ref c)) (rv : Rep k F v y) (ru : RelV y u) :
    ∀ {ps : List (D × D)} {xs : List (NestedKey × Addr × Value)}, XR k F ps xs → dget ps q = none → XR k F (dput ps q v) (xs ++ [(nkey q, c, u)])
  | [], _, h, _ => by rw [h]; exact ⟨_, [], rfl, rfl, hq, rq, ⟨y, rv, ru⟩, rfl⟩
  | (a, b) :: ps, _, ⟨x, r, e, h1, h2, h3, h4, h6⟩, hn => by
    subst e
    by_cases ea : a = q
    · have e2 : dget ((a, b) :: ps) q = some b := by
        show (if a = q then some b else dget ps q) = _
        rw [if_pos ea]
      rw [e2] at hn
      cases hn
    · have e2 : dget ((a, b) :: ps) q = dget ps q := by
        show (if a = q then some b else dget ps q) = _
        rw [if_neg ea]
      have e1 : dput ((a, b) :: ps) q v = (a, b) :: dput ps q v := by
        show (if a = q then _ else _) = _
        rw [if_neg ea]
      rw [e2] at hn
      rw [e1]
      exact ⟨x, _, rfl, h1, h2, h3, h4, XR.put_new hq rq rv ru h6 hn⟩
theorem map_put_none {xs : List (NestedKey × Addr × Value)} {q : NestedKey} {u : Value} (h : ∀ x ∈ xs, x.1 ≠ q) : xs.map (putAt q u) = xs := by
  induction xs with
  | nil => rfl
  | cons x xs ih =>
    rw [List.map_cons, ih fun y m => h y (List.mem_cons_of_mem _ m)]
    unfold putAt
    rw [if_neg (h x (List.mem_cons_self ..))]
theorem XR.put_old {k : Kx} {F : Hp} {q v : D} {u : Value} {y : V} (hq : isKey 8 q = true) (rv : Rep k F v y) (ru : RelV y u) :
    ∀ {ps : List (D × D)} {xs : List (NestedKey × Addr × Value)}, XR k F ps xs → (∀ p ∈ ps, isKey 8 p.1 = true) → (ps.map (·.1)).Nodup → (dget ps q).isSome = true → XR k F (dput ps q v) (xs.map (putAt (nkey q) u))
  | [], _, _, _, _, h => by cases h
  | (a, b) :: ps, _, ⟨x, r, e, h1, h2, h3, h4, h6⟩, hk, hn, hs => by
    subst e
    rw [List.map_cons, List.nodup_cons] at hn
    by_cases ea : a = q
    · have e1 : dput ((a, b) :: ps) q v = (a, v) :: ps := by
        show (if a = q then _ else _) = _
        rw [if_pos ea]
      have hx : putAt (nkey q) u x = (x.1, x.2.1, u) := by
        unfold putAt
        rw [if_pos (by rw [h1, ea])]
      have hr : r.map (putAt (nkey q) u) = r := by
        refine map_put_none fun z m hz => hn.1 ?_
        have m1 : z.1 ∈ r.map (·.1) := List.mem_map.mpr ⟨z, m, rfl⟩
        rw [h6.keys] at m1
        obtain ⟨p, hp, e⟩ := List.mem_map.mp m1
        rw [ea]
        have := nkey_inj p.1 q 8 8 (hk p (List.mem_cons_of_mem _ hp)) hq (e.trans hz)
        rw [← this]
        exact List.mem_map.mpr ⟨p, hp, rfl⟩
      rw [e1, List.map_cons, hx, hr]
      exact ⟨_, _, rfl, h1, h2, h3, ⟨y, rv, ru⟩, h6⟩
    · have e1 : dput ((a, b) :: ps) q v = (a, b) :: dput ps q v := by
        show (if a = q then _ else _) = _
        rw [if_neg ea]
      have e2 : dget ((a, b) :: ps) q = dget ps q := by
        show (if a = q then some b else dget ps q) = _
        rw [if_neg ea]
      have hx : putAt (nkey q) u x = x := by
        unfold putAt
        rw [if_neg fun z => ea (nkey_inj a q 8 8 (hk _ (List.mem_cons_self ..)) hq (h1.symm.trans z))]
      rw [e2] at hs
      rw [e1, List.map_cons, hx]
      exact ⟨x, _, rfl, h1, h2, h3, h4, XR.put_old hq rv ru h6 (fun p m => hk p (List.mem_cons_of_mem _ m)) hn.2 hs⟩
theorem kvsOk.keys {kvs : List (D × D)} (h : kvsOk kvs) : ∀ p ∈ kvs, isKey 8 p.1 = true := fun p m => keyOk_8 (h.2 p m)
theorem kvsOk.nil : kvsOk [] := ⟨List.nodup_nil, fun _ h => nomatch h⟩
theorem kvsOk.put {kvs : List (D × D)} {q v : D} (h : kvsOk kvs) (hq : keyOk kvs q = true) : kvsOk (dput kvs q v) := by
  have hk := dput_keys kvs q v
  have sort : ∀ p ∈ kvs, isTup p.1 = isTup q := fun p m => beq_iff_eq.mp (List.all_eq_true.mp (Bool.and_eq_true_iff.mp hq).2 p m)
  have mem : ∀ x, x ∈ (dput kvs q v).map (·.1) → x ∈ kvs.map (·.1) ∨ x = q := fun x m => by
    rw [hk] at m
    split at m
    · exact .inl m
    · simpa using m
  have tup : ∀ x ∈ (dput kvs q v).map (·.1), isTup x = isTup q ∧ isKeyT x = true := fun x m => by
    rcases mem x m with z | z
    · obtain ⟨p, hp, rfl⟩ := List.mem_map.mp z
      exact ⟨sort p hp, (Bool.and_eq_true_iff.mp (h.2 p hp)).1⟩
    · rw [z]
      exact ⟨rfl, (Bool.and_eq_true_iff.mp hq).1⟩
  refine ⟨?_, fun p m => ?_⟩
  · rw [hk]
    split
    · exact h.1
    · rename_i hn
      have hq' : q ∉ kvs.map (·.1) := fun z => hn (by rw [dget_mem]; exact decide_eq_true z)
      rw [List.nodup_append]
      refine ⟨h.1, by simp, fun a ha b hb => ?_⟩
      simp only [List.mem_singleton] at hb
      subst hb
      exact fun e => hq' (e ▸ ha)
  · have mp : p.1 ∈ (dput kvs q v).map (·.1) := List.mem_map.mpr ⟨p, m, rfl⟩
    obtain ⟨t1, t2⟩ := tup _ mp
    refine Bool.and_eq_true_iff.mpr ⟨t2, List.all_eq_true.mpr fun r hr => ?_⟩
    have mr : r.1 ∈ (dput kvs q v).map (·.1) := List.mem_map.mpr ⟨r, hr, rfl⟩
    obtain ⟨t3, _⟩ := tup _ mr
    rw [t1, t3]
    exact beq_self_eq_true _

section
variable {X : Cx} {k : Kx} {pins : List (Addr × Obj)} {σ : L2.St} {H F : Hp} {s : Shared}
/-- the object of a dict with tuple keys, for the library's rules -/
theorem dicH (I : Inv X pins σ H s) (hw : X.w = k.w) {a : Addr} {es : List DictEntry} {kvs : List (D × D)} (ha : H a = some (dicO a es)) (hs : Sub F H) (ok : kvsOk kvs) (r : RepP k F kvs es) (ht : ∀ p ∈ kvs, isTup p.1 = true) :
    ∃ xs, es = xs.map (entryOfKey (nestedKind X.prog X.w)) ∧ XR k F kvs xs ∧ s.heap.DictOfH (nestedKind X.prog X.w) a xs ∧ (a == sysModules) = false ∧ xs.length ≤ sizeLine := by
  obtain ⟨⟨⟨o, ep, ho, hx, hd⟩, hz, hm⟩, _, _⟩ := I.hok a _ ha
  rw [hw]
  obtain ⟨xs, e, x⟩ := XR.of (P := X.prog) r ht
  refine ⟨xs, e, x, ⟨o, es.toArray, ep, ho, hx, hd, by rw [e], fun y my => ?_, ?_⟩, hm, ?_⟩
  · -- each key stands
    have keyAt : ∀ {ps : List (D × D)} {ys : List (NestedKey × Addr × Value)}, XR k F ps ys → (∀ p ∈ ps, isKey 8 p.1 = true) → ∀ y ∈ ys, (nestedKind X.prog k.w).is s.heap y.1 y.2.1 := by
      intro ps
      induction ps with
      | nil =>
        intro ys h _ y my
        rw [show ys = [] from h] at my
        cases my
      | cons p ps ih =>
        obtain ⟨a', b'⟩ := p
        intro ys ⟨z, r', e', h1, h2, h3, _, h6⟩ hk y my
        subst e'
        rcases List.mem_cons.mp my with q | q
        · subst q
          cases a' with
          | tup l =>
            rw [h1]
            have := key_is (P := X.prog) (w := X.w) I.hok (hk _ (List.mem_cons_self ..)) (h3.mono hs)
            rw [hw] at this
            exact this
          | _ => cases h2
        · exact ih h6 (fun p m => hk p (List.mem_cons_of_mem _ m)) y q
    exact keyAt x ok.keys y my
  · rw [x.keys]
    have inj : ∀ (l : List (D × D)), (l.map (·.1)).Nodup → (∀ p ∈ l, isKey 8 p.1 = true) → (l.map fun p => nkey p.1).Nodup := by
      intro l
      induction l with
      | nil => intro _ _; exact List.nodup_nil
      | cons p l ih =>
        intro hn hk
        rw [List.map_cons, List.nodup_cons] at hn ⊢
        refine ⟨fun z => hn.1 ?_, ih hn.2 fun p m => hk p (List.mem_cons_of_mem _ m)⟩
        obtain ⟨q, hq, e⟩ := List.mem_map.mp z
        rw [← nkey_inj q.1 p.1 8 8 (hk q (List.mem_cons_of_mem _ hq)) (hk p (List.mem_cons_self ..)) e]
        exact List.mem_map.mpr ⟨q, hq, rfl⟩
    exact inj kvs ok.1 ok.keys
  · have := congrArg List.length e
    rw [List.length_map] at this
    omega
/-- the object behind a store -/
theorem dicNew {P : Program} {w : World} {h' : Heap} {a : Addr} {xs : List (NestedKey × Addr × Value)} (m : h'.DictOfH (nestedKind P w) a xs) (hz : xs.length ≤ sizeLine) (hm : (a == sysModules) = false) (G : Hp) :
    ObjOk P w G h' a (dicO a (xs.map (entryOfKey (nestedKind P w)))) := by
  obtain ⟨o, es, ep, ho, hx, hd, he, _⟩ := m
  have e : es = (xs.map (entryOfKey (nestedKind P w))).toArray := by rw [← he]
  refine ⟨⟨⟨o, ep, ho, hx, by rw [hd, e]⟩, by rw [List.length_map]; exact hz, hm⟩, ⟨o, ho⟩, fun h1 h2 ⟨⟨o', ep', a1, a2, a3⟩, a4⟩ st => ⟨⟨o', ep', st _ a1, a2, a3⟩, a4⟩⟩
end
end VS
end
section
set_option Elab.async false
set_option linter.all false
set_option maxRecDepth 100000
set_option maxHeartbeats 4000000
set_option autoImplicit false
/-! V4b: comparisons, items, slices, by values. -/
namespace VS
open PySem PySem.Spec PyProof.Rows L2

mutual
theorem alike_py : ∀ (a b : D) (n m : Nat), plain n a = true → plain m b = true → alikeD a b = PySem.W.alike (toPy a) (toPy b)
  | .non, b, _, m, _, hb => by cases b <;> first | rfl | (cases m <;> cases hb)
  | .bl x, b, _, m, _, hb => by cases b <;> first | rfl | (cases m <;> cases hb)
  | .int x, b, _, m, _, hb => by cases b <;> first | rfl | (cases m <;> cases hb)
  | .str x, b, _, m, _, hb => by cases b <;> first | rfl | (cases m <;> cases hb)
  | .tup l, b, n, m, ha, hb => by
    obtain ⟨n', _, ha⟩ := plain_tup ha
    cases b with
    | tup l' =>
      obtain ⟨m', _, hb⟩ := plain_tup hb
      exact alikeL_py l l' n' m' (plain_all ha) (plain_all hb)
    | _ => first | rfl | (cases m <;> cases hb)
  | .lst l, b, n, m, ha, hb => by
    obtain ⟨n', _, ha⟩ := plain_lst ha
    cases b with
    | lst l' =>
      obtain ⟨m', _, hb⟩ := plain_lst hb
      exact alikeL_py l l' n' m' (plain_all ha) (plain_all hb)
    | _ => first | rfl | (cases m <;> cases hb)
  | .dct _, _, n, _, h, _ => by cases n <;> cases h
  | .ins _ _, _, n, _, h, _ => by cases n <;> cases h
  | .exc _ _, _, n, _, h, _ => by cases n <;> cases h
  | .tape, _, n, _, h, _ => by cases n <;> cases h
theorem alikeL_py : ∀ (a b : List D) (n m : Nat), (∀ d ∈ a, plain n d = true) → (∀ d ∈ b, plain m d = true) → alikeL a b = PySem.W.alikeAll (toPys a) (toPys b)
  | [], b, _, _, _, _ => by cases b <;> rfl
  | a :: as, b, n, m, ha, hb => by
    cases b with
    | nil => rfl
    | cons b bs =>
      show (alikeD a b && alikeL as bs) = (PySem.W.alike (toPy a) (toPy b) && PySem.W.alikeAll (toPys as) (toPys bs))
      rw [alike_py a b n m (ha a (List.mem_cons_self ..)) (hb b (List.mem_cons_self ..)), alikeL_py as bs n m (fun x h => ha x (List.mem_cons_of_mem _ h)) fun x h => hb x (List.mem_cons_of_mem _ h)]
end
mutual
theorem lt_py : ∀ (a b : D) (n m : Nat), plain n a = true → plain m b = true → alikeD a b = true → ltD a b = PySem.W.dataLt (toPy a) (toPy b)
  | .non, b, _, m, _, hb, h => by
    cases b with
    | non => rfl
    | _ => cases h
  | .bl x, b, _, m, _, hb, h => by
    cases b with
    | bl y =>
      show _ = PySem.W.dataLt (.bool x) (.bool y)
      rw [PySem.W.dataLt_bool]
      cases x <;> cases y <;> rfl
    | _ => cases h
  | .int x, b, _, m, _, hb, h => by
    cases b with
    | int y =>
      show _ = PySem.W.dataLt (.int x) (.int y)
      rw [PySem.W.dataLt_int]
      rfl
    | _ => cases h
  | .str x, b, _, m, _, hb, h => by
    cases b with
    | str y =>
      show _ = PySem.W.dataLt (.str x) (.str y)
      rw [PySem.W.dataLt_str]
      rfl
    | _ => cases h
  | .tup l, b, n, m, ha, hb, h => by
    obtain ⟨n', _, ha⟩ := plain_tup ha
    cases b with
    | tup l' =>
      obtain ⟨m', _, hb⟩ := plain_tup hb
      show _ = PySem.W.dataLt (.tuple (toPys l)) (.tuple (toPys l'))
      rw [PySem.W.dataLt_tuple]
      exact ltL_py l l' n' m' (plain_all ha) (plain_all hb) h
    | _ => cases h
  | .lst l, b, n, m, ha, hb, h => by
    obtain ⟨n', _, ha⟩ := plain_lst ha
    cases b with
    | lst l' =>
      obtain ⟨m', _, hb⟩ := plain_lst hb
      show _ = PySem.W.dataLt (.list (toPys l)) (.list (toPys l'))
      rw [PySem.W.dataLt_list]
      exact ltL_py l l' n' m' (plain_all ha) (plain_all hb) h
    | _ => cases h
  | .dct _, _, n, _, h, _, _ => by cases n <;> cases h
  | .ins _ _, _, n, _, h, _, _ => by cases n <;> cases h
  | .exc _ _, _, n, _, h, _, _ => by cases n <;> cases h
  | .tape, _, n, _, h, _, _ => by cases n <;> cases h
theorem ltL_py : ∀ (a b : List D) (n m : Nat), (∀ d ∈ a, plain n d = true) → (∀ d ∈ b, plain m d = true) → alikeL a b = true → ltL a b = PySem.W.rowLt (toPys a) (toPys b)
  | [], b, _, _, _, _, _ => by
    cases b with
    | nil => exact (lex_irrefl _).symm
    | cons b bs =>
      show true = PyProof.Rows.lexLt PyProof.Rows.itemOrd [.inl 0] (.inl 1 :: (PySem.W.keyToks (toPy b) ++ PySem.W.keyToksAll (toPys bs)))
      rw [lex_diff (O := PyProof.Rows.itemOrd) (by intro e; cases e)]
      rfl
  | a :: as, b, n, m, ha, hb, h => by
    cases b with
    | nil =>
      show false = PyProof.Rows.lexLt PyProof.Rows.itemOrd (.inl 1 :: (PySem.W.keyToks (toPy a) ++ PySem.W.keyToksAll (toPys as))) [.inl 0]
      rw [lex_diff (O := PyProof.Rows.itemOrd) (by intro e; cases e)]
      rfl
    | cons b bs =>
      have h' : (alikeD a b && alikeL as bs) = true := h
      rw [Bool.and_eq_true] at h'
      have pa := ha a (List.mem_cons_self ..)
      have pb := hb b (List.mem_cons_self ..)
      have al : PySem.W.alike (toPy a) (toPy b) = true := by rw [← alike_py a b n m pa pb]; exact h'.1
      show (if pyEq a b then ltL as bs else ltD a b) = PyProof.Rows.lexLt PyProof.Rows.itemOrd (PySem.W.keyToksAll (toPy a :: toPys as)) (PySem.W.keyToksAll (toPy b :: toPys bs))
      rw [PySem.W.dataLt_cons al, pyEq_eqv a b n m pa pb, lt_py a b n m pa pb h'.1, ltL_py as bs n m (fun x h => ha x (List.mem_cons_of_mem _ h)) (fun x h => hb x (List.mem_cons_of_mem _ h)) h'.2]
      rfl
end

/-! ### comparisons -/
def cpOf : Cop → CmpOp
  | .eq => .Eq
  | .ne => .NotEq
  | .lt => .Lt
  | .le => .LtE
  | .gt => .Gt
  | .ge => .GtE
  | .mem => .In
  | .nmem => .NotIn
def rCmp (k : Kx) (sem : D → D → Option Bool) : R2 := fun x y H Q => ∃ F d1 d2 b, Sub F H ∧ RepT k F H d1 x ∧ RepT k F H d2 y ∧ sem d1 d2 = some b ∧ Q (.bl b) H
section
variable {X : Cx} {k : Kx} {lv : Nat}
theorem and3 {a b c : Bool} (h : (a && b && c) = true) : a = true ∧ b = true ∧ c = true := by
  simp only [Bool.and_eq_true] at h
  exact ⟨h.1.1, h.1.2, h.2⟩
theorem if_some {α : Type} {b : Bool} {x : Option α} {a : α} (h : (if b = true then x else none) = some a) : b = true ∧ x = some a := by
  cases b
  · cases h
  · exact ⟨rfl, h⟩
theorem c_eq (hr : Room lv X.A) : OpR X (compareOp .Eq) (rCmp k (cmpS .eq)) := by
  rintro pins s σ H x y v u Q I rx ry ⟨F, d1, d2, b, hs, h1, h2, hd, q⟩
  have hd' : (if (plain 60 d1 && plain 60 d2) = true then some (pyEq d1 d2) else none) = some b := hd
  obtain ⟨hp, e⟩ := if_some hd'
  rw [Bool.and_eq_true] at hp
  cases e
  have hu : X.A.units + 64 < cLine := by have := hr.un; omega
  exact op_eqD hu pins s σ H _ _ v u Q I rx ry ⟨toPy d1, toPy d2, h1.dp hs hp.1, h2.dp hs hp.2, shaped_of hp.1, shaped_of hp.2, by rw [← pyEq_eqv d1 d2 60 60 hp.1 hp.2]; exact q⟩
theorem c_ne (hr : Room lv X.A) : OpR X (compareOp .NotEq) (rCmp k (cmpS .ne)) := by
  rintro pins s σ H x y v u Q I rx ry ⟨F, d1, d2, b, hs, h1, h2, hd, q⟩
  have hd' : (if (plain 60 d1 && plain 60 d2) = true then some (pyEq d1 d2) else none).map (!·) = some b := hd
  cases hp : (plain 60 d1 && plain 60 d2) with
  | false => rw [hp] at hd'; cases hd'
  | true =>
    rw [hp] at hd'
    rw [Bool.and_eq_true] at hp
    cases hd'
    have hu : X.A.units + 64 < cLine := by have := hr.un; omega
    exact op_neD hu pins s σ H _ _ v u Q I rx ry ⟨toPy d1, toPy d2, h1.dp hs hp.1, h2.dp hs hp.2, shaped_of hp.1, shaped_of hp.2, by rw [← pyEq_eqv d1 d2 60 60 hp.1 hp.2]; exact q⟩
theorem min_le_60 {d e : D} (h : plain 60 d = true) : min (toPy d).depth (toPy e).depth ≤ 60 := Nat.le_trans (Nat.min_le_left _ _) (toPy_lay d 60 h).2
theorem c_lt (hr : Room lv X.A) : OpR X (compareOp .Lt) (rCmp k (cmpS .lt)) := by
  rintro pins s σ H x y v u Q I rx ry ⟨F, d1, d2, b, hs, h1, h2, hd, q⟩
  have hd' : (plain 60 d1 && plain 60 d2 && alikeD d1 d2) = true ∧ b = ltD d1 d2 ∧ d1 ≠ .non := by
    cases d1 <;> first | (cases hd; done) | skip
    all_goals
      obtain ⟨h, e⟩ := if_some hd
      exact ⟨h, (Option.some.inj e).symm, fun z => nomatch z⟩
  obtain ⟨hp, e, hn⟩ := hd'
  subst e
  obtain ⟨p1, p2, p3⟩ := and3 hp
  obtain ⟨as, r1⟩ := Dp.reads I (toPy d1) x v (h1.dp (K := X.K) hs p1) rx
  obtain ⟨bs, r2⟩ := Dp.reads I (toPy d2) y u (h2.dp (K := X.K) hs p2) ry
  have hal : PySem.W.alike (toPy d1) (toPy d2) = true := by rw [← alike_py d1 d2 60 60 p1 p2]; exact p3
  have hne : toPy d1 ≠ .none := by
    cases d1 with
    | non => exact absurd rfl hn
    | bl _ => exact fun e => nomatch e
    | int _ => exact fun e => nomatch e
    | str _ => exact fun e => nomatch e
    | tup _ => exact fun e => nomatch e
    | lst _ => exact fun e => nomatch e
    | _ => cases p1
  have hu : X.A.units + min (toPy d1).depth (toPy d2).depth < cLine := by
    have := hr.un
    have := min_le_60 (e := d2) p1
    omega
  refine PySem.W.rcLt_alike (toPy d1) (toPy d2) X.A s v u as bs r1 r2 hal hne hu X.prog X.w _ _ ?_
  rw [← lt_py d1 d2 60 60 p1 p2 p3]
  exact ⟨.bl _, H, I, rfl, q⟩
theorem c_le : OpR X (compareOp .LtE) (rCmp k (cmpS .le)) := by
  rintro pins s σ H x y v u Q I rx ry ⟨F, d1, d2, b, hs, h1, h2, hd, q⟩
  cases d1 <;> cases d2 <;> first | (cases hd; done) | skip
  cases h1
  cases h2
  cases hd
  exact op_le pins s σ H _ _ v u Q I rx ry ⟨_, _, rfl, rfl, q⟩
theorem c_ge : OpR X (compareOp .GtE) (rCmp k (cmpS .ge)) := by
  rintro pins s σ H x y v u Q I rx ry ⟨F, d1, d2, b, hs, h1, h2, hd, q⟩
  cases d1 <;> cases d2 <;> first | (cases hd; done) | skip
  cases h1
  cases h2
  cases hd
  exact op_ge pins s σ H _ _ v u Q I rx ry ⟨_, _, rfl, rfl, q⟩
theorem c_gt : OpR X (compareOp .Gt) (rCmp k (cmpS .gt)) := by
  rintro pins s σ H x y v u Q I rx ry ⟨F, d1, d2, b, hs, h1, h2, hd, q⟩
  cases d1 <;> cases d2 <;> first | (cases hd; done) | skip
  cases h1
  cases h2
  cases hd
  exact op_gt pins s σ H _ _ v u Q I rx ry ⟨_, _, rfl, rfl, q⟩
theorem room8 (hr : Room lv X.A) : (nestedKind X.prog X.w).room X.A.in1 := by
  have := hr.un
  show X.A.units + 1 + 8 < cLine
  omega
theorem rep_tup_ref {F H : Hp} {l : List D} {x : V} (h : RepT k F H (.tup l) x) : ∃ b, x = .ref b ∧ Rep k F (.tup l) (.ref b) := by
  obtain ⟨a, vs, e, r⟩ := h
  exact ⟨a, e, a, vs, rfl, r⟩
theorem keyT {kvs : List (D × D)} {q : D} (h : keyOk kvs q = true) : ∃ l, q = .tup l := by
  have := (Bool.and_eq_true_iff.mp h).1
  cases q with
  | tup l => exact ⟨l, rfl⟩
  | _ => cases this
theorem c_mem (hr : Room lv X.A) (hw : X.w = k.w) : OpR X (compareOp .In) (rCmp k (cmpS .mem)) := by
  rintro pins s σ H x y v u Q I rx ry ⟨F, d1, d2, b, hs, h1, h2, hd, q⟩
  have hu : X.A.units + 65 < cLine := by have := hr.un; omega
  cases d2 <;> first | (cases hd; done) | skip
  · rename_i l
    obtain ⟨hp, e⟩ := if_some hd
    rw [Bool.and_eq_true] at hp
    cases e
    obtain ⟨as, r1⟩ := Dp.reads I (toPy d1) x v (h1.dp (K := X.K) hs hp.1) rx
    obtain ⟨bs, r2⟩ := Dp.reads I (toPy (.tup l)) y u (h2.dp (n := 61) (K := X.K) hs hp.2) ry
    obtain ⟨hl, _⟩ := toPys_lay l 60 (plain_all hp.2)
    exact SeqAt.in_tuple_reads r2 r1 hl (SeqAt.canLay_of_shaped (shaped_of hp.1)) (room_in_shaped (shaped_of hp.1) hu) ⟨.bl _, H, I, rfl, by rw [any_eqv hp.2 hp.1]; exact q⟩
  · rename_i l
    obtain ⟨hp, e⟩ := if_some hd
    rw [Bool.and_eq_true] at hp
    cases e
    obtain ⟨as, r1⟩ := Dp.reads I (toPy d1) x v (h1.dp (K := X.K) hs hp.1) rx
    obtain ⟨bs, r2⟩ := Dp.reads I (toPy (.lst l)) y u (h2.dp (n := 61) (K := X.K) hs hp.2) ry
    obtain ⟨hl, _⟩ := toPys_lay l 60 (plain_all hp.2)
    exact SeqAt.in_list_reads r2 r1 hl (SeqAt.canLay_of_shaped (shaped_of hp.1)) (room_in_shaped (shaped_of hp.1) hu) ⟨.bl _, H, I, rfl, by rw [any_eqv hp.2 hp.1]; exact q⟩
  · rename_i kvs
    obtain ⟨hp, e⟩ := if_some hd
    cases e
    obtain ⟨l, rfl⟩ := keyT hp
    obtain ⟨a, es, rfl, ha, ok, r⟩ := h2
    obtain ⟨c, rfl, rc⟩ := rep_tup_ref h1
    obtain ⟨xs, e1, x1, m1, hm, hz⟩ := dicH I hw ha hs ok r (keyOk_tup hp)
    cases rx
    cases ry
    have hi := key_is (P := X.prog) (w := X.w) I.hok (keyOk_8 hp) (rc.mono hs)
    have g := x1.get ok.keys (keyOk_8 hp)
    refine wpAny_in_heap (room8 hr) hi hm m1 ⟨.bl _, H, I.tok _, rfl, ?_⟩
    cases e : dget kvs (.tup l) with
    | some d =>
      rw [e] at g q
      obtain ⟨p, _, e2, _⟩ := g
      rw [e2]
      exact q
    | none =>
      rw [e] at g q
      have g' : atKey xs (nkey (.tup l)) = none := g
      rw [g']
      exact q
theorem c_nmem (hr : Room lv X.A) (hw : X.w = k.w) : OpR X (compareOp .NotIn) (rCmp k (cmpS .nmem)) := by
  rintro pins s σ H x y v u Q I rx ry ⟨F, d1, d2, b, hs, h1, h2, hd, q⟩
  have hu : X.A.units + 65 < cLine := by have := hr.un; omega
  cases d2 <;> first | (cases hd; done) | skip
  · rename_i l
    obtain ⟨hp, e⟩ := if_some hd
    rw [Bool.and_eq_true] at hp
    cases e
    obtain ⟨as, r1⟩ := Dp.reads I (toPy d1) x v (h1.dp (K := X.K) hs hp.1) rx
    obtain ⟨bs, r2⟩ := Dp.reads I (toPy (.tup l)) y u (h2.dp (n := 61) (K := X.K) hs hp.2) ry
    obtain ⟨hl, _⟩ := toPys_lay l 60 (plain_all hp.2)
    exact SeqAt.notIn_tuple_reads r2 r1 hl (SeqAt.canLay_of_shaped (shaped_of hp.1)) (room_in_shaped (shaped_of hp.1) hu) ⟨.bl _, H, I, rfl, by rw [any_eqv hp.2 hp.1]; exact q⟩
  · rename_i l
    obtain ⟨hp, e⟩ := if_some hd
    rw [Bool.and_eq_true] at hp
    cases e
    obtain ⟨as, r1⟩ := Dp.reads I (toPy d1) x v (h1.dp (K := X.K) hs hp.1) rx
    obtain ⟨bs, r2⟩ := Dp.reads I (toPy (.lst l)) y u (h2.dp (n := 61) (K := X.K) hs hp.2) ry
    obtain ⟨hl, _⟩ := toPys_lay l 60 (plain_all hp.2)
    exact SeqAt.notIn_list_reads r2 r1 hl (SeqAt.canLay_of_shaped (shaped_of hp.1)) (room_in_shaped (shaped_of hp.1) hu) ⟨.bl _, H, I, rfl, by rw [any_eqv hp.2 hp.1]; exact q⟩
  · rename_i kvs
    obtain ⟨hp, e⟩ := if_some hd
    cases e
    obtain ⟨l, rfl⟩ := keyT hp
    obtain ⟨a, es, rfl, ha, ok, r⟩ := h2
    obtain ⟨c, rfl, rc⟩ := rep_tup_ref h1
    obtain ⟨xs, e1, x1, m1, hm, hz⟩ := dicH I hw ha hs ok r (keyOk_tup hp)
    cases rx
    cases ry
    have hi := key_is (P := X.prog) (w := X.w) I.hok (keyOk_8 hp) (rc.mono hs)
    have g := x1.get ok.keys (keyOk_8 hp)
    refine notIn_keyed (room8 hr) hi hm ⟨xs, m1, rfl⟩ ⟨.bl _, H, I.tok _, rfl, ?_⟩
    rw [valueAt_pairsH, Option.isSome_map]
    cases e : dget kvs (.tup l) with
    | some d =>
      rw [e] at g q
      obtain ⟨p, _, e2, _⟩ := g
      rw [e2]
      exact q
    | none =>
      rw [e] at g q
      have g' : atKey xs (nkey (.tup l)) = none := g
      rw [g']
      exact q
theorem c_cmp (hr : Room lv X.A) (hw : X.w = k.w) (o : Cop) : OpR X (compareOp (cpOf o)) (rCmp k (cmpS o)) := by
  cases o
  · exact c_eq hr
  · exact c_ne hr
  · exact c_lt hr
  · exact c_le
  · exact c_gt
  · exact c_ge
  · exact c_mem hr hw
  · exact c_nmem hr hw
end
end VS
end
section
set_option Elab.async false
set_option linter.all false
set_option maxRecDepth 100000
set_option maxHeartbeats 4000000
set_option autoImplicit false
/-! V4c: items, slices, built-ins, by values. -/
namespace VS
open PySem PySem.Spec PyProof.Rows L2

section
variable {X : Cx} {k : Kx} {lv : Nat}
theorem ixOf_ixN (n : Nat) (i : Int) : ixOf n i = ixN n i := by
  unfold ixOf ixN
  by_cases h : 0 ≤ i
  · rw [if_pos h, if_pos h]
    by_cases h2 : i < n
    · rw [if_pos h2, if_pos (by omega)]
    · rw [if_neg h2, if_neg (by omega)]
  · rw [if_neg h, if_neg h]
    by_cases h2 : 0 ≤ i + n
    · rw [if_pos h2, if_pos (by omega)]
    · rw [if_neg h2, if_neg (by omega)]
theorem atI_of {F : Hp} {ds : List D} {vs : List V} {i : Int} {d : D} (r : RepL k F ds vs) (h : (ixOf ds.length i).bind (ds[·]?) = some d) : ∃ v, atI vs i = some v ∧ Rep k F d v := by
  rw [ixOf_ixN] at h
  unfold atI
  rw [r.length]
  cases e : ixN ds.length i with
  | none => rw [e] at h; cases h
  | some j =>
    rw [e] at h
    exact r.get h
theorem x_sub (hr : Room lv X.A) (hw : X.w = k.w) : IxR X (rV2 k subS) := by
  rintro value slice pins s σ H x y v u Q I rx ry ⟨F, d1, d2, d, hs, h1, h2, hd, q⟩ hsub
  cases d1 <;> first | (cases hd; done) | skip
  · rename_i l
    cases d2 <;> first | (cases hd; done) | skip
    rename_i i
    obtain ⟨a, vs, rfl, g, r⟩ := h1
    cases h2
    obtain ⟨w, e1, r1⟩ := atI_of r hd
    exact ix_tup value slice pins s σ H _ _ v u Q I rx ry ⟨a, vs, i, w, rfl, rfl, .inl (hs.rd g.rd), e1, q _ _ (.inl ⟨rfl, r1⟩)⟩ hsub
  · rename_i l
    cases d2 <;> first | (cases hd; done) | skip
    rename_i i
    obtain ⟨a, vs, rfl, g, r⟩ := h1
    cases h2
    obtain ⟨w, e1, r1⟩ := atI_of r hd
    exact ix_list value slice pins s σ H _ _ v u Q I rx ry ⟨a, vs, i, w, rfl, rfl, .inl g, e1, q _ _ (.inl ⟨rfl, r1⟩)⟩ hsub
  · rename_i kvs
    have hd' : (if keyOk kvs d2 = true then dget kvs d2 else none) = some d := by
      cases d2 <;> exact hd
    obtain ⟨hp, e⟩ := if_some hd'
    obtain ⟨l, rfl⟩ := keyT hp
    obtain ⟨a, es, rfl, ha, ok, r⟩ := h1
    obtain ⟨c, rfl, rc⟩ := rep_tup_ref h2
    obtain ⟨xs, e1, x1, m1, hm, hz⟩ := dicH I hw ha hs ok r (keyOk_tup hp)
    cases rx
    cases ry
    have hi := key_is (P := X.prog) (w := X.w) I.hok (keyOk_8 hp) (rc.mono hs)
    have g := x1.get ok.keys (keyOk_8 hp)
    rw [e] at g
    obtain ⟨p, w, e2, r2, rw2⟩ := g
    exact tail_any m1.typeIs slot_dict_getitem.lookup (wpAny_getItem_heap (room8 hr) hi m1 e2 ⟨w, H, I.tok _, rw2, q _ _ (.inl ⟨rfl, r2⟩)⟩) hsub

/-- tape[name] -/
def rTape (k : Kx) : R2 := fun x y H Q => ∃ F t s d, k.on = true ∧ x = .ref k.tp ∧ y = .str s ∧ Sub F H ∧ TapeOk k H F t ∧ tget t s = some d ∧ ∀ v, Rep k F d v → Q v H
def rSub (k : Kx) : R2 := fun x y H Q => rV2 k subS x y H Q ∨ rTape k x y H Q
theorem ints_rep {F : Hp} : ∀ l : List Int, RepL k F (l.map D.int) (l.map V.int)
  | [] => rfl
  | i :: l => ⟨_, _, rfl, rfl, ints_rep l⟩
theorem tape_get {H F : Hp} {t : Tape} (T : TapeS k H F t) {s : Str} {d : D} (h : tget t s = some d) : ∃ v, DGet H k.tp (.str s) (some v) ∧ Rep k F d v := by
  unfold tget at h
  split at h
  · rename_i e
    cases h
    subst e
    exact ⟨.int t.rest, DGet.k (k := .inr "rest") T.d, rfl⟩
  · split at h
    · rename_i e
      cases h
      subst e
      exact ⟨.int t.turn, DGet.k (k := .inr "turn") T.d, rfl⟩
    · split at h
      · rename_i e
        cases h
        subst e
        exact ⟨.ref k.cp, DGet.k (k := .inr "cells") T.d, k.cp, _, rfl, .inl T.fc, ints_rep _⟩
      · cases h
theorem room1 (hr : Room lv X.A) : X.A.units + 1 < cLine := by
  have := hr.un
  omega
theorem x_tape (hr : Room lv X.A) : IxR X (rTape k) := by
  rintro value slice pins s σ H x y v u Q I rx ry ⟨F, t, n, d, on, rfl, rfl, hs, T, hd, q⟩ hsub
  obtain ⟨w, g, rw'⟩ := tape_get (T on) hd
  cases rx
  exact tail_any (dict_typeIs I g) slot_dict_getitem.lookup (d_getItem (room1 hr) I g ry fun w' s3 I3 r3 => ⟨w, H, I3, r3, q w rw'⟩) hsub
theorem cut_rep {F : Hp} {ds : List D} {vs : List V} (lo hi : Option Int) (r : RepL k F ds vs) : RepL k F (cutL ds lo hi) (cutV vs lo hi) := by
  have hl := r.length
  have e : ∀ n d o, HT.sIx n d o = cutOf n d o := fun n d o => by cases o <;> rfl
  unfold cutL cutV
  rw [e, e, hl]
  exact (r.drop _).take _
def rSlc (k : Kx) : V → Option Int → Option Int → Hp → VK → Prop := fun x lo hi H Q => ∃ F d1 d, Sub F H ∧ RepT k F H d1 x ∧ slcS d1 lo hi = some d ∧ ∀ v H', NewF true k F H d v H' → Q v H'
/-- t[lo:hi]: the whole of it is t itself -/
def rSlX (K : PySem.W.Frag) : V → Option Int → Option Int → Hp → VK → Prop := fun x lo hi H Q => ∃ a xs, x = .ref a ∧ SqT K H a xs ∧
  (HT.sIx xs.length 0 lo = 0 ∧ HT.sIx xs.length xs.length hi = xs.length → Q (.ref a) H) ∧ (∀ p ob, H p = none → ob.dict = none → Q (.ref p) (upd H p (.frz ob (.tup (cutV xs lo hi)))))
theorem sl_tupX : SlR X (rSlX X.K) := by
  intro pins s σ H x v vl vu lo hi sl Q I rx hs pl pu h
  obtain ⟨a, xs, rfl, hx, q1, q2⟩ := h
  cases rx
  obtain ⟨its, r, ht, hz⟩ := I.tuple hx
  have hlen : its.toArray.size = xs.length := by rw [List.size_toArray]; exact r.length.symm
  refine ⟨"tuple", _, PyProof.Rows.slot_tuple_getitem.lookup, ht.typeIs, ?_⟩
  by_cases hw : HT.sIx xs.length 0 lo = 0 ∧ HT.sIx xs.length xs.length hi = xs.length
  · exact getItem_tuple_whole ht hs pl pu (by rw [hlen]; exact hw) ⟨.ref a, H, I, rfl, q1 hw⟩
  · refine HT.getItem_tuple_cut ht hs pl pu (by rw [hlen]; exact hw) ?_ (by rw [hlen]; exact hz)
    rw [hlen]
    exact ⟨.ref s.heap.objs.size, _, I.laid (t' := s.toks) (fun b ob q => Heap.get?_push_of_some _ q) (Nat.le_refl _) (tup_new (Nat.le_trans (cutV_length xs lo hi) hz) ((r.drop (HT.sIx xs.length 0 lo)).take (HT.sIx xs.length xs.length hi - HT.sIx xs.length 0 lo))), rfl, q2 _ _ (I.hok.fresh (Nat.le_refl _)) rfl⟩
theorem x_slc : SlR X (rSlc k) := by
  rintro pins s σ H x v vl vu lo hi sl Q I rx hsl pl pu ⟨F, d1, d, hs, h1, hd, q⟩
  cases d1 <;> first | (cases hd; done) | skip
  · rename_i l
    cases hd
    obtain ⟨a, vs, rfl, g, r⟩ := h1
    refine sl_tupX pins s σ H _ v vl vu lo hi sl Q I rx hsl pl pu ⟨a, vs, rfl, .inl (hs.rd g.rd), fun e => ?_, fun p ob hp hd => ?_⟩
    · refine q _ _ (.inl ⟨rfl, ⟨a, vs, rfl, g, ?_⟩, fun _ => rfl⟩)
      have c := cut_rep lo hi r
      have ev : cutV vs lo hi = vs := by
        unfold cutV
        rw [e.1, e.2, List.drop_zero, Nat.sub_zero, List.take_length]
      rw [ev] at c
      exact c
    · exact q _ _ (.inr ⟨p, _, hp, rfl, rfl, _, ob, rfl, hd, cut_rep lo hi r⟩)
  · rename_i l
    cases hd
    obtain ⟨a, vs, rfl, g, r⟩ := h1
    exact sl_list pins s σ H _ v vl vu lo hi sl Q I rx hsl pl pu ⟨a, vs, rfl, .inl g, fun p hp => q _ _ (.inr ⟨p, _, hp, rfl, rfl, _, rfl, cut_rep lo hi r⟩)⟩

/-! ### built-ins -/
def RepTs (k : Kx) (F H : Hp) : List D → List V → Prop
  | [], vs => vs = []
  | d :: ds, vs => ∃ v r, vs = v :: r ∧ RepT k F H d v ∧ RepTs k F H ds r
def rBlt (k : Kx) (b : Blt) : List V → Hp → VK → Prop := fun xs H Q => ∃ F ds d, Sub F H ∧ RepTs k F H ds xs ∧ bltS b ds = some d ∧ ∀ v H', NewF (frB b) k F H d v H' → Q v H'
/-- a method, the receiver's data being d -/
def rMt (k : Kx) (b : Blt) (d : D) : List V → Hp → VK → Prop := fun xs H Q => ∃ F ds r, Sub F H ∧ RepTs k F H (d :: ds) xs ∧ bltS b (d :: ds) = some r ∧ ∀ v H', NewF (frB b) k F H r v H' → Q v H'
theorem ts1 {F H : Hp} {d : D} {xs : List V} (h : RepTs k F H [d] xs) : ∃ x, xs = [x] ∧ RepT k F H d x := by
  obtain ⟨v, r, e, h1, h2⟩ := h
  cases h2
  exact ⟨v, e, h1⟩
theorem ts2 {F H : Hp} {d d' : D} {xs : List V} (h : RepTs k F H [d, d'] xs) : ∃ x y, xs = [x, y] ∧ RepT k F H d x ∧ RepT k F H d' y := by
  obtain ⟨v, r, e, h1, v', r', e', h2, h3⟩ := h
  cases h3
  cases e'
  exact ⟨v, v', e, h1, h2⟩
theorem one_of {ds : List D} {α : Type} {f : D → Option α} {a : α} (h : (match ds with | [x] => f x | _ => none) = some a) : ∃ x, ds = [x] ∧ f x = some a := by
  cases ds with
  | nil => cases h
  | cons x r =>
    cases r with
    | nil => exact ⟨x, rfl, h⟩
    | cons _ _ => cases h
theorem kvsOk.tups {kvs : List (D × D)} (h : kvsOk kvs) : ∀ p ∈ kvs, isTup p.1 = true := fun p m => by
  obtain ⟨l, e⟩ := keyT (h.2 p m)
  rw [e]
  rfl
theorem b_len (hw : X.w = k.w) : CallR X (.builtin "len") (rBlt k .len) := by
  rintro pins s σ H xs us Q I r ⟨F, ds, d, hs, h, hd, q⟩
  match ds, hd, h with
  | [x], hd, h =>
  obtain ⟨v, rfl, hv⟩ := ts1 h
  cases x <;> first | (cases hd; done) | skip
  · rename_i z
    have hx' : (if z.length ≤ lim then some z.length else none).map (fun n : Nat => D.int (n : Int)) = some d := hd
    cases hv
    by_cases hz : z.length ≤ lim
    · rw [if_pos hz] at hx'
      cases hx'
      exact call_len pins s σ H _ us Q I r ⟨_, z.length, rfl, ⟨hz, rfl⟩, q _ _ .int⟩
    · rw [if_neg hz] at hx'
      cases hx'
  · rename_i l
    cases hd
    obtain ⟨a, vs, rfl, g, rr⟩ := hv
    exact call_len pins s σ H _ us Q I r ⟨_, l.length, rfl, .inr ⟨vs, .inl (hs.rd g.rd), by rw [rr.length]⟩, q _ _ .int⟩
  · rename_i l
    cases hd
    obtain ⟨a, vs, rfl, g, rr⟩ := hv
    exact call_len pins s σ H _ us Q I r ⟨_, l.length, rfl, .inl ⟨vs, .inl g, by rw [rr.length]⟩, q _ _ .int⟩
  · rename_i kvs
    cases hd
    obtain ⟨a, es, rfl, ha, ok, rr⟩ := hv
    obtain ⟨ys, e1, x1, m1, hm, hz⟩ := dicH I hw ha hs ok rr ok.tups
    obtain ⟨u, rfl, ru⟩ := vals1 r
    cases ru
    have hl := x1.length
    have hsl := sizeLine_eq
    refine call_len_dictH hm m1 (by omega) ?_
    rw [hl]
    exact ⟨.int ((kvs.length : Nat) : Int), H, I.tok _, ⟨_, rfl⟩, q _ _ .int⟩
theorem b_int : CallR X (.type "int") (rBlt k .int) := by
  rintro pins s σ H xs us Q I r ⟨F, ds, d, hs, h, hd, q⟩
  match ds, hd, h with
  | [.int i], hd, h =>
    obtain ⟨v, rfl, hv⟩ := ts1 h
    cases hv
    cases hd
    exact call_int1 pins s σ H _ us Q I r (.inl ⟨i, rfl, q _ _ .int⟩)
theorem b_abs : CallR X (.builtin "abs") (rBlt k .abs) := by
  rintro pins s σ H xs us Q I r ⟨F, ds, d, hs, h, hd, q⟩
  match ds, hd, h with
  | [.int i], hd, h =>
    obtain ⟨v, rfl, hv⟩ := ts1 h
    cases hv
    cases hd
    exact call_abs pins s σ H _ us Q I r ⟨i, rfl, q _ _ .int⟩
theorem b_min2 (hc : X.calm = true) : ∀ (pins : List (Addr × Obj)) (s : Shared) (σ : L2.St) (H : Hp) (a b : Int) (us : List Value) (Q : VK), Inv X pins σ H s → Vals [.int a, .int b] us → Q (.int (if b < a then b else a)) H →
    wpAny (model X.prog X.w) X.A (call (.builtin "min") us) (EP X pins σ Q) X.xe s := fun pins s σ H a b us Q I r q => call_min2 hc pins s σ H _ us Q I r ⟨a, b, rfl, q⟩

/-! ### data read off the heap, with what they stand for -/
/-- values with their data -/
def RV (k : Kx) (F : Hp) (u : Value) (d : D) : Prop := ∃ v, RelV v u ∧ Rep k F d v
theorem each_RV {F : Hp} : ∀ {ds : List D} {vs : List V} {us : List Value}, RepL k F ds vs → Vals vs us → PySem.W.EachIs (RV k F) us ds
  | [], _, _, h, r => by
    rw [show _ = _ from h] at r
    cases r
    exact .nil
  | d :: ds, _, _, ⟨v, vr, e, h, t⟩, r => by
    rw [e] at r
    cases r with
    | cons r1 r2 => exact .cons ⟨v, r1, h⟩ (each_RV t r2)
theorem RV_each {F : Hp} : ∀ {ds : List D} {us : List Value}, PySem.W.EachIs (RV k F) us ds → ∃ vs, RepL k F ds vs ∧ Vals vs us
  | [], _, h => by cases h; exact ⟨[], rfl, .nil⟩
  | d :: ds, _, h => by
    cases h with
    | cons h1 h2 =>
      obtain ⟨v, r1, e1⟩ := h1
      obtain ⟨vs, r2, e2⟩ := RV_each h2
      exact ⟨v :: vs, ⟨v, vs, rfl, e1, r2⟩, .cons r1 e2⟩
theorem reads_RV {pins : List (Addr × Obj)} {σ : L2.St} {H F : Hp} {s : Shared} (I : Inv X pins σ H s) (hs : Sub F H) {n : Nat} {u : Value} {d : D} (hp : plain n d = true) (h : RV k F u d) : ∃ as, Reads s.heap u (toPy d) as := by
  obtain ⟨v, r, e⟩ := h
  exact Dp.reads I (toPy d) v u (Rep.dp (K := X.K) d v n hp (e.mono hs)) r
theorem eachReads {pins : List (Addr × Obj)} {σ : L2.St} {H F : Hp} {s : Shared} (I : Inv X pins σ H s) (hs : Sub F H) {n : Nat} : ∀ {ds : List D} {us : List Value}, (∀ d ∈ ds, plain n d = true) → PySem.W.EachIs (RV k F) us ds → PySem.W.EachIs (fun v d => ∃ as, Reads s.heap v (toPy d) as) us ds
  | [], _, _, h => by cases h; exact .nil
  | d :: ds, _, hp, h => by
    cases h with
    | cons h1 h2 => exact .cons (reads_RV I hs (hp d (List.mem_cons_self ..)) h1) (eachReads I hs (fun x m => hp x (List.mem_cons_of_mem _ m)) h2)

/-! ### sorted -/
theorem sort_eq {l : List D} (h : sortable l = true) : sortD l = l.mergeSort (PySem.W.dataLe false toPy) := by
  unfold sortable at h
  rw [Bool.and_eq_true, Bool.and_eq_true] at h
  refine PySem.W.sort_congr fun a ha b hb => ?_
  have pa := plain_all h.1.1 a ha
  have pb := plain_all h.1.1 b hb
  have hal : alikeD b a = true := List.all_eq_true.mp (List.all_eq_true.mp h.1.2 b hb) a ha
  show (!ltD b a) = (!PySem.W.dataLt (toPy b) (toPy a))
  rw [lt_py b a 60 60 pb pa hal]
theorem sortable_py {l : List D} (h : sortable l = true) : (∀ d ∈ l, plain 60 d = true) ∧ PySem.W.AllAlike (l.map toPy) ∧ PySem.W.Sortable (l.map toPy) := by
  unfold sortable at h
  rw [Bool.and_eq_true, Bool.and_eq_true, Bool.or_eq_true] at h
  have hp := plain_all h.1.1
  refine ⟨hp, fun d hd e he => ?_, ?_⟩
  · obtain ⟨a, ha, rfl⟩ := List.mem_map.mp hd
    obtain ⟨b, hb, rfl⟩ := List.mem_map.mp he
    rw [← alike_py a b 60 60 (hp a ha) (hp b hb)]
    exact List.all_eq_true.mp (List.all_eq_true.mp h.1.2 a ha) b hb
  · rcases h.2 with q | q
    · refine .inl fun d hd => ?_
      obtain ⟨a, ha, rfl⟩ := List.mem_map.mp hd
      have z := List.all_eq_true.mp q a ha
      match a, z with
      | .tup (x :: r), _ => exact ⟨toPy x, toPys r, rfl⟩
    · refine .inr fun d hd => ?_
      obtain ⟨a, ha, rfl⟩ := List.mem_map.mp hd
      have z := List.all_eq_true.mp q a ha
      have p := hp a ha
      cases a with
      | non => cases z
      | tup _ => cases z
      | bl _ => exact ⟨(fun e => nomatch e), (fun xs e => nomatch e)⟩
      | int _ => exact ⟨(fun e => nomatch e), (fun xs e => nomatch e)⟩
      | str _ => exact ⟨(fun e => nomatch e), (fun xs e => nomatch e)⟩
      | lst _ => exact ⟨(fun e => nomatch e), (fun xs e => nomatch e)⟩
      | _ => cases p
theorem sort_room (hr : Room lv X.A) {l : List D} (h : sortable l = true) {A : Around} (hA : A.units ≤ X.A.units + 2) : ∀ b, b ∈ l → A.units + 2 + (toPy b).depth < cLine := fun b hb => by
  have h1 := (toPy_lay b 60 ((sortable_py h).1 b hb)).2
  have := hr.un
  omega
theorem sort_len (l : List D) : (sortD l).length = l.length := by
  unfold sortD
  rw [List.length_mergeSort]
theorem b_sorted (hr : Room lv X.A) (hc : X.calm = true) (hw : X.w = k.w) : CallR X (.builtin "sorted") (rBlt k .sorted) := by
  rintro pins s σ H xs us Q I r ⟨F, ds, d, hs, h, hd, q⟩
  match ds, hd, h with
  | [.lst l], hd, h =>
    obtain ⟨v, rfl, hv⟩ := ts1 h
    obtain ⟨ho, e⟩ := if_some (show (if sortable l = true then some (D.lst (sortD l)) else none) = some d from hd)
    cases e
    obtain ⟨a, vs, rfl, g, rr⟩ := hv
    obtain ⟨u, rfl, ru⟩ := vals1 r
    cases ru
    obtain ⟨hz, its, n, rv, e1⟩ := Inv.rdL I g
    obtain ⟨hp, hal, hsb⟩ := sortable_py ho
    have ev := each_RV rr rv
    have hl : its.length = l.length := by rw [← rv.length, rr.length]
    refine PySem.W.sorted_data (R := RV k F) (enc := toPy) (bs := l) ⟨_, e1, rfl, _, rfl⟩ ev (eachReads I hs hp ev) hal hsb (by rw [← rr.length]; exact hz) (sort_room hr ho (by omega)) fun out hlo eo => ?_
    rw [← sort_eq ho] at eo
    obtain ⟨ws, rw1, vw⟩ := RV_each eo
    have old : ∀ b o, s.heap.get? b = some o → (sortedAll s.heap its (List.toArray out)).get? b = some o := fun b o q => sortedAll_old q
    obtain ⟨ep, at_⟩ := sortedAll_at s.heap its (List.toArray out)
    have hf : H (s.heap.objs.size + 1) = none := I.hok.fresh (Nat.le_succ _)
    refine ⟨.ref (s.heap.objs.size + 1), upd H (s.heap.objs.size + 1) (.lst ws), I.laid (t' := s.toks) old (Nat.le_succ _) ⟨?_, out, ep, vw, at_⟩, rfl, q _ _ (.inr ⟨_, _, hf, rfl, rfl, ws, rfl, rw1⟩)⟩
    rw [rw1.length, sort_len, ← rr.length]
    exact hz
  | [.dct kvs], hd, h =>
    obtain ⟨v, rfl, hv⟩ := ts1 h
    obtain ⟨ho, e⟩ := if_some (show (if sortable (kvs.map (·.1)) = true then some (D.lst (sortD (kvs.map (·.1)))) else none) = some d from hd)
    cases e
    obtain ⟨a, es, rfl, ha, ok, rr⟩ := hv
    obtain ⟨ys, e1, x1, m1, hm, hz⟩ := dicH I hw ha hs ok rr ok.tups
    obtain ⟨u, rfl, ru⟩ := vals1 r
    cases ru
    obtain ⟨hp, hal, hsb⟩ := sortable_py ho
    obtain ⟨ees, ep, hraw, hsz, hent⟩ := m1.raw
    have hl := x1.length
    refine Calls.call_function_entry PyProof.Rows.kind_sorted PyProof.Rows.plain_sorted PyProof.Rows.entry_sorted (PyProof.Rows.args_sorted1 _) ?_
    unfold Builtin.«sorted»
    refine wpAny_bind (m := checkCount "sorted" 1 1 _) (wpAny_pure ?_)
    refine wpAny_bind (PySem.W.kdu_collect (A := X.A.in1) (KdlSrc.rawDict (es := ees) (ep := ep) hm) (I.ok.hd hc) hraw (by omega) fun h' tk acc hk hacc => ?_)
    have hal2 : acc.toList.length = kvs.length := by rw [Array.length_toList, hacc.1, hsz, hl]
    -- the keys, with their data
    have ev : PySem.W.EachIs (RV k F) acc.toList (kvs.map (·.1)) := by
      have step : ∀ (ps : List (D × D)) (zs : List (NestedKey × Addr × Value)) (ws : List Value), XR k F ps zs → ws.length = ps.length → (∀ (i : Nat) (w : Value), ws[i]? = some w → ∃ z : NestedKey × Addr × Value, zs[i]? = some z ∧ w = Value.ref z.2.1) → PySem.W.EachIs (RV k F) ws (ps.map (·.1)) := by
        intro ps
        induction ps with
        | nil =>
          intro zs ws _ hlw _
          rw [List.length_eq_zero_iff.mp hlw]
          exact .nil
        | cons p ps ih =>
          obtain ⟨p1, p2⟩ := p
          intro zs ws ⟨z, zr, ez, _, _, h3, _, h6⟩ hlw hat
          cases ws with
          | nil => cases hlw
          | cons w ws =>
            obtain ⟨z', ez', ew⟩ := hat 0 w rfl
            rw [ez] at ez'
            have ez2 : z = z' := Option.some.inj ez'
            subst ez2
            refine .cons ⟨.ref z.2.1, ew, h3⟩ (ih zr ws h6 (by simpa using hlw) fun i w' e => ?_)
            obtain ⟨z2, e2, e3⟩ := hat (i + 1) w' (by simpa using e)
            rw [ez] at e2
            exact ⟨z2, by simpa using e2, e3⟩
      refine step kvs ys acc.toList x1 hal2 fun i w e => ?_
      obtain ⟨hi, ew⟩ := hacc.2 i w (by rw [← Array.getElem?_toList]; exact e)
      obtain ⟨y, hy, e2, _⟩ := hent i hi
      exact ⟨y, hy, ew.trans e2⟩
    have I1 : Inv X pins σ H { s with heap := h', toks := tk } := I.kept hk
    have hL : acc.toList.length ≤ sizeLine := by rw [hal2]; omega
    refine wpAny_bind (wpAny_newList ?_ hL)
    have hoL : (h'.push (seqObj "list" acc.toList.toArray 0)).get? h'.objs.size = some (seqObj "list" acc.toList.toArray 0) := Heap.get?_push_size _ rfl
    show wpAny _ _ _ _ _ { s with heap := h'.push (seqObj "list" acc.toList.toArray 0), toks := tk }
    have I2 : Inv X pins σ H { s with heap := h'.push (seqObj "list" acc.toList.toArray 0), toks := tk } := I1.kept (t' := tk) fun b o e => Heap.get?_push_of_some _ e
    have I3 : Inv X pins σ H { s with heap := PySem.W.sortingHeap (h'.push (seqObj "list" acc.toList.toArray 0)) h'.objs.size acc.toList, toks := tk } := I1.kept (t' := tk) fun b o e => PySem.W.sortingHeap_old (Nat.ne_of_lt (Heap.lt_size e)) (Heap.get?_push_of_some _ e)
    refine wpAny_bind (wpAny_holding (wpAny_call_entry PyProof.Rows.slot_list_sort ⟨_, hoL, rfl⟩ PyProof.Rows.entry_list_sort ?body (PyProof.Rows.args_list_sort _)))
    case body =>
      have er := eachReads I3 hs hp ev
      have hu2 : X.A.in1.in1.units ≤ X.A.units + 2 := Nat.le_refl _
      refine PySem.W.list_sort_vals (s := { s with heap := h'.push (seqObj "list" acc.toList.toArray 0), toks := tk }) hoL (PySem.W.SortsAt.data (PySem.W.each_map (R := fun v d => ∃ as, Reads (PySem.W.sortingHeap (h'.push (seqObj "list" acc.toList.toArray 0)) h'.objs.size acc.toList) v d as) toPy er) hal hsb (PySem.W.bound_map fun b hb => ?_)) hL ⟨_, rfl, ?_⟩
      · have := sort_room hr ho (Nat.le_refl (X.A.units + 2)) (A := X.A.in1.in1) b hb
        omega
      · have eo := PySem.W.sortVals_data (enc := toPy) false ev er hal
        rw [← sort_eq ho] at eo
        obtain ⟨ws, rw1, vw⟩ := RV_each eo
        obtain ⟨e', he'⟩ := PyProof.Rows.sortedHeap_at (vs := acc.toList) (out := (PySem.W.sortVals (PySem.W.dataKind (PySem.W.sortingHeap (h'.push (seqObj "list" acc.toList.toArray 0)) h'.objs.size acc.toList) ((kvs.map (·.1)).map toPy)) false acc.toList acc.toList).toArray) hoL
        refine wpAny_pure ⟨_, rfl, .ref h'.objs.size, upd H h'.objs.size (.lst ws), I1.laid (t' := tk) (fun b u e => ?_) (Nat.le_refl _) ⟨?_, _, e', vw, he'⟩, rfl, q _ _ (.inr ⟨_, _, I1.hok.fresh (Nat.le_refl _), rfl, rfl, ws, rfl, rw1⟩)⟩
        · have hb : b < h'.objs.size := Heap.lt_size e
          rw [PyProof.Rows.sortedHeap_old (Nat.ne_of_lt hb) (by rw [size_push']; exact Nat.lt_succ_of_lt hb)]
          exact Heap.get?_push_of_some _ e
        · rw [rw1.length, sort_len, List.length_map, ← hl]
          exact hz
end
end VS
end
section
set_option Elab.async false
set_option linter.all false
set_option maxRecDepth 100000
set_option maxHeartbeats 4000000
set_option autoImplicit false
/-! V4e: the readings of expressions, taken apart. -/
namespace VS
open PySem PySem.Spec PyProof.Rows L2

/-! ### a call's end -/
structure After (k : Kx) (H F H' F' : Hp) (t' : Tape) : Prop where
  sub : Sub F' H'
  tape : TapeOk k H' F' t'
  grow : Sub F F'
  old : ∀ a o, H a = some o → ¬ onTape k a → H' a = some o ∧ F' a = F a
def Fin {α : Type} (E : XK) (k : Kx) (H F : Hp) (t' : Tape) (ok : α → Hp → Hp → Prop) : Res α → Prop
  | .ok a => ∀ H' F', After k H F H' F' t' → ok a H' F'
  | .ex n l => ∀ H' F' dx, After k H F H' F' t' → XRep k F' H' n l dx → E (.ref (k.ec n)) dx H'
section
variable {c : Ct} {ρ : Env} {t t' : Tape} {σ : L2.St} {H F H' F' : Hp} {E : XK}
theorem Rel.call (R : Rel c ρ t σ H F) (x : After c.k H F H' F' t') : Rel c ρ t' σ H' F' where
  sub := x.sub
  prot := fun a p => by
    obtain ⟨o, e⟩ := c.hp a p
    obtain ⟨h1, h2⟩ := R.prot a p
    obtain ⟨h3, h4⟩ := x.old a o (h1.trans e) (c.pt a p)
    exact ⟨h3.trans e.symm, h4.trans h2⟩
  tape := x.tape
  len := R.len
  frz := fun i d e => let ⟨v, h1, h2⟩ := R.frz i d e; ⟨v, h1, h2.mono x.grow⟩
  own := fun i d e => by
    obtain ⟨a, o, h1, h2, h3, h4, h5, h6⟩ := R.own i d e
    obtain ⟨h7, h8⟩ := x.old a o h2 h6
    exact ⟨a, o, h1, h7, h8.trans h3, h4.mono x.grow, h5, h6⟩
  sep := R.sep
theorem Out.fin {α : Type} {ok : α → Hp → Hp → Prop} (R : Rel c ρ t σ H F) : ∀ {r : Res α}, Out E c ρ σ H F t' ok r → Fin E c.k H F t' ok r
  | .ok _, h => fun H' F' x => h H' F' (R.call x) x.grow fun a o e n => (x.old a o e n).1
  | .ex _ _, h => fun H' F' dx x q => h H' F' dx (R.call x) x.grow (fun a o e n => (x.old a o e n).1) q
end
/-- the reading of a def's call -/
def rCall (Φ : Nat → List D → M D) (k : Kx) (E : XK) (f : Nat) (dfl : List D) : List V → Hp → VK → Prop := fun vs H Q => ∃ ds t F r t', Sub F H ∧ TapeOk k H F t ∧ RepL k F ds vs ∧ Φ f (ds ++ dfl) t = some (r, t') ∧
  Fin E k H F t' (fun d H' F' => ∀ v, Rep k F' d v → Q v H') r
/-- the def at fv may be called so -/
def CallsTo (Φ : Nat → List D → M D) (k : Kx) (mg : Str → Option Value) (base : Heap) (lv : Nat) (fv : Addr) (f n : Nat) (ks : List Str) (dfl : List D) : Prop :=
  ∀ (X : Cx) (E : XK), X.prog = k.P → X.w = k.w → X.K = k.K → X.mg = mg → X.base = base → Room lv X.A → Takes X (fun c d _ H => E c d H) →
    ∀ (pins : List (Addr × Obj)) (s : Shared) (σ : L2.St) (H : Hp) (Q : VK) (us ws : List Value) (vs zs : List V), us.length = n → ws.length = ks.length → Inv X pins σ H s → Vals vs us → Vals zs ws → rCall Φ k E f dfl (vs ++ zs) H Q →
      wpAny (model X.prog X.w) X.A (call (.ref fv) us (ks.zip ws)) (EP X pins σ Q) X.xe s
theorem CallsTo.mono {Φ : Nat → List D → M D} {k : Kx} {mg : Str → Option Value} {base : Heap} {lv lv' : Nat} {fv : Addr} {f n : Nat} {ks : List Str} {dfl : List D} (h : CallsTo Φ k mg base lv fv f n ks dfl) (hl : lv ≤ lv') : CallsTo Φ k mg base lv' fv f n ks dfl :=
  fun X E h1 h2 h3 h4 h5 hr => h X E h1 h2 h3 h4 h5 (hr.mono hl)

/-! ### readings taken apart -/
section
variable {Φ : Nat → List D → M D} {k : Kx} {E : XK} {c : Ct} {ρ : Env} {t t' : Tape} {σ : L2.St} {H H' F : Hp} {Q : VK} {d : D} {v : V} {e a b i lo hi : Ex} {es : List Ex} {Q' : List V → Hp → Prop}
theorem out_new (hb : isBor e = false) (R : Rel c ρ t' σ H F) (o : Out E c ρ σ H F t' (fun d H' F' => ∀ v, Opd c.k ρ σ F' e d v → Q v H') (.ok d)) (n : New c.k F H d v H') : Q v H' := by
  obtain ⟨F', R', s', rp⟩ := n.frz R
  exact o H' F' R' s' n.keep v (.of hb rp)
theorem out_same (hb : isBor e = false) (R : Rel c ρ t' σ H F) (o : Out E c ρ σ H F t' (fun d H' F' => ∀ v, Opd c.k ρ σ F' e d v → Q v H') (.ok d)) (r : Rep c.k F d v) : Q v H := o H F R Sub.refl .refl v (.of hb r)
theorem w_lit {u : V} (hr : ∀ F, Rep k F d u) (h : T Φ k E (.lit d) σ H Q) : tC u σ H Q := by
  obtain ⟨c, ρ, t, F, hk, R, r, t', e, o⟩ := h
  subst hk
  cases e
  exact out_same rfl R o (hr F)
theorem w_var {i : Nat} (h : T Φ k E (.var i) σ H Q) : tVar i σ H Q := by
  obtain ⟨c, ρ, t, F, hk, R, r, t', e, o⟩ := h
  subst hk
  obtain ⟨d, e1, rfl, rfl⟩ := lft_some' e
  unfold getV at e1
  cases q : ρ[i]? with
  | none => rw [q] at e1; cases e1
  | some x =>
    rw [q] at e1
    match x, e1, q with
    | some (d', false), e1, q =>
      cases e1
      obtain ⟨v, h1, h2⟩ := R.frz i _ q
      exact ⟨v, h1, out_same rfl R o h2⟩
theorem w_bor {i : Nat} (h : T Φ k E (.bor i) σ H Q) : tVar i σ H Q := by
  obtain ⟨c, ρ, t, F, hk, R, r, t', e, o⟩ := h
  subst hk
  obtain ⟨d, e1, rfl, rfl⟩ := lft_some' e
  have e2 := e1
  unfold getB at e1
  cases q : ρ[i]? with
  | none => rw [q] at e1; cases e1
  | some x =>
    rw [q] at e1
    match x, e1, q with
    | some (d', false), e1, q =>
      cases e1
      obtain ⟨v, h1, h2⟩ := R.frz i _ q
      exact ⟨v, h1, o H F R Sub.refl .refl v ⟨h1, e2⟩⟩
    | some (d', true), e1, q =>
      cases e1
      obtain ⟨a, ob, h1, _⟩ := R.own i _ q
      exact ⟨_, h1, o H F R Sub.refl .refl _ ⟨h1, e2⟩⟩
theorem w_bin {o : Bop} (h : T Φ k E (.bin o a b) σ H Q) : tOp (rF2 k (binS o)) (T Φ k E a) (T Φ k E b) σ H Q := by
  obtain ⟨c, ρ, t, F, rfl, R, r, t', h, out⟩ := h
  refine T_bind rfl R h out fun d1 t1 v1 H1 F1 e1 h1 R1 s1 o1 z1 out1 => ?_
  refine T_bind rfl R1 h1 out1 fun d2 t2 v2 H2 F2 e2 h2 R2 s2 o2 z2 out2 => ?_
  obtain ⟨d, e, rfl, rfl⟩ := lft_some' h2
  exact ⟨F2, d1, d2, d, R2.sub, (o1.mono s2).top R2, o2.top R2, e, fun v H' n => out_new rfl R2 out2 n.new⟩
theorem w_neg (h : T Φ k E (.neg a) σ H Q) : T Φ k E a σ H fun x H1 => ∃ i, x = .int i ∧ Q (.int (-i)) H1 := by
  obtain ⟨c, ρ, t, F, rfl, R, r, t', h, out⟩ := h
  refine T_bind rfl R h out fun d1 t1 v1 H1 F1 e1 h1 R1 s1 o1 z1 out1 => ?_
  cases d1 <;> first | (cases h1; done) | skip
  rename_i i
  cases h1
  have z := o1.top R1
  cases z
  exact ⟨i, rfl, out_same rfl R1 out1 rfl⟩
theorem subM_cases {x y : D} {t t' : Tape} {r : Res D} (h : subM x y t = some (r, t')) : (∃ d, subS x y = some d ∧ r = .ok d ∧ t' = t) ∨ ∃ s d, x = .tape ∧ y = .str s ∧ tget t s = some d ∧ r = .ok d ∧ t' = t := by
  cases x <;> first | (exact .inl (let ⟨d, e, e2, e3⟩ := lft_some' (show lft (subS _ y) t = some (r, t') from h); ⟨d, e, e2, e3⟩)) | skip
  cases y <;> first | (exact .inl (let ⟨d, e, e2, e3⟩ := lft_some' (show lft (subS .tape _) t = some (r, t') from h); ⟨d, e, e2, e3⟩)) | skip
  rename_i s
  obtain ⟨d, hd, e⟩ := Option.map_eq_some_iff.mp (show (tget t s).map (fun d => (Res.ok d, t)) = some (r, t') from h)
  cases e
  exact .inr ⟨s, d, rfl, rfl, hd, rfl, rfl⟩
theorem w_sub (h : T Φ k E (.sub a i) σ H Q) : tOp (rSub k) (T Φ k E a) (T Φ k E i) σ H Q := by
  obtain ⟨c, ρ, t, F, rfl, R, r, t', h, out⟩ := h
  refine T_bind rfl R h out fun d1 t1 v1 H1 F1 e1 h1 R1 s1 o1 z1 out1 => ?_
  refine T_bind rfl R1 h1 out1 fun d2 t2 v2 H2 F2 e2 h2 R2 s2 o2 z2 out2 => ?_
  rcases subM_cases h2 with ⟨d, e, rfl, rfl⟩ | ⟨n, d, rfl, rfl, e, rfl, rfl⟩
  · exact .inl ⟨F2, d1, d2, d, R2.sub, (o1.mono s2).top R2, o2.top R2, e, fun v H' n => out_new rfl R2 out2 n⟩
  · have z := (o1.mono s2).top R2
    exact .inr ⟨F2, t', n, d, z.1, z.2, o2.top R2, R2.sub, R2.tape, e, fun v r => out_same rfl R2 out2 r⟩
theorem optI_rep {F H : Hp} {d : D} {v : V} {o : Option Int} (h : optI d = some o) (r : RepT k F H d v) : (o = none ∧ v = .non) ∨ ∃ i, o = some i ∧ v = .int i := by
  cases d <;> first | (cases h; done) | skip
  · cases h; cases r; exact .inl ⟨rfl, rfl⟩
  · cases h; cases r; exact .inr ⟨_, rfl, rfl⟩
/-- what a part of a slice says -/
def TO' (Φ : Nat → List D → M D) (k : Kx) (E : XK) (e : Ex) : TO := fun σ H Q => T Φ k E e σ H fun v H1 => ∃ o : Option Int, (o = none ∧ v = .non ∨ ∃ i, o = some i ∧ v = .int i) ∧ Q o H1
theorem w_slc (h : T Φ k E (.slc a lo hi) σ H Q) : tSl (rSlc k) (T Φ k E a) (TO' Φ k E lo) (TO' Φ k E hi) σ H Q := by
  obtain ⟨c, ρ, t, F, rfl, R, r, t', h, out⟩ := h
  refine T_bind rfl R h out fun d1 t1 v1 H1 F1 e1 h1 R1 s1 o1 z1 out1 => ?_
  refine T_bind rfl R1 h1 out1 fun d2 t2 v2 H2 F2 e2 h2 R2 s2 o2 z2 out2 => ?_
  cases q2 : optI d2 with
  | none => rw [q2] at h2; cases h2
  | some l =>
    rw [q2] at h2
    have h2 : bnd (ev Φ hi ρ) (fun z => bnd (lft (optI z)) fun u => lft (slcS d1 l u)) t2 = some (r, t') := h2
    refine ⟨l, optI_rep q2 (o2.top R2), ?_⟩
    refine T_bind rfl R2 h2 out2 fun d3 t3 v3 H3 F3 e3 h3 R3 s3 o3 z3 out3 => ?_
    cases q3 : optI d3 with
    | none => rw [q3] at h3; cases h3
    | some u =>
      rw [q3] at h3
      have h3 : lft (slcS d1 l u) t3 = some (r, t') := h3
      obtain ⟨d, e, rfl, rfl⟩ := lft_some' h3
      exact ⟨u, optI_rep q3 (o3.top R3), F3, d1, d, R3.sub, ((o1.mono s2).mono s3).top R3, e, fun v H' n => out_new rfl R3 out3 n.new⟩
/-! displays -/
theorem wl_nil (h : TL Φ k E [] σ H Q') : tNil σ H Q' := by
  obtain ⟨c, ρ, t, F, rfl, R, r, t', h, out⟩ := h
  cases h
  exact out H F R Sub.refl .refl [] ⟨rfl, rfl⟩
theorem wl_cons (h : TL Φ k E (e :: es) σ H Q') : tCons (T Φ k E e) (TL Φ k E es) σ H Q' := by
  obtain ⟨c, ρ, t, F, rfl, R, r, t', h, out⟩ := h
  refine T_bind rfl R h out fun d1 t1 v1 H1 F1 e1 h1 R1 s1 o1 z1 out1 => ?_
  refine TL_bind rfl R1 h1 out1 fun ds t2 vs H2 F2 e2 h2 R2 s2 o2 z2 out2 => ?_
  cases h2
  exact out2 H2 F2 R2 Sub.refl .refl (v1 :: vs) ⟨d1, ds, v1, vs, rfl, rfl, o1.mono s2, o2⟩
/-- no operand among them -/
def plainEs (es : List Ex) : Prop := (es.any isBor) = false
/-- (e, ..): a new tuple, whole -/
def tTupX (t : TA) : TE := fun σ H Q => t σ H fun xs H1 => xs.length ≤ sizeLine ∧ ∀ p ob, H1 p = none → ob.dict = none → Q (.ref p) (upd H1 p (.frz ob (.tup xs)))
theorem pe_tupX {X : Cx} {t : TA} {es : List Expr} {x1 : Nat} {pos : Pos} (h : PA X es t) : PE X (.Tuple es x1 pos) (tTupX t) := by
  refine ⟨fun pins s σ H Q I hq => ?_⟩
  refine wpAny_Tuple_spliced (thn (h.run pos pins s σ H _ I hq) fun us s1 ⟨xs, H1, I1, r, z, q⟩ => ⟨by rw [← r.length]; exact z, ?_⟩)
  have hf : H1 s1.heap.objs.size = none := I1.hok.fresh (Nat.le_refl _)
  exact ⟨.ref s1.heap.objs.size, _, I1.laid (t' := s1.toks) (fun b u e => Heap.get?_push_of_some _ e) (Nat.le_refl _) (tup_new z r), rfl, q _ _ hf rfl⟩
theorem w_tup (hb : plainEs es) (h : T Φ k E (.tup es) σ H Q) : tTupX (TL Φ k E es) σ H Q := by
  obtain ⟨c, ρ, t, F, rfl, R, r, t', h, out⟩ := h
  refine TL_bind rfl R h out fun ds t1 vs H1 F1 e1 h1 R1 s1 o1 z1 out1 => ?_
  have rl := o1.rep hb
  by_cases hz : ds.length ≤ lim
  · rw [if_pos hz] at h1
    cases h1
    exact ⟨by rw [rl.length]; exact hz, fun p ob hp hd => out_new rfl R1 out1 (.inr ⟨p, _, hp, rfl, rfl, vs, ob, rfl, hd, rl⟩)⟩
  · rw [if_neg hz] at h1
    cases h1
theorem w_lst (hb : plainEs es) (h : T Φ k E (.lst es) σ H Q) : tLst (TL Φ k E es) σ H Q := by
  obtain ⟨c, ρ, t, F, rfl, R, r, t', h, out⟩ := h
  refine TL_bind rfl R h out fun ds t1 vs H1 F1 e1 h1 R1 s1 o1 z1 out1 => ?_
  have rl := o1.rep hb
  by_cases hz : ds.length ≤ lim
  · rw [if_pos hz] at h1
    cases h1
    exact ⟨by rw [rl.length]; exact hz, fun p hp => out_new rfl R1 out1 (.inr ⟨p, _, hp, rfl, rfl, vs, rfl, rl⟩)⟩
  · rw [if_neg hz] at h1
    cases h1
/-! truths, tests -/
theorem non_iff {F H : Hp} : ∀ {d : D} {v : V}, RepT k F H d v → decide (d = .non) = decide (v = .non) := fun {d v} r => by
  cases d with
  | non => cases r; rfl
  | bl _ => cases r; rfl
  | int _ => cases r; rfl
  | str _ => cases r; rfl
  | tup _ => obtain ⟨a, vs, e, _⟩ := r; subst e; rfl
  | lst _ => obtain ⟨a, vs, e, _⟩ := r; subst e; rfl
  | dct _ => obtain ⟨a, vs, e, _⟩ := r; subst e; rfl
  | ins _ _ => obtain ⟨a, dx, vs, e, _⟩ := r; subst e; rfl
  | exc _ _ => cases r; rfl
  | tape => obtain ⟨_, e⟩ := r; subst e; rfl
theorem out_as (hb : isBor b = false) (hb' : isBor e = false) : ∀ {r : Res D}, Out E c ρ σ H F t' (fun d H' F' => ∀ v, Opd c.k ρ σ F' e d v → Q v H') r → Out E c ρ σ H F t' (fun d H' F' => ∀ v, Opd c.k ρ σ F' b d v → Q v H') r
  | .ok _, o => fun H' F' R s z v h => o H' F' R s z v (.of hb' (h.rep hb))
  | .ex _ _, o => o
theorem w_isN (h : T Φ k E (.isN a) σ H Q) : tIsN (T Φ k E a) σ H Q := by
  obtain ⟨c, ρ, t, F, rfl, R, r, t', h, out⟩ := h
  refine T_bind rfl R h out fun d1 t1 v1 H1 F1 e1 h1 R1 s1 o1 z1 out1 => ?_
  cases h1
  rw [← non_iff (o1.top R1)]
  exact out_same rfl R1 out1 rfl
theorem w_notN (h : T Φ k E (.notN a) σ H Q) : tNotN (T Φ k E a) σ H Q := by
  obtain ⟨c, ρ, t, F, rfl, R, r, t', h, out⟩ := h
  refine T_bind rfl R h out fun d1 t1 v1 H1 F1 e1 h1 R1 s1 o1 z1 out1 => ?_
  cases h1
  have z := out_same rfl R1 out1 rfl
  rw [non_iff (o1.top R1)] at z
  exact z
theorem bl_of {d : D} {b : Bool} {F H : Hp} {v : V} (h : truth d = some b) (r : RepT k F H d v) : v = .bl b := by
  cases d <;> first | (cases h; done) | skip
  cases h
  exact r
theorem w_and (hb : isBor b = false) (h : T Φ k E (.and a b) σ H Q) : tAndV (T Φ k E a) (T Φ k E b) σ H Q := by
  obtain ⟨c, ρ, t, F, rfl, R, r, t', h, out⟩ := h
  refine T_bind rfl R h out fun d1 t1 v1 H1 F1 e1 h1 R1 s1 o1 z1 out1 => ?_
  cases q : truth d1 with
  | none => rw [q] at h1; cases h1
  | some x =>
    rw [q] at h1
    refine ⟨x, bl_of q (o1.top R1), ?_⟩
    cases x with
    | true => exact ⟨c, ρ, t1, F1, rfl, R1, r, t', h1, out_as hb rfl out1⟩
    | false =>
      cases h1
      exact out_same rfl R1 out1 rfl
theorem w_or (hb : isBor b = false) (h : T Φ k E (.or a b) σ H Q) : tOrV (T Φ k E a) (T Φ k E b) σ H Q := by
  obtain ⟨c, ρ, t, F, rfl, R, r, t', h, out⟩ := h
  refine T_bind rfl R h out fun d1 t1 v1 H1 F1 e1 h1 R1 s1 o1 z1 out1 => ?_
  cases q : truth d1 with
  | none => rw [q] at h1; cases h1
  | some x =>
    rw [q] at h1
    refine ⟨x, bl_of q (o1.top R1), ?_⟩
    cases x with
    | false => exact ⟨c, ρ, t1, F1, rfl, R1, r, t', h1, out_as hb rfl out1⟩
    | true =>
      cases h1
      exact out_same rfl R1 out1 rfl
theorem w_not (h : T Φ k E (.not a) σ H Q) : tNotV (T Φ k E a) σ H Q := by
  obtain ⟨c, ρ, t, F, rfl, R, r, t', h, out⟩ := h
  refine T_bind rfl R h out fun d1 t1 v1 H1 F1 e1 h1 R1 s1 o1 z1 out1 => ?_
  cases q : truth d1 with
  | none => rw [q] at h1; cases h1
  | some x =>
    rw [q] at h1
    cases h1
    exact ⟨x, bl_of q (o1.top R1), out_same rfl R1 out1 rfl⟩
/-- a test taken as such -/
theorem TT_bind {α : Type} {f : Bool → M α} {r : Res α} {ok : α → Hp → Hp → Prop} {K : Bool → Hp → Prop} (R : Rel c ρ t σ H F) (h : bnd (ev Φ a ρ) (fun x => bnd (lft (truth x)) f) t = some (r, t')) (o : Out E c ρ σ H F t' ok r)
    (g : ∀ b t1 H1 F1, f b t1 = some (r, t') → Rel c ρ t1 σ H1 F1 → Sub F F1 → Keep c.k H H1 → Out E c ρ σ H1 F1 t' ok r → K b H1) : TT' Φ c.k E a σ H K := by
  rw [← bnd_bnd] at h
  unfold bnd at h
  cases q : bnd (ev Φ a ρ) (fun x => lft (truth x)) t with
  | none => unfold bnd at q; rw [q] at h; cases h
  | some p =>
    obtain ⟨x, t1⟩ := p
    have q' := q
    unfold bnd at q
    rw [q] at h
    cases x with
    | ok d => exact ⟨c, ρ, t, F, rfl, R, .ok d, t1, q', fun H1 F1 R1 s1 z1 => g d t1 H1 F1 h R1 s1 z1 (o.sub s1 z1)⟩
    | ex n l =>
      cases h
      exact ⟨c, ρ, t, F, rfl, R, .ex n l, t', q', o⟩
theorem w_ife {x : Ex} (ha : isBor a = false) (hb : isBor b = false) (h : T Φ k E (.ife x a b) σ H Q) : tIf (TT' Φ k E x) (T Φ k E a) (T Φ k E b) σ H Q := by
  obtain ⟨c, ρ, t, F, rfl, R, r, t', h, out⟩ := h
  refine TT_bind R h out fun y t1 H1 F1 h1 R1 s1 z1 out1 => ?_
  cases y with
  | true => exact ⟨c, ρ, t1, F1, rfl, R1, r, t', h1, out_as ha rfl out1⟩
  | false => exact ⟨c, ρ, t1, F1, rfl, R1, r, t', h1, out_as hb rfl out1⟩
/-! as tests -/
theorem wt_val {Qb : Bool → Hp → Prop} (hb : isBor e = false) (h : TT' Φ k E e σ H Qb) : tB (T Φ k E e) σ H Qb := by
  obtain ⟨c, ρ, t, F, rfl, R, r, t', h, out⟩ := h
  refine T_bind rfl R h out fun d1 t1 v1 H1 F1 e1 h1 R1 s1 o1 z1 out1 => ?_
  obtain ⟨x, e2, rfl, rfl⟩ := lft_some' h1
  exact ⟨x, bl_of e2 (o1.top R1), out1 H1 F1 R1 Sub.refl .refl⟩
theorem wt_not {Qb : Bool → Hp → Prop} (h : TT' Φ k E (.not a) σ H Qb) : tNot (TT' Φ k E a) σ H Qb := by
  obtain ⟨c, ρ, t, F, rfl, R, r, t', h, out⟩ := h
  unfold bnd at h
  cases q : ev Φ (.not a) ρ t with
  | none => rw [q] at h; cases h
  | some p =>
    obtain ⟨x, t1⟩ := p
    rw [q] at h
    have q2 : bnd (ev Φ a ρ) (fun x => bnd (lft (truth x)) fun k => ret (D.bl (!k))) t = some (x, t1) := q
    unfold bnd at q2
    cases q3 : ev Φ a ρ t with
    | none => rw [q3] at q2; cases q2
    | some p2 =>
      obtain ⟨y, t2⟩ := p2
      rw [q3] at q2
      cases y with
      | ex n l =>
        cases q2
        cases h
        exact ⟨c, ρ, t, F, rfl, R, .ex n l, t', by unfold bnd; rw [q3], out⟩
      | ok d =>
        cases q4 : truth d with
        | none => simp only [q4] at q2; cases q2
        | some b =>
          simp only [q4] at q2
          cases q2
          cases h
          exact ⟨c, ρ, t, F, rfl, R, .ok b, t', by unfold bnd; rw [q3]; simp only [q4]; rfl, out⟩
theorem wt_and {Qb : Bool → Hp → Prop} (h : TT' Φ k E (.and a b) σ H Qb) : tAnd (TT' Φ k E a) (TT' Φ k E b) σ H Qb := by
  obtain ⟨c, ρ, t, F, rfl, R, r, t', h, out⟩ := h
  have h : bnd (bnd (ev Φ a ρ) fun x => bnd (lft (truth x)) fun k => if k then ev Φ b ρ else ret (.bl false)) (fun x => lft (truth x)) t = some (r, t') := h
  simp only [bnd_bnd] at h
  refine TT_bind R h out fun y t1 H1 F1 h1 R1 s1 z1 out1 => ?_
  cases y with
  | true => exact ⟨c, ρ, t1, F1, rfl, R1, r, t', h1, out1⟩
  | false =>
    cases h1
    exact out1 H1 F1 R1 Sub.refl .refl
theorem wt_or {Qb : Bool → Hp → Prop} (h : TT' Φ k E (.or a b) σ H Qb) : tOr (TT' Φ k E a) (TT' Φ k E b) σ H Qb := by
  obtain ⟨c, ρ, t, F, rfl, R, r, t', h, out⟩ := h
  have h : bnd (bnd (ev Φ a ρ) fun x => bnd (lft (truth x)) fun k => if k then ret (.bl true) else ev Φ b ρ) (fun x => lft (truth x)) t = some (r, t') := h
  simp only [bnd_bnd] at h
  refine TT_bind R h out fun y t1 H1 F1 h1 R1 s1 z1 out1 => ?_
  cases y with
  | false => exact ⟨c, ρ, t1, F1, rfl, R1, r, t', h1, out1⟩
  | true =>
    cases h1
    exact out1 H1 F1 R1 Sub.refl .refl
/-- a if c else b, as a test -/
def tIfT (tc ta tb : TT) : TT := fun σ H Q => tc σ H fun c H1 => if c = true then ta σ H1 Q else tb σ H1 Q
theorem wt_ife {x : Ex} {Qb : Bool → Hp → Prop} (h : TT' Φ k E (.ife x a b) σ H Qb) : tIfT (TT' Φ k E x) (TT' Φ k E a) (TT' Φ k E b) σ H Qb := by
  obtain ⟨c, ρ, t, F, rfl, R, r, t', h, out⟩ := h
  have h : bnd (bnd (ev Φ x ρ) fun x => bnd (lft (truth x)) fun k => if k then ev Φ a ρ else ev Φ b ρ) (fun x => lft (truth x)) t = some (r, t') := h
  simp only [bnd_bnd] at h
  refine TT_bind R h out fun y t1 H1 F1 h1 R1 s1 z1 out1 => ?_
  cases y with
  | true => exact ⟨c, ρ, t1, F1, rfl, R1, r, t', h1, out1⟩
  | false => exact ⟨c, ρ, t1, F1, rfl, R1, r, t', h1, out1⟩
theorem pt_ife {X : Cx} {c a b : Expr} {pos : Pos} {tc ta tb : TT} (hc : PT X c tc) (ha : PT X a ta) (hb : PT X b tb) : PT X (.IfExp c a b pos) (tIfT tc ta tb) := by
  refine ⟨fun pins s σ H Q I h => ?_⟩
  show wpAny _ _ (do if ← isTrue c X.env (eval c X.env) then isTrue a X.env (eval a X.env) else isTrue b X.env (eval b X.env)) _ _ _
  refine wpAny_bind (thn (hc.run pins s σ H _ I h) fun d s1 ⟨H1, I1, q1⟩ => ?_)
  cases d with
  | true => exact ha.run pins s1 σ H1 Q I1 q1
  | false => exact hb.run pins s1 σ H1 Q I1 q1
end
end VS
end
section
set_option Elab.async false
set_option linter.all false
set_option maxRecDepth 100000
set_option maxHeartbeats 4000000
set_option autoImplicit false
/-! V4f: the readings of comparisons, calls, attributes. -/
namespace VS
open PySem PySem.Spec PyProof.Rows L2

/-- == of two instances: the class's own -/
def cmpI (Φ : Nat → List D → M D) (o : Cop) (x y : D) : M D := match o with
  | .eq => Φ 0 [x, y]
  | _ => stuck
def rCmpI (Φ : Nat → List D → M D) (k : Kx) (E : XK) (o : Cop) : R2 := fun x y H Q => ∃ F t d1 d2 r t', (isIns d1 && isIns d2) = true ∧ Sub F H ∧ TapeOk k H F t ∧ Rep k F d1 x ∧ Rep k F d2 y ∧ cmpI Φ o d1 d2 t = some (r, t') ∧
  Fin E k H F t' (fun d H' F' => ∀ v, Rep k F' d v → Q v H') r
def rCmpX (Φ : Nat → List D → M D) (k : Kx) (E : XK) (o : Cop) : R2 := fun x y H Q => rCmp k (cmpS o) x y H Q ∨ rCmpI Φ k E o x y H Q
section
variable {Φ : Nat → List D → M D} {k : Kx} {E : XK} {c : Ct} {ρ : Env} {t t' : Tape} {σ : L2.St} {H H' F : Hp} {Q : VK} {d : D} {v : V} {e a b i lo hi : Ex} {es as bs : List Ex} {Q' : List V → Hp → Prop}
theorem RepT.ins {F H : Hp} {d : D} {v : V} (h : isIns d = true) (r : RepT k F H d v) : Rep k F d v := by
  cases d <;> first | (cases h; done) | exact r
theorem out_fin (hb : isBor e = false) (R : Rel c ρ t σ H F) {r : Res D} (o : Out E c ρ σ H F t' (fun d H' F' => ∀ v, Opd c.k ρ σ F' e d v → Q v H') r) : Fin E c.k H F t' (fun d H' F' => ∀ v, Rep c.k F' d v → Q v H') r := by
  have z := Out.fin R o
  cases r with
  | ok d => exact fun H' F' x v h => z H' F' x v (.of hb h)
  | ex n l => exact z
theorem w_cmp {o : Cop} (h : T Φ k E (.cmp o a b) σ H Q) : tOp (rCmpX Φ k E o) (T Φ k E a) (T Φ k E b) σ H Q := by
  obtain ⟨c, ρ, t, F, rfl, R, r, t', h, out⟩ := h
  refine T_bind rfl R h out fun d1 t1 v1 H1 F1 e1 h1 R1 s1 o1 z1 out1 => ?_
  refine T_bind rfl R1 h1 out1 fun d2 t2 v2 H2 F2 e2 h2 R2 s2 o2 z2 out2 => ?_
  have p1 := (o1.mono s2).top R2
  have p2 := o2.top R2
  cases q : (isIns d1 && isIns d2) with
  | true =>
    rw [if_pos q] at h2
    have q' := Bool.and_eq_true_iff.mp q
    refine .inr ⟨F2, t2, d1, d2, r, t', q, R2.sub, R2.tape, p1.ins q'.1, p2.ins q'.2, ?_, out_fin rfl R2 out2⟩
    cases o <;> exact h2
  | false =>
    rw [if_neg (by rw [q]; exact Bool.false_ne_true)] at h2
    obtain ⟨d, e, rfl, rfl⟩ := lft_some' h2
    obtain ⟨x, e', rfl⟩ := Option.map_eq_some_iff.mp e
    exact .inl ⟨F2, d1, d2, x, R2.sub, p1, p2, e', out_same rfl R2 out2 rfl⟩
theorem w_cmp2 {o p : Cop} {z : Ex} (h : T Φ k E (.cmp2 o p a b z) σ H Q) : tChain (rCmp k (cmpS o)) (rCmp k (cmpS p)) (T Φ k E a) (T Φ k E b) (T Φ k E z) σ H Q := by
  obtain ⟨c, ρ, t, F, rfl, R, r, t', h, out⟩ := h
  refine T_bind rfl R h out fun d1 t1 v1 H1 F1 e1 h1 R1 s1 o1 z1 out1 => ?_
  refine T_bind rfl R1 h1 out1 fun d2 t2 v2 H2 F2 e2 h2 R2 s2 o2 z2 out2 => ?_
  have p1 := (o1.mono s2).top R2
  have p2 := o2.top R2
  cases q : cmpS o d1 d2 with
  | none => rw [q] at h2; cases h2
  | some x =>
    rw [q] at h2
    refine ⟨F2, d1, d2, x, R2.sub, p1, p2, q, x, rfl, ?_⟩
    cases x with
    | false =>
      cases h2
      exact out_same rfl R2 out2 rfl
    | true =>
      have h2 : bnd (ev Φ z ρ) (fun z => lft ((cmpS p d2 z).map .bl)) t2 = some (r, t') := h2
      refine T_bind rfl R2 h2 out2 fun d3 t3 v3 H3 F3 e3 h3 R3 s3 o3 z3 out3 => ?_
      obtain ⟨d, e, rfl, rfl⟩ := lft_some' h3
      obtain ⟨x, e', rfl⟩ := Option.map_eq_some_iff.mp e
      exact ⟨F3, d2, d3, x, R3.sub, (o2.mono s3).top R3, o3.top R3, e', out_same rfl R3 out3 rfl⟩
/-! calls -/
theorem evs_app (es' : List Ex) : ∀ es : List Ex, evs Φ (es ++ es') ρ = bnd (evs Φ es ρ) fun a => bnd (evs Φ es' ρ) fun b => ret (a ++ b)
  | [] => by
    show evs Φ es' ρ = bnd (evs Φ es' ρ) fun b => ret b
    funext t
    unfold bnd
    cases evs Φ es' ρ t with
    | none => rfl
    | some p => obtain ⟨r, t'⟩ := p; cases r <;> rfl
  | e :: es => by
    show bnd (ev Φ e ρ) (fun d => bnd (evs Φ (es ++ es') ρ) fun ds => ret (d :: ds)) = bnd (bnd (ev Φ e ρ) fun d => bnd (evs Φ es ρ) fun ds => ret (d :: ds)) _
    rw [bnd_bnd]
    congr 1
    funext d
    rw [evs_app es' es, bnd_bnd, bnd_bnd]
    congr 1
    funext ds
    rw [bnd_bnd]
    rfl
theorem evs_lit : ∀ ds : List D, evs Φ (ds.map Ex.lit) ρ = ret ds
  | [] => rfl
  | d :: ds => by
    show bnd (ret d) (fun d => bnd (evs Φ (ds.map Ex.lit) ρ) fun ds => ret (d :: ds)) = _
    rw [evs_lit ds]
    rfl
theorem OpdL.length : ∀ {es : List Ex} {ds : List D} {vs : List V}, OpdL k ρ σ F es ds vs → vs.length = es.length
  | [], _, _, ⟨_, h2⟩ => by rw [h2]; rfl
  | e :: es, _, _, ⟨d, dr, v, vr, _, h2, _, h4⟩ => by rw [h2, List.length_cons, List.length_cons, OpdL.length h4]
theorem w_call {f : Nat} {ds : List D} (h1 : plainEs as) (h2 : plainEs bs) (h : T Φ k E (.call f (as ++ (bs ++ ds.map .lit))) σ H Q) : TL Φ k E as σ H fun vs H1 => vs.length = as.length ∧ TL Φ k E bs σ H1 fun zs H2 => zs.length = bs.length ∧ rCall Φ k E f ds (vs ++ zs) H2 Q := by
  obtain ⟨c, ρ, t, F, rfl, R, r, t', h, out⟩ := h
  have h : bnd (evs Φ (as ++ (bs ++ ds.map .lit)) ρ) (fun ds => Φ f ds) t = some (r, t') := h
  rw [evs_app, evs_app, evs_lit] at h
  have e : (bnd (bnd (evs Φ as ρ) fun a => bnd (bnd (evs Φ bs ρ) fun a => bnd (ret ds) fun b => ret (a ++ b)) fun b => ret (a ++ b)) fun ds => Φ f ds) = bnd (evs Φ as ρ) fun a => bnd (evs Φ bs ρ) fun b => Φ f (a ++ (b ++ ds)) := by
    rw [bnd_bnd]
    congr 1
    funext a
    rw [bnd_bnd, bnd_bnd]
    rfl
  rw [e] at h
  refine TL_bind rfl R h out fun d1 t1 v1 H1 F1 e1 h3 R1 s1 o1 z1 out1 => ⟨o1.length, ?_⟩
  refine TL_bind rfl R1 h3 out1 fun d2 t2 v2 H2 F2 e2 h4 R2 s2 o2 z2 out2 => ⟨o2.length, ?_⟩
  exact ⟨d1 ++ d2, t2, F2, r, t', R2.sub, R2.tape, ((o1.mono s2).rep h1).append (o2.rep h2), by rw [List.append_assoc]; exact h4, out_fin rfl R2 out2⟩
theorem OpdL.tops (R : Rel c ρ t σ H F) : ∀ {es : List Ex} {ds : List D} {vs : List V}, OpdL c.k ρ σ F es ds vs → RepTs c.k F H ds vs
  | [], _, _, ⟨h1, h2⟩ => by subst h1 h2; rfl
  | e :: es, _, _, ⟨d, dr, v, vr, h1, h2, h3, h4⟩ => by
    subst h1 h2
    exact ⟨v, vr, rfl, h3.top R, OpdL.tops R h4⟩
theorem w_blt {b : Blt} (h : T Φ k E (.blt b es) σ H Q) : TL Φ k E es σ H fun vs H1 => rBlt k b vs H1 Q := by
  obtain ⟨c, ρ, t, F, rfl, R, r, t', h, out⟩ := h
  refine TL_bind rfl R h out fun ds t1 vs H1 F1 e1 h1 R1 s1 o1 z1 out1 => ?_
  obtain ⟨d, e, rfl, rfl⟩ := lft_some' h1
  exact ⟨F1, ds, d, R1.sub, o1.tops R1, e, fun v H' n => out_new rfl R1 out1 n.new⟩
/-- a receiver and its arguments -/
theorem w_mt {m : Blt} {o : Ex} (h : T Φ k E (.mt m o es) σ H Q) : T Φ k E o σ H fun x H1 => ∃ F d, Sub F H1 ∧ RepT k F H1 d x ∧ mtOk m d = true ∧ TL Φ k E es σ H1 fun xs H2 => rMt k m d (x :: xs) H2 Q := by
  obtain ⟨c, ρ, t, F, rfl, R, r, t', h, out⟩ := h
  refine T_bind rfl R h out fun d1 t1 v1 H1 F1 e1 h1 R1 s1 o1 z1 out1 => ?_
  cases q : mtOk m d1 with
  | false =>
    rw [if_neg (by rw [q]; exact Bool.false_ne_true)] at h1
    cases h1
  | true =>
    rw [if_pos q] at h1
    refine ⟨F1, d1, R1.sub, o1.top R1, q, ?_⟩
    refine TL_bind rfl R1 h1 out1 fun ds t2 vs H2 F2 e2 h2 R2 s2 o2 z2 out2 => ?_
    obtain ⟨d, e, rfl, rfl⟩ := lft_some' h2
    exact ⟨F2, ds, d, R2.sub, ⟨v1, vs, rfl, (o1.mono s2).top R2, o2.tops R2⟩, e, fun v H' n => out_new rfl R2 out2 n.new⟩
/-! attributes -/
theorem lookup_zip {α : Type} : ∀ {l : List Str} {vs : List α} {i : Nat} {x : Str} {v : α}, l.Nodup → l[i]? = some x → vs[i]? = some v → (l.zip vs).lookup x = some v
  | [], _, _, _, _, _, h, _ => by simp at h
  | _ :: _, [], _, _, _, _, _, h => by simp at h
  | y :: l, w :: vs, 0, x, v, _, h1, h2 => by
    simp at h1 h2
    subst h1 h2
    show List.lookup y ((y, w) :: l.zip vs) = some w
    rw [List.lookup_cons, beq_self_eq_true]
  | y :: l, w :: vs, i + 1, x, v, nd, h1, h2 => by
    have h1 : l[i]? = some x := by simpa using h1
    have ne : (x == y) = false := by
      apply Bool.eq_false_iff.mpr
      intro e
      have e := beq_iff_eq.mp e
      subst e
      exact (List.nodup_cons.mp nd).1 (List.mem_of_getElem? h1)
    show List.lookup x ((y, w) :: l.zip vs) = some v
    rw [List.lookup_cons, ne]
    exact lookup_zip (List.nodup_cons.mp nd).2 h1 (by simpa using h2)
theorem w_att {c' f : Nat} {nm : Str} (hn : (flds c')[f]? = some nm) (nd : (flds c').Nodup) (hc : Cls k.K (k.cl c')) (ha : NoAttr k.K (k.cl c') nm) (h : T Φ k E (.att a c' f) σ H Q) : tFld k.K (T Φ k E a) nm σ H Q := by
  obtain ⟨c, ρ, t, F, rfl, R, r, t', h, out⟩ := h
  refine T_bind rfl R h out fun d1 t1 v1 H1 F1 e1 h1 R1 s1 o1 z1 out1 => ?_
  cases d1 <;> first | (cases h1; done) | skip
  rename_i cc l
  obtain ⟨p, dx, vs, ev, ep, hl, rl⟩ := o1.top R1
  have h0 : (if cc = c' then lft l[f]? else stuck) t1 = some (r, t') := h1
  by_cases hcc : cc = c'
  · rw [if_pos hcc] at h0
    subst hcc
    obtain ⟨d, e, rfl, rfl⟩ := lft_some' h0
    obtain ⟨w, e2, rw'⟩ := rl.get e
    exact ⟨p, c.k.cl cc, dx, _, w, ev, R1.sub _ _ ep, hc, ha, lookup_zip nd hn e2, out_same rfl R1 out1 rw'⟩
  · rw [if_neg hcc] at h0
    cases h0
end
end VS
end
section
set_option Elab.async false
set_option linter.all false
set_option maxRecDepth 100000
set_option maxHeartbeats 4000000
set_option autoImplicit false
/-! V4g: targets, what is walked. -/
namespace VS
open PySem PySem.Spec PyProof.Rows L2

/-! ### stores -/
section
variable {c : Ct} {ρ ρ' : Env} {t t' : Tape} {σ σ' : L2.St} {H F H' F' : Hp}
theorem get_set {α : Type} {l : List α} {i j : Nat} {a b : α} (h : (l.set i a)[j]? = some b) : (i = j ∧ a = b ∧ i < l.length) ∨ (i ≠ j ∧ l[j]? = some b) := by
  by_cases e : i = j
  · subst e
    by_cases hl : i < l.length
    · rw [List.getElem?_set_self hl] at h
      cases h
      exact .inl ⟨rfl, rfl, hl⟩
    · rw [List.getElem?_eq_none (by simpa using hl)] at h
      cases h
  · rw [List.getElem?_set_ne e] at h
    exact .inr ⟨e, h⟩
theorem Rel.set (R : Rel c ρ t σ H F) {i : Nat} {d : D} {v : V} (r : Rep c.k F d v) : Rel c (setV ρ i d false) t (σ.set i (some v)) H F where
  sub := R.sub
  prot := R.prot
  tape := R.tape
  len := by unfold setV; rw [List.length_set, List.length_set]; exact R.len
  frz := fun j e h => by
    rcases get_set h with ⟨rfl, h1, h2⟩ | ⟨h1, h2⟩
    · cases h1
      exact ⟨v, List.getElem?_set_self (by rw [← R.len]; exact h2), r⟩
    · obtain ⟨u, h3, h4⟩ := R.frz j e h2
      exact ⟨u, by rw [List.getElem?_set_ne h1]; exact h3, h4⟩
  own := fun j e h => by
    rcases get_set h with ⟨rfl, h1, h2⟩ | ⟨h1, h2⟩
    · cases h1
    · obtain ⟨a, o, h3, h4⟩ := R.own j e h2
      exact ⟨a, o, by rw [List.getElem?_set_ne h1]; exact h3, h4⟩
  sep := fun i' j' d' e' a h1 h2 h3 h4 => by
    rcases get_set h1 with ⟨rfl, q1, _⟩ | ⟨q1, q2⟩
    · cases q1
    rcases get_set h2 with ⟨rfl, p1, _⟩ | ⟨p1, p2⟩
    · cases p1
    rw [List.getElem?_set_ne q1] at h3
    rw [List.getElem?_set_ne p1] at h4
    exact R.sep i' j' d' e' a q2 p2 h3 h4
/-- from a state whose other slots are these -/
theorem Rel.back (R : Rel c ρ t σ H F) (R' : Rel c ρ' t' σ' H' F') (s : Sub F F') (ho : ∀ (i : Nat) (d : D), ρ[i]? = some (some (d, true)) → ρ'[i]? = some (some (d, true)) ∧ σ'[i]? = σ[i]?) : Rel c ρ t' σ H' F' where
  sub := R'.sub
  prot := R'.prot
  tape := R'.tape
  len := R.len
  frz := fun i d e => let ⟨v, h1, h2⟩ := R.frz i d e; ⟨v, h1, h2.mono s⟩
  own := fun i d e => by
    obtain ⟨h1, h2⟩ := ho i d e
    obtain ⟨a, o, h3, h4⟩ := R'.own i d h1
    exact ⟨a, o, by rw [← h2]; exact h3, h4⟩
  sep := R.sep
/-- the slots of is forgotten -/
theorem Rel.wipe : ∀ {is : List Nat} {ρ₀ : Env}, Rel c ρ t σ H F → wipeE ρ is = some ρ₀ → Rel c ρ₀ t (L2.wipe σ is) H F ∧ ∀ (i : Nat) (d : D), ρ[i]? = some (some (d, true)) → ρ₀[i]? = some (some (d, true)) ∧ (L2.wipe σ is)[i]? = σ[i]?
  | [], _, R, h => by
    cases h
    exact ⟨R, fun i d e => ⟨e, rfl⟩⟩
  | i :: is, ρ₀, R, h => by
    have h : (wipeE ρ is).bind (fun ρ' => match ρ'[i]? with
      | some (some (_, true)) => none
      | _ => some (ρ'.set i none)) = some ρ₀ := h
    cases q : wipeE ρ is with
    | none => rw [q] at h; cases h
    | some ρ1 =>
      rw [q] at h
      obtain ⟨R1, o1⟩ := Rel.wipe R q
      have h : (match ρ1[i]? with
        | some (some (_, true)) => none
        | _ => some (ρ1.set i none)) = some ρ₀ := h
      have hn : (∀ d, ρ1[i]? ≠ some (some (d, true))) ∧ ρ₀ = ρ1.set i none := by
        cases q1 : ρ1[i]? with
        | none => rw [q1] at h; cases h; exact ⟨(fun d e => nomatch e), rfl⟩
        | some x =>
          rw [q1] at h
          match x, h with
          | none, h => cases h; exact ⟨(fun d e => nomatch e), rfl⟩
          | some (d', false), h => cases h; exact ⟨(fun d e => nomatch e), rfl⟩
          | some (d', true), h => cases h
      obtain ⟨hno, rfl⟩ := hn
      have hs : L2.wipe σ (i :: is) = (L2.wipe σ is).set i none := rfl
      refine ⟨⟨R1.sub, R1.prot, R1.tape, by rw [hs, List.length_set, List.length_set]; exact R1.len, fun j d e => ?_, fun j d e => ?_, fun j j' d e a h1 h2 h3 h4 => ?_⟩, fun j d e => ?_⟩
      · rcases get_set e with ⟨rfl, h1, _⟩ | ⟨h1, h2⟩
        · cases h1
        · obtain ⟨v, h3, h4⟩ := R1.frz j d h2
          exact ⟨v, by rw [hs, List.getElem?_set_ne h1]; exact h3, h4⟩
      · rcases get_set e with ⟨rfl, h1, _⟩ | ⟨h1, h2⟩
        · cases h1
        · obtain ⟨a, o, h3, h4⟩ := R1.own j d h2
          exact ⟨a, o, by rw [hs, List.getElem?_set_ne h1]; exact h3, h4⟩
      · rcases get_set h1 with ⟨rfl, q1, _⟩ | ⟨q1, q2⟩
        · cases q1
        rcases get_set h2 with ⟨rfl, p1, _⟩ | ⟨p1, p2⟩
        · cases p1
        rw [hs, List.getElem?_set_ne q1] at h3
        rw [hs, List.getElem?_set_ne p1] at h4
        exact R1.sep j j' d e a q2 p2 h3 h4
      · obtain ⟨h1, h2⟩ := o1 j d e
        have ne : i ≠ j := fun z => hno d (by rw [z]; exact h1)
        exact ⟨by rw [List.getElem?_set_ne ne]; exact h1, by rw [hs, List.getElem?_set_ne ne]; exact h2⟩
end
/-! ### targets -/
/-- the slots outside l are as they were -/
def SameOut (l : List Nat) (ρ ρ' : Env) (σ σ' : L2.St) : Prop := σ'.length = σ.length ∧ ∀ i, i ∉ l → ρ'[i]? = ρ[i]? ∧ σ'[i]? = σ[i]?
theorem SameOut.refl {l : List Nat} {ρ : Env} {σ : L2.St} : SameOut l ρ ρ σ σ := ⟨rfl, fun _ _ => ⟨rfl, rfl⟩⟩
theorem SameOut.trans {l m : List Nat} {ρ ρ' ρ'' : Env} {σ σ' σ'' : L2.St} (x : SameOut l ρ ρ' σ σ') (y : SameOut m ρ' ρ'' σ' σ'') : SameOut (l ++ m) ρ ρ'' σ σ'' :=
  ⟨y.1.trans x.1, fun i h => by
    rw [List.mem_append, not_or] at h
    obtain ⟨h1, h2⟩ := x.2 i h.1
    obtain ⟨h3, h4⟩ := y.2 i h.2
    exact ⟨h3.trans h1, h4.trans h2⟩⟩
/-- the reading of a target -/
def GT (k : Kx) (tg : Tg) : TG := fun v σ H Q => ∃ c ρ t F d ρ', c.k = k ∧ Rel c ρ t σ H F ∧ RepW k (isTp tg) F H d v ∧ setT tg d ρ = some ρ' ∧ ∀ σ', Rel c ρ' t σ' H F → SameOut (tgSlots tg) ρ ρ' σ σ' → Q σ' H
def GTs (k : Kx) (tgs : List Tg) : TGs := fun vs σ H Q => ∃ c ρ t F ds ρ', c.k = k ∧ Rel c ρ t σ H F ∧ RepL k F ds vs ∧ setTs tgs ds ρ = some ρ' ∧ ∀ σ', Rel c ρ' t σ' H F → SameOut (tgsSlots tgs) ρ ρ' σ σ' → Q σ' H
section
variable {k : Kx} {v : V} {vs : List V} {σ : L2.St} {H : Hp} {Q : L2.St → Hp → Prop}
theorem RepW.rep {k : Kx} {F H : Hp} {d : D} {v : V} (h : RepW k false F H d v) : Rep k F d v := h.elim id fun z => nomatch z.1
theorem RepW.to {k : Kx} {wk wk' : Bool} {F H : Hp} {d : D} {v : V} (w : wk = true → wk' = true) (h : RepW k wk F H d v) : RepW k wk' F H d v := h.elim .inl fun z => .inr ⟨w z.1, z.2⟩
theorem gt_nm {i : Nat} (h : GT k (.nm i) v σ H Q) : gName i v σ H Q := by
  obtain ⟨c, ρ, t, F, d, ρ', rfl, R, r, e, q⟩ := h
  cases e
  refine q _ (R.set r.rep) ⟨List.length_set .., fun j hj => ?_⟩
  have ne : i ≠ j := fun z => hj (by rw [z]; exact List.mem_singleton.mpr rfl)
  exact ⟨by unfold setV; rw [List.getElem?_set_ne ne], by rw [List.getElem?_set_ne ne]⟩
theorem gts_nil (h : GTs k [] vs σ H Q) : gNil vs σ H Q := by
  obtain ⟨c, ρ, t, F, ds, ρ', rfl, R, r, e, q⟩ := h
  cases ds with
  | nil => cases e; exact ⟨r, q σ R .refl⟩
  | cons _ _ => cases e
theorem gts_cons {tg : Tg} {tgs : List Tg} (h : GTs k (tg :: tgs) vs σ H Q) : gCons (GT k tg) (GTs k tgs) vs σ H Q := by
  obtain ⟨c, ρ, t, F, ds, ρ', rfl, R, r, e, q⟩ := h
  cases ds with
  | nil => cases e
  | cons d ds =>
    obtain ⟨v, vr, rfl, h1, h2⟩ := r
    have e : (setT tg d ρ).bind (fun ρ => setTs tgs ds ρ) = some ρ' := e
    obtain ⟨ρ1, e1, e2⟩ := Option.bind_eq_some_iff.mp e
    refine ⟨v, vr, rfl, c, ρ, t, F, d, ρ1, rfl, R, .inl h1, e1, fun σ1 R1 s1 => ?_⟩
    exact ⟨c, ρ1, t, F, ds, ρ', rfl, R1, h2, e2, fun σ2 R2 s2 => q σ2 R2 (s1.trans s2)⟩
theorem setTs_len : ∀ {tgs : List Tg} {ds : List D} {ρ ρ' : Env}, setTs tgs ds ρ = some ρ' → ds.length = tgs.length
  | [], [], _, _, _ => rfl
  | [], _ :: _, _, _, h => nomatch h
  | _ :: _, [], _, _, h => nomatch h
  | tg :: tgs, d :: ds, ρ, ρ', h => by
    have h : (setT tg d ρ).bind (fun ρ => setTs tgs ds ρ) = some ρ' := h
    obtain ⟨ρ1, _, e2⟩ := Option.bind_eq_some_iff.mp h
    rw [List.length_cons, List.length_cons, setTs_len e2]
theorem gt_tp {tgs : List Tg} {K : PySem.W.Frag} (h : GT k (.tp tgs) v σ H Q) : gTup K tgs.length (GTs k tgs) v σ H Q := by
  obtain ⟨c, ρ, t, F, d, ρ', rfl, R, r, e, q⟩ := h
  cases d <;> first | (cases e; done) | skip
  rename_i ds
  rcases r with ⟨a, xs, rfl, g, rl⟩ | ⟨_, a, ds', xs, e1, rfl, g, rl⟩
  · exact ⟨a, xs, rfl, .inl (R.sub.rd g.rd), by rw [rl.length]; exact setTs_len e, c, ρ, t, F, ds, ρ', rfl, R, rl, e, q⟩
  · cases e1
    exact ⟨a, xs, rfl, .inl (.inl g), by rw [rl.length]; exact setTs_len e, c, ρ, t, F, ds, ρ', rfl, R, rl, e, q⟩
end

/-! ### what is walked -/
/-- what stood stands, X and the tape aside -/
def KeepX (k : Kx) (X : Addr → Prop) (H H' : Hp) : Prop := ∀ a o, H a = some o → ¬ onTape k a → ¬ X a → H' a = some o
theorem KeepX.of {k : Kx} {X : Addr → Prop} {H H' : Hp} (h : Keep k H H') : KeepX k X H H' := fun a o e n _ => h a o e n
theorem KeepX.trans {k : Kx} {X : Addr → Prop} {H H' H'' : Hp} (x : KeepX k X H H') (y : KeepX k X H' H'') : KeepX k X H H'' := fun a o h n m => y a o (x a o h n m) n m
/-- what holds while one walks: all that stood at the start (no fz: a comprehension; X is what it makes), or what was frozen -/
def StW (k : Kx) (fz : Bool) (X : Addr → Prop) (H0 F0 H G : Hp) : Prop := Sub F0 G ∧ Sub G H ∧ (fz = false → KeepX k X H0 H)
def Walks (k : Kx) (fz wk : Bool) (X : Addr → Prop) (H0 F0 : Hp) (ds : List D) (J : L2.It) : Prop := ∀ (i : Nat) (H G : Hp), StW k fz X H0 F0 H G →
  (ds.length ≤ i → J.stop i H) ∧ ∀ d, ds[i]? = some d → J.go i H ∧ ∀ x H', J.yld i H x H' → NewW k wk G H d x H'
/-- what a comprehension makes is new, or protected -/
def okX (c : Ct) (H : Hp) (X : Addr → Prop) : Prop := ∀ a, X a → H a = none ∨ c.P a
section
variable (Φ : Nat → List D → M D) (k : Kx) (E : XK) (fz : Bool)
def noOwn (ρ : Env) (l : List Nat) : Prop := ∀ i ∈ l, ∀ d : D, ρ[i]? ≠ some (some (d, true))
def TIt (it : It) : TI := fun σ H R => ∃ c ρ t F, c.k = k ∧ Rel c ρ t σ H F ∧ (fz = true → noOwn ρ (brI it)) ∧ ∃ r t', evI Φ it ρ t = some (r, t') ∧ Out E c ρ σ H F t' (fun ds H' F' => ∀ J, (∀ X, okX c H' X → Walks k fz (itW it) X H' F' ds J) → R J H') r
end
/-- the data that stays while one walks -/
def RepS (k : Kx) (fz : Bool) (X : Addr → Prop) (H0 F0 : Hp) (d : D) (v : V) : Prop := ∀ H G, StW k fz X H0 F0 H G → RepT k G H d v
section
variable {Φ : Nat → List D → M D} {k : Kx} {E : XK} {fz : Bool} {c : Ct} {ρ : Env} {t t' : Tape} {σ : L2.St} {H F : Hp} {d : D} {v : V} {e e2 : Ex} {es : List Ex} {X : Addr → Prop}
theorem Rep.st (r : Rep k F d v) : RepS k fz X H F d v := fun H' G s => (r.mono s.1).top s.2.1
theorem bor_cases {i : Nat} (R : Rel c ρ t σ H F) (h : Opd c.k ρ σ F (.bor i) d v) : Rep c.k F d v ∨ (ρ[i]? = some (some (d, true)) ∧ ∃ a o, v = .ref a ∧ H a = some o ∧ ObjR c.k F a o d ∧ ¬ onTape c.k a ∧ ¬ c.P a) := by
  obtain ⟨h1, h2⟩ := h
  unfold getB at h2
  cases q : ρ[i]? with
  | none => rw [q] at h2; cases h2
  | some x =>
    rw [q] at h2
    match x, h2, q with
    | some (d', false), h2, q =>
      cases h2
      obtain ⟨v', h3, h4⟩ := R.frz i _ q
      rw [h3] at h1
      cases h1
      exact .inl h4
    | some (d', true), h2, q =>
      cases h2
      obtain ⟨a, o, h3, h4, _, h6, h7, h8⟩ := R.own i _ q
      rw [h3] at h1
      cases h1
      exact .inr ⟨rfl, a, o, rfl, h4, h6, h8, h7⟩
theorem opd_st (R : Rel c ρ t σ H F) (h : Opd c.k ρ σ F e d v) (hX : okX c H X) (hb : fz = true → ∀ i, e = .bor i → ∀ d : D, ρ[i]? ≠ some (some (d, true))) : RepS c.k fz X H F d v := by
  cases q : isBor e with
  | false => exact (h.rep q).st
  | true =>
    cases e with
    | bor i =>
      rcases bor_cases R h with r | ⟨ho, a, o, rfl, ha, ro, nt, np⟩
      · exact r.st
      · cases fz with
        | true => exact absurd ho (hb rfl i rfl d)
        | false => exact fun H' G s => (ro.mono s.1).top (s.2.2 rfl a o ha nt fun z => (hX a z).elim (fun y => by rw [ha] at y; cases y) np)
    | _ => cases q
/-! the iterators -/
theorem walk_list {K : PySem.W.Frag} {ds : List D} {a : Addr} (h : RepS k fz X H F (.lst ds) (.ref a)) : Walks k fz false X H F ds (Itl K a) := fun i H' G s => by
  obtain ⟨a', vs, e, g, r⟩ := h H' G s
  cases e
  refine ⟨fun hl => ⟨vs, .inl g, by rw [r.length]; exact hl⟩, fun d hd => ?_⟩
  obtain ⟨w, e1, e2⟩ := r.get hd
  refine ⟨⟨vs, w, .inl g, e1⟩, fun x H'' ⟨y1, y2⟩ => ?_⟩
  have z := y2 vs (.inl g)
  rw [e1] at z
  cases z
  exact .inl (.inl ⟨y1, e2⟩)
theorem walk_tup {K : PySem.W.Frag} {ds : List D} {a : Addr} (h : RepS k fz X H F (.tup ds) (.ref a)) : Walks k fz false X H F ds (Itt K a) := fun i H' G s => by
  obtain ⟨a', vs, e, g, r⟩ := h H' G s
  cases e
  have g := s.2.1.rd g.rd
  refine ⟨fun hl => ⟨vs, .inl g, by rw [r.length]; exact hl⟩, fun d hd => ?_⟩
  obtain ⟨w, e1, e2⟩ := r.get hd
  refine ⟨⟨vs, w, .inl g, e1⟩, fun x H'' ⟨y1, y2⟩ => ?_⟩
  have z := y2 vs (.inl g)
  rw [e1] at z
  cases z
  exact .inl (.inl ⟨y1, e2⟩)
theorem rangeL_get : ∀ (n : Nat) (lo : Int) (i : Nat) (d : D), (rangeL lo n)[i]? = some d → i < n ∧ d = .int (lo + i)
  | 0, _, _, _, h => by simp [rangeL] at h
  | n + 1, lo, 0, d, h => by
    have h : some (D.int lo) = some d := h
    cases h
    exact ⟨Nat.succ_pos _, by simp⟩
  | n + 1, lo, i + 1, d, h => by
    obtain ⟨h1, h2⟩ := rangeL_get n (lo + 1) i d h
    exact ⟨Nat.succ_lt_succ h1, by rw [h2]; congr 1; push_cast; omega⟩
theorem rangeL_len : ∀ (n : Nat) (lo : Int), (rangeL lo n).length = n
  | 0, _ => rfl
  | n + 1, lo => by rw [rangeL, List.length_cons, rangeL_len n]
theorem walk_range {lo : Int} {n : Nat} : Walks k fz false X H F (rangeL lo n) (Itr lo n) := fun i H' G s => by
  refine ⟨fun hl => by rw [rangeL_len] at hl; exact hl, fun d hd => ?_⟩
  obtain ⟨h1, h2⟩ := rangeL_get n lo i d hd
  exact ⟨h1, fun x H'' ⟨y1, y2⟩ => .inl (.inl ⟨y1, by rw [h2, y2]; rfl⟩)⟩
theorem enumL_get : ∀ (l : List D) (lo : Int) (i : Nat) (d : D), (enumL lo l)[i]? = some d → ∃ x, l[i]? = some x ∧ d = .tup [.int (lo + i), x]
  | [], _, _, _, h => by simp [enumL] at h
  | x :: l, lo, 0, d, h => by
    have h : some (D.tup [.int lo, x]) = some d := h
    cases h
    exact ⟨x, rfl, by simp⟩
  | x :: l, lo, i + 1, d, h => by
    obtain ⟨y, h1, h2⟩ := enumL_get l (lo + 1) i d h
    exact ⟨y, h1, by rw [h2]; congr 3; push_cast; omega⟩
theorem enumL_len : ∀ (l : List D) (lo : Int), (enumL lo l).length = l.length
  | [], _ => rfl
  | _ :: l, lo => by rw [enumL, List.length_cons, List.length_cons, enumL_len l]
theorem walk_enum {K : PySem.W.Frag} {ds : List D} {a : Addr} (h : RepS k fz X H F (.lst ds) (.ref a)) : Walks k fz true X H F (enumL 0 ds) (Ite K a) := fun i H' G s => by
  obtain ⟨a', vs, e, g, r⟩ := h H' G s
  cases e
  refine ⟨fun hl => ⟨vs, .inl g, by rw [r.length]; rw [enumL_len] at hl; exact hl⟩, fun d hd => ?_⟩
  obtain ⟨y, hy, rfl⟩ := enumL_get ds 0 i d hd
  obtain ⟨w, e1, e2⟩ := r.get hy
  refine ⟨⟨vs, w, .inl g, e1⟩, fun x H'' ⟨T, u, y1, y2, y3, y4⟩ => ?_⟩
  have z := y4 vs (.inl g)
  rw [e1] at z
  cases z
  exact .inr ⟨rfl, T, _, _, y2, rfl, y1, y3, _, _, rfl, by rw [Int.zero_add]; rfl, _, _, rfl, e2, rfl⟩
theorem zipL_get : ∀ (l m : List D) (i : Nat) (d : D), (zipL l m)[i]? = some d → ∃ x y, l[i]? = some x ∧ m[i]? = some y ∧ d = .tup [x, y]
  | [], _, _, _, h => by simp [zipL] at h
  | _ :: _, [], _, _, h => by simp [zipL] at h
  | x :: l, y :: m, 0, d, h => by
    have h : some (D.tup [x, y]) = some d := h
    cases h
    exact ⟨x, y, rfl, rfl, rfl⟩
  | x :: l, y :: m, i + 1, d, h => zipL_get l m i d h
theorem zipL_len : ∀ (l m : List D), (zipL l m).length = min l.length m.length
  | [], _ => by simp [zipL]
  | _ :: _, [] => by simp [zipL]
  | x :: l, y :: m => by rw [zipL, List.length_cons, zipL_len l m, List.length_cons, List.length_cons]; omega
theorem walk_zip {K : PySem.W.Frag} {ds es : List D} {a b : Addr} (h : RepS k fz X H F (.lst ds) (.ref a)) (h2 : RepS k fz X H F (.lst es) (.ref b)) : Walks k fz true X H F (zipL ds es) (Itz K a b) := fun i H' G s => by
  obtain ⟨a', vs, e, g, r⟩ := h H' G s
  cases e
  obtain ⟨b', us, e, g', r'⟩ := h2 H' G s
  cases e
  refine ⟨fun hl => ⟨vs, us, .inl g, .inl g', ?_⟩, fun d hd => ?_⟩
  · rw [zipL_len] at hl
    rw [r.length, r'.length]
    omega
  · obtain ⟨x, y, hx, hy, rfl⟩ := zipL_get ds es i d hd
    obtain ⟨w, e1, e2⟩ := r.get hx
    obtain ⟨w', e1', e2'⟩ := r'.get hy
    refine ⟨⟨vs, us, w, w', .inl g, .inl g', e1, e1'⟩, fun x H'' ⟨T, u, u', y1, y2, y3, y4, y5⟩ => ?_⟩
    have z := y4 vs (.inl g)
    rw [e1] at z
    cases z
    have z := y5 us (.inl g')
    rw [e1'] at z
    cases z
    exact .inr ⟨rfl, T, _, _, y2, rfl, y1, y3, _, _, rfl, e2, _, _, rfl, e2', rfl⟩
theorem walk_zipT {K : PySem.W.Frag} {ds es : List D} {a b : Addr} (h : RepS k fz X H F (.tup ds) (.ref a)) (h2 : RepS k fz X H F (.tup es) (.ref b)) : Walks k fz true X H F (zipL ds es) (RZ.ItzT K a b) := fun i H' G s => by
  obtain ⟨a', vs, e, g, r⟩ := h H' G s
  cases e
  obtain ⟨b', us, e, g', r'⟩ := h2 H' G s
  cases e
  have g := s.2.1.rd g.rd
  have g' := s.2.1.rd g'.rd
  refine ⟨fun hl => ⟨vs, us, .inl g, .inl g', ?_⟩, fun d hd => ?_⟩
  · rw [zipL_len] at hl
    rw [r.length, r'.length]
    omega
  · obtain ⟨x, y, hx, hy, rfl⟩ := zipL_get ds es i d hd
    obtain ⟨w, e1, e2⟩ := r.get hx
    obtain ⟨w', e1', e2'⟩ := r'.get hy
    refine ⟨⟨vs, us, w, w', .inl g, .inl g', e1, e1'⟩, fun x H'' ⟨T, u, u', y1, y2, y3, y4, y5⟩ => ?_⟩
    have z := y4 vs (.inl g)
    rw [e1] at z
    cases z
    have z := y5 us (.inl g')
    rw [e1'] at z
    cases z
    exact .inr ⟨rfl, T, _, _, y2, rfl, y1, y3, _, _, rfl, e2, _, _, rfl, e2', rfl⟩
/-! the readings -/
theorem TIt_bind {α : Type} {it : It} {f : List D → M α} {r : Res α} {ok : α → Hp → Hp → Prop} {K : L2.It → Hp → Prop} (R : Rel c ρ t σ H F) (hb : fz = true → noOwn ρ (brI it)) (h : bnd (evI Φ it ρ) f t = some (r, t')) (o : Out E c ρ σ H F t' ok r)
    (g : ∀ ds t1 J H1 F1, f ds t1 = some (r, t') → Rel c ρ t1 σ H1 F1 → Sub F F1 → Keep c.k H H1 → Out E c ρ σ H1 F1 t' ok r → (∀ X, okX c H1 X → Walks c.k fz (itW it) X H1 F1 ds J) → K J H1) : TIt Φ c.k E fz it σ H K := by
  unfold bnd at h
  cases q : evI Φ it ρ t with
  | none => rw [q] at h; cases h
  | some p =>
    obtain ⟨x, t1⟩ := p
    rw [q] at h
    cases x with
    | ok ds => exact ⟨c, ρ, t, F, rfl, R, hb, .ok ds, t1, q, fun H1 F1 R1 s1 z1 J hJ => g ds t1 J H1 F1 h R1 s1 z1 (o.sub s1 z1) hJ⟩
    | ex n l =>
      cases h
      exact ⟨c, ρ, t, F, rfl, R, hb, .ex n l, t', q, o⟩
/-- a list or a tuple, walked -/
def iAny (K : PySem.W.Frag) (tl : TE) : TI := fun σ H R => tl σ H fun x H1 => (∃ a, x = .ref a ∧ (∃ xs, SqL K H1 a xs) ∧ R (Itl K a) H1) ∨ ∃ a, x = .ref a ∧ (∃ xs, SqT K H1 a xs) ∧ R (Itt K a) H1
theorem pi_any {X : Cx} {tg l : Expr} {tl : TE} (hl : PE X l tl) : PI X tg l (iAny X.K tl) := by
  refine ⟨fun pins s σ H R I h => ?_⟩
  refine thn (hl.run pins s σ H _ I h) fun v s1 ⟨x, H1, I1, r1, q1⟩ => ?_
  rcases q1 with ⟨a, e, ⟨xs, hq⟩, q⟩ | ⟨a, e, ⟨xs, hq⟩, q⟩
  · subst e
    cases r1
    obtain ⟨its, rv, p, hz⟩ := I1.list hq
    refine wpAny_pyIter_list p.isList ?_
    refine ⟨s1.heap.objs.size, [s1.heap.objs.size], _, _, H1, rfl, I1.kept (t' := s1.toks) fun b o e => Heap.get?_push_of_some _ e, turn_list a _, ⟨_, Heap.get?_push_size _ rfl, rfl, rfl⟩, fun b hb => ?_, q⟩
    have e : b = s1.heap.objs.size := by simpa using hb
    subst e
    exact I1.fpOk (Nat.le_refl _) (I1.hok.fresh (Nat.le_refl _))
  · subst e
    cases r1
    obtain ⟨its, rv, p, hz⟩ := I1.tuple hq
    refine wpAny_pyIter_tuple (show s1.heap.IsTuple a its.toArray from p) ?_
    refine ⟨s1.heap.objs.size, [s1.heap.objs.size], _, _, H1, rfl, I1.kept (t' := s1.toks) fun b o e => Heap.get?_push_of_some _ e, turn_tuple a _, ⟨_, Heap.get?_push_size _ rfl, rfl, rfl⟩, fun b hb => ?_, q⟩
    have e : b = s1.heap.objs.size := by simpa using hb
    subst e
    exact I1.fpOk (Nat.le_refl _) (I1.hok.fresh (Nat.le_refl _))
theorem _root_.L2.PI.weak {X : Cx} {tg e : Expr} {t u : TI} (h : PI X tg e t) (w : ∀ σ H R, u σ H R → t σ H R) : PI X tg e u := ⟨fun pins s σ H R I q => h.run pins s σ H R I (w σ H R q)⟩
theorem wi_seq {K : PySem.W.Frag} {R : L2.It → Hp → Prop} (h : TIt Φ k E fz (.seq e) σ H R) : iAny K (T Φ k E e) σ H R := by
  obtain ⟨c, ρ, t, F, rfl, Rl, hb, r, t', h, out⟩ := h
  refine T_bind rfl Rl h out fun d1 t1 v1 H1 F1 e1 h1 R1 s1 o1 z1 out1 => ?_
  obtain ⟨ds, e2, rfl, rfl⟩ := lft_some' h1
  have st : ∀ X, okX c H1 X → RepS c.k fz X H1 F1 d1 v1 := fun X hX => opd_st R1 o1 hX fun z i ei d => by subst ei; exact hb z i (List.mem_singleton.mpr rfl) d
  have tp := o1.top R1
  cases d1 <;> first | (cases e2; done) | skip
  · rename_i l
    cases e2
    obtain ⟨a, vs, rfl, g, rr⟩ := tp
    exact .inr ⟨a, rfl, ⟨vs, .inl (R1.sub.rd g.rd)⟩, out1 H1 F1 R1 Sub.refl .refl _ fun X hX => walk_tup (st X hX)⟩
  · rename_i l
    cases e2
    obtain ⟨a, vs, rfl, g, rr⟩ := tp
    exact .inl ⟨a, rfl, ⟨vs, .inl g⟩, out1 H1 F1 R1 Sub.refl .refl _ fun X hX => walk_list (st X hX)⟩
theorem inR_of {i : Int} (h : inR i = true) : -(2 ^ 62) ≤ i ∧ i < 2 ^ 62 := of_decide_eq_true h
theorem wi_range1 {a : Ex} {R : L2.It → Hp → Prop} (h : TIt Φ k E fz (.range [a]) σ H R) : iRng1 (tCons (T Φ k E a) tNil) σ H R := by
  obtain ⟨c, ρ, t, F, rfl, Rl, hb, r, t', h, out⟩ := h
  have h : bnd (bnd (ev Φ a ρ) fun d => bnd (ret []) fun ds => ret (d :: ds)) (fun ds => lft (rangeOf ds)) t = some (r, t') := h
  rw [bnd_bnd] at h
  refine T_bind rfl Rl h out fun d1 t1 v1 H1 F1 e1 h1 R1 s1 o1 z1 out1 => ?_
  obtain ⟨ds, e2, rfl, rfl⟩ := lft_some' (show lft (rangeOf [d1]) t1 = some (r, t') from h1)
  have tp := o1.top R1
  cases d1 <;> first | (cases e2; done) | skip
  rename_i j
  cases tp
  have e2 : (if inR j = true then some (rangeL 0 j.toNat) else none) = some ds := e2
  obtain ⟨h3, e3⟩ := if_some e2
  cases e3
  obtain ⟨b1, b2⟩ := inR_of h3
  exact ⟨j, rfl, b1, b2, out1 H1 F1 R1 Sub.refl .refl _ fun X hX => walk_range⟩
theorem wi_range2 {a b : Ex} {R : L2.It → Hp → Prop} (h : TIt Φ k E fz (.range [a, b]) σ H R) : iRng2 (tCons (T Φ k E a) (tCons (T Φ k E b) tNil)) σ H R := by
  obtain ⟨c, ρ, t, F, rfl, Rl, hb, r, t', h, out⟩ := h
  have h : bnd (bnd (ev Φ a ρ) fun d => bnd (bnd (ev Φ b ρ) fun d => bnd (ret []) fun ds => ret (d :: ds)) fun ds => ret (d :: ds)) (fun ds => lft (rangeOf ds)) t = some (r, t') := h
  rw [bnd_bnd] at h
  refine T_bind rfl Rl h out fun d1 t1 v1 H1 F1 e1 h1 R1 s1 o1 z1 out1 => ?_
  rw [bnd_bnd, bnd_bnd] at h1
  refine T_bind rfl R1 h1 out1 fun d2 t2 v2 H2 F2 e2 h2 R2 s2 o2 z2 out2 => ?_
  obtain ⟨ds, e3, rfl, rfl⟩ := lft_some' (show lft (rangeOf [d1, d2]) t2 = some (r, t') from h2)
  have tp := (o1.mono s2).top R2
  have tp2 := o2.top R2
  cases d1 <;> first | (cases e3; done) | skip
  cases d2 <;> first | (cases e3; done) | skip
  rename_i i j
  cases tp
  cases tp2
  have e3 : (if (inR i && inR j) = true then some (rangeL i (j - i).toNat) else none) = some ds := e3
  obtain ⟨h3, e3⟩ := if_some e3
  cases e3
  obtain ⟨g1, g2⟩ := Bool.and_eq_true_iff.mp h3
  obtain ⟨b1, b2⟩ := inR_of g1
  obtain ⟨b3, b4⟩ := inR_of g2
  exact ⟨i, j, rfl, ⟨b1, b2, b3, b4⟩, out2 H2 F2 R2 Sub.refl .refl _ fun X hX => walk_range⟩
theorem wi_enum {K : PySem.W.Frag} {R : L2.It → Hp → Prop} (h : TIt Φ k E fz (.enum e) σ H R) : iEnum K (tCons (T Φ k E e) tNil) σ H R := by
  obtain ⟨c, ρ, t, F, rfl, Rl, hb, r, t', h, out⟩ := h
  refine T_bind rfl Rl h out fun d1 t1 v1 H1 F1 e1 h1 R1 s1 o1 z1 out1 => ?_
  obtain ⟨ds, e2, rfl, rfl⟩ := lft_some' h1
  have st : ∀ X, okX c H1 X → RepS c.k fz X H1 F1 d1 v1 := fun X hX => opd_st R1 o1 hX fun z i ei d => by subst ei; exact hb z i (List.mem_singleton.mpr rfl) d
  have tp := o1.top R1
  cases d1 <;> first | (cases e2; done) | skip
  rename_i l
  cases e2
  obtain ⟨a, vs, rfl, g, rr⟩ := tp
  exact ⟨a, vs, rfl, .inl g, out1 H1 F1 R1 Sub.refl .refl _ fun X hX => walk_enum (st X hX)⟩
theorem brI_zip {a b : Ex} {i : Nat} (h : a = .bor i ∨ b = .bor i) : i ∈ brI (.zip a b) := by
  rcases h with h | h
  · subst h
    cases b <;> simp [brI]
  · subst h
    cases a <;> simp [brI]
theorem RepS.keep {H' F' : Hp} (h : RepS k fz X H F d v) (s : Sub F F') (z : Keep k H H') : RepS k fz X H' F' d v := fun H2 G2 st => h H2 G2 ⟨s.trans st.1, st.2.1, fun f => (KeepX.of z).trans (st.2.2 f)⟩
theorem okX.back {H' : Hp} {c : Ct} {X : Addr → Prop} (h : okX c H' X) (z : Keep c.k H H') (ht : ∀ a, X a → ¬ onTape c.k a) : okX c H X := fun a m => by
  rcases h a m with e | e
  · cases q : H a with
    | none => exact .inl rfl
    | some o => rw [z a o q (ht a m)] at e; cases e
  · exact .inr e
theorem okX.tape {c : Ct} {ρ : Env} {t : Tape} {σ : L2.St} {H F : Hp} (R : Rel c ρ t σ H F) {X : Addr → Prop} (h : okX c H X) : ∀ a, X a → ¬ onTape c.k a := fun a m ht => by
  rcases h a m with e | e
  · obtain ⟨on, ht⟩ := ht
    have Tp := R.tape on
    rcases ht with q | q | q
    · rw [q, Tp.d] at e; cases e
    · rw [q, (R.tape on).l] at e; cases e
    · rw [q, (R.tape on).c] at e; cases e
  · exact c.pt a e ht
theorem wi_zip {K : PySem.W.Frag} {R : L2.It → Hp → Prop} (h : TIt Φ k E fz (.zip e e2) σ H R) : RZ.iZipA K (tCons (T Φ k E e) (tCons (T Φ k E e2) tNil)) σ H R := by
  obtain ⟨c, ρ, t, F, rfl, Rl, hb, r, t', h, out⟩ := h
  refine T_bind rfl Rl h out fun d1 t1 v1 H1 F1 e1 h1 R1 s1 o1 z1 out1 => ?_
  refine T_bind rfl R1 h1 out1 fun d2 t2 v2 H2 F2 e2' h2 R2 s2 o2 z2 out2 => ?_
  obtain ⟨ds, e3, rfl, rfl⟩ := lft_some' h2
  have st : ∀ X, okX c H2 X → RepS c.k fz X H2 F2 d1 v1 := fun X hX => opd_st R2 (o1.mono s2) hX fun z i ei d => hb z i (brI_zip (.inl ei)) d
  have st2 : ∀ X, okX c H2 X → RepS c.k fz X H2 F2 d2 v2 := fun X hX => opd_st R2 o2 hX fun z i ei d => hb z i (brI_zip (.inr ei)) d
  have tp := (o1.mono s2).top R2
  have tp2 := o2.top R2
  cases d1 <;> first | (cases e3; done) | skip
  · cases d2 <;> first | (cases e3; done) | skip
    cases e3
    obtain ⟨a, vs, rfl, g, rr⟩ := tp
    obtain ⟨b, us, rfl, g', rr'⟩ := tp2
    exact ⟨a, b, vs, us, rfl, .inr ⟨.inl (R2.sub.rd g.rd), .inl (R2.sub.rd g'.rd), out2 H2 F2 R2 Sub.refl .refl _ fun X hX => walk_zipT (st X hX) (st2 X hX)⟩⟩
  · cases d2 <;> first | (cases e3; done) | skip
    cases e3
    obtain ⟨a, vs, rfl, g, rr⟩ := tp
    obtain ⟨b, us, rfl, g', rr'⟩ := tp2
    exact ⟨a, b, vs, us, rfl, .inl ⟨.inl g, .inl g', out2 H2 F2 R2 Sub.refl .refl _ fun X hX => walk_zip (st X hX) (st2 X hX)⟩⟩
end
end VS
end
section
set_option Elab.async false
set_option linter.all false
set_option maxRecDepth 100000
set_option maxHeartbeats 4000000
set_option autoImplicit false
/-! V4h: comprehensions. -/
namespace VS
open PySem PySem.Spec PyProof.Rows L2

/-! ### the object that is being made -/
/-- D stands so, protected -/
def addP (c : Ct) (D : Addr) (o : HO) (hn : ¬ onTape c.k D) : Ct where
  k := c.k
  P := fun a => c.P a ∨ a = D
  H := upd c.H D o
  F := fun a => if a = D then none else c.F a
  hp := fun a h => by
    by_cases e : a = D
    · subst e; exact ⟨o, upd_same⟩
    · rcases h with h | h
      · obtain ⟨u, q⟩ := c.hp a h
        exact ⟨u, by rw [upd_ne e]; exact q⟩
      · exact absurd h e
  pt := fun a h => by
    rcases h with h | h
    · exact c.pt a h
    · rw [h]; exact hn
section
variable {c : Ct} {ρ ρ' : Env} {t t' : Tape} {σ σ' : L2.St} {H F H' F' : Hp} {D : Addr} {o o' : HO} {hn hn' : ¬ onTape c.k D}
/-- no owned slot holds it -/
def Apart (ρ : Env) (σ : L2.St) (D : Addr) : Prop := ∀ (i : Nat) (d : VS.D), ρ[i]? = some (some (d, true)) → σ[i]? ≠ some (some (V.ref D))
theorem Rel.addP (R : Rel c ρ t σ H F) (hD : H D = some o) (hF : F D = none) (hp : ¬ c.P D) (ha : Apart ρ σ D) : Rel (addP c D o hn) ρ t σ H F where
  sub := R.sub
  prot := fun a p => by
    show H a = upd c.H D o a ∧ F a = if a = D then none else c.F a
    by_cases e : a = D
    · subst e
      rw [upd_same, if_pos rfl]
      exact ⟨hD, hF⟩
    · rw [upd_ne e, if_neg e]
      exact R.prot a (p.elim id fun z => absurd z e)
  tape := R.tape
  len := R.len
  frz := R.frz
  own := fun i d e => by
    obtain ⟨a, u, h1, h2, h3, h4, h5, h6⟩ := R.own i d e
    exact ⟨a, u, h1, h2, h3, h4, fun z => z.elim h5 fun z => ha i d e (by rw [h1, z]), h6⟩
  sep := R.sep
theorem Rel.dropP (R : Rel (VS.addP c D o hn) ρ t σ H F) (hp : ¬ c.P D) : Rel c ρ t σ H F ∧ H D = some o ∧ F D = none ∧ Apart ρ σ D := by
  refine ⟨⟨R.sub, fun a p => ?_, R.tape, R.len, R.frz, fun i d e => ?_, R.sep⟩, ?_, ?_, fun i d e z => ?_⟩
  · obtain ⟨h1, h2⟩ := R.prot a (.inl p)
    have e : a ≠ D := fun z => hp (z ▸ p)
    have h1 : H a = upd c.H D o a := h1
    have h2 : F a = if a = D then none else c.F a := h2
    rw [upd_ne e] at h1
    rw [if_neg e] at h2
    exact ⟨h1, h2⟩
  · obtain ⟨a, u, h1, h2, h3, h4, h5, h6⟩ := R.own i d e
    exact ⟨a, u, h1, h2, h3, h4, fun z => h5 (.inl z), h6⟩
  · have h : H D = upd c.H D o D := (R.prot D (.inr rfl)).1
    rw [upd_same] at h
    exact h
  · have h : F D = if D = D then none else c.F D := (R.prot D (.inr rfl)).2
    rw [if_pos rfl] at h
    exact h
  · obtain ⟨a, u, h1, _, _, _, h5, _⟩ := R.own i d e
    rw [h1] at z
    cases z
    exact h5 (.inr rfl)
/-- it is changed -/
theorem Rel.updLoose (R : Rel c ρ t σ H F) (hF : F D = none) (hp : ¬ c.P D) (ha : Apart ρ σ D) (hn : ¬ onTape c.k D) : Rel c ρ t σ (upd H D o) F where
  sub := fun a u e => by
    rw [upd_ne (fun z => by subst z; rw [hF] at e; cases e)]
    exact R.sub a u e
  prot := fun a p => by
    have e : a ≠ D := fun z => hp (z ▸ p)
    rw [upd_ne e]
    exact R.prot a p
  tape := R.tape.same fun a h => ⟨upd_ne fun e => hn (e ▸ h), rfl⟩
  len := R.len
  frz := R.frz
  own := fun i d e => by
    obtain ⟨a, u, h1, h2, h3, h4, h5⟩ := R.own i d e
    exact ⟨a, u, h1, by rw [upd_ne (fun z => ha i d e (by rw [h1, z]))]; exact h2, h3, h4, h5⟩
  sep := R.sep
/-- a loop's state: the object at D is da -/
def LS (c : Ct) (D : Addr) (hn : ¬ onTape c.k D) (ρ : Env) (σ : L2.St) (da : VS.D) (t : Tape) (H F : Hp) : Prop := ∃ o, Rel (VS.addP c D o hn) ρ t σ H F ∧ ObjR c.k F D o da
end

/-- THE LOOP: what is walked is folded into the object at D -/
theorem loop_any {β : Type} {wk : Bool} {c : Ct} {D : Addr} {hn : ¬ onTape c.k D} {ρ : Env} {σ : L2.St} {J : L2.It} {items : List VS.D} {f : β → VS.D → M β} {obj : β → VS.D} {b0 b1 : β} {t0 t1 : Tape} {Hs H0 F0 : Hp} {Done : Hp → Prop} {Step : (Hp → Prop) → V → Hp → Prop}
    (W : Walks c.k false wk (· = D) H0 F0 items J) (hf : foldM f b0 items t0 = some (.ok b1, t1)) (hs : LS c D hn ρ σ (obj b0) t0 Hs F0) (hk : KeepX c.k (· = D) H0 Hs)
    (done : ∀ H F, LS c D hn ρ σ (obj b1) t1 H F → Sub F0 F → KeepX c.k (· = D) H0 H → Done H)
    (step : ∀ (Nx : Hp → Prop) (d : VS.D) (b b' : β) (ta tb : Tape) (x : V) (H F : Hp) (rest : List VS.D), f b d ta = some (.ok b', tb) → foldM f b' rest tb = some (.ok b1, t1) → LS c D hn ρ σ (obj b) ta H F → RepW c.k wk F H d x → Sub F0 F → KeepX c.k (· = D) H0 H →
      (∀ H' F', LS c D hn ρ σ (obj b') tb H' F' → Sub F F' → KeepX c.k (· = D) H H' → Nx H') → Step Nx x H) :
    ∃ W : Nat → Nat → Hp → Prop, (∃ m, W 0 m Hs) ∧ ∀ i m H, W i m H → (J.stop i H ∧ Done H) ∨ (J.go i H ∧ ∃ Nx : Hp → Prop, (∀ H', Nx H' → ∃ m', m' < m ∧ W (i + 1) m' H') ∧ ∀ x H', J.yld i H x H' → Step Nx x H') := by
  refine ⟨fun i m H => m = items.length - i ∧ i ≤ items.length ∧ ∃ b t F, LS c D hn ρ σ (obj b) t H F ∧ Sub F0 F ∧ KeepX c.k (· = D) H0 H ∧ foldM f b (items.drop i) t = some (.ok b1, t1), ⟨items.length, by simp, Nat.zero_le _, b0, t0, F0, hs, .refl, hk, by simpa using hf⟩, ?_⟩
  rintro i m H ⟨rfl, hi, b, t, F, ls, s, kp, hfo⟩
  have w := W i H F ⟨s, by obtain ⟨o, R, _⟩ := ls; exact R.sub, fun _ => kp⟩
  by_cases hlt : i < items.length
  · have hd : items.drop i = items[i] :: items.drop (i + 1) := List.drop_eq_getElem_cons hlt
    rw [hd] at hfo
    have hfo : bnd (f b items[i]) (fun b' => foldM f b' (items.drop (i + 1))) t = some (.ok b1, t1) := hfo
    unfold bnd at hfo
    cases q : f b items[i] t with
    | none => rw [q] at hfo; cases hfo
    | some p =>
      obtain ⟨r, tb⟩ := p
      rw [q] at hfo
      cases r with
      | ex n l => cases hfo
      | ok b' =>
        have hfo : foldM f b' (items.drop (i + 1)) tb = some (.ok b1, t1) := hfo
        obtain ⟨go, yl⟩ := w.2 items[i] (by simp [hlt])
        refine .inr ⟨go, fun H' => ∃ F', LS c D hn ρ σ (obj b') tb H' F' ∧ Sub F0 F' ∧ KeepX c.k (· = D) H0 H', fun H' ⟨F', l', s', k'⟩ => ⟨items.length - (i + 1), by omega, rfl, hlt, b', tb, F', l', s', k', hfo⟩, fun x H' y => ?_⟩
        obtain ⟨o, R, ro⟩ := ls
        have nw := yl x H' y
        obtain ⟨F', R', s', rp⟩ := NewW.frz (c := VS.addP c D o hn) R nw
        have kn : KeepX c.k (· = D) H H' := .of nw.keep
        exact step _ items[i] b b' t tb x H' F' _ q hfo ⟨o, R', ro.mono s'⟩ rp (s.trans s') (kp.trans kn) fun H'' F'' l s'' k'' => ⟨F'', l, (s.trans s').trans s'', (kp.trans kn).trans k''⟩
  · have e : i = items.length := by omega
    subst e
    rw [List.drop_length] at hfo
    cases hfo
    exact .inl ⟨w.1 (Nat.le_refl _), done H F ls s kp⟩

/-! ### from readings that end well -/
theorem bnd_okD {α β : Type} {m : M α} {f : α → M β} {t t' : Tape} {b : β} (h : bnd m f t = some (.ok b, t')) : ∃ a t1, m t = some (.ok a, t1) ∧ f a t1 = some (.ok b, t') := by
  unfold bnd at h
  cases q : m t with
  | none => rw [q] at h; cases h
  | some p =>
    obtain ⟨r, t1⟩ := p
    rw [q] at h
    cases r with
    | ok a => exact ⟨a, t1, rfl, h⟩
    | ex n l => cases h
theorem lft_okD {α : Type} {o : Option α} {t t' : Tape} {a : α} (h : lft o t = some (.ok a, t')) : o = some a ∧ t' = t := by
  obtain ⟨b, e, h1, h2⟩ := lft_some' h
  cases h1
  exact ⟨e, h2⟩
section
variable {Φ : Nat → List D → M D} {k : Kx} {E : XK} {c : Ct} {ρ ρ' : Env} {t t' t1 : Tape} {σ σ' : L2.St} {H F H' F' : Hp} {Q : VK} {d : D} {e : Ex} {ifs : List Ex}
/-- a clause's tests -/
def TTs (Φ : Nat → List D → M D) (k : Kx) (E : XK) (ifs : List Ex) : TT := fun σ H Q => ∃ c ρ t F, c.k = k ∧ Rel c ρ t σ H F ∧ ∃ r t', evT Φ ifs ρ t = some (r, t') ∧ Out E c ρ σ H F t' (fun b H' _ => Q b H') r
theorem tts_nil {Qb : Bool → Hp → Prop} (h : TTs Φ k E [] σ H Qb) : tYes σ H Qb := by
  obtain ⟨c, ρ, t, F, rfl, R, r, t', h, out⟩ := h
  cases h
  exact out H F R Sub.refl .refl
theorem tts_one {Qb : Bool → Hp → Prop} (h : TTs Φ k E [e] σ H Qb) : TT' Φ k E e σ H Qb := h
theorem flat_fold {f : D → M (List D)} : ∀ {l : List D} {acc : List D} {t t' : Tape} {r : List D}, flatM f l t = some (.ok r, t') → foldM (fun acc d => bnd (f d) fun y => ret (acc ++ y)) acc l t = some (.ok (acc ++ r), t')
  | [], acc, t, t', r, h => by cases h; rw [List.append_nil]; rfl
  | x :: xs, acc, t, t', r, h => by
    obtain ⟨a, t1, h1, h2⟩ := bnd_okD (show bnd (f x) (fun a => bnd (flatM f xs) fun b => ret (a ++ b)) t = some (.ok r, t') from h)
    obtain ⟨b, t2, h3, h4⟩ := bnd_okD h2
    cases h4
    show bnd (bnd (f x) fun y => ret (acc ++ y)) (fun b' => foldM _ b' xs) t = _
    rw [bnd_ok (a := acc ++ a) (t' := t1) (by unfold bnd; rw [h1]; rfl), flat_fold h3, List.append_assoc]
theorem fold_flat {f : D → M (List D)} : ∀ {l : List D} {acc : List D} {t t' : Tape} {r : List D}, foldM (fun acc d => bnd (f d) fun y => ret (acc ++ y)) acc l t = some (.ok r, t') → acc.length ≤ r.length
  | [], acc, t, t', r, h => by cases h; exact Nat.le_refl _
  | x :: xs, acc, t, t', r, h => by
    obtain ⟨a, t1, h1, h2⟩ := bnd_okD (show bnd (bnd (f x) fun y => ret (acc ++ y)) (fun b' => foldM _ b' xs) t = some (.ok r, t') from h)
    obtain ⟨b, t2, h3, h4⟩ := bnd_okD h1
    cases h4
    have := fold_flat h2
    rw [List.length_append] at this
    omega
theorem wipe_in {i : Nat} (s : L2.St) : ∀ {vs : List Nat}, i ∈ vs → (wipe s vs)[i]? = if i < s.length then some none else none
  | [], m => by cases m
  | v :: r, m => by
    show ((wipe s r).set v none)[i]? = _
    by_cases e : v = i
    · subst e
      by_cases hl : v < s.length
      · rw [if_pos hl, List.getElem?_set_self (by rw [wipe_length]; exact hl)]
      · rw [if_neg hl, List.getElem?_eq_none (by rw [List.length_set, wipe_length]; omega)]
    · rw [List.getElem?_set_ne e]
      rcases List.mem_cons.mp m with q | q
      · exact absurd q.symm e
      · exact wipe_in s q
theorem wipe_same {vs : List Nat} {σ σ' : L2.St} (hl : σ'.length = σ.length) (h : ∀ i, i ∉ vs → σ'[i]? = (wipe σ vs)[i]?) : wipe σ' vs = wipe σ vs := by
  apply List.ext_getElem?
  intro i
  by_cases m : i ∈ vs
  · rw [wipe_in _ m, wipe_in _ m, hl]
  · rw [wipe_out m, h i m]
/-- a reading that ends well -/
theorem T_ok {K : VK} (R : Rel c ρ t σ H F) (h : ev Φ e ρ t = some (.ok d, t1)) (g : ∀ v H1 F1, Rel c ρ t1 σ H1 F1 → Sub F F1 → Keep c.k H H1 → Opd c.k ρ σ F1 e d v → K v H1) : T Φ c.k E e σ H K :=
  ⟨c, ρ, t, F, rfl, R, .ok d, t1, h, fun H1 F1 R1 s1 z1 v hv => g v H1 F1 R1 s1 z1 hv⟩
theorem TTs_ok {K : Bool → Hp → Prop} {b : Bool} (R : Rel c ρ t σ H F) (h : evT Φ ifs ρ t = some (.ok b, t1)) (g : ∀ H1 F1, Rel c ρ t1 σ H1 F1 → Sub F F1 → Keep c.k H H1 → K b H1) : TTs Φ c.k E ifs σ H K :=
  ⟨c, ρ, t, F, rfl, R, .ok b, t1, h, fun H1 F1 R1 s1 z1 => g H1 F1 R1 s1 z1⟩
theorem TIt_ok {it : It} {ds : List D} {K : L2.It → Hp → Prop} (R : Rel c ρ t σ H F) (h : evI Φ it ρ t = some (.ok ds, t1)) (g : ∀ J H1 F1, Rel c ρ t1 σ H1 F1 → Sub F F1 → Keep c.k H H1 → (∀ X, okX c H1 X → Walks c.k false (itW it) X H1 F1 ds J) → K J H1) : TIt Φ c.k E false it σ H K :=
  ⟨c, ρ, t, F, rfl, R, (fun z => nomatch z), .ok ds, t1, h, fun H1 F1 R1 s1 z1 J hJ => g J H1 F1 R1 s1 z1 hJ⟩
theorem allIn_mem {l m : List Nat} (h : allIn l m = true) : ∀ i ∈ l, i ∈ m := fun i hi => by
  have := List.all_eq_true.mp h i hi
  simpa using this
/-- a turn's body: the target, the tests, the item -/
def bodyS (Φ : Nat → List D → M D) (ρ₀ : Env) (tg : Tg) (ifs : List Ex) (elt : Ex) (d : D) : M (List D) :=
  bnd (lft (setT tg d ρ₀)) fun ρ₁ => bnd (evT Φ ifs ρ₁) fun k => if k then bnd (ev Φ elt ρ₁) fun y => ret [y] else ret []
/-- .. as the block's reading -/
theorem turn_ok {D : Addr} {hn : ¬ onTape c.k D} {ρ₀ : Env} {σ₀ : L2.St} {own : List Nat} {tg : Tg} {elt : Ex} {accD y : List VS.D} {ta tb : Tape} {x : V} {Nx : Hp → Prop} {wk : Bool} (hwk : wk = true → isTp tg = true) (hp : ¬ c.P D) (hb : isBor elt = false) (hin : allIn (tgSlots tg) own = true) (hw : wipe σ₀ own = σ₀) (hlen : accD.length + y.length ≤ lim)
    (hf : bodyS Φ ρ₀ tg ifs elt d ta = some (.ok y, tb)) (ls : LS c D hn ρ₀ σ₀ (.lst accD) ta H F) (rx : RepW c.k wk F H d x)
    (nx : ∀ H' F', LS c D hn ρ₀ σ₀ (.lst (accD ++ y)) tb H' F' → Sub F F' → KeepX c.k (· = D) H H' → Nx H') :
    GT c.k tg x σ₀ H fun σ2 H2 => wipe σ2 own = σ₀ ∧ TTs Φ c.k E ifs σ2 H2 fun b H3 => if b = true then T Φ c.k E elt σ2 H3 fun y H4 => ∃ acc, H4 D = some (.lst acc) ∧ acc.length < sizeLine ∧ Nx (upd H4 D (.lst (acc ++ [y]))) else Nx H3 := by
  obtain ⟨ρ₁, t2, e1, h2⟩ := bnd_okD hf
  obtain ⟨e1', rfl⟩ := lft_okD e1
  obtain ⟨b, t3, e3, h3⟩ := bnd_okD h2
  obtain ⟨o, R, acc, rfl, ra⟩ := ls
  refine ⟨addP c D (.lst acc) hn, ρ₀, _, F, d, ρ₁, rfl, R, rx.to hwk, e1', fun σ2 R2 so => ⟨?_, ?_⟩⟩
  · exact (wipe_same so.1 fun i hi => (so.2 i fun m => hi (allIn_mem hin i m)).2.trans (wipe_out hi).symm).trans hw
  · refine TTs_ok (c := addP c D _ hn) R2 e3 fun H3 F3 R3 s3 z3 => ?_
    -- back to the block's slots
    have back : ∀ {t' : Tape} {H' F' : Hp} {o' : HO}, Rel (addP c D o' hn) ρ₁ t' σ2 H' F' → Sub F F' → Rel (addP c D o' hn) ρ₀ t' σ₀ H' F' := fun {t' H' F' o'} R' s' => by
      obtain ⟨R0, hD0, hF0, ap0⟩ := R.dropP hp
      obtain ⟨R1, hD1, hF1, ap1⟩ := R'.dropP hp
      have R2' := R0.back R1 s' fun i d' e => by
        have ni : i ∉ tgSlots tg := fun m => by
          obtain ⟨a, u, h1, _⟩ := R0.own i d' e
          have q := wipe_in σ₀ (allIn_mem hin i m)
          rw [hw, h1] at q
          split at q <;> cases q
        obtain ⟨q1, q2⟩ := so.2 i ni
        exact ⟨q1.trans e, q2⟩
      exact R2'.addP hD1 hF1 hp ap0
    cases b with
    | false =>
      cases h3
      rw [if_neg Bool.false_ne_true]
      refine nx H3 F3 ⟨_, back R3 s3, acc, rfl, by rw [List.append_nil]; exact ra.mono s3⟩ s3 (.of z3)
    | true =>
      rw [if_pos rfl]
      obtain ⟨yd, t4, e4, h4⟩ := bnd_okD (show bnd (ev Φ elt ρ₁) (fun y => ret [y]) t3 = some (.ok y, tb) from h3)
      cases h4
      refine T_ok (c := addP c D _ hn) R3 e4 fun yv H4 F4 R4 s4 z4 ov => ?_
      have ry := ov.rep hb
      have R5 := back R4 (s3.trans s4)
      obtain ⟨R6, hD6, hF6, ap6⟩ := R5.dropP hp
      have R7 := R6.updLoose (o := .lst (acc ++ [yv])) hF6 hp ap6 hn
      refine ⟨acc, hD6, ?_, nx _ F4 ⟨_, R7.addP upd_same hF6 hp ap6, _, rfl, (ra.mono (s3.trans s4)).append ⟨yv, [], rfl, ry, rfl⟩⟩ (s3.trans s4) ?_⟩
      · have hl := ra.length
        have e5 : lim = sizeLine := rfl
        rw [hl, ← e5]
        simp only [List.length_singleton] at hlen
        omega
      · intro a u e n m
        have m : a ≠ D := m
        rw [upd_ne m]
        exact z4 a u (z3 a u e n) n
theorem okIt_of {it : It} {tg : Tg} (h : okIt it tg = true) : itW it = true → isTp tg = true := fun w => by
  unfold okIt at h
  rw [w] at h
  exact h
theorem if_ne {α : Type} {q : Bool} {m : M α} {t : Tape} {p : Res α × Tape} (h : (if q = true then m else stuck) t = some p) : q = true ∧ m t = some p := by
  cases q with
  | true => exact ⟨rfl, h⟩
  | false => cases h
theorem wipe_wipe {σ : L2.St} {vs : List Nat} : wipe (wipe σ vs) vs = wipe σ vs := wipe_same (wipe_length σ vs) fun _ _ => rfl
theorem seal_bnd {α β : Type} {m : M α} {f : α → M β} {t : Tape} {p : Res β × Tape} (h : bnd (sealM m) f t = some p) : ∃ a t1, m t = some (.ok a, t1) ∧ f a t1 = some p := by
  unfold bnd sealM at h
  cases q : m t with
  | none => rw [q] at h; cases h
  | some x =>
    obtain ⟨r, t1⟩ := x
    rw [q] at h
    cases r with
    | ok a => exact ⟨a, t1, rfl, h⟩
    | ex n l => cases h
theorem Rel.noTape (R : Rel c ρ t σ H F) {D : Addr} (h : H D = none) : ¬ onTape c.k D := fun ht => by
  obtain ⟨on, ht⟩ := ht
  have Tp := R.tape on
  rcases ht with q | q | q
  · rw [q, Tp.d] at h; cases h
  · rw [q, (R.tape on).l] at h; cases h
  · rw [q, (R.tape on).c] at h; cases h
theorem Rel.noP (R : Rel c ρ t σ H F) {D : Addr} (h : H D = none) : ¬ c.P D := fun p => by
  obtain ⟨o, e⟩ := c.hp D p
  rw [(R.prot D p).1, e] at h
  cases h
theorem Rel.apart (R : Rel c ρ t σ H F) {D : Addr} (h : H D = none) : Apart ρ σ D := fun i d e z => by
  obtain ⟨a, u, h1, h2, _⟩ := R.own i d e
  rw [h1] at z
  cases z
  rw [h] at h2
  cases h2
/-- no exception -/
abbrev E0 : XK := fun _ _ _ => False
/-- the list made, at the loop's end -/
theorem list_done {D : Addr} {hn : ¬ onTape c.k D} {ρ₀ : Env} {σ₀ : L2.St} {l : List VS.D} {H1 F1 : Hp} {e : Ex} (he : isBor e = false) (R1 : Rel c ρ t1 σ H1 F1) (hD : H1 D = none) (ko : ∀ (i : Nat) (d : VS.D), ρ[i]? = some (some (d, true)) → ρ₀[i]? = some (some (d, true)) ∧ σ₀[i]? = σ[i]?)
    (out1 : Out E c ρ σ H1 F1 t' (fun d H' F' => ∀ v, Opd c.k ρ σ F' e d v → Q v H') (.ok (.lst l))) (ls : LS c D hn ρ₀ σ₀ (.lst l) t' H F) (s : Sub F1 F) (kp : KeepX c.k (· = D) H1 H) : Q (.ref D) H := by
  have hp := R1.noP hD
  obtain ⟨o, R', acc, rfl, ra⟩ := ls
  obtain ⟨R2, hD2, hF2, ap2⟩ := R'.dropP hp
  have R3 := R1.back R2 s ko
  obtain ⟨R4, s4⟩ := R3.freeze hD2 hF2 hp hn (R1.apart hD)
  exact out1 H _ R4 (s.trans s4) (fun a u e' n => kp a u e' n fun z => by rw [z, hD] at e'; cases e') _ (.of he ⟨D, acc, rfl, .inl upd_same, ra.mono s4⟩)
theorem list_start {D : Addr} (hn : ¬ onTape c.k D) {ρ₀ : Env} {own : List Nat} {H1 F1 : Hp} {o : HO} (R1 : Rel c ρ t1 σ H1 F1) (hD : H1 D = none) (q : wipeE ρ own = some ρ₀) : Rel (addP c D o hn) ρ₀ t1 (wipe σ own) (upd H1 D o) F1 := by
  obtain ⟨R0, ko⟩ := R1.wipe q
  exact (R0.updLoose (R1.sub.none hD) (R1.noP hD) (R0.apart hD) hn).addP upd_same (R1.sub.none hD) (R1.noP hD) (R0.apart hD)
theorem w_comp {own : List Nat} {tg : Tg} {it : It} {elt : Ex} (hb : isBor elt = false) (hin : allIn (tgSlots tg) own = true) (h : T Φ k E (.comp own tg it ifs elt) σ H Q) : tLc (TIt Φ k E false it) (GT k tg) (TTs Φ k E0 ifs) (T Φ k E0 elt) own σ H Q := by
  obtain ⟨c, ρ, t, F, rfl, R, r, t', h, out⟩ := h
  obtain ⟨hok, h⟩ := if_ne h
  refine TIt_bind R (fun z => nomatch z) h out fun items t1 J H1 F1 h1 R1 s1 z1 out1 hJ => ?_
  intro D hD
  have hn := R1.noTape hD
  have hp := R1.noP hD
  cases q : wipeE ρ own with
  | none => rw [q] at h1; cases h1
  | some ρ₀ =>
    rw [q] at h1
    obtain ⟨l, t2, hf, h3⟩ := seal_bnd h1
    by_cases hl : l.length ≤ lim
    · rw [if_pos hl] at h3
      cases h3
      obtain ⟨R0, ko⟩ := R1.wipe q
      refine loop_any (c := c) (D := D) (hn := hn) (ρ := ρ₀) (obj := .lst) (f := fun acc d => bnd (bodyS Φ ρ₀ tg ifs elt d) fun y => ret (acc ++ y)) (b0 := []) (b1 := l) (hJ _ fun a e => .inl (by rw [show a = D from e]; exact hD)) (flat_fold (acc := []) hf) ⟨_, list_start hn R1 hD q, [], rfl, rfl⟩
        (fun a u e n m => by rw [upd_ne m]; exact e) (fun H' F' ls s kp => list_done rfl R1 hD ko out1 ls s kp) ?_
      intro Nx d b b' ta tb x H' F' rest hfd hrest ls rx s kp nx
      obtain ⟨y, t3, hy, h4⟩ := bnd_okD hfd
      cases h4
      have hle := fold_flat hrest
      rw [List.length_append] at hle
      exact turn_ok (okIt_of hok) hp hb hin wipe_wipe (by omega) hy ls rx nx
    · rw [if_neg hl] at h3
      cases h3
theorem w_comp2 {own own2 : List Nat} {tg tg2 : Tg} {it it2 : It} {ifs2 : List Ex} {elt : Ex} (hb : isBor elt = false) (hin : allIn (tgSlots tg) own = true) (hin2 : allIn (tgSlots tg2) own2 = true) (h : T Φ k E (.comp2 own own2 tg it ifs tg2 it2 ifs2 elt) σ H Q) :
    tLc2 (TIt Φ k E false it) (GT k tg) (TTs Φ k E0 ifs) (TIt Φ k E0 false it2) (GT k tg2) (TTs Φ k E0 ifs2) (T Φ k E0 elt) own own2 σ H Q := by
  obtain ⟨c, ρ, t, F, rfl, R, r, t', h, out⟩ := h
  obtain ⟨hok, h⟩ := if_ne h
  obtain ⟨hok1, hok2⟩ := Bool.and_eq_true_iff.mp hok
  refine TIt_bind R (fun z => nomatch z) h out fun items t1 J H1 F1 h1 R1 s1 z1 out1 hJ => ?_
  intro D hD
  have hn := R1.noTape hD
  have hp := R1.noP hD
  cases q : wipeE ρ own with
  | none => rw [q] at h1; cases h1
  | some ρ₀ =>
    rw [q] at h1
    obtain ⟨l, t2, hf, h3⟩ := seal_bnd h1
    by_cases hl : l.length ≤ lim
    · rw [if_pos hl] at h3
      cases h3
      obtain ⟨R0, ko⟩ := R1.wipe q
      refine loop_any (c := c) (D := D) (hn := hn) (ρ := ρ₀) (obj := .lst) (f := fun acc d => bnd (bnd (lft (setT tg d ρ₀)) fun ρ₁ => bnd (evT Φ ifs ρ₁) fun k => if k then
          bnd (evI Φ it2 ρ₁) fun items2 => match wipeE ρ₁ own2 with
            | none => stuck
            | some ρ₂ => flatM (bodyS Φ ρ₂ tg2 ifs2 elt) items2
          else ret []) fun y => ret (acc ++ y)) (b0 := []) (b1 := l) (hJ _ fun a e => .inl (by rw [show a = D from e]; exact hD)) (flat_fold (acc := []) hf) ⟨_, list_start hn R1 hD q, [], rfl, rfl⟩
        (fun a u e n m => by rw [upd_ne m]; exact e) (fun H' F' ls s kp => list_done rfl R1 hD ko out1 ls s kp) ?_
      intro Nx d b b' ta tb x H' F' rest hfd hrest ls rx s kp nx
      obtain ⟨y, t3, hy, h4⟩ := bnd_okD hfd
      cases h4
      have hle := fold_flat hrest
      rw [List.length_append] at hle
      obtain ⟨ρ₁, t4, e1, h5⟩ := bnd_okD hy
      obtain ⟨e1', rfl⟩ := lft_okD e1
      obtain ⟨bb, t5, e5, h6⟩ := bnd_okD h5
      obtain ⟨o, R', acc, rfl, ra⟩ := ls
      refine ⟨addP c D (.lst acc) hn, ρ₀, _, F', d, ρ₁, rfl, R', rx.to (okIt_of hok1), e1', fun σ2 R2 so => ⟨(wipe_same so.1 fun i hi => (so.2 i fun m => hi (allIn_mem hin i m)).2.trans (wipe_out hi).symm).trans wipe_wipe, ?_⟩⟩
      refine TTs_ok (c := addP c D _ hn) R2 e5 fun H3 F3 R3 s3 z3 => ?_
      have back : ∀ {t' : Tape} {H'' F'' : Hp} {o' : HO} {ρx : Env} {σx : L2.St}, Rel (addP c D o' hn) ρx t' σx H'' F'' → Sub F' F'' → (∀ (i : Nat) (d : VS.D), ρ₁[i]? = some (some (d, true)) → ρx[i]? = some (some (d, true)) ∧ σx[i]? = σ2[i]?) → Rel (addP c D o' hn) ρ₀ t' (wipe σ own) H'' F'' := fun {t' H'' F'' o' ρx σx} Rx sx kx => by
        obtain ⟨R0, hD0, hF0, ap0⟩ := R'.dropP hp
        obtain ⟨R1, hD1, hF1, ap1⟩ := Rx.dropP hp
        refine (R0.back R1 sx fun i d' e => ?_).addP hD1 hF1 hp ap0
        have ni : i ∉ tgSlots tg := fun m => by
          obtain ⟨a, u, h1, _⟩ := R0.own i d' e
          have q := wipe_in σ (allIn_mem hin i m)
          rw [h1] at q
          split at q <;> cases q
        obtain ⟨q1, q2⟩ := so.2 i ni
        obtain ⟨q3, q4⟩ := kx i d' (q1.trans e)
        exact ⟨q3, q4.trans q2⟩
      cases bb with
      | false =>
        cases h6
        rw [if_neg Bool.false_ne_true]
        exact nx H3 F3 ⟨_, back R3 s3 fun i d e => ⟨e, rfl⟩, acc, rfl, by rw [List.append_nil]; exact ra.mono s3⟩ s3 (.of z3)
      | true =>
        rw [if_pos rfl]
        obtain ⟨items2, t6, e6, h7⟩ := bnd_okD (show bnd (evI Φ it2 ρ₁) (fun items2 => match wipeE ρ₁ own2 with
            | none => stuck
            | some ρ₂ => flatM (bodyS Φ ρ₂ tg2 ifs2 elt) items2) t5 = some (.ok y, tb) from h6)
        refine TIt_ok (c := addP c D _ hn) R3 e6 fun J1 H4 F4 R4 s4 z4 hJ1 => ?_
        cases q2 : wipeE ρ₁ own2 with
        | none => rw [q2] at h7; cases h7
        | some ρ₂ =>
          rw [q2] at h7
          obtain ⟨R5, ko2⟩ := R4.wipe q2
          refine loop_any (c := c) (D := D) (hn := hn) (ρ := ρ₂) (obj := .lst) (f := fun acc d => bnd (bodyS Φ ρ₂ tg2 ifs2 elt d) fun y => ret (acc ++ y)) (b0 := b) (b1 := b ++ y) (hJ1 (· = D) fun a e => .inr (.inr e)) (flat_fold (acc := b) h7) ⟨_, R5, acc, rfl, ra.mono (s3.trans s4)⟩
            (fun a u e n m => e) (fun H'' F'' ls s'' kp'' => ?_) ?_
          · obtain ⟨o', Rx, acc', rfl, ra'⟩ := ls
            exact nx H'' F'' ⟨_, back Rx ((s3.trans s4).trans s'') ko2, acc', rfl, ra'⟩ ((s3.trans s4).trans s'') ((KeepX.of (z3.trans z4)).trans kp'')
          · intro Nx1 d2 b2 b2' ta2 tb2 x2 H5 F5 rest2 hfd2 hrest2 ls2 rx2 s5 kp5 nx2
            obtain ⟨y2, t7, hy2, h8⟩ := bnd_okD hfd2
            cases h8
            have hle2 := fold_flat hrest2
            rw [List.length_append, List.length_append] at hle2
            exact turn_ok (okIt_of hok2) hp hb hin2 wipe_wipe (by omega) hy2 ls2 rx2 nx2
    · rw [if_neg hl] at h3
      cases h3
end
end VS
end
section
set_option Elab.async false
set_option linter.all false
set_option maxRecDepth 100000
set_option maxHeartbeats 4000000
set_option autoImplicit false
/-! V4hn: expressions whose value is a new object. -/
namespace VS
open PySem PySem.Spec PyProof.Rows L2

/-- the end: one new object, a list or a dict -/
def OutN (E : XK) (c : Ct) (ρ : Env) (σ : L2.St) (H F : Hp) (t' : Tape) (Q : VK) : Res D → Prop
  | .ok d => isMut d = true ∧ ∀ H' F', Rel c ρ t' σ H' F' → Sub F F' → Keep c.k H H' → ∀ p o, H' p = none → ObjR c.k F' p o d → Q (.ref p) (upd H' p o)
  | .ex n l => ∀ H' F' dx, Rel c ρ t' σ H' F' → Sub F F' → Keep c.k H H' → XRep c.k F' H' n l dx → E (.ref (c.k.ec n)) dx H'
/-- the reading -/
def Tn (Φ : Nat → List D → M D) (k : Kx) (E : XK) (e : Ex) : TE := fun σ H Q => ∃ c ρ t F, c.k = k ∧ Rel c ρ t σ H F ∧ ∃ r t', ev Φ e ρ t = some (r, t') ∧ OutN E c ρ σ H F t' Q r
/-- .. as any other end, what is wanted being had of no value -/
theorem OutN.out {E : XK} {c : Ct} {ρ : Env} {σ : L2.St} {H F : Hp} {t' : Tape} {Q : VK} : ∀ {r : Res D}, OutN E c ρ σ H F t' Q r → Out E c ρ σ H F t' (fun d H' F' => isMut d = true ∧ ∀ p o, H' p = none → ObjR c.k F' p o d → Q (.ref p) (upd H' p o)) r
  | .ok _, o => fun H' F' R s z => ⟨o.1, fun p u hp ho => o.2 H' F' R s z p u hp ho⟩
  | .ex _ _, o => o
section
variable {Φ : Nat → List D → M D} {k : Kx} {E : XK} {c : Ct} {ρ : Env} {t t' : Tape} {σ : L2.St} {H H' F : Hp} {Q : VK} {d : D} {v : V} {e a b i lo hi : Ex} {es ifs : List Ex}
abbrev FreshOk (k : Kx) (Q : VK) : D → Hp → Hp → Prop := fun d H' F' => isMut d = true ∧ ∀ p o, H' p = none → ObjR k F' p o d → Q (.ref p) (upd H' p o)
theorem fresh_new (R : Rel c ρ t' σ H F) (o : Out E c ρ σ H F t' (FreshOk c.k Q) (.ok d)) (n : NewF true c.k F H d v H') : Q v H' := by
  obtain ⟨m, h⟩ := o H F R Sub.refl .refl
  rcases n with ⟨_, _, z⟩ | ⟨p, u, hp, e, eH, r⟩
  · rw [z rfl] at m; cases m
  · subst e eH
    refine h p u hp ?_
    cases d <;> first | (cases m; done) | exact r
theorem wn_lst (hb : plainEs es) (h : Tn Φ k E (.lst es) σ H Q) : tLst (TL Φ k E es) σ H Q := by
  obtain ⟨c, ρ, t, F, rfl, R, r, t', h, out⟩ := h
  refine TL_bind rfl R h out.out fun ds t1 vs H1 F1 e1 h1 R1 s1 o1 z1 out1 => ?_
  have rl := o1.rep hb
  by_cases hz : ds.length ≤ lim
  · rw [if_pos hz] at h1
    cases h1
    exact ⟨by rw [rl.length]; exact hz, fun p hp => fresh_new R1 out1 (.inr ⟨p, _, hp, rfl, rfl, vs, rfl, rl⟩)⟩
  · rw [if_neg hz] at h1
    cases h1
theorem wn_bin {o : Bop} (h : Tn Φ k E (.bin o a b) σ H Q) : tOp (rF2 k (binS o)) (T Φ k E a) (T Φ k E b) σ H Q := by
  obtain ⟨c, ρ, t, F, rfl, R, r, t', h, out⟩ := h
  refine T_bind rfl R h out.out fun d1 t1 v1 H1 F1 e1 h1 R1 s1 o1 z1 out1 => ?_
  refine T_bind rfl R1 h1 out1 fun d2 t2 v2 H2 F2 e2 h2 R2 s2 o2 z2 out2 => ?_
  obtain ⟨d, e, rfl, rfl⟩ := lft_some' h2
  exact ⟨F2, d1, d2, d, R2.sub, (o1.mono s2).top R2, o2.top R2, e, fun v H' n => fresh_new R2 out2 n⟩
theorem wn_slc (h : Tn Φ k E (.slc a lo hi) σ H Q) : tSl (rSlc k) (T Φ k E a) (TO' Φ k E lo) (TO' Φ k E hi) σ H Q := by
  obtain ⟨c, ρ, t, F, rfl, R, r, t', h, out⟩ := h
  refine T_bind rfl R h out.out fun d1 t1 v1 H1 F1 e1 h1 R1 s1 o1 z1 out1 => ?_
  refine T_bind rfl R1 h1 out1 fun d2 t2 v2 H2 F2 e2 h2 R2 s2 o2 z2 out2 => ?_
  cases q2 : optI d2 with
  | none => rw [q2] at h2; cases h2
  | some l =>
    rw [q2] at h2
    have h2 : bnd (ev Φ hi ρ) (fun z => bnd (lft (optI z)) fun u => lft (slcS d1 l u)) t2 = some (r, t') := h2
    refine ⟨l, optI_rep q2 (o2.top R2), ?_⟩
    refine T_bind rfl R2 h2 out2 fun d3 t3 v3 H3 F3 e3 h3 R3 s3 o3 z3 out3 => ?_
    cases q3 : optI d3 with
    | none => rw [q3] at h3; cases h3
    | some u =>
      rw [q3] at h3
      have h3 : lft (slcS d1 l u) t3 = some (r, t') := h3
      obtain ⟨d, e, rfl, rfl⟩ := lft_some' h3
      exact ⟨u, optI_rep q3 (o3.top R3), F3, d1, d, R3.sub, ((o1.mono s2).mono s3).top R3, e, fun v H' n => fresh_new R3 out3 n⟩
theorem wn_blt {b : Blt} (hb : frB b = true) (h : Tn Φ k E (.blt b es) σ H Q) : TL Φ k E es σ H fun vs H1 => rBlt k b vs H1 Q := by
  obtain ⟨c, ρ, t, F, rfl, R, r, t', h, out⟩ := h
  refine TL_bind rfl R h out.out fun ds t1 vs H1 F1 e1 h1 R1 s1 o1 z1 out1 => ?_
  obtain ⟨d, e, rfl, rfl⟩ := lft_some' h1
  exact ⟨F1, ds, d, R1.sub, o1.tops R1, e, fun v H' n => fresh_new R1 out1 (by rw [hb] at n; exact n)⟩
/-- the state without what is not held -/
theorem Rel.remove (R : Rel c ρ t σ H F) {D : Addr} (hF : F D = none) (hp : ¬ c.P D) (ha : Apart ρ σ D) (hn : ¬ onTape c.k D) : Rel c ρ t σ (fun a => if a = D then none else H a) F where
  sub := fun a u e => by
    show (if a = D then none else H a) = some u
    rw [if_neg (fun z => by subst z; rw [hF] at e; cases e)]
    exact R.sub a u e
  prot := fun a p => by
    have e : a ≠ D := fun z => hp (z ▸ p)
    show (if a = D then none else H a) = _ ∧ _
    rw [if_neg e]
    exact R.prot a p
  tape := R.tape.same fun a h => ⟨if_neg fun (e : a = D) => hn (e ▸ h), rfl⟩
  len := R.len
  frz := R.frz
  own := fun i d e => by
    obtain ⟨a, u, h1, h2, h3, h4, h5⟩ := R.own i d e
    exact ⟨a, u, h1, by show (if a = D then none else H a) = some u; rw [if_neg (fun z => ha i d e (by rw [h1, z]))]; exact h2, h3, h4, h5⟩
  sep := R.sep
theorem listN_done {D : Addr} {hn : ¬ onTape c.k D} {ρ₀ : Env} {σ₀ : L2.St} {l : List VS.D} {H1 F1 : Hp} {t1 : Tape} (R1 : Rel c ρ t1 σ H1 F1) (hD : H1 D = none) (ko : ∀ (i : Nat) (d : VS.D), ρ[i]? = some (some (d, true)) → ρ₀[i]? = some (some (d, true)) ∧ σ₀[i]? = σ[i]?)
    (out1 : Out E c ρ σ H1 F1 t' (FreshOk c.k Q) (.ok (.lst l))) (ls : LS c D hn ρ₀ σ₀ (.lst l) t' H F) (s : Sub F1 F) (kp : KeepX c.k (· = D) H1 H) : Q (.ref D) H := by
  have hp := R1.noP hD
  obtain ⟨o, R', acc, rfl, ra⟩ := ls
  obtain ⟨R2, hD2, hF2, ap2⟩ := R'.dropP hp
  have R3 := R1.back R2 s ko
  have R4 := R3.remove hF2 hp (R1.apart hD) hn
  have z := (out1 _ F R4 s (fun a u e' n => by
    have ne : a ≠ D := fun z => by rw [z, hD] at e'; cases e'
    show (if a = D then none else H a) = some u
    rw [if_neg ne]
    exact kp a u e' n ne)).2 D (.lst acc) (if_pos rfl) ⟨acc, rfl, ra⟩
  have e : upd (fun a => if a = D then none else H a) D (.lst acc) = H := by
    funext a
    by_cases h : a = D
    · subst h; rw [upd_same, hD2]
    · rw [upd_ne h]; exact if_neg h
  rw [e] at z
  exact z
theorem wn_comp {own : List Nat} {tg : Tg} {it : It} {elt : Ex} (hb : isBor elt = false) (hin : allIn (tgSlots tg) own = true) (h : Tn Φ k E (.comp own tg it ifs elt) σ H Q) : tLc (TIt Φ k E false it) (GT k tg) (TTs Φ k E0 ifs) (T Φ k E0 elt) own σ H Q := by
  obtain ⟨c, ρ, t, F, rfl, R, r, t', h, out⟩ := h
  obtain ⟨hok, h⟩ := if_ne h
  refine TIt_bind R (fun z => nomatch z) h (OutN.out out) fun items t1 J H1 F1 h1 R1 s1 z1 out1 hJ => ?_
  intro D hD
  have hn := R1.noTape hD
  have hp := R1.noP hD
  cases q : wipeE ρ own with
  | none => rw [q] at h1; cases h1
  | some ρ₀ =>
    rw [q] at h1
    obtain ⟨l, t2, hf, h3⟩ := seal_bnd h1
    by_cases hl : l.length ≤ lim
    · rw [if_pos hl] at h3
      cases h3
      obtain ⟨R0, ko⟩ := R1.wipe q
      refine loop_any (c := c) (D := D) (hn := hn) (ρ := ρ₀) (obj := .lst) (f := fun acc d => bnd (bodyS Φ ρ₀ tg ifs elt d) fun y => ret (acc ++ y)) (b0 := []) (b1 := l) (hJ _ fun a e => .inl (by rw [show a = D from e]; exact hD)) (flat_fold (acc := []) hf) ⟨_, list_start hn R1 hD q, [], rfl, rfl⟩
        (fun a u e n m => by rw [upd_ne m]; exact e) (fun H' F' ls s kp => listN_done R1 hD ko out1 ls s kp) ?_
      intro Nx d b b' ta tb x H' F' rest hfd hrest ls rx s kp nx
      obtain ⟨y, t3, hy, h4⟩ := bnd_okD hfd
      cases h4
      have hle := fold_flat hrest
      rw [List.length_append] at hle
      exact turn_ok (okIt_of hok) hp hb hin wipe_wipe (by omega) hy ls rx nx
    · rw [if_neg hl] at h3
      cases h3
/-- a place that is asked before and behind: the two-clause form has one proof for both ends -/
theorem comp2_any {own own2 : List Nat} {tg tg2 : Tg} {it it2 : It} {ifs2 : List Ex} {elt : Ex} {ok : VS.D → Hp → Hp → Prop} {r : Res VS.D} (hb : isBor elt = false) (hin : allIn (tgSlots tg) own = true) (hin2 : allIn (tgSlots tg2) own2 = true) (R : Rel c ρ t σ H F)
    (h : ev Φ (.comp2 own own2 tg it ifs tg2 it2 ifs2 elt) ρ t = some (r, t')) (out : Out E c ρ σ H F t' ok r)
    (fin : ∀ {D : Addr} {hn : ¬ onTape c.k D} {ρ₀ : Env} {σ₀ : L2.St} {l : List VS.D} {H1 F1 H2 F2 : Hp} {t1 : Tape}, Rel c ρ t1 σ H1 F1 → H1 D = none → (∀ (i : Nat) (d : VS.D), ρ[i]? = some (some (d, true)) → ρ₀[i]? = some (some (d, true)) ∧ σ₀[i]? = σ[i]?) →
      Out E c ρ σ H1 F1 t' ok (.ok (.lst l)) → LS c D hn ρ₀ σ₀ (.lst l) t' H2 F2 → Sub F1 F2 → KeepX c.k (· = D) H1 H2 → Q (.ref D) H2) :
    tLc2 (TIt Φ c.k E false it) (GT c.k tg) (TTs Φ c.k E0 ifs) (TIt Φ c.k E0 false it2) (GT c.k tg2) (TTs Φ c.k E0 ifs2) (T Φ c.k E0 elt) own own2 σ H Q := by
  obtain ⟨hok, h⟩ := if_ne h
  obtain ⟨hok1, hok2⟩ := Bool.and_eq_true_iff.mp hok
  refine TIt_bind R (fun z => nomatch z) h out fun items t1 J H1 F1 h1 R1 s1 z1 out1 hJ => ?_
  intro D hD
  have hn := R1.noTape hD
  have hp := R1.noP hD
  cases q : wipeE ρ own with
  | none => rw [q] at h1; cases h1
  | some ρ₀ =>
    rw [q] at h1
    obtain ⟨l, t2, hf, h3⟩ := seal_bnd h1
    by_cases hl : l.length ≤ lim
    · rw [if_pos hl] at h3
      cases h3
      obtain ⟨R0, ko⟩ := R1.wipe q
      refine loop_any (c := c) (D := D) (hn := hn) (ρ := ρ₀) (obj := .lst) (f := fun acc d => bnd (bnd (lft (setT tg d ρ₀)) fun ρ₁ => bnd (evT Φ ifs ρ₁) fun k => if k then
          bnd (evI Φ it2 ρ₁) fun items2 => match wipeE ρ₁ own2 with
            | none => stuck
            | some ρ₂ => flatM (bodyS Φ ρ₂ tg2 ifs2 elt) items2
          else ret []) fun y => ret (acc ++ y)) (b0 := []) (b1 := l) (hJ _ fun a e => .inl (by rw [show a = D from e]; exact hD)) (flat_fold (acc := []) hf) ⟨_, list_start hn R1 hD q, [], rfl, rfl⟩
        (fun a u e n m => by rw [upd_ne m]; exact e) (fun H' F' ls s kp => fin R1 hD ko out1 ls s kp) ?_
      intro Nx d b b' ta tb x H' F' rest hfd hrest ls rx s kp nx
      obtain ⟨y, t3, hy, h4⟩ := bnd_okD hfd
      cases h4
      have hle := fold_flat hrest
      rw [List.length_append] at hle
      obtain ⟨ρ₁, t4, e1, h5⟩ := bnd_okD hy
      obtain ⟨e1', rfl⟩ := lft_okD e1
      obtain ⟨bb, t5, e5, h6⟩ := bnd_okD h5
      obtain ⟨o, R', acc, rfl, ra⟩ := ls
      refine ⟨addP c D (.lst acc) hn, ρ₀, _, F', d, ρ₁, rfl, R', rx.to (okIt_of hok1), e1', fun σ2 R2 so => ⟨(wipe_same so.1 fun i hi => (so.2 i fun m => hi (allIn_mem hin i m)).2.trans (wipe_out hi).symm).trans wipe_wipe, ?_⟩⟩
      refine TTs_ok (c := addP c D _ hn) R2 e5 fun H3 F3 R3 s3 z3 => ?_
      have back : ∀ {t' : Tape} {H'' F'' : Hp} {o' : HO} {ρx : Env} {σx : L2.St}, Rel (addP c D o' hn) ρx t' σx H'' F'' → Sub F' F'' → (∀ (i : Nat) (d : VS.D), ρ₁[i]? = some (some (d, true)) → ρx[i]? = some (some (d, true)) ∧ σx[i]? = σ2[i]?) → Rel (addP c D o' hn) ρ₀ t' (wipe σ own) H'' F'' := fun {t' H'' F'' o' ρx σx} Rx sx kx => by
        obtain ⟨R0, hD0, hF0, ap0⟩ := R'.dropP hp
        obtain ⟨R1, hD1, hF1, ap1⟩ := Rx.dropP hp
        refine (R0.back R1 sx fun i d' e => ?_).addP hD1 hF1 hp ap0
        have ni : i ∉ tgSlots tg := fun m => by
          obtain ⟨a, u, h1, _⟩ := R0.own i d' e
          have q := wipe_in σ (allIn_mem hin i m)
          rw [h1] at q
          split at q <;> cases q
        obtain ⟨q1, q2⟩ := so.2 i ni
        obtain ⟨q3, q4⟩ := kx i d' (q1.trans e)
        exact ⟨q3, q4.trans q2⟩
      cases bb with
      | false =>
        cases h6
        rw [if_neg Bool.false_ne_true]
        exact nx H3 F3 ⟨_, back R3 s3 fun i d e => ⟨e, rfl⟩, acc, rfl, by rw [List.append_nil]; exact ra.mono s3⟩ s3 (.of z3)
      | true =>
        rw [if_pos rfl]
        obtain ⟨items2, t6, e6, h7⟩ := bnd_okD (show bnd (evI Φ it2 ρ₁) (fun items2 => match wipeE ρ₁ own2 with
            | none => stuck
            | some ρ₂ => flatM (bodyS Φ ρ₂ tg2 ifs2 elt) items2) t5 = some (.ok y, tb) from h6)
        refine TIt_ok (c := addP c D _ hn) R3 e6 fun J1 H4 F4 R4 s4 z4 hJ1 => ?_
        cases q2 : wipeE ρ₁ own2 with
        | none => rw [q2] at h7; cases h7
        | some ρ₂ =>
          rw [q2] at h7
          obtain ⟨R5, ko2⟩ := R4.wipe q2
          refine loop_any (c := c) (D := D) (hn := hn) (ρ := ρ₂) (obj := .lst) (f := fun acc d => bnd (bodyS Φ ρ₂ tg2 ifs2 elt d) fun y => ret (acc ++ y)) (b0 := b) (b1 := b ++ y) (hJ1 (· = D) fun a e => .inr (.inr e)) (flat_fold (acc := b) h7) ⟨_, R5, acc, rfl, ra.mono (s3.trans s4)⟩
            (fun a u e n m => e) (fun H'' F'' ls s'' kp'' => ?_) ?_
          · obtain ⟨o', Rx, acc', rfl, ra'⟩ := ls
            exact nx H'' F'' ⟨_, back Rx ((s3.trans s4).trans s'') ko2, acc', rfl, ra'⟩ ((s3.trans s4).trans s'') ((KeepX.of (z3.trans z4)).trans kp'')
          · intro Nx1 d2 b2 b2' ta2 tb2 x2 H5 F5 rest2 hfd2 hrest2 ls2 rx2 s5 kp5 nx2
            obtain ⟨y2, t7, hy2, h8⟩ := bnd_okD hfd2
            cases h8
            have hle2 := fold_flat hrest2
            rw [List.length_append, List.length_append] at hle2
            exact turn_ok (okIt_of hok2) hp hb hin2 wipe_wipe (by omega) hy2 ls2 rx2 nx2
    · rw [if_neg hl] at h3
      cases h3
theorem wn_comp2 {own own2 : List Nat} {tg tg2 : Tg} {it it2 : It} {ifs2 : List Ex} {elt : Ex} (hb : isBor elt = false) (hin : allIn (tgSlots tg) own = true) (hin2 : allIn (tgSlots tg2) own2 = true) (h : Tn Φ k E (.comp2 own own2 tg it ifs tg2 it2 ifs2 elt) σ H Q) :
    tLc2 (TIt Φ k E false it) (GT k tg) (TTs Φ k E0 ifs) (TIt Φ k E0 false it2) (GT k tg2) (TTs Φ k E0 ifs2) (T Φ k E0 elt) own own2 σ H Q := by
  obtain ⟨c, ρ, t, F, rfl, R, r, t', h, out⟩ := h
  exact comp2_any hb hin hin2 R h out.out fun R1 hD ko out1 ls s kp => listN_done R1 hD ko out1 ls s kp
theorem wn_dsp (h : Tn Φ k E (.dsp []) σ H Q) : ∀ p, H p = none → Q (.ref p) (upd H p (dicO p [])) := by
  obtain ⟨c, ρ, t, F, rfl, R, r, t', h, out⟩ := h
  cases h
  exact fun p hp => fresh_new R out.out (.inr ⟨p, _, hp, rfl, rfl, [], rfl, kvsOk.nil, rfl⟩)
end
end VS
end
section
set_option Elab.async false
set_option linter.all false
set_option maxRecDepth 100000
set_option maxHeartbeats 4000000
set_option autoImplicit false
/-! V4i: what is asked of a module, of a context; names, targets. -/
namespace VS
open PySem PySem.Spec PyProof.Rows L2

/-- a context of the law's run -/
structure XC (k : Kx) (mg : Str → Option Value) (base : Heap) (lv : Nat) (X : Cx) (E : XK) : Prop where
  prog : X.prog = k.P
  w : X.w = k.w
  K : X.K = k.K
  mg : X.mg = mg
  base : X.base = base
  room : Room lv X.A
  calm : X.calm = true
  takes : Takes X (fun c d _ H => E c d H)
structure Sx (k : Kx) (mg : Str → Option Value) (base : Heap) (lv : Nat) (se : SE) (X : Cx) (E : XK) : Prop extends XC k mg base lv X E where
  N : X.N = se.N
  sc : X.env.scope = se.sc
  kind : X.env.scope.kind = .function
  nod : X.N.Nodup
  fn : ∀ x, se.fn x = true → X.fn x = true
/-- the property's getter -/
structure PropTo (Φ : Nat → List D → M D) (k : Kx) (mg : Str → Option Value) (base : Heap) (lv : Nat) (x : Str) (f : Nat) : Prop where
  ok : ∀ ds t r t', Φ f ds t = some (r, t') → ∃ d, r = .ok d
  to : ∀ (X : Cx) (E : XK), XC k mg base lv X E → ∀ (pins : List (Addr × Obj)) (s : Shared) (σ : L2.St) (H : Hp) (Q : VK) (y : V) (u : Value), Inv X pins σ H s → RelV y u → rCall Φ k E0 f [] [y] H Q →
    wpAny (model X.prog X.w) X.A (getAttr u x true) (EP X pins σ Q) X.xe s
def bltNames : List Str := ["len", "int", "abs", "min", "max", "sorted", "list", "tuple", "dict", "all", "any", "isinstance", "range", "zip", "enumerate", "bool", "str", "set"]
/-- what is asked of a module -/
structure GS (Φ : Nat → List D → M D) (k : Kx) (mg : Str → Option Value) (base : Heap) (lv : Nat) (se : SE) : Prop where
  fn : ∀ x g, se.g.lookup x = some (.fn g) ∨ se.g.lookup x = some (.cls g) → ∃ fv, mg x = some (.ref fv) ∧ PySem.W.keepIn k.K (.ref fv) = true ∧ ∀ p ∈ g.sh, CallsTo Φ k mg base lv fv g.f p.1 p.2.1 p.2.2
  const : ∀ x d, se.g.lookup x = some (.const d) → ∃ v u, mg x = some u ∧ RelV v u ∧ ∀ F, Rep k F d v
  blt : ∀ x, bltNames.contains x = true → se.g.lookup x = none → mg x = none
  cid : ∀ x c, se.cids.lookup x = some c → mg x = some (.ref (k.cl c)) ∧ ∀ X E, XC k mg base lv X E → CallR X (.builtin "isinstance") (fun xs H Q => ∃ y, xs = [y, .ref (k.cl c)] ∧ rBlt k (.isCls c) [y] H Q)
  fld : ∀ x c i, se.att.lookup x = some (.fld c i) → (flds c)[i]? = some x ∧ (flds c).Nodup ∧ Cls k.K (k.cl c) ∧ NoAttr k.K (k.cl c) x
  prop : ∀ x f, se.att.lookup x = some (.prop f) → PropTo Φ k mg base lv x f
  eqI : ∀ X E, XC k mg base lv X E → ∀ o, OpR X (compareOp (cpOf o)) (rCmpI Φ k E o)
theorem GS.blk {Φ : Nat → List D → M D} {k : Kx} {mg : Str → Option Value} {base : Heap} {lv : Nat} {se : SE} (g : GS Φ k mg base lv se) (scope : Scope) : GS Φ k mg base lv (se.blk scope) := ⟨g.fn, g.const, g.blt, g.cid, g.fld, g.prop, g.eqI⟩
theorem takes0 {X : Cx} : Takes X (fun c d _ H => E0 c d H) := fun _ _ ⟨_, _, _, _, _, _, _, _, _, _, _, _, _, _, _, _, w⟩ => w.elim
section
variable {k : Kx} {mg : Str → Option Value} {base : Heap} {lv : Nat} {se : SE} {X : Cx} {E : XK}
theorem Sx.blk (S : Sx k mg base lv se X E) {scope : Scope} {own : List (Str × Nat)} (ok : BlkOk X.N X.env.scope scope own) (s : Shared) (H : Hp) (C : Addr) (cl : List (Str × Addr)) (fp : List Addr) : Sx k mg base lv (se.blk scope) (X.blk s H scope (compEnvC scope cl C X.env) fp) E0 where
  prog := S.prog
  w := S.w
  K := S.K
  mg := S.mg
  base := S.base
  room := S.room
  calm := S.calm
  takes := takes0
  N := S.N
  sc := by show relS scope X.env.scope = relS scope se.sc; rw [S.sc]
  kind := ok.kind
  nod := S.nod
  fn := fun x h => h
theorem XC.wish (S : XC k mg base lv X E) : XC k mg base lv X.nox E0 := ⟨S.prog, S.w, S.K, S.mg, S.base, S.room, S.calm, takes0⟩
/-! names -/
theorem okName_of {x : Str} (h : okName x = true) : (x == ("__debug__" : Str)) = false ∧ (x == ("__classdict__" : Str)) = false ∧ x ≠ "__name__" := by
  unfold okName at h
  rw [Bool.and_eq_true, Bool.and_eq_true, Bool.not_eq_true', Bool.not_eq_true', Bool.not_eq_true'] at h
  exact ⟨h.1.1, h.1.2, fun e => by rw [e] at h; exact absurd h.2 (by decide)⟩
theorem idx_get : ∀ {l : List Str} {x : Str} {i : Nat}, l.idxOf? x = some i → l[i]? = some x
  | [], _, _, h => by simp at h
  | y :: l, x, i, h => by
    rw [List.idxOf?_cons] at h
    by_cases e : (y == x) = true
    · rw [if_pos e] at h
      cases h
      rw [beq_iff_eq.mp e]
      rfl
    · rw [if_neg e] at h
      obtain ⟨j, hj, rfl⟩ := Option.map_eq_some_iff.mp h
      exact idx_get (l := l) hj
theorem slot_of (S : Sx k mg base lv se X E) {x : Str} {i : Nat} (h : se.slot x = some i) : X.N[i]? = some x ∧ Vis X.env.scope x ∧ (x == ("__debug__" : Str)) = false ∧ (x == ("__classdict__" : Str)) = false := by
  unfold SE.slot at h
  by_cases ho : okName x = true
  · rw [if_pos ho] at h
    obtain ⟨h1, h2, _⟩ := okName_of ho
    rw [S.N, S.sc]
    split at h
    · exact ⟨idx_get h, .inl (by assumption), h1, h2⟩
    · exact ⟨idx_get h, .inr (.inl (by assumption)), h1, h2⟩
    · exact ⟨idx_get h, .inr (.inr (by assumption)), h1, h2⟩
    · cases h
  · rw [if_neg ho] at h
    cases h
theorem loc_of (S : Sx k mg base lv se X E) {x : Str} {i : Nat} (h : se.loc x = some i) : X.N[i]? = some x ∧ Loc X.env.scope x ∧ (X.fn x = true ∨ X.env.scope.names.lookup x = some .local) ∧ (x == ("__debug__" : Str)) = false ∧ (x == ("__classdict__" : Str)) = false := by
  unfold SE.loc at h
  by_cases ho : okName x = true
  · rw [if_pos ho] at h
    obtain ⟨h1, h2, _⟩ := okName_of ho
    rw [S.N, S.sc]
    split at h
    · rename_i q
      exact ⟨idx_get h, .inl q, .inr q, h1, h2⟩
    · rename_i q
      by_cases hf : se.fn x = true
      · rw [if_pos hf] at h
        exact ⟨idx_get h, .inr q, .inl (S.fn x hf), h1, h2⟩
      · rw [if_neg hf] at h
        cases h
    · cases h
  · rw [if_neg ho] at h
    cases h
theorem gl_of (S : Sx k mg base lv se X E) {x : Str} (h : se.isGl x = true) : Gl X x ∧ (x == ("__debug__" : Str)) = false ∧ x ≠ "__name__" := by
  unfold SE.isGl at h
  rw [Bool.and_eq_true] at h
  obtain ⟨h1, _, h3⟩ := okName_of h.1
  exact ⟨by show X.env.scope.names.lookup x = _; rw [S.sc]; exact of_decide_eq_true h.2, h1, h3⟩
/-! targets -/
theorem _root_.L2.PG.weak {tg : Expr} {t u : TG} (h : PG X tg t) (w : ∀ v σ H Q, u v σ H Q → t v σ H Q) : PG X tg u := ⟨fun pins s σ H v a Q I r q => h.run pins s σ H v a Q I r (w v σ H Q q)⟩
theorem _root_.L2.PGs.weak {tg : List Expr} {t u : TGs} (h : PGs X tg t) (w : ∀ v σ H Q, u v σ H Q → t v σ H Q) : PGs X tg u := ⟨fun pins s σ H v a Q I r q => h.run pins s σ H v a Q I r (w v σ H Q q)⟩
def noStar (es : List Expr) : Prop := ∀ e ∈ es, isStar e = false
theorem assignEach_cons {e : Expr} {es : List Expr} {env : PySem.Env} (h : isStar e = false) : assignEach (e :: es) env = (false, assign e env) :: assignEach es env := by
  cases e <;> first | rfl | cases h
theorem starEach_cons {e : Expr} {es : List Expr} {env : PySem.Env} (h : isStar e = false) : starEach (e :: es) env = (false, eval e env) :: starEach es env := by
  cases e <;> first | rfl | cases h
theorem assignEach_all {env : PySem.Env} : ∀ {es : List Expr}, noStar es → (assignEach es env).length = es.length ∧ (assignEach es env).findIdx? (·.1) = none
  | [], _ => ⟨rfl, rfl⟩
  | e :: es, h => by
    obtain ⟨h1, h2⟩ := assignEach_all (es := es) fun x m => h x (List.mem_cons_of_mem _ m)
    rw [assignEach_cons (h e (List.mem_cons_self ..))]
    refine ⟨by rw [List.length_cons, List.length_cons, h1], ?_⟩
    rw [List.findIdx?_cons, h2]
    rfl
theorem starEach_none {env : PySem.Env} {pos : Pos} : ∀ {es : List Expr}, noStar es → (backTo pos (starEach es env)).any (·.1) = false
  | [], _ => rfl
  | e :: es, h => by
    rw [starEach_cons (h e (List.mem_cons_self ..))]
    show (false || (backTo pos (starEach es env)).any (·.1)) = false
    rw [starEach_none fun x m => h x (List.mem_cons_of_mem _ m)]
    rfl
theorem trTg_ok (S : Sx k mg base lv se X E) : ∀ n, (∀ e tg, trTg n se e = some tg → isStar e = false ∧ PG X e (GT k tg)) ∧ (∀ es tgs, trTgs n se es = some tgs → noStar es ∧ es.length = tgs.length ∧ PGs X es (GTs k tgs))
  | 0 => ⟨(fun _ _ h => nomatch (show none = some _ from h)), fun _ _ h => nomatch (show none = some _ from h)⟩
  | n + 1 => by
    obtain ⟨h1, h2⟩ := trTg_ok S n
    refine ⟨fun e tg h => ?_, fun es tgs h => ?_⟩
    · cases e with
      | Name x p =>
        obtain ⟨i, hi, e⟩ := Option.map_eq_some_iff.mp (show (se.loc x).map .nm = some tg from h)
        subst e
        obtain ⟨a1, a2, a3, _⟩ := loc_of S hi
        exact ⟨rfl, (pg_name S.nod a1 a2 a3).weak fun v σ H Q q => gt_nm q⟩
      | Tuple es kk p =>
        obtain ⟨tgs, ht, e⟩ := Option.map_eq_some_iff.mp (show (trTgs n se es).map .tp = some tg from h)
        subst e
        obtain ⟨b1, b2, b3⟩ := h2 es tgs ht
        obtain ⟨c1, c2⟩ := assignEach_all (env := X.env) b1
        exact ⟨rfl, (pg_tup (n := tgs.length) S.calm b3 (c1.trans b2) c2).weak fun v σ H Q q => gt_tp q⟩
      | _ => exact nomatch (show none = some tg from h)
    · cases es with
      | nil =>
        have h : some [] = some tgs := h
        cases h
        exact ⟨(fun _ m => nomatch m), rfl, pgs_nil.weak fun v σ H Q q => gts_nil q⟩
      | cons e es =>
        obtain ⟨tg, ht, h⟩ := Option.bind_eq_some_iff.mp (show (trTg n se e).bind (fun t => (trTgs n se es).map (t :: ·)) = some tgs from h)
        obtain ⟨ts, hts, e'⟩ := Option.map_eq_some_iff.mp h
        subst e'
        obtain ⟨a1, a2⟩ := h1 e tg ht
        obtain ⟨b1, b2, b3⟩ := h2 es ts hts
        refine ⟨fun x m => ?_, by rw [List.length_cons, List.length_cons, b2], (pgs_cons a2 b3 (by rw [assignEach_cons a1]; rfl)).weak fun v σ H Q q => gts_cons q⟩
        rcases List.mem_cons.mp m with e | m
        · rw [e]; exact a1
        · exact b1 x m
end
end VS
end
section
set_option Elab.async false
set_option linter.all false
set_option maxRecDepth 100000
set_option maxHeartbeats 8000000
set_option autoImplicit false
/-! V4j: what the translation says of an expression is so. -/
namespace VS
open PySem PySem.Spec PyProof.Rows L2

/-- new tuples, one behind the other -/
def PairsN (k : Kx) : List D → Hp → Hp → List V → Hp → Hp → Prop
  | [], F, H, vs, F', H' => vs = [] ∧ F' = F ∧ H' = H
  | d :: ds, F, H, vs, F', H' => ∃ p o r, H p = none ∧ ObjN k F p o d ∧ vs = .ref p :: r ∧ PairsN k ds (upd F p o) (upd H p o) r F' H'
theorem PairsN.rel {c : Ct} {ρ : Env} {t : Tape} {σ : L2.St} : ∀ {ds : List D} {F H F' H' : Hp} {vs : List V}, Rel c ρ t σ H F → PairsN c.k ds F H vs F' H' → Rel c ρ t σ H' F' ∧ Sub F F' ∧ Keep c.k H H' ∧ RepL c.k F' ds vs
  | [], F, H, F', H', vs, R, ⟨e1, e2, e3⟩ => by
    subst e1 e2 e3
    exact ⟨R, Sub.refl, .refl, rfl⟩
  | d :: ds, F, H, F', H', vs, R, ⟨p, o, r, hp, ho, e, z⟩ => by
    subst e
    have hf := R.sub.none hp
    obtain ⟨R', s, kp, rp⟩ := PairsN.rel (R.ext (ext_new R.sub hp) (sub_upd hf)) z
    exact ⟨R', (sub_upd hf).trans s, (Keep.new hp).trans kp, .ref p, r, rfl, ((ho.mono (sub_upd hf)).rep upd_same).mono s, rp⟩
/-- the reading of list(zip(..)) -/
def rZip (k : Kx) : List V → Hp → VK → Prop := fun xs H Q => ∃ F a b, Sub F H ∧ RepTs k F H [.lst a, .lst b] xs ∧ ∀ vs F1 H1, PairsN k (zipL a b) F H vs F1 H1 → ∀ p, H1 p = none → Q (.ref p) (upd H1 p (.lst vs))
theorem zip_some {ds : List D} {d : D} (h : bltS .listZip ds = some d) : ∃ a b, ds = [.lst a, .lst b] ∧ d = .lst (zipL a b) := by
  match ds, h with
  | [.lst a, .lst b], h => exact ⟨a, b, rfl, (Option.some.inj h).symm⟩
section
variable {Φ : Nat → List D → M D} {k : Kx} {E : XK} {σ : L2.St} {H : Hp} {Q : VK} {es : List Ex}
theorem w_zip (h : T Φ k E (.blt .listZip es) σ H Q) : TL Φ k E es σ H fun vs H1 => rZip k vs H1 Q := by
  obtain ⟨c, ρ, t, F, rfl, R, r, t', h, out⟩ := h
  refine TL_bind rfl R h out fun ds t1 vs H1 F1 e1 h1 R1 s1 o1 z1 out1 => ?_
  obtain ⟨d, e, rfl, rfl⟩ := lft_some' h1
  obtain ⟨a, b, rfl, rfl⟩ := zip_some e
  refine ⟨F1, a, b, R1.sub, o1.tops R1, fun us F2 H2 n p hp => ?_⟩
  obtain ⟨R2, s2, kp, rp⟩ := n.rel R1
  exact out_new rfl R2 (out1.sub s2 kp) (.inr ⟨p, _, hp, rfl, rfl, _, rfl, rp⟩)
theorem wn_zip (h : Tn Φ k E (.blt .listZip es) σ H Q) : TL Φ k E es σ H fun vs H1 => rZip k vs H1 Q := by
  obtain ⟨c, ρ, t, F, rfl, R, r, t', h, out⟩ := h
  refine TL_bind rfl R h out.out fun ds t1 vs H1 F1 e1 h1 R1 s1 o1 z1 out1 => ?_
  obtain ⟨d, e, rfl, rfl⟩ := lft_some' h1
  obtain ⟨a, b, rfl, rfl⟩ := zip_some e
  refine ⟨F1, a, b, R1.sub, o1.tops R1, fun us F2 H2 n p hp => ?_⟩
  obtain ⟨R2, s2, kp, rp⟩ := n.rel R1
  exact fresh_new R2 (out1.sub s2 kp) (.inr ⟨p, _, hp, rfl, rfl, _, rfl, rp⟩)
end
/-- the built-ins -/
structure BO (k : Kx) (X : Cx) : Prop where
  fn : ∀ x b, blt1 x = some b → (∃ id, bootBuiltins x = some (.builtin id) ∧ CallR X (.builtin id) (rBlt k b)) ∨ ∃ T, bootBuiltins x = some (.type T) ∧ CallR X (.type T) (rBlt k b)
  isTy : ∀ x b, tyOf x = some b → ∃ T, bootBuiltins x = some (.type T) ∧ CallR X (.builtin "isinstance") (fun xs H Q => ∃ y, xs = [y, .ty T] ∧ rBlt k b [y] H Q)
  isLT : CallR X (.builtin "isinstance") (fun xs H Q => ∃ y p, xs = [y, .ref p] ∧ H p = some (.tup [.ty "list", .ty "tuple"]) ∧ rBlt k .isListTuple [y] H Q)
  mtIx : ∀ {o a : Expr} {p q : Pos} {to ta : TE}, abOk o = true → (q.endLine == p.line) = true → isStar a = false → PE X o to → PE X a ta →
    PE X (.Call (.Attribute o "index" q) [a] [] p) (fun σ H Q => to σ H fun x H1 => ∃ F d, Sub F H1 ∧ RepT k F H1 d x ∧ mtOk .index d = true ∧ ta σ H1 fun y H2 => rMt k .index d [x, y] H2 Q)
  listRange : ∀ {p q r s : Pos} {as : List Expr} {ta : TA}, Gl X "list" → X.mg "list" = none → Gl X "range" → X.mg "range" = none → noStar as → as ≠ [] → PA X as ta →
    PE X (.Call (.Name "list" p) [.Call (.Name "range" q) as [] r] [] s) (fun σ H Q => ta σ H fun vs H1 => rBlt k .listRange vs H1 Q)
  listZip : ∀ {p q r s : Pos} {a b : Expr} {ta tb : TE}, Gl X "list" → X.mg "list" = none → Gl X "zip" → X.mg "zip" = none → isStar a = false → isStar b = false → PE X a ta → PE X b tb →
    PE X (.Call (.Name "list" p) [.Call (.Name "zip" q) [a, b] [] r] [] s) (fun σ H Q => ta σ H fun x H1 => tb σ H1 fun y H2 => rZip k [x, y] H2 Q)
/-- the reading of a display with stars -/
def TLs (Φ : Nat → List D → M D) (k : Kx) (E : XK) (ss : List Bool) (es : List Ex) : TA := fun σ H Q => ∃ c ρ t F, c.k = k ∧ Rel c ρ t σ H F ∧ ∃ r t', evSt Φ es ss ρ t = some (r, t') ∧ Out E c ρ σ H F t' (fun ds H' F' => ∀ vs, RepL k F' ds vs → Q vs H') r
section
variable {Φ : Nat → List D → M D} {k : Kx} {E : XK} {σ : L2.St} {H F : Hp} {Q : VK} {e : Ex} {es : List Ex} {ss : List Bool} {Q' : List V → Hp → Prop} {c : Ct} {ρ : Env} {t t' : Tape}
theorem ws_nil (h : TLs Φ k E [] [] σ H Q') : tNil σ H Q' := by
  obtain ⟨c, ρ, t, F, rfl, R, r, t', h, out⟩ := h
  cases h
  exact out H F R Sub.refl .refl [] rfl
theorem TLs_bind {α : Type} {f : List D → M α} {r : Res α} {ok : α → Hp → Hp → Prop} {K : List V → Hp → Prop} (R : Rel c ρ t σ H F) (h : bnd (evSt Φ es ss ρ) f t = some (r, t')) (o : Out E c ρ σ H F t' ok r)
    (g : ∀ ds t1 vs H1 F1, f ds t1 = some (r, t') → Rel c ρ t1 σ H1 F1 → Sub F F1 → RepL c.k F1 ds vs → Keep c.k H H1 → Out E c ρ σ H1 F1 t' ok r → K vs H1) : TLs Φ c.k E ss es σ H K := by
  unfold bnd at h
  cases q : evSt Φ es ss ρ t with
  | none => rw [q] at h; cases h
  | some p =>
    obtain ⟨x, t1⟩ := p
    rw [q] at h
    cases x with
    | ok d => exact ⟨c, ρ, t, F, rfl, R, .ok d, t1, q, fun H1 F1 R1 s1 z1 v hv => g d t1 v H1 F1 h R1 s1 hv z1 (o.sub s1 z1)⟩
    | ex n l =>
      cases h
      exact ⟨c, ρ, t, F, rfl, R, .ex n l, t', q, o⟩
theorem ws_cons (hb : isBor e = false) (h : TLs Φ k E (false :: ss) (e :: es) σ H Q') : tCons (T Φ k E e) (TLs Φ k E ss es) σ H Q' := by
  obtain ⟨c, ρ, t, F, rfl, R, r, t', h, out⟩ := h
  refine T_bind rfl R h out fun d1 t1 v1 H1 F1 e1 h1 R1 s1 o1 z1 out1 => ?_
  refine TLs_bind R1 (show bnd (evSt Φ es ss ρ) (fun m => ret ([d1] ++ m)) t1 = some (r, t') from h1) out1 fun ds t2 vs H2 F2 h2 R2 s2 rv z2 out2 => ?_
  cases h2
  exact out2 H2 F2 R2 Sub.refl .refl (v1 :: vs) ⟨v1, vs, rfl, (o1.rep hb).mono s2, rv⟩
theorem seqOf_of {d : D} {l : List D} (h : seqOf d = some l) : d = .tup l ∨ d = .lst l := by
  cases d <;> first | (cases h; done) | skip
  · cases h; exact .inl rfl
  · cases h; exact .inr rfl
theorem ws_star {K : PySem.W.Frag} (h : TLs Φ k E (true :: ss) (e :: es) σ H Q') : StX.tStar K (T Φ k E e) (TLs Φ k E ss es) σ H Q' := by
  obtain ⟨c, ρ, t, F, rfl, R, r, t', h, out⟩ := h
  refine T_bind rfl R h out fun d1 t1 v1 H1 F1 e1 h1 R1 s1 o1 z1 out1 => ?_
  have h1 : bnd (lft (seqOf d1)) (fun l => bnd (evSt Φ es ss ρ) fun m => ret (l ++ m)) t1 = some (r, t') := h1
  cases q : seqOf d1 with
  | none => rw [q] at h1; cases h1
  | some l =>
    rw [q] at h1
    have h1 : bnd (evSt Φ es ss ρ) (fun m => ret (l ++ m)) t1 = some (r, t') := h1
    have tp := o1.top R1
    have fin : ∀ xs, RepL c.k F1 l xs → TLs Φ c.k E ss es σ H1 fun ys H2 => Q' (xs ++ ys) H2 := fun xs rx => TLs_bind R1 h1 out1 fun ds t2 vs H2 F2 h2 R2 s2 rv z2 out2 => by
      cases h2
      exact out2 H2 F2 R2 Sub.refl .refl _ ((rx.mono s2).append rv)
    rcases seqOf_of q with rfl | rfl
    · obtain ⟨a, vs, rfl, g, rl⟩ := tp
      exact ⟨a, vs, rfl, .inl (.inl (R1.sub.rd g.rd)), fin vs rl⟩
    · obtain ⟨a, vs, rfl, g, rl⟩ := tp
      exact ⟨a, vs, rfl, .inr (.inl g), fin vs rl⟩
theorem w_tupS (h : T Φ k E (.tupS ss es) σ H Q) : tTupX (TLs Φ k E ss es) σ H Q := by
  obtain ⟨c, ρ, t, F, rfl, R, r, t', h, out⟩ := h
  refine TLs_bind R h out fun ds t1 vs H1 F1 h1 R1 s1 rl z1 out1 => ?_
  by_cases hz : ds.length ≤ lim
  · rw [if_pos hz] at h1
    cases h1
    exact ⟨by rw [rl.length]; exact hz, fun p ob hp hd => out_new rfl R1 out1 (.inr ⟨p, _, hp, rfl, rfl, vs, ob, rfl, hd, rl⟩)⟩
  · rw [if_neg hz] at h1
    cases h1
/-- {} -/
def tDNew : TE := fun _ H Q => ∀ p, H p = none → Q (.ref p) (upd H p (dicO p []))
theorem pe_dnew {X : Cx} {pos : Pos} : PE X (.Dict [] [] pos) tDNew := by
  refine ⟨fun pins s σ H Q I h => ?_⟩
  have m : (s.heap.push { cls := .type "dict", data := .dict #[] }).DictOfH (nestedKind X.prog X.w) s.heap.objs.size [] :=
    ⟨_, #[], 0, Heap.get?_push_size _ rfl, ⟨rfl, rfl, rfl⟩, rfl, rfl, fun y m => absurd m (by simp), List.nodup_nil⟩
  have n := dicNew m (Nat.zero_le _) (beq_eq_false_iff_ne.mpr (Ne.symm (Nat.ne_of_lt I.big))) (upd H s.heap.objs.size (dicO s.heap.objs.size []))
  exact wpAny_Dict_empty ⟨.ref s.heap.objs.size, _, I.laid (a := s.heap.objs.size) (o := dicO s.heap.objs.size []) (t' := s.toks) (fun _ _ q => Heap.get?_push_of_some _ q) (Nat.le_refl _) n, rfl, h _ (I.hok.fresh (Nat.le_refl _))⟩
theorem w_dsp (h : T Φ k E (.dsp []) σ H Q) : tDNew σ H Q := by
  obtain ⟨c, ρ, t, F, rfl, R, r, t', h, out⟩ := h
  cases h
  exact fun p hp => out_new rfl R out (.inr ⟨p, _, hp, rfl, rfl, [], rfl, .nil, rfl⟩)
/-- a name of the module -/
theorem pe_gl {X : Cx} {x : Str} {p : Pos} {u : Value} {v : V} (hg : Gl X x) (hm : X.mg x = some u) (r : RelV v u) (hd : (x == ("__debug__" : Str)) = false) : PE X (.Name x p) (tC v) :=
  ⟨fun _ _ _ H _ I h => ld_glob I hg hm ⟨v, H, I, r, h⟩ hd⟩
/-- a slice's part -/
theorem po_tr {X : Cx} {e' : Expr} (h : PE X e' (T Φ k E e)) : PO X (some e') (TO' Φ k E e) := by
  refine ⟨fun pins s σ H Q I hw => ?_⟩
  rw [evalPart_some]
  refine thn (h.run pins s σ H _ I hw) fun u s1 ⟨x, H1, I1, r1, o, q1, q⟩ => ?_
  rcases q1 with ⟨rfl, rfl⟩ | ⟨i, rfl, rfl⟩
  · obtain rfl : u = Value.none := r1
    exact ⟨none, H1, I1, .none, q⟩
  · obtain ⟨t, rfl⟩ := r1
    exact ⟨some i, H1, I1, .int i t, q⟩
theorem po_no {X : Cx} : PO X none (TO' Φ k E (.lit .non)) := by
  refine ⟨fun pins s σ H Q I hw => ?_⟩
  rw [evalPart_none]
  obtain ⟨o, q1, q⟩ := w_lit (k := k) (d := .non) (u := V.non) (fun _ => rfl) hw
  rcases q1 with ⟨rfl, _⟩ | ⟨i, _, e⟩
  · exact wpAny_pure ⟨none, H, I, .none, q⟩
  · cases e
end
end VS
end
section
set_option Elab.async false
set_option linter.all false
set_option maxRecDepth 100000
set_option maxHeartbeats 8000000
set_option autoImplicit false
/-! V4k: the induction over expressions. -/
namespace VS
open PySem PySem.Spec PyProof.Rows L2

section
variable (Φ : Nat → List D → M D) (k : Kx) (mg : Str → Option Value) (base : Heap) (lv : Nat)
/-- an expression is as its translation says, as a value and as a test -/
def EOk (se : SE) (e : Expr) (ir : Ex) : Prop := isStar e = false ∧ isBor ir = false ∧ ∀ X E, Sx k mg base lv se X E → PE X e (T Φ k E ir) ∧ PT X e (TT' Φ k E ir) ∧ (frs ir = true → PE X e (Tn Φ k E ir))
/-- .. where a slot may be read as it stands -/
def OOk (se : SE) (e : Expr) (ir : Ex) : Prop := isStar e = false ∧ ∀ X E, Sx k mg base lv se X E → PE X e (T Φ k E ir)
structure OkN (n : Nat) : Prop where
  e : ∀ se e ir, tr n se e = some ir → GS Φ k mg base lv se → EOk Φ k mg base lv se e ir
  l : ∀ se es irs, trL n se es = some irs → GS Φ k mg base lv se → Paired (EOk Φ k mg base lv se) es irs
  lo : ∀ se es irs, trLO n se es = some irs → GS Φ k mg base lv se → Paired (OOk Φ k mg base lv se) es irs
  st : ∀ se es irs, trSt n se es = some irs → GS Φ k mg base lv se → ∀ X E, Sx k mg base lv se X E → PA X es (TLs Φ k E (es.map isStar) irs)
  c1 : ∀ se a o b ir pos, trCmp1 n se a o b = some ir → GS Φ k mg base lv se → EOk Φ k mg base lv se (.Compare a [o] [b] pos) ir
  sub : ∀ se a i ir pos, trSub n se a i = some ir → GS Φ k mg base lv se → EOk Φ k mg base lv se (.Subscript a i pos) ir
  lc : ∀ se elt gs scope ir pos, trLc n se elt gs scope = some ir → GS Φ k mg base lv se → EOk Φ k mg base lv se (.ListComp elt gs scope pos) ir ∧
    ∀ X E, Sx k mg base lv se X E → ∀ (i : Nat) (y : Str) (py spos : Pos), X.N[i]? = some y → X.env.scope.names.lookup y = some .local → swapsWith (.ListComp elt gs scope pos) (some (.Name y py)) spos.line X.env = pure true →
      PS X (.Assign [.Name y py] (.ListComp elt gs scope pos) spos) (tAsg (T Φ k E ir) (gName i)) ∧ PS X (.Assign [.Name y py] (.ListComp elt gs scope pos) spos) (tAsg (Tn Φ k E ir) (gName i))
  cl : ∀ se f args kws pos ir, trCl n se f args kws pos = some ir → GS Φ k mg base lv se → EOk Φ k mg base lv se (.Call f args kws pos) ir
  o : ∀ se e ir, trO n se e = some ir → GS Φ k mg base lv se → OOk Φ k mg base lv se e ir
  part : ∀ se p ir, trPart n se p = some ir → GS Φ k mg base lv se → ∀ X E, Sx k mg base lv se X E → PO X p (TO' Φ k E ir)
  kw : ∀ se ks irs, trKw n se ks = some irs → GS Φ k mg base lv se → plainEs irs ∧ irs.length = ks.length ∧ ∀ X E, Sx k mg base lv se X E → PK X ks (TL Φ k E irs)
  call : ∀ se g args kws ir, trCall n se g args kws = some ir → GS Φ k mg base lv se → ∃ ks ds as bs, ir = .call g.f (as ++ (bs ++ ds.map .lit)) ∧ kwNames kws = some ks ∧ (args.length, ks, ds) ∈ g.sh ∧ Paired (EOk Φ k mg base lv se) args as ∧ plainEs bs ∧ bs.length = kws.length ∧ ∀ X E, Sx k mg base lv se X E → PK X kws (TL Φ k E bs)
  blt : ∀ se x args ir p pos, trBlt n se x args = some ir → se.isGl x = true → se.g.lookup x = none → GS Φ k mg base lv se → EOk Φ k mg base lv se (.Call (.Name x p) args [] pos) ir
  mt : ∀ se o m args ir q pos, trMeth n se o m args = some ir → abOk o = true → (q.endLine == pos.line) = true → GS Φ k mg base lv se → EOk Φ k mg base lv se (.Call (.Attribute o m q) args [] pos) ir
  it : ∀ se tp e ir, trI n se tp e = some ir → GS Φ k mg base lv se → (∀ env x, foldedSetIterable e env x = pure x) ∧ ∀ X E, Sx k mg base lv se X E → ∀ tg fz, (tp = true → isTupE tg = true) → PI X tg e (TIt Φ k E fz ir)
end
section
variable {Φ : Nat → List D → M D} {k : Kx} {mg : Str → Option Value} {base : Heap} {lv : Nat} {se : SE} {n : Nat}
/-- a value's reading as a test -/
theorem EOk.val {e : Expr} {ir : Ex} (hs : isStar e = false) (hb : isBor ir = false) (he : ∀ env whole, isTrue e env whole = (do let v ← whole; standAt e.pos; holding [v] (truthy v))) (h : ∀ X E, Sx k mg base lv se X E → PE X e (T Φ k E ir)) (hf : frs ir = false := by rfl) : EOk Φ k mg base lv se e ir :=
  ⟨hs, hb, fun X E S => ⟨h X E S, (pt_val (h X E S) (he X.env)).weak fun σ H Q q => wt_val hb q, fun z => by rw [hf] at z; cases z⟩⟩
theorem EOk.valF {e : Expr} {ir : Ex} (hs : isStar e = false) (hb : isBor ir = false) (he : ∀ env whole, isTrue e env whole = (do let v ← whole; standAt e.pos; holding [v] (truthy v))) (h : ∀ X E, Sx k mg base lv se X E → PE X e (T Φ k E ir)) (hf : frs ir = true → ∀ X E, Sx k mg base lv se X E → PE X e (Tn Φ k E ir)) : EOk Φ k mg base lv se e ir :=
  ⟨hs, hb, fun X E S => ⟨h X E S, (pt_val (h X E S) (he X.env)).weak fun σ H Q q => wt_val hb q, fun z => hf z X E S⟩⟩
/-! lists of expressions -/
theorem each_noStar {es : List Expr} {irs : List Ex} (h : Paired (EOk Φ k mg base lv se) es irs) : noStar es := by
  induction h with
  | nil => exact fun _ m => by cases m
  | cons a b ih =>
    intro x m
    rcases List.mem_cons.mp m with e | m
    · rw [e]; exact a.1
    · exact ih x m
theorem each_plain {es : List Expr} {irs : List Ex} (h : Paired (EOk Φ k mg base lv se) es irs) : plainEs irs := by
  induction h with
  | nil => rfl
  | cons a b ih =>
    show (_ || _) = false
    rw [a.2.1, ih]
    rfl
theorem eacho_noStar {es : List Expr} {irs : List Ex} (h : Paired (OOk Φ k mg base lv se) es irs) : noStar es := by
  induction h with
  | nil => exact fun _ m => by cases m
  | cons a b ih =>
    intro x m
    rcases List.mem_cons.mp m with e | m
    · rw [e]; exact a.1
    · exact ih x m
theorem each_pa {X : Cx} {E : XK} (S : Sx k mg base lv se X E) {es : List Expr} {irs : List Ex} (h : Paired (EOk Φ k mg base lv se) es irs) : PA X es (TL Φ k E irs) := by
  induction h with
  | nil => exact pa_nil.weak fun σ H Q q => wl_nil q
  | cons a b ih => exact (pa_cons (a.2.2 X E S).1 ih (starEach_cons a.1)).weak fun σ H Q q => wl_cons q
theorem eacho_pa {X : Cx} {E : XK} (S : Sx k mg base lv se X E) {es : List Expr} {irs : List Ex} (h : Paired (OOk Φ k mg base lv se) es irs) : PA X es (TL Φ k E irs) := by
  induction h with
  | nil => exact pa_nil.weak fun σ H Q q => wl_nil q
  | cons a b ih => exact (pa_cons (a.2 X E S) ih (starEach_cons a.1)).weak fun σ H Q q => wl_cons q
/-! and, or -/
theorem and_ok : ∀ {es : List Expr} {irs : List Ex} {ir : Ex} {pos : Pos}, Paired (EOk Φ k mg base lv se) es irs → andAll irs = some ir → isBor ir = false ∧ ∀ X E, Sx k mg base lv se X E → PE X (.BoolOp .And es pos) (T Φ k E ir) ∧ PW X (.BoolOp .And es pos) (TT' Φ k E ir) ∧ (frs ir = true → PE X (.BoolOp .And es pos) (Tn Φ k E ir))
  | _, _, _, _, .nil, h => by cases h
  | _, _, ir, pos, .cons (a := e) (b := i) a .nil, h => by
    have h : some i = some ir := h
    cases h
    exact ⟨a.2.1, fun X E S => ⟨pe_one (a.2.2 X E S).1, pw_and1 (a.2.2 X E S).2.1, fun z => pe_one ((a.2.2 X E S).2.2 z)⟩⟩
  | _, _, ir, pos, .cons (a := e) (b := i) a (.cons (a := e2) (b := i2) (l₁ := es) (l₂ := is) b r), h => by
    have h : (andAll (i2 :: is)).map (.and i) = some ir := h
    obtain ⟨j, hj, e'⟩ := Option.map_eq_some_iff.mp h
    subst e'
    obtain ⟨h1, h2⟩ := and_ok (pos := pos) (.cons b r) hj
    refine ⟨rfl, fun X E S => ⟨(pe_and (a.2.2 X E S).1 (h2 X E S).1).weak fun σ H Q q => w_and h1 q, ⟨fun wh pins s σ H Q I q => ?_⟩, fun z => nomatch z⟩⟩
    exact (pw_and (a.2.2 X E S).2.1 (h2 X E S).2.1).run wh pins s σ H Q I (wt_and q)
theorem or_ok : ∀ {es : List Expr} {irs : List Ex} {ir : Ex} {pos : Pos}, Paired (EOk Φ k mg base lv se) es irs → orAll irs = some ir → isBor ir = false ∧ ∀ X E, Sx k mg base lv se X E → PE X (.BoolOp .Or es pos) (T Φ k E ir) ∧ PW X (.BoolOp .Or es pos) (TT' Φ k E ir) ∧ (frs ir = true → PE X (.BoolOp .Or es pos) (Tn Φ k E ir))
  | _, _, _, _, .nil, h => by cases h
  | _, _, ir, pos, .cons (a := e) (b := i) a .nil, h => by
    have h : some i = some ir := h
    cases h
    exact ⟨a.2.1, fun X E S => ⟨pe_one (a.2.2 X E S).1, pw_or1 (a.2.2 X E S).2.1, fun z => pe_one ((a.2.2 X E S).2.2 z)⟩⟩
  | _, _, ir, pos, .cons (a := e) (b := i) a (.cons (a := e2) (b := i2) (l₁ := es) (l₂ := is) b r), h => by
    have h : (orAll (i2 :: is)).map (.or i) = some ir := h
    obtain ⟨j, hj, e'⟩ := Option.map_eq_some_iff.mp h
    subst e'
    obtain ⟨h1, h2⟩ := or_ok (pos := pos) (.cons b r) hj
    refine ⟨rfl, fun X E S => ⟨(pe_or (a.2.2 X E S).1 (h2 X E S).1).weak fun σ H Q q => w_or h1 q, ⟨fun wh pins s σ H Q I q => ?_⟩, fun z => nomatch z⟩⟩
    exact (pw_or (a.2.2 X E S).2.1 (h2 X E S).2.1).run wh pins s σ H Q I (wt_or q)
end
end VS
end
section
set_option Elab.async false
set_option linter.all false
set_option maxRecDepth 100000
set_option maxHeartbeats 8000000
set_option autoImplicit false
/-! V4l: the steps of the induction. -/
namespace VS
open PySem PySem.Spec PyProof.Rows L2

section
variable {Φ : Nat → List D → M D} {k : Kx} {mg : Str → Option Value} {base : Heap} {lv : Nat} {se : SE} {n : Nat}
theorem name_ok (g : GS Φ k mg base lv se) {x : Str} {p : Pos} {ir : Ex} (h : trName se x = some ir) : (isBor ir = false ∧ frs ir = false) ∧ ∀ X E, Sx k mg base lv se X E → PE X (.Name x p) (T Φ k E ir) := by
  unfold trName at h
  cases q : se.slot x with
  | some i =>
    rw [q] at h
    cases h
    refine ⟨⟨rfl, rfl⟩, fun X E S => ?_⟩
    obtain ⟨h1, h2, h3, h4⟩ := slot_of S q
    exact (pe_var h1 h2 h3 h4).weak fun σ H Q z => w_var z
  | none =>
    rw [q] at h
    have h : (if se.isGl x = true then (match se.g.lookup x with
      | some (.const d) => some (.lit d)
      | _ => none) else none) = some ir := h
    obtain ⟨hg, h⟩ := if_some h
    cases q2 : se.g.lookup x with
    | none => rw [q2] at h; cases h
    | some gk =>
      rw [q2] at h
      cases gk <;> first | (cases h; done) | skip
      rename_i d
      cases h
      obtain ⟨v, u, e1, e2, e3⟩ := g.const x d q2
      refine ⟨⟨rfl, rfl⟩, fun X E S => ?_⟩
      obtain ⟨g1, g2, _⟩ := gl_of S hg
      exact (pe_gl g1 (by rw [S.mg]; exact e1) e2 g2).weak fun σ H Q z => w_lit e3 z
theorem trConst_ok {c : Const} {d : D} {j : Nat} {pos : Pos} (h : trConst c = some d) : ∀ X E, Sx k mg base lv se X E → PE X (.Constant c j pos) (T Φ k E (.lit d)) := fun X E S => by
  cases c <;> first | (cases h; done) | skip
  · cases h; exact pe_non.weak fun σ H Q z => w_lit (k := k) (d := .non) (u := .non) (fun _ => rfl) z
  · rename_i b; cases h; exact pe_bl.weak fun σ H Q z => w_lit (k := k) (d := .bl b) (u := .bl b) (fun _ => rfl) z
  · rename_i i; cases h; exact pe_int.weak fun σ H Q z => w_lit (k := k) (d := .int i) (u := .int i) (fun _ => rfl) z
  · rename_i x; cases h; exact pe_str.weak fun σ H Q z => w_lit (k := k) (d := .str x) (u := .str x) (fun _ => rfl) z
theorem ab_of {a : Expr} {x : Str} {env : PySem.Env} (h : abOk a = true) : attributeBase a x env (eval a env) = eval a env := by
  cases a <;> first | rfl | skip
  rename_i f args kws p
  cases f <;> first | rfl | skip
  cases args <;> first | rfl | skip
  cases kws <;> first | rfl | cases h
/-! operators -/
theorem op_ok {o : Operator} {b : Bop} (h : trOp o = some b) {X : Cx} {E : XK} (S : Sx k mg base lv se X E) : OpR X (binaryOp o) (rF2 k (binS b)) := by
  cases o <;> first | (cases h; done) | skip
  all_goals cases h
  · exact o_bin (X := X) (k := k) .add
  · exact o_bin (X := X) (k := k) .sub
  · exact o_bin (X := X) (k := k) .mul
  · exact o_bin (X := X) (k := k) .mod
  · exact o_bin (X := X) (k := k) .pow
  · exact o_bin (X := X) (k := k) .fdiv
theorem cmp_of {o : CmpOp} {b : Cop} (h : trCmp o = some b) : o = cpOf b := by
  cases o <;> first | (cases h; done) | (cases h; rfl)
theorem cmp_op (g : GS Φ k mg base lv se) {X : Cx} {E : XK} (S : Sx k mg base lv se X E) (b : Cop) : OpR X (compareOp (cpOf b)) (rCmpX Φ k E b) := (c_cmp S.room S.w b).or (g.eqI X E S.toXC b)
theorem pt_cmp1 (g : GS Φ k mg base lv se) {a b : Expr} {ia ib : Ex} {o : CmpOp} {c : Cop} {pos : Pos} (hm : behindInMarks o b = false) (ho : trCmp o = some c) (ha : OOk Φ k mg base lv se a ia) (hb : OOk Φ k mg base lv se b ib) : EOk Φ k mg base lv se (.Compare a [o] [b] pos) (.cmp c ia ib) := by
  have e := cmp_of ho
  subst e
  exact ⟨rfl, rfl, fun X E S => ⟨(pe_cmpR (cmp_op g S c) (ha.2 X E S) (hb.2 X E S) hm).weak fun σ H Q z => w_cmp z, (pt_cmpR (cmp_op g S c) (ha.2 X E S) (hb.2 X E S) hm).weak fun σ H Q z => w_cmp (wt_val rfl z), fun z => nomatch z⟩⟩
/-! the steps -/
theorem st_l (h : OkN Φ k mg base lv n) (g : GS Φ k mg base lv se) : ∀ es irs, trL (n + 1) se es = some irs → Paired (EOk Φ k mg base lv se) es irs := fun es irs q => by
  cases es with
  | nil =>
    have q : some [] = some irs := q
    cases q
    exact .nil
  | cons e es =>
    obtain ⟨i, hi, q⟩ := Option.bind_eq_some_iff.mp (show (tr n se e).bind (fun e => (trL n se es).map (e :: ·)) = some irs from q)
    obtain ⟨is, his, e'⟩ := Option.map_eq_some_iff.mp q
    subst e'
    exact .cons (h.e se e i hi g) (h.l se es is his g)
theorem st_lo (h : OkN Φ k mg base lv n) (g : GS Φ k mg base lv se) : ∀ es irs, trLO (n + 1) se es = some irs → Paired (OOk Φ k mg base lv se) es irs := fun es irs q => by
  cases es with
  | nil =>
    have q : some [] = some irs := q
    cases q
    exact .nil
  | cons e es =>
    obtain ⟨i, hi, q⟩ := Option.bind_eq_some_iff.mp (show (trO n se e).bind (fun e => (trLO n se es).map (e :: ·)) = some irs from q)
    obtain ⟨is, his, e'⟩ := Option.map_eq_some_iff.mp q
    subst e'
    exact .cons (h.o se e i hi g) (h.lo se es is his g)
theorem st_st (h : OkN Φ k mg base lv n) (g : GS Φ k mg base lv se) : ∀ es irs, trSt (n + 1) se es = some irs → ∀ X E, Sx k mg base lv se X E → PA X es (TLs Φ k E (es.map isStar) irs) := fun es irs q X E S => by
  cases es with
  | nil =>
    have q : some [] = some irs := q
    cases q
    exact pa_nil.weak fun σ H Q z => ws_nil z
  | cons e es =>
    have plainCase : isStar e = false → (tr n se e).bind (fun e => (trSt n se es).map (e :: ·)) = some irs → PA X (e :: es) (TLs Φ k E ((e :: es).map isStar) irs) := fun hs q => by
      obtain ⟨i, hi, q⟩ := Option.bind_eq_some_iff.mp q
      obtain ⟨is, his, e'⟩ := Option.map_eq_some_iff.mp q
      subst e'
      obtain ⟨a1, a2, a3⟩ := h.e se e i hi g
      rw [List.map_cons, hs]
      exact (pa_cons (a3 X E S).1 (h.st se es is his g X E S) (starEach_cons hs)).weak fun σ H Q z => ws_cons a2 z
    cases e with
    | Starred e p =>
      obtain ⟨i, hi, q⟩ := Option.bind_eq_some_iff.mp (show (trO n se e).bind (fun e => (trSt n se es).map (e :: ·)) = some irs from q)
      obtain ⟨is, his, e'⟩ := Option.map_eq_some_iff.mp q
      subst e'
      obtain ⟨a1, a2⟩ := h.o se e i hi g
      exact (StX.pa_star (a2 X E S) (h.st se es is his g X E S)).weak fun σ H Q z => ws_star z
    | _ => exact plainCase rfl q
theorem st_c1 (h : OkN Φ k mg base lv n) (g : GS Φ k mg base lv se) : ∀ a o b ir pos, trCmp1 (n + 1) se a o b = some ir → EOk Φ k mg base lv se (.Compare a [o] [b] pos) ir := fun a o b ir pos q => by
  have gen : (if behindInMarks o b then none else (trO n se a).bind fun a => (trO n se b).bind fun b => (trCmp o).map fun o => Ex.cmp o a b) = some ir → EOk Φ k mg base lv se (.Compare a [o] [b] pos) ir := fun q => by
    cases hm : behindInMarks o b with
    | true => rw [if_pos hm] at q; cases q
    | false =>
      rw [if_neg (by rw [hm]; exact Bool.false_ne_true)] at q
      obtain ⟨ia, ha, q⟩ := Option.bind_eq_some_iff.mp q
      obtain ⟨ib, hb, q⟩ := Option.bind_eq_some_iff.mp q
      obtain ⟨c, hc, e'⟩ := Option.map_eq_some_iff.mp q
      subst e'
      exact pt_cmp1 g hm hc (h.o se a ia ha g) (h.o se b ib hb g)
  have isn : ∀ {j p}, o = .Is → b = .Constant .none j p → EOk Φ k mg base lv se (.Compare a [o] [b] pos) ir := fun {j p} e1 e2 => by
    subst e1 e2
    obtain ⟨ia, ha, e'⟩ := Option.map_eq_some_iff.mp (show (tr n se a).map .isN = some ir from q)
    subst e'
    obtain ⟨a1, a2, a3⟩ := h.e se a ia ha g
    exact ⟨rfl, rfl, fun X E S => ⟨(pe_cmp (pc_isN (a3 X E S).1)).weak fun σ H Q z => w_isN z, (pt_cmp (pc_isN (a3 X E S).1)).weak fun σ H Q z => w_isN (wt_val rfl z), fun z => nomatch z⟩⟩
  have notn : ∀ {j p}, o = .IsNot → b = .Constant .none j p → EOk Φ k mg base lv se (.Compare a [o] [b] pos) ir := fun {j p} e1 e2 => by
    subst e1 e2
    obtain ⟨ia, ha, e'⟩ := Option.map_eq_some_iff.mp (show (tr n se a).map .notN = some ir from q)
    subst e'
    obtain ⟨a1, a2, a3⟩ := h.e se a ia ha g
    exact ⟨rfl, rfl, fun X E S => ⟨(pe_cmp (pc_notN (a3 X E S).1)).weak fun σ H Q z => w_notN z, (pt_cmp (pc_notN (a3 X E S).1)).weak fun σ H Q z => w_notN (wt_val rfl z), fun z => nomatch z⟩⟩
  cases o
  case Is =>
    cases b
    case Constant c j p =>
      cases c
      case none => exact isn rfl rfl
      all_goals exact gen q
    all_goals exact gen q
  case IsNot =>
    cases b
    case Constant c j p =>
      cases c
      case none => exact notn rfl rfl
      all_goals exact gen q
    all_goals exact gen q
  all_goals exact gen q
theorem st_sub (h : OkN Φ k mg base lv n) (g : GS Φ k mg base lv se) : ∀ a i ir pos, trSub (n + 1) se a i = some ir → EOk Φ k mg base lv se (.Subscript a i pos) ir := fun a i ir pos q => by
  have gen : PlainIx i → (trO n se a).bind (fun a => (tr n se i).map fun i => Ex.sub a i) = some ir → EOk Φ k mg base lv se (.Subscript a i pos) ir := fun hp q => by
    obtain ⟨ia, ha, q⟩ := Option.bind_eq_some_iff.mp q
    obtain ⟨ii, hi, e'⟩ := Option.map_eq_some_iff.mp q
    subst e'
    obtain ⟨a1, a2⟩ := h.o se a ia ha g
    obtain ⟨b1, b2, b3⟩ := h.e se i ii hi g
    exact .val rfl rfl (fun _ _ => rfl) fun X E S => (pe_ix (IxR.or (x_sub S.room S.w) (x_tape S.room)) (a2 X E S) (b3 X E S).1 hp).weak fun σ H Q z => w_sub z
  cases i
  case Slice lo hi st p =>
    cases st with
    | some _ => exact nomatch (show none = some ir from q)
    | none =>
      obtain ⟨ia, ha, q⟩ := Option.bind_eq_some_iff.mp (show (trO n se a).bind (fun a => (trPart n se lo).bind fun lo => (trPart n se hi).map fun hi => Ex.slc a lo hi) = some ir from q)
      obtain ⟨il, hl, q⟩ := Option.bind_eq_some_iff.mp q
      obtain ⟨ih, hh, e'⟩ := Option.map_eq_some_iff.mp q
      subst e'
      obtain ⟨a1, a2⟩ := h.o se a ia ha g
      exact .valF rfl rfl (fun _ _ => rfl) (fun X E S => (pe_slice (x_slc (k := k)) (a2 X E S) (h.part se lo il hl g X E S) (h.part se hi ih hh g X E S)).weak fun σ H Q z => w_slc z) fun _ X E S => (pe_slice (x_slc (k := k)) (a2 X E S) (h.part se lo il hl g X E S) (h.part se hi ih hh g X E S)).weak fun σ H Q z => wn_slc z
  all_goals exact gen (fun _ _ => rfl) q
theorem st_o (h : OkN Φ k mg base lv n) (g : GS Φ k mg base lv se) : ∀ e ir, trO (n + 1) se e = some ir → OOk Φ k mg base lv se e ir := fun e ir q => by
  have gen : tr n se e = some ir → OOk Φ k mg base lv se e ir := fun q => ⟨(h.e se e ir q g).1, fun X E S => ((h.e se e ir q g).2.2 X E S).1⟩
  cases e
  case Name x p =>
    cases q2 : se.slot x with
    | some i =>
      have q : (match se.slot x with
        | some i => some (Ex.bor i)
        | none => trName se x) = some ir := q
      rw [q2] at q
      cases q
      refine ⟨rfl, fun X E S => ?_⟩
      obtain ⟨h1, h2, h3, h4⟩ := slot_of S q2
      exact (pe_var h1 h2 h3 h4).weak fun σ H Q z => w_bor z
    | none =>
      have q : (match se.slot x with
        | some i => some (Ex.bor i)
        | none => trName se x) = some ir := q
      rw [q2] at q
      exact ⟨rfl, (name_ok g q).2⟩
  all_goals exact gen q
theorem st_part (h : OkN Φ k mg base lv n) (g : GS Φ k mg base lv se) : ∀ p ir, trPart (n + 1) se p = some ir → ∀ X E, Sx k mg base lv se X E → PO X p (TO' Φ k E ir) := fun p ir q X E S => by
  cases p with
  | none =>
    have q : some (Ex.lit .non) = some ir := q
    cases q
    exact po_no
  | some e => exact po_tr ((h.e se e ir q g).2.2 X E S).1
theorem st_kw (h : OkN Φ k mg base lv n) (g : GS Φ k mg base lv se) : ∀ ks irs, trKw (n + 1) se ks = some irs → plainEs irs ∧ irs.length = ks.length ∧ ∀ X E, Sx k mg base lv se X E → PK X ks (TL Φ k E irs) := fun ks irs q => by
  cases ks with
  | nil =>
    have q : some [] = some irs := q
    cases q
    exact ⟨rfl, rfl, fun X E S => ⟨fun pos pins s σ H Q I z => pk_nil.run pos pins s σ H Q I (wl_nil z)⟩⟩
  | cons kw ks =>
    obtain ⟨nm, e, p⟩ := kw
    obtain ⟨i, hi, q⟩ := Option.bind_eq_some_iff.mp (show (tr n se e).bind (fun e => (trKw n se ks).map (e :: ·)) = some irs from q)
    obtain ⟨is, his, e'⟩ := Option.map_eq_some_iff.mp q
    subst e'
    obtain ⟨a1, a2, a3⟩ := h.e se e i hi g
    obtain ⟨b1, b2, b3⟩ := h.kw se ks is his g
    refine ⟨?_, by rw [List.length_cons, List.length_cons, b2], fun X E S => ⟨fun pos pins s σ H Q I z => (pk_cons (a3 X E S).1 (b3 X E S)).run pos pins s σ H Q I (wl_cons z)⟩⟩
    show (isBor i || is.any isBor) = false
    rw [a2, b1]
    rfl
end
end VS
end
section
set_option Elab.async false
set_option linter.all false
set_option maxRecDepth 100000
set_option maxHeartbeats 8000000
set_option autoImplicit false
/-! V4m: the steps of the induction: comprehensions, calls, what is walked, the whole. -/
namespace VS
open PySem PySem.Spec PyProof.Rows L2

section
variable {Φ : Nat → List D → M D} {k : Kx} {mg : Str → Option Value} {base : Heap} {lv : Nat} {se : SE} {n : Nat}
theorem tests_ok {se' : SE} {ifs : List Expr} {irs : List Ex} (hl : ifs.length ≤ 1) (h : Paired (EOk Φ k mg base lv se') ifs irs) {X : Cx} {E : XK} (S : Sx k mg base lv se' X E) : PTs X ifs (TTs Φ k E irs) := by
  cases h with
  | nil => exact ⟨fun pins s σ H Q I q => pts_nil.run pins s σ H Q I (tts_nil q)⟩
  | cons a r =>
    cases r with
    | nil => exact ⟨fun pins s σ H Q I q => (pts_one (a.2.2 X E S).2.1).run pins s σ H Q I (tts_one q)⟩
    | cons b r => simp at hl
theorem own_mem {own : List (Str × Nat)} {l : List Nat} (h : allIn l (own.map (·.2)) = true) : ∀ i ∈ l, i ∈ own.map (·.2) := allIn_mem h
theorem st_lc (h : OkN Φ k mg base lv n) (g : GS Φ k mg base lv se) : ∀ elt gs scope ir pos, trLc (n + 1) se elt gs scope = some ir → EOk Φ k mg base lv se (.ListComp elt gs scope pos) ir ∧
    ∀ X E, Sx k mg base lv se X E → ∀ (i : Nat) (y : Str) (py spos : Pos), X.N[i]? = some y → X.env.scope.names.lookup y = some .local → swapsWith (.ListComp elt gs scope pos) (some (.Name y py)) spos.line X.env = pure true →
      PS X (.Assign [.Name y py] (.ListComp elt gs scope pos) spos) (tAsg (T Φ k E ir) (gName i)) ∧ PS X (.Assign [.Name y py] (.ListComp elt gs scope pos) spos) (tAsg (Tn Φ k E ir) (gName i)) := fun elt gs scope ir pos q => by
  replace q : (if L2.blkC se.N se.sc scope (ownOf se.N scope) = true then (match gs with
      | [⟨tg, it, ifs, 0⟩] => if ifs.length ≤ 1 then (trI n se (isTupE tg) it).bind fun it => (trTg n (se.blk scope) tg).bind fun tg => (trL n (se.blk scope) ifs).bind fun ifs => (tr n (se.blk scope) elt).bind fun elt =>
          if allIn (tgSlots tg) ((ownOf se.N scope).map (·.2)) then some (Ex.comp ((ownOf se.N scope).map (·.2)) tg it ifs elt) else none
        else none
      | [⟨tg, it, ifs, 0⟩, ⟨tg2, it2, ifs2, 0⟩] => if ifs.length ≤ 1 && ifs2.length ≤ 1 then
          (trI n se (isTupE tg) it).bind fun it => (trTg n (se.blk scope) tg).bind fun tg => (trL n (se.blk scope) ifs).bind fun ifs => (trI n (se.blk scope) (isTupE tg2) it2).bind fun it2 => (trTg n (se.blk scope) tg2).bind fun tg2 =>
          (trL n (se.blk scope) ifs2).bind fun ifs2 => (tr n (se.blk scope) elt).bind fun elt =>
            if allIn (tgSlots tg) ((ownOf se.N scope).map (·.2)) && allIn (tgSlots tg2) ((ownOf se.N scope).map (·.2)) then some (Ex.comp2 ((ownOf se.N scope).map (·.2)) (tgSlots tg2) tg it ifs tg2 it2 ifs2 elt) else none
        else none
      | _ => none) else none) = some ir := q
  have qq := if_some q
  clear q
  obtain ⟨hblk, q⟩ := qq
  have bo : ∀ X E, Sx k mg base lv se X E → BlkOk X.N X.env.scope scope (ownOf se.N scope) := fun X E S => by rw [S.N, S.sc]; exact blkOk_by hblk
  have gb := g.blk scope
  split at q
  · rename_i tg it ifs
    by_cases hl : ifs.length ≤ 1
    · rw [if_pos hl] at q
      obtain ⟨iit, h1, q⟩ := Option.bind_eq_some_iff.mp q
      obtain ⟨itg, h2, q⟩ := Option.bind_eq_some_iff.mp q
      obtain ⟨iifs, h3, q⟩ := Option.bind_eq_some_iff.mp q
      obtain ⟨ielt, h4, q⟩ := Option.bind_eq_some_iff.mp q
      obtain ⟨hin, q⟩ := if_some q
      cases q
      obtain ⟨f1, p1⟩ := h.it se _ it iit h1 g
      have p3 := h.l (se.blk scope) ifs iifs h3 gb
      obtain ⟨a1, a2, a3⟩ := h.e (se.blk scope) elt ielt h4 gb
      refine ⟨.valF rfl rfl (fun _ _ => rfl) (fun X E S => ?_) (fun _ X E S => ?_), fun X E S i y py spos hy hyl hsw => ⟨?_, ?_⟩⟩
      · exact (pe_lc S.calm S.nod (p1 X E S tg false fun z => z) (bo X E S)
          (fun s H C cl fp => ((trTg_ok (S.blk (bo X E S) s H C cl fp) n).1 tg itg h2).2)
          (fun s H C cl fp => tests_ok hl p3 (S.blk (bo X E S) s H C cl fp))
          (fun s H C cl fp => (a3 _ _ (S.blk (bo X E S) s H C cl fp)).1) (fun x => f1 X.env x)).weak fun σ H Q z => w_comp a2 hin z
      · exact (pe_lc S.calm S.nod (p1 X E S tg false fun z => z) (bo X E S)
          (fun s H C cl fp => ((trTg_ok (S.blk (bo X E S) s H C cl fp) n).1 tg itg h2).2)
          (fun s H C cl fp => tests_ok hl p3 (S.blk (bo X E S) s H C cl fp))
          (fun s H C cl fp => (a3 _ _ (S.blk (bo X E S) s H C cl fp)).1) (fun x => f1 X.env x)).weak fun σ H Q z => wn_comp a2 hin z
      · exact (ps_setLc S.calm S.nod hy hyl hsw (p1 X E S tg false fun z => z) (bo X E S)
          (fun s H C cl fp => ((trTg_ok (S.blk (bo X E S) s H C cl fp) n).1 tg itg h2).2)
          (fun s H C cl fp => tests_ok hl p3 (S.blk (bo X E S) s H C cl fp))
          (fun s H C cl fp => (a3 _ _ (S.blk (bo X E S) s H C cl fp)).1) (fun x => f1 X.env x)).weak fun σ H Q z => w_comp a2 hin z
      · exact (ps_setLc S.calm S.nod hy hyl hsw (p1 X E S tg false fun z => z) (bo X E S)
          (fun s H C cl fp => ((trTg_ok (S.blk (bo X E S) s H C cl fp) n).1 tg itg h2).2)
          (fun s H C cl fp => tests_ok hl p3 (S.blk (bo X E S) s H C cl fp))
          (fun s H C cl fp => (a3 _ _ (S.blk (bo X E S) s H C cl fp)).1) (fun x => f1 X.env x)).weak fun σ H Q z => wn_comp a2 hin z
    · rw [if_neg hl] at q
      cases q
  · rename_i tg it ifs tg2 it2 ifs2
    obtain ⟨hl, q⟩ := if_some q
    obtain ⟨hl1, hl2⟩ := Bool.and_eq_true_iff.mp hl
    have hl1 := of_decide_eq_true hl1
    have hl2 := of_decide_eq_true hl2
    obtain ⟨iit, h1, q⟩ := Option.bind_eq_some_iff.mp q
    obtain ⟨itg, h2, q⟩ := Option.bind_eq_some_iff.mp q
    obtain ⟨iifs, h3, q⟩ := Option.bind_eq_some_iff.mp q
    obtain ⟨iit2, h5, q⟩ := Option.bind_eq_some_iff.mp q
    obtain ⟨itg2, h6, q⟩ := Option.bind_eq_some_iff.mp q
    obtain ⟨iifs2, h7, q⟩ := Option.bind_eq_some_iff.mp q
    obtain ⟨ielt, h4, q⟩ := Option.bind_eq_some_iff.mp q
    obtain ⟨hin, q⟩ := if_some q
    obtain ⟨hin1, hin2⟩ := Bool.and_eq_true_iff.mp hin
    cases q
    obtain ⟨f1, p1⟩ := h.it se _ it iit h1 g
    have p3 := h.l (se.blk scope) ifs iifs h3 gb
    obtain ⟨f2, p5⟩ := h.it (se.blk scope) _ it2 iit2 h5 gb
    have p7 := h.l (se.blk scope) ifs2 iifs2 h7 gb
    obtain ⟨a1, a2, a3⟩ := h.e (se.blk scope) elt ielt h4 gb
    have self : allIn (tgSlots itg2) (tgSlots itg2) = true := List.all_eq_true.mpr fun i m => by simpa using m
    refine ⟨.valF rfl rfl (fun _ _ => rfl) (fun X E S => ?_) (fun _ X E S => ?_), fun X E S i y py spos hy hyl hsw => ⟨?_, ?_⟩⟩
    · exact (pe_lc2 S.calm S.nod (p1 X E S tg false fun z => z) (bo X E S) (own_mem hin2)
        (fun s H C cl fp => ((trTg_ok (S.blk (bo X E S) s H C cl fp) n).1 tg itg h2).2)
        (fun s H C cl fp => tests_ok hl1 p3 (S.blk (bo X E S) s H C cl fp))
        (fun s H C cl fp => p5 _ _ (S.blk (bo X E S) s H C cl fp) tg2 false fun z => z)
        (fun s H C cl fp => ((trTg_ok (S.blk (bo X E S) s H C cl fp) n).1 tg2 itg2 h6).2)
        (fun s H C cl fp => tests_ok hl2 p7 (S.blk (bo X E S) s H C cl fp))
        (fun s H C cl fp => (a3 _ _ (S.blk (bo X E S) s H C cl fp)).1) (fun x => f1 X.env x) f2).weak fun σ H Q z => w_comp2 a2 hin1 self z
    · exact (pe_lc2 S.calm S.nod (p1 X E S tg false fun z => z) (bo X E S) (own_mem hin2)
        (fun s H C cl fp => ((trTg_ok (S.blk (bo X E S) s H C cl fp) n).1 tg itg h2).2)
        (fun s H C cl fp => tests_ok hl1 p3 (S.blk (bo X E S) s H C cl fp))
        (fun s H C cl fp => p5 _ _ (S.blk (bo X E S) s H C cl fp) tg2 false fun z => z)
        (fun s H C cl fp => ((trTg_ok (S.blk (bo X E S) s H C cl fp) n).1 tg2 itg2 h6).2)
        (fun s H C cl fp => tests_ok hl2 p7 (S.blk (bo X E S) s H C cl fp))
        (fun s H C cl fp => (a3 _ _ (S.blk (bo X E S) s H C cl fp)).1) (fun x => f1 X.env x) f2).weak fun σ H Q z => wn_comp2 a2 hin1 self z
    · exact (ps_setLc2 S.calm S.nod hy hyl hsw (p1 X E S tg false fun z => z) (bo X E S) (own_mem hin2)
        (fun s H C cl fp => ((trTg_ok (S.blk (bo X E S) s H C cl fp) n).1 tg itg h2).2)
        (fun s H C cl fp => tests_ok hl1 p3 (S.blk (bo X E S) s H C cl fp))
        (fun s H C cl fp => p5 _ _ (S.blk (bo X E S) s H C cl fp) tg2 false fun z => z)
        (fun s H C cl fp => ((trTg_ok (S.blk (bo X E S) s H C cl fp) n).1 tg2 itg2 h6).2)
        (fun s H C cl fp => tests_ok hl2 p7 (S.blk (bo X E S) s H C cl fp))
        (fun s H C cl fp => (a3 _ _ (S.blk (bo X E S) s H C cl fp)).1) (fun x => f1 X.env x) f2).weak fun σ H Q z => w_comp2 a2 hin1 self z
    · exact (ps_setLc2 S.calm S.nod hy hyl hsw (p1 X E S tg false fun z => z) (bo X E S) (own_mem hin2)
        (fun s H C cl fp => ((trTg_ok (S.blk (bo X E S) s H C cl fp) n).1 tg itg h2).2)
        (fun s H C cl fp => tests_ok hl1 p3 (S.blk (bo X E S) s H C cl fp))
        (fun s H C cl fp => p5 _ _ (S.blk (bo X E S) s H C cl fp) tg2 false fun z => z)
        (fun s H C cl fp => ((trTg_ok (S.blk (bo X E S) s H C cl fp) n).1 tg2 itg2 h6).2)
        (fun s H C cl fp => tests_ok hl2 p7 (S.blk (bo X E S) s H C cl fp))
        (fun s H C cl fp => (a3 _ _ (S.blk (bo X E S) s H C cl fp)).1) (fun x => f1 X.env x) f2).weak fun σ H Q z => wn_comp2 a2 hin1 self z
  · cases q
/-! calls -/
theorem st_call (h : OkN Φ k mg base lv n) (g : GS Φ k mg base lv se) : ∀ gf args kws ir, trCall (n + 1) se gf args kws = some ir → ∃ ks ds as bs, ir = .call gf.f (as ++ (bs ++ ds.map .lit)) ∧ kwNames kws = some ks ∧ (args.length, ks, ds) ∈ gf.sh ∧ Paired (EOk Φ k mg base lv se) args as ∧ plainEs bs ∧ bs.length = kws.length ∧ ∀ X E, Sx k mg base lv se X E → PK X kws (TL Φ k E bs) := fun gf args kws ir q => by
  obtain ⟨ks, h1, q⟩ := Option.bind_eq_some_iff.mp (show (kwNames kws).bind (fun ks => (shapeOk gf args.length ks).bind fun ds => (trL n se args).bind fun as => (trKw n se kws).map fun bs => Ex.call gf.f (as ++ (bs ++ ds.map .lit))) = some ir from q)
  obtain ⟨ds, h2, q⟩ := Option.bind_eq_some_iff.mp q
  obtain ⟨as, h3, q⟩ := Option.bind_eq_some_iff.mp q
  obtain ⟨bs, h4, e⟩ := Option.map_eq_some_iff.mp q
  subst e
  obtain ⟨b1, b2, b3⟩ := h.kw se kws bs h4 g
  refine ⟨ks, ds, as, bs, rfl, h1, ?_, h.l se args as h3 g, b1, b2, b3⟩
  unfold shapeOk at h2
  obtain ⟨p, hp, e⟩ := Option.map_eq_some_iff.mp h2
  have hm := List.mem_of_find?_eq_some hp
  have hq := List.find?_some hp
  rw [Bool.and_eq_true] at hq
  have e1 := of_decide_eq_true hq.1
  have e2 := of_decide_eq_true hq.2
  obtain ⟨p1, p2, p3⟩ := p
  subst e
  have e1 : p1 = args.length := e1
  have e2 : p2 = ks := e2
  subst e1 e2
  exact hm
theorem kw_facts : ∀ {kws : List Keyword} {ks : List Str} {env : PySem.Env} {pos : Pos}, kwNames kws = some ks → (backToKw pos (keywordEach kws env)).all (·.1.isSome) = true ∧ (backToKw pos (keywordEach kws env)).filterMap (·.1) = ks ∧ (backToKw pos (keywordEach kws env)).any (·.1.isNone) = false ∧ ks.length = kws.length
  | [], ks, env, pos, h => by
    have h : some [] = some ks := h
    cases h
    exact ⟨rfl, rfl, rfl, rfl⟩
  | ⟨nm, e, p⟩ :: kws, ks, env, pos, h => by
    obtain ⟨x, hx, h⟩ := Option.bind_eq_some_iff.mp (show nm.bind (fun b => (trAll (fun k : Keyword => k.arg) kws).map (b :: ·)) = some ks from h)
    obtain ⟨xs, hxs, e'⟩ := Option.map_eq_some_iff.mp h
    subst e'
    subst hx
    obtain ⟨h1, h2, h3, h4⟩ := kw_facts (env := env) (pos := pos) (show kwNames kws = some xs from hxs)
    refine ⟨?_, ?_, ?_, by rw [List.length_cons, List.length_cons, h4]⟩
    · show (true && (backToKw pos (keywordEach kws env)).all (·.1.isSome)) = true
      rw [h1]; rfl
    · show x :: (backToKw pos (keywordEach kws env)).filterMap (·.1) = _
      rw [h2]
    · show (false || (backToKw pos (keywordEach kws env)).any (·.1.isNone)) = false
      rw [h3]; rfl
/-- f(..), f of the module -/
theorem call_ok (g : GS Φ k mg base lv se) {x : Str} {gf : GFn} {args : List Expr} {kws : List Keyword} {p pos : Pos} {ks : List Str} {ds : List D} {as bs : List Ex} (hg : se.isGl x = true) (hl : se.g.lookup x = some (.fn gf) ∨ se.g.lookup x = some (.cls gf)) (hk : kwNames kws = some ks) (hsh : (args.length, ks, ds) ∈ gf.sh)
    (ha : Paired (EOk Φ k mg base lv se) args as) (hb : plainEs bs) (hbl : bs.length = kws.length) (hpk : ∀ X E, Sx k mg base lv se X E → PK X kws (TL Φ k E bs)) : ∀ X E, Sx k mg base lv se X E → PE X (.Call (.Name x p) args kws pos) (T Φ k E (.call gf.f (as ++ (bs ++ ds.map .lit)))) := fun X E S => by
  obtain ⟨fv, m1, m2, m3⟩ := g.fn x gf hl
  obtain ⟨g1, g2, _⟩ := gl_of S hg
  have hm : X.mg x = some (.ref fv) := by rw [S.mg]; exact m1
  have hkp : PySem.W.keepIn X.K (.ref fv) = true := by rw [S.K]; exact m2
  obtain ⟨k1, k2, k3, k4⟩ := kw_facts (env := X.env) (pos := pos) hk
  have pa := each_pa S ha
  have pk := hpk X E S
  have ct := m3 _ hsh X E S.prog S.w S.K S.mg S.base S.room S.takes
  have ns := each_noStar ha
  have al : as.length = args.length := (Paired.length ha).symm
  refine ⟨fun pins s σ H Q I h => ?_⟩
  have h := w_call (each_plain ha) hb h
  refine wpAny_Call_Name_kw (ld_glob I g1 hm ?_ g2)
  cases args with
  | nil =>
    cases ha
    refine PySem.W.callWith_KW0 (h₀ := X.base) I.ok.mod.kin hkp k1 ?_ (by show (false || _) = false; rw [k3]; rfl)
    obtain ⟨_, h⟩ := wl_nil h
    refine thn (pk.run pos pins s σ H _ I h) fun ws s2 ⟨zs, H2, I2, rz, l2, q2⟩ => ⟨I2.kIn, ?_⟩
    rw [k2]
    exact ct pins s2 σ H2 Q [] ws [] zs rfl (by rw [← rz.length, l2, hbl, k4]) I2 .nil rz q2
  | cons e es =>
    have hst := starEach_cons (es := es) (env := X.env) (ns e (List.mem_cons_self ..))
    have hno := starEach_none (env := X.env) (pos := pos) ns
    refine PySem.W.callWith_KW (h₀ := X.base) I.ok.mod.kin hkp k1 (thn (pa.run pos pins s σ H _ I h) fun us s1 ⟨vs, H1, I1, r1, l1, q1⟩ => ?_) (by rw [hno, k3]; rfl) hst
    refine thn (pk.run pos pins s1 σ H1 _ I1 q1) fun ws s2 ⟨zs, H2, I2, rz, l2, q2⟩ => ⟨I2.kIn, ?_⟩
    rw [k2]
    exact ct pins s2 σ H2 Q us ws vs zs (by rw [← r1.length, l1, al]) (by rw [← rz.length, l2, hbl, k4]) I2 r1 rz q2
end
end VS
end
section
set_option Elab.async false
set_option linter.all false
set_option maxRecDepth 100000
set_option maxHeartbeats 8000000
set_option autoImplicit false
/-! V4n: built-ins, what is walked; the whole. -/
namespace VS
open PySem PySem.Spec PyProof.Rows L2

section
variable {Φ : Nat → List D → M D} {k : Kx} {mg : Str → Option Value} {base : Heap} {lv : Nat} {se : SE} {n : Nat}
theorem isNone_of {α : Type} {o : Option α} (h : o.isNone = true) : o = none := by cases o with | none => rfl | some _ => cases h
theorem and4 {a b c d : Bool} (h : (a && b && c && d) = true) : a = true ∧ b = true ∧ c = true ∧ d = true := by
  simp only [Bool.and_eq_true] at h
  exact ⟨h.1.1.1, h.1.1.2, h.1.2, h.2⟩
theorem blt1_name {x : Str} {b : Blt} (h : blt1 x = some b) : bltNames.contains x = true := by
  unfold blt1 at h
  repeat' split at h
  all_goals first | (cases h; done) | (subst_vars; decide)
theorem tyOf_name {x : Str} {b : Blt} (h : tyOf x = some b) : bltNames.contains x = true := by
  unfold tyOf at h
  repeat' split at h
  all_goals first | (cases h; done) | (subst_vars; decide)
/-- one built-in function or type -/
theorem frs_blt {b : Blt} {es : List Ex} : frs (.blt b es) = frB b := by cases b <;> rfl
theorem tyOf_frs {x : Str} {b : Blt} (h : tyOf x = some b) : frB b = false := by
  unfold tyOf at h
  repeat' split at h
  all_goals first | (cases h; done) | (cases h; rfl)
theorem fn_ok (HB : ∀ X E, XC k mg base lv X E → BO k X) (g : GS Φ k mg base lv se) {x : Str} {b : Blt} {e : Expr} {es : List Expr} {irs : List Ex} {p pos : Pos} (hx : se.isGl x = true) (hn : se.g.lookup x = none) (hb : blt1 x = some b) (ho : Paired (OOk Φ k mg base lv se) (e :: es) irs) :
    EOk Φ k mg base lv se (.Call (.Name x p) (e :: es) [] pos) (.blt b irs) := .valF rfl rfl (fun _ _ => rfl) (fun X E S => by
  obtain ⟨g1, g2, g3⟩ := gl_of S hx
  have hm : X.mg x = none := by rw [S.mg]; exact g.blt x (blt1_name hb) hn
  have ns := eacho_noStar ho
  have hst := starEach_cons (es := es) (env := X.env) (ns e (List.mem_cons_self ..))
  have hpl := starEach_none (env := X.env) (pos := pos) (es := es) fun y m => ns y (List.mem_cons_of_mem _ m)
  rcases (HB X E S.toXC).fn x b hb with ⟨id, hv, hc⟩ | ⟨T, hv, hc⟩
  · exact (pe_callB hc g1 hm hv (eacho_pa S ho) g3 g2 hst hpl).weak fun σ H Q z => w_blt z
  · exact (pe_callTy hc g1 hm hv (eacho_pa S ho) g3 g2 hst hpl).weak fun σ H Q z => w_blt z) fun z X E S => by
  obtain ⟨g1, g2, g3⟩ := gl_of S hx
  have hm : X.mg x = none := by rw [S.mg]; exact g.blt x (blt1_name hb) hn
  have ns := eacho_noStar ho
  have hst := starEach_cons (es := es) (env := X.env) (ns e (List.mem_cons_self ..))
  have hpl := starEach_none (env := X.env) (pos := pos) (es := es) fun y m => ns y (List.mem_cons_of_mem _ m)
  rcases (HB X E S.toXC).fn x b hb with ⟨id, hv, hc⟩ | ⟨T, hv, hc⟩
  · exact (pe_callB hc g1 hm hv (eacho_pa S ho) g3 g2 hst hpl).weak fun σ H Q z' => wn_blt (by rw [← frs_blt]; exact z) z'
  · exact (pe_callTy hc g1 hm hv (eacho_pa S ho) g3 g2 hst hpl).weak fun σ H Q z' => wn_blt (by rw [← frs_blt]; exact z) z'
theorem paired_one {α β : Type} {F : α → β → Prop} {a : α} {bs : List β} (h : Paired F [a] bs) : ∃ b, bs = [b] ∧ F a b := by
  cases h with
  | cons h1 h2 => cases h2; exact ⟨_, rfl, h1⟩
theorem paired_two {α β : Type} {F : α → β → Prop} {a a' : α} {bs : List β} (h : Paired F [a, a'] bs) : ∃ b b', bs = [b, b'] ∧ F a b ∧ F a' b' := by
  cases h with
  | cons h1 h2 =>
    obtain ⟨b', rfl, h3⟩ := paired_one h2
    exact ⟨_, _, rfl, h1, h3⟩
theorem Out.imp {α : Type} {E : XK} {c : Ct} {ρ : Env} {σ : L2.St} {H F : Hp} {t' : Tape} {ok ok' : α → Hp → Hp → Prop} (w : ∀ a H' F', ok a H' F' → ok' a H' F') : ∀ {r : Res α}, Out E c ρ σ H F t' ok r → Out E c ρ σ H F t' ok' r
  | .ok _, o => fun H' F' R s z => w _ _ _ (o H' F' R s z)
  | .ex _ _, o => o
theorem T_imp {E : XK} {e : Ex} {σ : L2.St} {H : Hp} {Q Q' : VK} (w : ∀ v H', Q v H' → Q' v H') (h : T Φ k E e σ H Q) : T Φ k E e σ H Q' := by
  obtain ⟨c, ρ, t, F, hk, R, r, t', e, o⟩ := h
  exact ⟨c, ρ, t, F, hk, R, r, t', e, o.imp fun a H' F' z v hv => w v H' (z v hv)⟩
theorem w_isLT {E : XK} {b : Blt} {a : Ex} {o : HO} {σ : L2.St} {H : Hp} {Q : VK} (h : T Φ k E (.blt b [a]) σ H Q) : T Φ k E a σ H fun x H1 => ∀ p, H1 p = none → rBlt k b [x] (upd H1 p o) Q := by
  obtain ⟨c, ρ, t, F, rfl, R, r, t', h, out⟩ := h
  have h : bnd (bnd (ev Φ a ρ) fun d => bnd (ret []) fun ds => ret (d :: ds)) (fun ds => lft (bltS b ds)) t = some (r, t') := h
  rw [bnd_bnd] at h
  refine T_bind rfl R h out fun d1 t1 v1 H1 F1 e1 h1 R1 s1 o1 z1 out1 => fun p hp => ?_
  obtain ⟨d, e, rfl, rfl⟩ := lft_some' (show lft (bltS b [d1]) t1 = some (r, t') from h1)
  have R' := R1.ext (ext_loose (o := o) R1.sub hp) Sub.refl
  exact ⟨F1, [d1], d, R'.sub, ⟨v1, [], rfl, o1.top R', rfl⟩, e, fun v H' n => out_new rfl R' (out1.sub Sub.refl (.new hp)) n.new⟩
theorem w_one {b : Blt} {a : Ex} {E : XK} {σ : L2.St} {H : Hp} {Q : VK} (h : T Φ k E (.blt b [a]) σ H Q) : T Φ k E a σ H fun x H1 => rBlt k b [x] H1 Q := by
  have h := wl_cons (w_blt h)
  exact T_imp (fun x H1 z => (wl_nil z : tNil σ H1 fun xs H2 => rBlt k b (x :: xs) H2 Q)) h
theorem w_two {b : Blt} {a a' : Ex} {E : XK} {σ : L2.St} {H : Hp} {Q : VK} (h : TL Φ k E [a, a'] σ H fun vs H1 => rBlt k b vs H1 Q) : T Φ k E a σ H fun x H1 => T Φ k E a' σ H1 fun y H2 => rBlt k b [x, y] H2 Q := by
  have h := wl_cons h
  refine T_imp (fun x H1 z => ?_) h
  have z : tCons (T Φ k E a') (TL Φ k E []) σ H1 fun xs H2 => rBlt k b (x :: xs) H2 Q := wl_cons z
  refine T_imp (fun y H2 z => ?_) z
  exact (wl_nil z : tNil σ H2 fun xs H2 => rBlt k b (x :: y :: xs) H2 Q)
theorem w_twoZ {a a' : Ex} {E : XK} {σ : L2.St} {H : Hp} {Q : VK} (h : TL Φ k E [a, a'] σ H fun vs H1 => rZip k vs H1 Q) : T Φ k E a σ H fun x H1 => T Φ k E a' σ H1 fun y H2 => rZip k [x, y] H2 Q := by
  have h := wl_cons h
  refine T_imp (fun x H1 z => ?_) h
  have z : tCons (T Φ k E a') (TL Φ k E []) σ H1 fun xs H2 => rZip k (x :: xs) H2 Q := wl_cons z
  refine T_imp (fun y H2 z => ?_) z
  exact (wl_nil z : tNil σ H2 fun xs H2 => rZip k (x :: y :: xs) H2 Q)
theorem st_blt (HB : ∀ X E, XC k mg base lv X E → BO k X) (h : OkN Φ k mg base lv n) (g : GS Φ k mg base lv se) : ∀ x args ir p pos, trBlt (n + 1) se x args = some ir → se.isGl x = true → se.g.lookup x = none → EOk Φ k mg base lv se (.Call (.Name x p) args [] pos) ir := fun x args ir p pos q hx hn => by
  have gen : ∀ e es, args = e :: es → (blt1 x).bind (fun b => (trLO n se args).map (.blt b)) = some ir → EOk Φ k mg base lv se (.Call (.Name x p) args [] pos) ir := fun e es ea q => by
    obtain ⟨b, hb, q⟩ := Option.bind_eq_some_iff.mp q
    obtain ⟨irs, hl, e'⟩ := Option.map_eq_some_iff.mp q
    subst e'
    have ho := h.lo se args irs hl g
    rw [ea] at ho ⊢
    exact fn_ok HB g hx hn hb ho
  unfold trBlt at q
  split at q
  · rename_i y py as pc
    by_cases c1 : (se.isGl y && (se.g.lookup y).isNone && decide (y = "range") && decide (x = "list")) = true
    · rw [if_pos c1] at q
      obtain ⟨d1, d2, d3, d4⟩ := and4 c1
      have d3 := of_decide_eq_true d3
      have d4 := of_decide_eq_true d4
      subst d3 d4
      cases hemp : as.isEmpty with
      | true => rw [if_pos hemp] at q; cases q
      | false =>
        rw [if_neg (by rw [hemp]; exact Bool.false_ne_true)] at q
        obtain ⟨irs, hl, e'⟩ := Option.map_eq_some_iff.mp q
        subst e'
        have ha := h.l se as irs hl g
        have go := fun X E (S : Sx k mg base lv se X E) => (HB X E S.toXC).listRange (p := p) (q := py) (r := pc) (s := pos) (gl_of S hx).1 (by rw [S.mg]; exact g.blt _ (by decide) hn) (gl_of S d1).1 (by rw [S.mg]; exact g.blt _ (by decide) (isNone_of d2)) (each_noStar ha) (by intro e; rw [e] at hemp; cases hemp) (each_pa S ha)
        exact .valF rfl rfl (fun _ _ => rfl) (fun X E S => (go X E S).weak fun σ H Q z => w_blt z) fun _ X E S => (go X E S).weak fun σ H Q z => wn_blt rfl z
    · rw [if_neg c1] at q
      by_cases c2 : (se.isGl y && (se.g.lookup y).isNone && decide (y = "zip") && decide (x = "list")) = true
      · rw [if_pos c2] at q
        obtain ⟨d1, d2, d3, d4⟩ := and4 c2
        have d3 := of_decide_eq_true d3
        have d4 := of_decide_eq_true d4
        subst d3 d4
        obtain ⟨irs, hl, q⟩ := Option.bind_eq_some_iff.mp q
        have ho := h.lo se as irs hl g
        by_cases hlen : irs.length = 2
        · rw [if_pos hlen] at q
          cases q
          have hal : as.length = 2 := by rw [Paired.length ho]; exact hlen
          match as, hal, ho with
          | [a, b], _, ho =>
            obtain ⟨ia, ib, rfl, oa, ob⟩ := paired_two ho
            have go := fun X E (S : Sx k mg base lv se X E) => (HB X E S.toXC).listZip (p := p) (q := py) (r := pc) (s := pos) (gl_of S hx).1 (by rw [S.mg]; exact g.blt _ (by decide) hn) (gl_of S d1).1 (by rw [S.mg]; exact g.blt _ (by decide) (isNone_of d2)) oa.1 ob.1 (oa.2 X E S) (ob.2 X E S)
            exact .valF rfl rfl (fun _ _ => rfl) (fun X E S => (go X E S).weak fun σ H Q z => w_twoZ (w_zip z)) fun _ X E S => (go X E S).weak fun σ H Q z => w_twoZ (wn_zip z)
        · rw [if_neg hlen] at q
          cases q
      · rw [if_neg c2] at q
        exact gen _ _ rfl q
  · rename_i a y py
    by_cases c1 : x = "isinstance"
    · rw [if_pos c1] at q
      subst c1
      obtain ⟨ia, hia, q⟩ := Option.bind_eq_some_iff.mp q
      obtain ⟨a1, a2⟩ := h.o se a ia hia g
      obtain ⟨hy, q⟩ := if_some q
      cases q3 : se.cids.lookup y with
      | some c =>
        rw [q3] at q
        cases q
        obtain ⟨m1, m2⟩ := g.cid y c q3
        refine .val rfl rfl (fun _ _ => rfl) fun X E S => ?_
        obtain ⟨g1, g2, g3⟩ := gl_of S hx
        obtain ⟨g1', g2', g3'⟩ := gl_of S hy
        have hm : X.mg "isinstance" = none := by rw [S.mg]; exact g.blt _ (by decide) hn
        have py := pe_gl (X := X) (p := py) (v := .ref (k.cl c)) g1' (by rw [S.mg]; exact m1) rfl g2'
        exact (pe_callB (m2 X E S.toXC) g1 hm PyProof.Rows.boot_isinstance (pa_cons (a2 X E S) (pa_cons py pa_nil (starEach_cons rfl)) (starEach_cons a1)) g3 g2 (starEach_cons a1) rfl).weak fun σ H Q z => T_imp (fun x H1 z => ⟨x, rfl, z⟩) (w_one z)
      | none =>
        rw [q3] at q
        obtain ⟨hyn, q⟩ := if_some q
        obtain ⟨b, hb, e'⟩ := Option.map_eq_some_iff.mp q
        subst e'
        refine .val rfl rfl (fun _ _ => rfl) (fun X E S => ?_) (frs_blt.trans (tyOf_frs hb))
        obtain ⟨g1, g2, g3⟩ := gl_of S hx
        obtain ⟨g1', g2', g3'⟩ := gl_of S hy
        obtain ⟨T, hv, hc⟩ := (HB X E S.toXC).isTy y b hb
        have hm : X.mg "isinstance" = none := by rw [S.mg]; exact g.blt _ (by decide) hn
        have hmy : X.mg y = none := by rw [S.mg]; exact g.blt _ (tyOf_name hb) (isNone_of hyn)
        have py := pe_bltn (X := X) (pos := py) (v := .ty T) g1' hmy hv rfl g3' g2'
        exact (pe_callB hc g1 hm PyProof.Rows.boot_isinstance (pa_cons (a2 X E S) (pa_cons py pa_nil (starEach_cons rfl)) (starEach_cons a1)) g3 g2 (starEach_cons a1) rfl).weak fun σ H Q z => T_imp (fun x H1 z => ⟨x, rfl, z⟩) (w_one z)
    · rw [if_neg c1] at q
      exact gen _ _ rfl q
  · rename_i a y py z pz kt pt
    by_cases c1 : x = "isinstance"
    · rw [if_pos c1] at q
      subst c1
      have qq := if_some q
      clear q
      obtain ⟨c2, q⟩ := qq
      simp only [Bool.and_eq_true] at c2
      obtain ⟨⟨⟨⟨⟨c3, c4⟩, c5⟩, c6⟩, c7⟩, c8⟩ := c2
      have c7 := of_decide_eq_true c7
      have c8 := of_decide_eq_true c8
      subst c7 c8
      obtain ⟨ia, hia, e'⟩ := Option.map_eq_some_iff.mp q
      subst e'
      obtain ⟨a1, a2⟩ := h.o se a ia hia g
      refine .val rfl rfl (fun _ _ => rfl) fun X E S => ?_
      obtain ⟨g1, g2, g3⟩ := gl_of S hx
      obtain ⟨gy, gy2, gy3⟩ := gl_of S c3
      obtain ⟨gz, gz2, gz3⟩ := gl_of S c4
      have hm : X.mg "isinstance" = none := by rw [S.mg]; exact g.blt _ (by decide) hn
      have py := pe_bltn (X := X) (pos := py) (v := .ty "list") gy (by rw [S.mg]; exact g.blt _ (by decide) (isNone_of c5)) boot_list rfl gy3 gy2
      have pz := pe_bltn (X := X) (pos := pz) (v := .ty "tuple") gz (by rw [S.mg]; exact g.blt _ (by decide) (isNone_of c6)) boot_tuple rfl gz3 gz2
      have pt := pe_tup (X := X) (x1 := kt) (pos := pt) (pa_cons py (pa_cons pz pa_nil))
      exact (pe_callB (HB X E S.toXC).isLT g1 hm PyProof.Rows.boot_isinstance (pa_cons (a2 X E S) (pa_cons pt pa_nil (starEach_cons rfl)) (starEach_cons a1)) g3 g2 (starEach_cons a1) rfl).weak fun σ H Q z =>
        T_imp (fun x H1 z => ⟨by show 2 ≤ sizeLine; decide, fun p hp => ⟨x, p, rfl, upd_same, z p hp⟩⟩) (w_isLT z)
    · rw [if_neg c1] at q
      exact gen _ _ rfl q
  · cases q
  · rename_i hne
    cases args with
    | nil => exact absurd rfl hne
    | cons e es => exact gen e es rfl q
end
end VS
end
section
set_option Elab.async false
set_option linter.all false
set_option maxRecDepth 100000
set_option maxHeartbeats 8000000
set_option autoImplicit false
/-! V4ny: the next large number of the tape. -/
namespace VS
open PySem PySem.Spec PyProof.Rows L2

/-- the tape changes -/
theorem Rel.taped {c : Ct} {ρ : Env} {t t2 : Tape} {σ : L2.St} {H H2 F : Hp} (R : Rel c ρ t σ H F) (T : TapeOk c.k H2 F t2) (h : ∀ a, ¬ onTape c.k a → H2 a = H a) : Rel c ρ t2 σ H2 F where
  sub := fun b o e => by
    by_cases hb : onTape c.k b
    · obtain ⟨on, hb⟩ := hb
      have T := T on
      rcases hb with z | z | z
      · rw [z, T.fd] at e; cases e
      · rw [z, T.fl] at e; cases e
      · rw [z, T.fc] at e; cases e; rw [z]; exact T.c
    · rw [h b hb]; exact R.sub b o e
  prot := fun a p => ⟨(h a (c.pt a p)).trans (R.prot a p).1, (R.prot a p).2⟩
  tape := T
  len := R.len
  frz := R.frz
  own := fun i d e => by
    obtain ⟨a, o, h1, h2, h3, h4, h5, h6⟩ := R.own i d e
    exact ⟨a, o, h1, (h a h6).trans h2, h3, h4, h5, h6⟩
  sep := R.sep
theorem tape_at {ρ : Env} {i : Nat} (h : isTapeAt ρ i = true) : ρ[i]? = some (some (.tape, false)) := by
  unfold isTapeAt getV at h
  cases q : ρ[i]? with
  | none => rw [q] at h; cases h
  | some x =>
    rw [q] at h
    match x, h, q with
    | some (.tape, false), _, q => rfl
theorem ne_large (l : List Int) : cmpS .ne (.lst (l.map D.int)) (.lst []) = some (!l.isEmpty) := by
  have h1 : plain 60 (.lst (l.map D.int)) = true := List.all_eq_true.mpr fun d m => by
    obtain ⟨i, _, e⟩ := List.mem_map.mp m
    rw [← e]
    rfl
  have h2 : plain 60 (.lst []) = true := rfl
  show (eqS _ _).map (!·) = _
  unfold eqS
  rw [h1, h2]
  cases l <;> rfl
section
variable {Φ : Nat → List D → M D} {k : Kx} {E : XK} {σ : L2.St} {H : Hp} {Q : VK} {i f : Nat}
def tLarge (i : Nat) : TE := tDGet (tVar i) (tC (.str "large"))
theorem w_nx (h : T Φ k E (.tnx i f) σ H Q) : tIf (tTest (tOp (rCmp k (cmpS .ne)) (tLarge i) (tLst tNil))) (tBM k.K "list" rPopAt (tLarge i) (tCons (tC (.int 0)) tNil)) (T Φ k E (.call f [.var i])) σ H Q := by
  obtain ⟨c, ρ, t, F, rfl, R, r, t', h, out⟩ := h
  have qq := if_ne (show (if isTapeAt ρ i = true then tnxM (Φ f [.tape]) else stuck) t = some (r, t') from h)
  clear h
  obtain ⟨hi, h⟩ := qq
  have hr := tape_at hi
  obtain ⟨v, h1, h2⟩ := R.frz i _ hr
  obtain ⟨on, h2⟩ := h2
  cases (show v = V.ref c.k.tp from h2)
  refine ⟨.ref c.k.tp, h1, c.k.tp, .ref c.k.lp, rfl, DGet.k (k := .inr "large") (R.tape on).d, ?_⟩
  refine ⟨Nat.zero_le _, fun p hp => ?_⟩
  have hF : F p = none := R.sub.none hp
  have R1 : Rel c ρ t σ (upd H p (.lst [])) F := R.ext ⟨fun b o e => by rw [upd_ne (ne_of_none e hF)]; exact R.sub b o e, fun b o e => ⟨by rw [upd_ne (ne_of_none e hp)]; exact e, rfl⟩⟩ Sub.refl
  refine ⟨F, .lst (t.large.map .int), .lst [], !t.large.isEmpty, R1.sub, ⟨c.k.lp, _, rfl, (.inl (R1.tape on).l), ints_rep _⟩, ⟨p, [], rfl, .inl upd_same, rfl⟩, ne_large _, ?_⟩
  refine ⟨_, rfl, ?_⟩
  have out1 := Out.sub Sub.refl (Keep.new (u := HO.lst []) hp) out
  unfold tnxM at h
  cases hl : t.large with
  | nil =>
    rw [hl] at h
    show T Φ c.k E (.call f [.var i]) σ (upd H p (.lst [])) Q
    refine ⟨c, ρ, t, F, rfl, R1, r, t', ?_, out_as rfl rfl out1⟩
    have e : Φ f [.tape] t = some (r, t') := by
      cases q : Φ f [.tape] t with
      | none => rw [q] at h; cases h
      | some pp =>
        obtain ⟨x, t2⟩ := pp
        rw [q] at h
        match x, h with
        | .ok (.int n), h => cases h; rfl
    show bnd (bnd (lft (getV ρ i)) fun d => bnd (ret []) fun ds => ret (d :: ds)) (fun ds => Φ f ds) t = _
    have hv : getV ρ i = some .tape := by unfold getV; rw [hr]
    rw [hv]
    exact e
  | cons x l =>
    rw [hl] at h
    cases h
    show tBM c.k.K "list" rPopAt (tLarge i) (tCons (tC (.int 0)) tNil) σ (upd H p (.lst [])) Q
    have T1 := R1.tape on
    refine ⟨.ref c.k.tp, h1, c.k.tp, .ref c.k.lp, rfl, DGet.k (k := .inr "large") T1.d, .inl ⟨rfl, _, .inl (.inl T1.l)⟩, ?_⟩
    refine ⟨c.k.lp, _, 0, 0, .int x, rfl, rfl, T1.l, by decide, by decide, ?_, by rw [hl]; rfl, ?_⟩
    · unfold seqIndex?
      rw [hl]
      show (if (decide (0 ≤ (0 : Int)) && decide ((0 : Int) < (((x :: l).map V.int).length : Nat))) = true then some (0 : Int).toNat else none) = _
      rw [if_pos (by rw [Bool.and_eq_true]; exact ⟨by decide, decide_eq_true (by rw [List.length_map, List.length_cons]; omega)⟩)]
      rfl
    · have T2 : TapeS c.k (upd (upd H p (.lst [])) c.k.lp (.lst ((t.large.map V.int).eraseIdx 0))) F { t with large := l } := by
        refine ⟨?_, ?_, ?_, T1.fd, T1.fl, T1.fc, T1.n1, T1.n2, T1.n3⟩
        · rw [upd_ne T1.n1]; exact T1.d
        · rw [upd_same, hl]; rfl
        · rw [upd_ne (Ne.symm T1.n3)]; exact T1.c
      have ne : ∀ a, ¬ onTape c.k a → upd (upd H p (.lst [])) c.k.lp (.lst ((t.large.map V.int).eraseIdx 0)) a = upd H p (.lst []) a := fun a n => upd_ne fun e => n ⟨on, .inr (.inl e)⟩
      exact out1 _ F (R1.taped (fun _ => T2) ne) Sub.refl (fun a o e n => (ne a n).trans e) (.int x) rfl
end
section
variable {Φ : Nat → List D → M D} {k : Kx} {mg : Str → Option Value} {base : Heap} {lv : Nat} {se : SE} {n : Nat}
theorem nx_no {E : XK} {i f : Nat} {σ : L2.St} {H : Hp} {Q : Bool → Hp → Prop} (h : TT' Φ k E (.tnx i f) σ H Q) : False := by
  obtain ⟨c, ρ, t, F, rfl, R, r, t', h, out⟩ := h
  unfold bnd at h
  cases q : ev Φ (.tnx i f) ρ t with
  | none => rw [q] at h; cases h
  | some p =>
    obtain ⟨x, t1⟩ := p
    rw [q] at h
    obtain ⟨_, q⟩ := if_ne (show (if isTapeAt ρ i = true then tnxM (Φ f [.tape]) else stuck) t = some (x, t1) from q)
    unfold tnxM at q
    split at q
    · cases q; cases h
    · split at q
      · cases q; cases h
      · cases q
theorem nx_ok {c a b : Expr} {i f : Nat} {pos : Pos} (hx : trNx se c a = some i) (hb : EOk Φ k mg base lv se b (.call f [.var i])) : EOk Φ k mg base lv se (.IfExp c a b pos) (.tnx i f) := by
  unfold trNx at hx
  split at hx
  · rename_i x p1 k1 j1 p2 p3 p4 p5 y p6 k2 j2 p7 p8 m q i0 j3 p9 p
    by_cases hc : (decide (x = y) && decide (k1 = "large") && decide (k2 = "large") && decide (m = "pop") && decide (i0 = 0) && (q.endLine == p.line)) = true
    · rw [if_pos hc] at hx
      simp only [Bool.and_eq_true, decide_eq_true_eq] at hc
      obtain ⟨⟨⟨⟨⟨rfl, rfl⟩, rfl⟩, rfl⟩, rfl⟩, hq⟩ := hc
      refine ⟨rfl, rfl, fun X E S => ⟨?_, ⟨fun pins s σ H Q I h => (nx_no h).elim⟩, fun z => nomatch z⟩⟩
      obtain ⟨h1, h2, h3, h4⟩ := slot_of S hx
      have pd : ∀ {pa pb pc : Pos} {j : Nat}, PE X (.Subscript (.Name x pa) (.Constant (.str "large") j pb) pc) (tLarge i) := fun {pa pb pc j} => pe_dget (room1 S.room) (pe_var h1 h2 h3 h4) pe_str (fun _ _ => rfl)
      refine (pe_ifExp (pt_cmpR (c_ne (k := k) S.room) pd (pe_lst pa_nil) rfl)
        (pe_bm PySem.F.plainAttrs_list PySem.F.slot_list_pop PySem.F.type_list_pop mt_popAt pd (pa_cons (pe_int (i := 0)) pa_nil rfl) rfl rfl hq rfl rfl) (hb.2.2 X E S).1).weak fun σ H Q z => ?_
      have := w_nx z
      rw [← S.K] at this
      exact this
    · rw [if_neg hc] at hx
      cases hx
  · cases hx
end
end VS
end
section
set_option Elab.async false
set_option linter.all false
set_option maxRecDepth 100000
set_option maxHeartbeats 8000000
set_option autoImplicit false
/-! V4o: the whole of the induction over expressions. -/
namespace VS
open PySem PySem.Spec PyProof.Rows L2

section
variable {Φ : Nat → List D → M D} {k : Kx} {mg : Str → Option Value} {base : Heap} {lv : Nat} {se : SE} {n : Nat}
theorem st_mt (HB : ∀ X E, XC k mg base lv X E → BO k X) (h : OkN Φ k mg base lv n) (g : GS Φ k mg base lv se) : ∀ o m args ir q pos, trMeth (n + 1) se o m args = some ir → abOk o = true → (q.endLine == pos.line) = true → EOk Φ k mg base lv se (.Call (.Attribute o m q) args [] pos) ir := fun o m args ir qp pos q hab hl => by
  unfold trMeth at q
  split at q
  · rename_i a
    by_cases c1 : m = "index"
    · rw [if_pos c1] at q
      subst c1
      obtain ⟨io, ho, q⟩ := Option.bind_eq_some_iff.mp q
      obtain ⟨ia, ha, e'⟩ := Option.map_eq_some_iff.mp q
      subst e'
      obtain ⟨a1, a2⟩ := h.o se o io ho g
      obtain ⟨b1, b2⟩ := h.o se a ia ha g
      refine .val rfl rfl (fun _ _ => rfl) fun X E S => ?_
      refine ((HB X E S.toXC).mtIx hab hl b1 (a2 X E S) (b2 X E S)).weak fun σ H Q z => ?_
      refine T_imp (fun x H1 z => ?_) (w_mt z)
      obtain ⟨F, d, z1, z2, z3, z4⟩ := z
      have z5 : tCons (T Φ k E ia) (TL Φ k E []) σ H1 fun xs H2 => rMt k .index d (x :: xs) H2 Q := wl_cons z4
      exact ⟨F, d, z1, z2, z3, T_imp (fun y H2 z => (wl_nil z : tNil σ H2 fun xs H2 => rMt k .index d (x :: y :: xs) H2 Q)) z5⟩
    · rw [if_neg c1] at q
      cases q
  · cases q
theorem st_cl (h : OkN Φ k mg base lv n) (g : GS Φ k mg base lv se) : ∀ f args kws pos ir, trCl (n + 1) se f args kws pos = some ir → EOk Φ k mg base lv se (.Call f args kws pos) ir := fun f args kws pos ir q => by
  cases f <;> first | (exact nomatch (show none = some ir from q)) | skip
  · rename_i o m qp
    replace q : (if (kws.isEmpty && abOk o && (qp.endLine == pos.line)) = true then trMeth n se o m args else none) = some ir := q
    have qq := if_some q
    clear q
    obtain ⟨c, q⟩ := qq
    obtain ⟨c1, c2, c3⟩ := and3 c
    cases kws with
    | cons _ _ => cases c1
    | nil => exact h.mt se o m args ir qp pos q c2 c3 g
  · rename_i x p
    replace q : (if se.isGl x = true then (match se.g.lookup x with
      | some (.fn g) => trCall n se g args kws
      | some (.cls g) => trCall n se g args kws
      | some _ => none
      | none => if kws.isEmpty = true then trBlt n se x args else none) else none) = some ir := q
    have qq := if_some q
    clear q
    obtain ⟨c, q⟩ := qq
    cases q2 : se.g.lookup x with
    | none =>
      rw [q2] at q
      have qq := if_some (show (if kws.isEmpty = true then trBlt n se x args else none) = some ir from q)
      clear q
      obtain ⟨c1, q⟩ := qq
      cases kws with
      | cons _ _ => cases c1
      | nil => exact h.blt se x args ir p pos q c q2 g
    | some gk =>
      rw [q2] at q
      have fin : ∀ gf, (se.g.lookup x = some (.fn gf) ∨ se.g.lookup x = some (.cls gf)) → trCall n se gf args kws = some ir → EOk Φ k mg base lv se (.Call (.Name x p) args kws pos) ir := fun gf hl q => by
        obtain ⟨ks, ds, as, bs, rfl, h1, h2, h3, h4, h5, h6⟩ := h.call se gf args kws ir q g
        exact .val rfl rfl (fun _ _ => rfl) (call_ok g c hl h1 h2 h3 h4 h5 h6)
      cases gk with
      | fn gf => exact fin gf (.inl q2) q
      | cls gf => exact fin gf (.inr q2) q
      | const _ => cases q
      | exc _ _ => cases q
      | cid _ => cases q
theorem w_prop {E : XK} {f : Nat} {a : Ex} {σ : L2.St} {H : Hp} {Q : VK} (ok : ∀ ds t r t', Φ f ds t = some (r, t') → ∃ d, r = .ok d) (hb : isBor a = false) (h : T Φ k E (.call f [a]) σ H Q) : T Φ k E a σ H fun y H1 => rCall Φ k E0 f [] [y] H1 Q := by
  obtain ⟨c, ρ, t, F, rfl, R, r, t', h, out⟩ := h
  have h : bnd (bnd (ev Φ a ρ) fun d => bnd (ret []) fun ds => ret (d :: ds)) (fun ds => Φ f ds) t = some (r, t') := h
  rw [bnd_bnd] at h
  refine T_bind rfl R h out fun d1 t1 v1 H1 F1 e1 h1 R1 s1 o1 z1 out1 => ?_
  have h1 : Φ f [d1] t1 = some (r, t') := h1
  obtain ⟨d, rfl⟩ := ok _ _ _ _ h1
  exact ⟨[d1], t1, F1, .ok d, t', R1.sub, R1.tape, ⟨v1, [], rfl, o1.rep hb, rfl⟩, h1, out_fin rfl R1 out1⟩
theorem tup_of {tg : Expr} (h : isTupE tg = true) : ∃ es kk p, tg = .Tuple es kk p := by
  cases tg <;> first | (cases h; done) | exact ⟨_, _, _, rfl⟩
theorem st_it (h : OkN Φ k mg base lv n) (g : GS Φ k mg base lv se) : ∀ tp e ir, trI (n + 1) se tp e = some ir → (∀ env x, foldedSetIterable e env x = pure x) ∧ ∀ X E, Sx k mg base lv se X E → ∀ tg fz, (tp = true → isTupE tg = true) → PI X tg e (TIt Φ k E fz ir) := fun tp e ir q => by
  have seqE : ∀ {e : Expr}, (tr n se e).map It.seq = some ir → ∀ X E, Sx k mg base lv se X E → ∀ tg fz, (tp = true → isTupE tg = true) → PI X tg e (TIt Φ k E fz ir) := fun {e} q => by
    obtain ⟨i, hi, e'⟩ := Option.map_eq_some_iff.mp q
    subst e'
    intro X E S tg fz _
    exact (pi_any ((h.e se e i hi g).2.2 X E S).1).weak fun σ H R z => wi_seq z
  have seqO : ∀ {e : Expr}, (trO n se e).map It.seq = some ir → ∀ X E, Sx k mg base lv se X E → ∀ tg fz, (tp = true → isTupE tg = true) → PI X tg e (TIt Φ k E fz ir) := fun {e} q => by
    obtain ⟨i, hi, e'⟩ := Option.map_eq_some_iff.mp q
    subst e'
    intro X E S tg fz _
    exact (pi_any ((h.o se e i hi g).2 X E S)).weak fun σ H R z => wi_seq z
  unfold trI at q
  split at q
  · rename_i x p as pc
    refine ⟨fun _ _ => rfl, ?_⟩
    by_cases c : (se.isGl x && (se.g.lookup x).isNone) = true
    · rw [if_pos c] at q
      obtain ⟨d1, d2⟩ := Bool.and_eq_true_iff.mp c
      have d2 := isNone_of d2
      by_cases c1 : x = "range"
      · rw [if_pos c1] at q
        subst c1
        obtain ⟨as', ha, q⟩ := Option.bind_eq_some_iff.mp q
        by_cases hl : as'.length ≤ 2
        · rw [if_pos hl] at q
          cases q
          have he := h.l se as as' ha g
          intro X E S tg fz _
          obtain ⟨g1, g2, g3⟩ := gl_of S d1
          have hm : X.mg "range" = none := by rw [S.mg]; exact g.blt _ (by decide) d2
          cases he with
          | nil => exact ⟨fun pins s σ H R I z => by obtain ⟨c, ρ, t, F, _, _, _, r, t', e, _⟩ := z; cases e⟩
          | cons a r =>
            have s1 := starEach_cons (es := []) (env := X.env) a.1
            cases r with
            | nil => exact (pi_range1 g1 hm (pa_cons (a.2.2 X E S).1 pa_nil s1) s1).weak fun σ H R z => wi_range1 z
            | cons b r =>
              have s2 := starEach_cons (es := []) (env := X.env) b.1
              cases r with
              | nil => exact (pi_range2 g1 hm (pa_cons (a.2.2 X E S).1 (pa_cons (b.2.2 X E S).1 pa_nil s2) (starEach_cons a.1)) (by rw [starEach_cons a.1, s2]; rfl) s2).weak fun σ H R z => wi_range2 z
              | cons _ _ => simp at hl
        · rw [if_neg hl] at q
          cases q
      · rw [if_neg c1] at q
        by_cases c2 : x = "enumerate"
        · rw [if_pos c2] at q
          subst c2
          have qq := if_some q
          clear q
          obtain ⟨ht, q⟩ := qq
          obtain ⟨as', ha, q⟩ := Option.bind_eq_some_iff.mp q
          have he := h.lo se as as' ha g
          split at q
          · rename_i ia
            cases q
            match as, he with
            | [a], he =>
              obtain ⟨_, e1, o⟩ := paired_one he
              cases e1
              intro X E S tg fz htp
              obtain ⟨es, kk, pt, rfl⟩ := tup_of (htp ht)
              obtain ⟨g1, g2, g3⟩ := gl_of S d1
              have s1 := starEach_cons (es := []) (env := X.env) o.1
              exact (pi_enum g1 (by rw [S.mg]; exact g.blt _ (by decide) d2) (pa_cons (o.2 X E S) pa_nil s1) s1).weak fun σ H R z => wi_enum z
          · cases q
        · rw [if_neg c2] at q
          by_cases c3 : x = "zip"
          · rw [if_pos c3] at q
            subst c3
            have qq := if_some q
            clear q
            obtain ⟨ht, q⟩ := qq
            obtain ⟨as', ha, q⟩ := Option.bind_eq_some_iff.mp q
            have he := h.lo se as as' ha g
            split at q
            · rename_i ia ib
              cases q
              match as, he with
              | [a, b], he =>
                obtain ⟨_, _, e1, oa, ob⟩ := paired_two he
                cases e1
                intro X E S tg fz htp
                obtain ⟨es, kk, pt, rfl⟩ := tup_of (htp ht)
                obtain ⟨g1, g2, g3⟩ := gl_of S d1
                have s2 := starEach_cons (es := []) (env := X.env) ob.1
                exact (RZ.pi_zipA g1 (by rw [S.mg]; exact g.blt _ (by decide) d2) (pa_cons (oa.2 X E S) (pa_cons (ob.2 X E S) pa_nil s2) (starEach_cons oa.1)) (starEach_cons oa.1) (by rw [s2]; rfl)).weak fun σ H R z => wi_zip z
            · cases q
          · rw [if_neg c3] at q
            exact seqE q
    · rw [if_neg c] at q
      exact seqE q
  · cases q
  · rename_i h1 h2
    refine ⟨fun env x => ?_, seqO q⟩
    cases e <;> first | rfl | exact absurd rfl (h2 _ _ _)
theorem st_e (h : OkN Φ k mg base lv n) (g : GS Φ k mg base lv se) : ∀ e ir, tr (n + 1) se e = some ir → EOk Φ k mg base lv se e ir := fun e ir q => by
  cases e <;> first | (exact nomatch (show none = some ir from q)) | skip
  case BoolOp op es p =>
    cases op
    · obtain ⟨is, hi, q⟩ := Option.bind_eq_some_iff.mp (show (trL n se es).bind andAll = some ir from q)
      have hl := h.l se es is hi g
      refine ⟨rfl, (and_ok (pos := p) hl q).1, fun X E S => ?_⟩
      obtain ⟨h1, h2, h3⟩ := (and_ok (pos := p) hl q).2 X E S
      exact ⟨h1, h2.pt, h3⟩
    · obtain ⟨is, hi, q⟩ := Option.bind_eq_some_iff.mp (show (trL n se es).bind orAll = some ir from q)
      have hl := h.l se es is hi g
      refine ⟨rfl, (or_ok (pos := p) hl q).1, fun X E S => ?_⟩
      obtain ⟨h1, h2, h3⟩ := (or_ok (pos := p) hl q).2 X E S
      exact ⟨h1, h2.pt, h3⟩
  case BinOp a o b p =>
    obtain ⟨ia, ha, q⟩ := Option.bind_eq_some_iff.mp (show (trO n se a).bind (fun a => (trO n se b).bind fun b => (trOp o).map fun o => Ex.bin o a b) = some ir from q)
    obtain ⟨ib, hb, q⟩ := Option.bind_eq_some_iff.mp q
    obtain ⟨io, ho, e'⟩ := Option.map_eq_some_iff.mp q
    subst e'
    exact .valF rfl rfl (fun _ _ => rfl) (fun X E S => (pe_op (op_ok ho S) ((h.o se a ia ha g).2 X E S) ((h.o se b ib hb g).2 X E S)).weak fun σ H Q z => w_bin z) fun _ X E S => (pe_op (op_ok ho S) ((h.o se a ia ha g).2 X E S) ((h.o se b ib hb g).2 X E S)).weak fun σ H Q z => wn_bin z
  case UnaryOp op a p =>
    cases op <;> first | (exact nomatch (show none = some ir from q)) | skip
    · obtain ⟨ia, ha, e'⟩ := Option.map_eq_some_iff.mp (show (tr n se a).map .not = some ir from q)
      subst e'
      obtain ⟨a1, a2, a3⟩ := h.e se a ia ha g
      exact ⟨rfl, rfl, fun X E S => ⟨(pe_not (a3 X E S).1).weak fun σ H Q z => w_not z, (pt_not (a3 X E S).2.1).weak fun σ H Q z => wt_not z, fun z => nomatch z⟩⟩
    · obtain ⟨ia, ha, e'⟩ := Option.map_eq_some_iff.mp (show (tr n se a).map .neg = some ir from q)
      subst e'
      obtain ⟨a1, a2, a3⟩ := h.e se a ia ha g
      exact .val rfl rfl (fun _ _ => rfl) fun X E S => (pe_un un_neg (a3 X E S).1).weak fun σ H Q z => w_neg z
  case IfExp c a b p =>
    have q : (match trNx se c a with
      | some i => (match tr n se b with
        | some (.call f [.var j]) => if i = j then some (Ex.tnx i f) else none
        | _ => none)
      | none => (tr n se c).bind fun c => (tr n se a).bind fun a => (tr n se b).map fun b => Ex.ife c a b) = some ir := q
    cases hx : trNx se c a with
    | some i =>
      rw [hx] at q
      have q : (match tr n se b with
        | some (.call f [.var j]) => if i = j then some (Ex.tnx i f) else none
        | _ => none) = some ir := q
      split at q
      · rename_i f j hb
        by_cases hij : i = j
        · rw [if_pos hij] at q
          cases q
          subst hij
          exact nx_ok hx (h.e se b _ hb g)
        · rw [if_neg hij] at q
          cases q
      · cases q
    | none =>
    rw [hx] at q
    obtain ⟨ic, hc, q⟩ := Option.bind_eq_some_iff.mp (show (tr n se c).bind (fun c => (tr n se a).bind fun a => (tr n se b).map fun b => Ex.ife c a b) = some ir from q)
    obtain ⟨ia, ha, q⟩ := Option.bind_eq_some_iff.mp q
    obtain ⟨ib, hb, e'⟩ := Option.map_eq_some_iff.mp q
    subst e'
    obtain ⟨c1, c2, c3⟩ := h.e se c ic hc g
    obtain ⟨a1, a2, a3⟩ := h.e se a ia ha g
    obtain ⟨b1, b2, b3⟩ := h.e se b ib hb g
    exact ⟨rfl, rfl, fun X E S => ⟨(pe_ifExp (c3 X E S).2.1 (a3 X E S).1 (b3 X E S).1).weak fun σ H Q z => w_ife a2 b2 z, (pt_ife (c3 X E S).2.1 (a3 X E S).2.1 (b3 X E S).2.1).weak fun σ H Q z => wt_ife z, fun z => nomatch z⟩⟩
  case Dict ks vs p =>
    cases ks <;> cases vs <;> first | (exact nomatch (show none = some ir from q)) | skip
    have q : some (Ex.dsp []) = some ir := q
    cases q
    exact .valF rfl rfl (fun _ _ => rfl) (fun X E S => pe_dnew.weak fun σ H Q z => w_dsp z) fun _ X E S => pe_dnew.weak fun σ H Q z => wn_dsp z
  case ListComp elt gs sc p => exact (h.lc se elt gs sc ir p q g).1
  case Compare a ops bs p =>
    match ops, bs, q with
    | [o], [b], q => exact h.c1 se a o b ir p q g
    | [o, o'], [b, c], q =>
      have q : (if lastMarks [o, o'] [b, c] then none else (tr n se a).bind fun a => (tr n se b).bind fun b => (tr n se c).bind fun c => (trCmp o).bind fun o => (trCmp o').map fun p => Ex.cmp2 o p a b c) = some ir := q
      cases hm : lastMarks [o, o'] [b, c] with
      | true => rw [if_pos hm] at q; cases q
      | false =>
        rw [if_neg (by rw [hm]; exact Bool.false_ne_true)] at q
        obtain ⟨ia, ha, q⟩ := Option.bind_eq_some_iff.mp q
        obtain ⟨ib, hb, q⟩ := Option.bind_eq_some_iff.mp q
        obtain ⟨ic, hc, q⟩ := Option.bind_eq_some_iff.mp q
        obtain ⟨io, ho, q⟩ := Option.bind_eq_some_iff.mp q
        obtain ⟨io', ho', e'⟩ := Option.map_eq_some_iff.mp q
        subst e'
        obtain ⟨a1, a2, a3⟩ := h.e se a ia ha g
        obtain ⟨b1, b2, b3⟩ := h.e se b ib hb g
        obtain ⟨c1, c2, c3⟩ := h.e se c ic hc g
        have e1 := cmp_of ho
        have e2 := cmp_of ho'
        subst e1 e2
        exact ⟨rfl, rfl, fun X E S => ⟨(pe_chain (c_cmp S.room S.w io) (c_cmp S.room S.w io') (a3 X E S).1 (b3 X E S).1 (c3 X E S).1 hm).weak fun σ H Q z => w_cmp2 z, (pt_chain (c_cmp S.room S.w io) (c_cmp S.room S.w io') (a3 X E S).1 (b3 X E S).1 (c3 X E S).1 hm).weak fun σ H Q z => w_cmp2 (wt_val rfl z), fun z => nomatch z⟩⟩
    | [], _, q => exact nomatch (show none = some ir from q)
    | [_], [], q => exact nomatch (show none = some ir from q)
    | [_], _ :: _ :: _, q => exact nomatch (show none = some ir from q)
    | [_, _], [], q => exact nomatch (show none = some ir from q)
    | [_, _], [_], q => exact nomatch (show none = some ir from q)
    | [_, _], _ :: _ :: _ :: _, q => exact nomatch (show none = some ir from q)
    | _ :: _ :: _ :: _, _, q => exact nomatch (show none = some ir from q)
  case Call f args kws p => exact h.cl se f args kws p ir q g
  case Constant c j p =>
    obtain ⟨d, hd, e'⟩ := Option.map_eq_some_iff.mp (show (trConst c).map .lit = some ir from q)
    subst e'
    exact .val rfl rfl (fun _ _ => rfl) (trConst_ok hd)
  case Attribute a x p =>
    replace q : (if abOk a = true then (match se.att.lookup x with
      | some (.fld c i) => (tr n se a).map fun a => Ex.att a c i
      | some (.prop f) => (tr n se a).map fun a => Ex.call f [a]
      | none => none) else none) = some ir := q
    have qq := if_some q
    clear q
    obtain ⟨hab, q⟩ := qq
    cases q2 : se.att.lookup x with
    | none => rw [q2] at q; cases q
    | some ak =>
      rw [q2] at q
      cases ak with
      | fld c i =>
        obtain ⟨ia, ha, e'⟩ := Option.map_eq_some_iff.mp q
        subst e'
        obtain ⟨a1, a2, a3⟩ := h.e se a ia ha g
        obtain ⟨f1, f2, f3, f4⟩ := g.fld x c i q2
        refine .val rfl rfl (fun _ _ => rfl) fun X E S => (pe_fld (a3 X E S).1 (ab_of hab)).weak fun σ H Q z => ?_
        rw [S.K]
        exact w_att f1 f2 f3 f4 z
      | prop f =>
        obtain ⟨ia, ha, e'⟩ := Option.map_eq_some_iff.mp q
        subst e'
        obtain ⟨a1, a2, a3⟩ := h.e se a ia ha g
        have pr := g.prop x f q2
        refine .val rfl rfl (fun _ _ => rfl) fun X E S => ⟨fun pins s σ H Q I z => ?_⟩
        have z := w_prop pr.ok a2 z
        refine attr_of (ab_of hab) (thn ((a3 X E S).1.run pins s σ H _ I z) fun u s1 ⟨y, H1, I1, r1, q1⟩ => ?_)
        exact pr.to X E S.toXC pins s1 σ H1 Q y u I1 r1 q1
  case Subscript a i p => exact h.sub se a i ir p q g
  case Name x p => exact .val rfl (name_ok (p := p) g q).1.1 (fun _ _ => rfl) (name_ok g q).2 (name_ok (p := p) g q).1.2
  case List es p =>
    obtain ⟨is, hi, e'⟩ := Option.map_eq_some_iff.mp (show (trL n se es).map .lst = some ir from q)
    subst e'
    have hl := h.l se es is hi g
    exact .valF rfl rfl (fun _ _ => rfl) (fun X E S => (pe_lst (each_pa S hl)).weak fun σ H Q z => w_lst (each_plain hl) z) fun _ X E S => (pe_lst (each_pa S hl)).weak fun σ H Q z => wn_lst (each_plain hl) z
  case Tuple es kk p =>
    have q : (if es.any isStar = true then (trSt n se es).map (.tupS (es.map isStar)) else (trL n se es).map .tup) = some ir := q
    by_cases c : es.any isStar = true
    · rw [if_pos c] at q
      obtain ⟨is, hi, e'⟩ := Option.map_eq_some_iff.mp q
      subst e'
      exact .val rfl rfl (fun _ _ => rfl) fun X E S => (pe_tupX (h.st se es is hi g X E S)).weak fun σ H Q z => w_tupS z
    · rw [if_neg c] at q
      obtain ⟨is, hi, e'⟩ := Option.map_eq_some_iff.mp q
      subst e'
      have hl := h.l se es is hi g
      exact .val rfl rfl (fun _ _ => rfl) fun X E S => (pe_tupX (each_pa S hl)).weak fun σ H Q z => w_tup (each_plain hl) z
theorem all_ok (HB : ∀ X E, XC k mg base lv X E → BO k X) : ∀ n, OkN Φ k mg base lv n
  | 0 => by
    constructor
    all_goals intros
    all_goals first | (rename_i h _; exact nomatch (show none = some _ from h)) | (rename_i h _ _ _ _; exact nomatch (show none = some _ from h)) | (rename_i h _ _ _; exact nomatch (show none = some _ from h))
  | n + 1 => by
    have h := all_ok HB n
    exact ⟨fun se e ir q g => st_e h g e ir q, fun se es irs q g => st_l h g es irs q, fun se es irs q g => st_lo h g es irs q, fun se es irs q g => st_st h g es irs q, fun se a o b ir pos q g => st_c1 h g a o b ir pos q,
      fun se a i ir pos q g => st_sub h g a i ir pos q, fun se elt gs scope ir pos q g => st_lc h g elt gs scope ir pos q, fun se f args kws pos ir q g => st_cl h g f args kws pos ir q, fun se e ir q g => st_o h g e ir q,
      fun se p ir q g => st_part h g p ir q, fun se ks irs q g => st_kw h g ks irs q, fun se gf args kws ir q g => st_call h g gf args kws ir q, fun se x args ir p pos q hx hn g => st_blt HB h g x args ir p pos q hx hn,
      fun se o m args ir q pos z hab hl g => st_mt HB h g o m args ir q pos z hab hl, fun se tp e ir q g => st_it h g tp e ir q⟩
end
end VS
end
section
set_option Elab.async false
set_option linter.all false
set_option maxRecDepth 100000
set_option maxHeartbeats 8000000
set_option autoImplicit false
/-! V4p: the readings of statements. -/
namespace VS
open PySem PySem.Spec PyProof.Rows L2

def EndOf (D : Ends) (k : Kx) (σ' : L2.St) (H' F' : Hp) : Fl → Prop
  | .nx => D.nx σ' H'
  | .bk => D.bk σ' H'
  | .ct => D.ct σ' H'
  | .rt d => ∀ v, Rep k F' d v → D.rt v H'
def OutS (E : XK) (c : Ct) (F : Hp) (t' : Tape) (D : Ends) : Res (Fl × Env) → Prop
  | .ok p => ∀ σ' H' F', Rel c p.2 t' σ' H' F' → Sub F F' → EndOf D c.k σ' H' F' p.1
  | .ex n l => ∀ ρ' σ' H' F' dx, Rel c ρ' t' σ' H' F' → Sub F F' → XRep c.k F' H' n l dx → E (.ref (c.k.ec n)) dx H'
theorem OutS.sub {E : XK} {c : Ct} {F G : Hp} {t' : Tape} {D : Ends} (s : Sub F G) : ∀ {r : Res (Fl × Env)}, OutS E c F t' D r → OutS E c G t' D r
  | .ok _, o => fun σ' H' F' R q => o σ' H' F' R (s.trans q)
  | .ex _ _, o => fun ρ' σ' H' F' dx R q => o ρ' σ' H' F' dx R (s.trans q)
def TSt (Φ : Nat → List D → M D) (k : Kx) (E : XK) (fu : Nat) (s : Stm) : TS := fun D σ H => ∃ c ρ t F, c.k = k ∧ Rel c ρ t σ H F ∧ ∃ r t', exec Φ fu s ρ t = some (r, t') ∧ OutS E c F t' D r
def TSs' (Φ : Nat → List D → M D) (k : Kx) (E : XK) (fu : Nat) (s : List Stm) : TS := fun D σ H => ∃ c ρ t F, c.k = k ∧ Rel c ρ t σ H F ∧ ∃ r t', execs Φ fu s ρ t = some (r, t') ∧ OutS E c F t' D r
section
variable {Φ : Nat → List D → M D} {k : Kx} {E : XK} {fu : Nat} {c : Ct} {ρ : Env} {t t' : Tape} {σ : L2.St} {H H' F : Hp} {D : Ends} {d : VS.D} {v : V} {e a b : Ex} {es : List Ex} {r : Res (Fl × Env)}
/-! binding -/
theorem OutS.to (o : OutS E c F t' D r) (ρ : Env) (σ : L2.St) (H : Hp) : Out E c ρ σ H F t' (fun _ _ _ => True) r := by
  cases r with
  | ok _ => exact fun _ _ _ _ _ => trivial
  | ex n l => exact fun H' F' dx R s _ x => o ρ σ H' F' dx R s x
theorem S_T {f : VS.D → M (Fl × Env)} {K : VK} (R : Rel c ρ t σ H F) (h : bnd (ev Φ e ρ) f t = some (r, t')) (o : OutS E c F t' D r)
    (g : ∀ d t1 v H1 F1, f d t1 = some (r, t') → Rel c ρ t1 σ H1 F1 → Sub F F1 → Opd c.k ρ σ F1 e d v → OutS E c F1 t' D r → K v H1) : T Φ c.k E e σ H K :=
  T_bind rfl R h (o.to ρ σ H) fun d t1 v H1 F1 _ h1 R1 s1 o1 _ _ => g d t1 v H1 F1 h1 R1 s1 o1 (o.sub s1)
theorem S_TL {f : List VS.D → M (Fl × Env)} {K : List V → Hp → Prop} (R : Rel c ρ t σ H F) (h : bnd (evs Φ es ρ) f t = some (r, t')) (o : OutS E c F t' D r)
    (g : ∀ d t1 v H1 F1, f d t1 = some (r, t') → Rel c ρ t1 σ H1 F1 → Sub F F1 → OpdL c.k ρ σ F1 es d v → OutS E c F1 t' D r → K v H1) : TL Φ c.k E es σ H K :=
  TL_bind rfl R h (o.to ρ σ H) fun d t1 v H1 F1 _ h1 R1 s1 o1 _ _ => g d t1 v H1 F1 h1 R1 s1 o1 (o.sub s1)
theorem S_TT {f : Bool → M (Fl × Env)} {K : Bool → Hp → Prop} (R : Rel c ρ t σ H F) (h : bnd (ev Φ e ρ) (fun x => bnd (lft (truth x)) f) t = some (r, t')) (o : OutS E c F t' D r)
    (g : ∀ b t1 H1 F1, f b t1 = some (r, t') → Rel c ρ t1 σ H1 F1 → Sub F F1 → OutS E c F1 t' D r → K b H1) : TT' Φ c.k E e σ H K :=
  TT_bind R h (o.to ρ σ H) fun b t1 H1 F1 h1 R1 s1 _ _ => g b t1 H1 F1 h1 R1 s1 (o.sub s1)
theorem S_Tn {f : VS.D → M (Fl × Env)} {K : VK} (R : Rel c ρ t σ H F) (h : bnd (ev Φ e ρ) f t = some (r, t')) (o : OutS E c F t' D r) (hm : ∀ d t1, f d t1 = some (r, t') → isMut d = true)
    (g : ∀ d t1 H1 F1 p u, f d t1 = some (r, t') → Rel c ρ t1 σ H1 F1 → Sub F F1 → H1 p = none → ObjR c.k F1 p u d → OutS E c F1 t' D r → K (.ref p) (upd H1 p u)) : Tn Φ c.k E e σ H K := by
  unfold bnd at h
  cases q : ev Φ e ρ t with
  | none => rw [q] at h; cases h
  | some p =>
    obtain ⟨x, t1⟩ := p
    rw [q] at h
    cases x with
    | ok d => exact ⟨c, ρ, t, F, rfl, R, .ok d, t1, q, hm d t1 h, fun H1 F1 R1 s1 z1 p u hp ho => g d t1 H1 F1 p u h R1 s1 hp ho (o.sub s1)⟩
    | ex n l =>
      cases h
      exact ⟨c, ρ, t, F, rfl, R, .ex n l, t', q, fun H' F' dx R s _ x => o ρ σ H' F' dx R s x⟩
/-! states -/
theorem Rel.setOwn0 (R : Rel c ρ t σ H F) {i : Nat} {d : VS.D} {p : Addr} {u : HO} (hi : i < ρ.length) (hp : H p = some u) (hF : F p = none) (ho : ObjR c.k F p u d) (hP : ¬ c.P p) (hn : ¬ onTape c.k p) (ha : ∀ (j : Nat) (d : VS.D), j ≠ i → ρ[j]? = some (some (d, true)) → σ[j]? ≠ some (some (V.ref p))) :
    Rel c (setV ρ i d true) t (σ.set i (some (.ref p))) H F where
  sub := R.sub
  prot := R.prot
  tape := R.tape
  len := by unfold setV; rw [List.length_set, List.length_set]; exact R.len
  frz := fun j e h => by
    rcases get_set h with ⟨rfl, h1, h2⟩ | ⟨h1, h2⟩
    · cases h1
    · obtain ⟨w, h3, h4⟩ := R.frz j e h2
      exact ⟨w, by rw [List.getElem?_set_ne h1]; exact h3, h4⟩
  own := fun j e h => by
    rcases get_set h with ⟨rfl, h1, h2⟩ | ⟨h1, h2⟩
    · cases h1
      exact ⟨p, u, List.getElem?_set_self (by rw [← R.len]; exact h2), hp, hF, ho, hP, hn⟩
    · obtain ⟨a, o, h3, h4⟩ := R.own j e h2
      exact ⟨a, o, by rw [List.getElem?_set_ne h1]; exact h3, h4⟩
  sep := fun j j' d' e' a h1 h2 h3 h4 => by
    have hil : i < σ.length := by rw [← R.len]; exact hi
    rcases get_set h1 with ⟨rfl, q1, _⟩ | ⟨q1, q2⟩
    · rcases get_set h2 with ⟨rfl, p1, _⟩ | ⟨p1, p2⟩
      · rfl
      · exfalso
        rw [List.getElem?_set_self hil] at h3
        cases h3
        rw [List.getElem?_set_ne p1] at h4
        exact ha j' e' (fun z => p1 z.symm) p2 h4
    · rcases get_set h2 with ⟨rfl, p1, _⟩ | ⟨p1, p2⟩
      · exfalso
        rw [List.getElem?_set_self hil] at h4
        cases h4
        rw [List.getElem?_set_ne q1] at h3
        exact ha j d' (fun z => q1 z.symm) q2 h3
      · rw [List.getElem?_set_ne q1] at h3
        rw [List.getElem?_set_ne p1] at h4
        exact R.sep j j' d' e' a q2 p2 h3 h4
theorem Rel.setOwn (R : Rel c ρ t σ H F) {i : Nat} {d : VS.D} {p : Addr} {u : HO} (hp : H p = some u) (hF : F p = none) (ho : ObjR c.k F p u d) (hP : ¬ c.P p) (hn : ¬ onTape c.k p) (ha : ∀ (j : Nat) (d : VS.D), j ≠ i → ρ[j]? = some (some (d, true)) → σ[j]? ≠ some (some (V.ref p))) :
    Rel c (setV ρ i d true) t (σ.set i (some (.ref p))) H F := by
  by_cases hi : i < ρ.length
  · exact R.setOwn0 hi hp hF ho hP hn ha
  · have e1 : setV ρ i d true = ρ := by unfold setV; rw [List.set_eq_of_length_le (by omega)]
    have e2 : σ.set i (some (V.ref p)) = σ := List.set_eq_of_length_le (by rw [← R.len]; omega)
    rw [e1, e2]
    exact R
/-- the owned object of a slot is changed -/
theorem Rel.updOwn (R : Rel c ρ t σ H F) {i : Nat} {d d' : VS.D} {a : Addr} {u : HO} (hr : ρ[i]? = some (some (d, true))) (ha : σ[i]? = some (some (V.ref a))) (hu : ObjR c.k F a u d') : Rel c (setV ρ i d' true) t σ (upd H a u) F := by
  obtain ⟨a', o, h1, h2, h3, h4, h5, h6⟩ := R.own i d hr
  rw [ha] at h1
  cases h1
  have hi : i < ρ.length := (List.getElem?_eq_some_iff.mp hr).1
  have R' : Rel c (ρ.set i none) t σ H F := ⟨R.sub, R.prot, R.tape, by rw [List.length_set]; exact R.len, fun j e h => by
      rcases get_set h with ⟨_, z, _⟩ | ⟨_, z⟩
      · cases z
      · exact R.frz j e z, fun j e h => by
      rcases get_set h with ⟨_, z, _⟩ | ⟨_, z⟩
      · cases z
      · exact R.own j e z, fun j j' d' e' a h1 h2 h3 h4 => by
      rcases get_set h1 with ⟨_, z, _⟩ | ⟨_, z⟩
      · cases z
      rcases get_set h2 with ⟨_, z', _⟩ | ⟨_, z'⟩
      · cases z'
      exact R.sep j j' d' e' a z z' h3 h4⟩
  have ap : Apart (ρ.set i none) σ a := fun j e h z => by
    rcases get_set h with ⟨_, w, _⟩ | ⟨hne, w⟩
    · cases w
    · exact hne (R.sep i j d e a hr w ha z)
  have R2 := (R'.updLoose (o := u) h3 h5 ap h6).setOwn (i := i) (d := d') (p := a) (u := u) upd_same h3 hu h5 h6 (fun j e _ h => ap j e h)
  have e1 : setV (ρ.set i none) i d' true = setV ρ i d' true := by unfold setV; rw [List.set_set]
  have e2 : σ.set i (some (V.ref a)) = σ := by
    apply List.ext_getElem?
    intro j
    by_cases z : i = j
    · subst z
      rw [List.getElem?_set_self (by rw [← R.len]; exact hi), ha]
    · rw [List.getElem?_set_ne z]
  rw [e1, e2] at R2
  exact R2
/-- a slot is no longer owned -/
theorem Rel.frz1 (R : Rel c ρ t σ H F) {i : Nat} {d : VS.D} (hr : ρ[i]? = some (some (d, true))) : ∃ F', Rel c (ρ.set i (some (d, false))) t σ H F' ∧ Sub F F' := by
  obtain ⟨a, o, h1, h2, h3, h4, h5, h6⟩ := R.own i d hr
  have hi : i < ρ.length := (List.getElem?_eq_some_iff.mp hr).1
  have R' : Rel c (ρ.set i none) t σ H F := ⟨R.sub, R.prot, R.tape, by rw [List.length_set]; exact R.len, fun j e h => by
      rcases get_set h with ⟨_, z, _⟩ | ⟨_, z⟩
      · cases z
      · exact R.frz j e z, fun j e h => by
      rcases get_set h with ⟨_, z, _⟩ | ⟨_, z⟩
      · cases z
      · exact R.own j e z, fun j j' d' e' a h1 h2 h3 h4 => by
      rcases get_set h1 with ⟨_, z, _⟩ | ⟨_, z⟩
      · cases z
      rcases get_set h2 with ⟨_, z', _⟩ | ⟨_, z'⟩
      · cases z'
      exact R.sep j j' d' e' a z z' h3 h4⟩
  have ap : ∀ (j : Nat) (e : VS.D), (ρ.set i none)[j]? = some (some (e, true)) → σ[j]? ≠ some (some (V.ref a)) := fun j e h z => by
    rcases get_set h with ⟨_, w, _⟩ | ⟨hne, w⟩
    · cases w
    · exact hne (R.sep i j d e a hr w h1 z)
  obtain ⟨R2, s2⟩ := R'.freeze h2 h3 h5 h6 ap
  have R3 := R2.set (i := i) (d := d) (v := .ref a) ((h4.mono s2).rep upd_same)
  have e1 : setV (ρ.set i none) i d false = ρ.set i (some (d, false)) := by unfold setV; rw [List.set_set]
  have e2 : σ.set i (some (V.ref a)) = σ := by
    apply List.ext_getElem?
    intro j
    by_cases z : i = j
    · subst z
      rw [List.getElem?_set_self (by rw [← R.len]; exact hi), h1]
    · rw [List.getElem?_set_ne z]
  rw [e1, e2] at R3
  exact ⟨_, R3, s2⟩
theorem Rel.frzs : ∀ {is : List Nat}, Rel c ρ t σ H F → ∃ F', Rel c (frzE ρ is) t σ H F' ∧ Sub F F'
  | [], R => ⟨F, R, .refl⟩
  | i :: is, R => by
    obtain ⟨F1, R1, s1⟩ := Rel.frzs (is := is) R
    show ∃ F', Rel c (match (frzE ρ is)[i]? with
      | some (some (d, true)) => (frzE ρ is).set i (some (d, false))
      | _ => frzE ρ is) t σ H F' ∧ Sub F F'
    split
    · rename_i d q
      obtain ⟨F2, R2, s2⟩ := R1.frz1 q
      exact ⟨F2, R2, s1.trans s2⟩
    · exact ⟨F1, R1, s1⟩
/-! the statements -/
theorem s_frz {is : List Nat} {s : Stm} (h : TSt Φ k E fu (.frz is s) D σ H) : TSt Φ k E fu s D σ H := by
  obtain ⟨c, ρ, t, F, rfl, R, r, t', h, o⟩ := h
  obtain ⟨F', R', s'⟩ := R.frzs (is := is)
  exact ⟨c, _, t, F', rfl, R', r, t', h, o.sub s'⟩
theorem s_expr (h : TSt Φ k E fu (.expr e) D σ H) : tDrop (T Φ k E e) D σ H := by
  obtain ⟨c, ρ, t, F, rfl, R, r, t', h, o⟩ := h
  refine S_T R h o fun d t1 v H1 F1 h1 R1 s1 o1 out1 => ?_
  cases h1
  exact out1 σ H1 F1 R1 .refl
theorem s_asg {tg : Tg} (hb : isBor e = false) (h : TSt Φ k E fu (.asg tg e) D σ H) : tAsg (T Φ k E e) (GT k tg) D σ H := by
  obtain ⟨c, ρ, t, F, rfl, R, r, t', h, o⟩ := h
  refine S_T R h o fun d t1 v H1 F1 h1 R1 s1 o1 out1 => ?_
  cases q : setT tg d ρ with
  | none => rw [q] at h1; cases h1
  | some ρ' =>
    rw [q] at h1
    cases h1
    exact ⟨c, ρ, _, F1, d, ρ', rfl, R1, .inl (o1.rep hb), q, fun σ' R' _ => out1 σ' H1 F1 R' .refl⟩
theorem s_asg1 {i : Nat} (hb : isBor e = false) (h : TSt Φ k E fu (.asg (.nm i) e) D σ H) : tAsg (T Φ k E e) (gName i) D σ H := T_imp (fun v H1 z => gt_nm z) (s_asg hb h)
theorem s_new {i : Nat} (h : TSt Φ k E fu (.new i e) D σ H) : tAsg (Tn Φ k E e) (gName i) D σ H := by
  obtain ⟨c, ρ, t, F, rfl, R, r, t', h, o⟩ := h
  have cond : ∀ d t1, (if (frs e && isMut d) = true then ret (Fl.nx, setV ρ i d true) else (stuck : M (Fl × Env))) t1 = some (r, t') → (frs e && isMut d) = true ∧ r = .ok (.nx, setV ρ i d true) ∧ t' = t1 := fun d t1 z => by
    by_cases q : (frs e && isMut d) = true
    · rw [if_pos q] at z; cases z; exact ⟨q, rfl, rfl⟩
    · rw [if_neg q] at z; cases z
  refine S_Tn R h o (fun d t1 z => (Bool.and_eq_true_iff.mp (cond d t1 z).1).2) fun d t1 H1 F1 p u h1 R1 s1 hp ho out1 => ?_
  obtain ⟨_, rfl, rfl⟩ := cond d t1 h1
  have R2 := R1.ext (ext_loose (o := u) R1.sub hp) .refl
  have hF := R1.sub.none hp
  exact out1 _ _ F1 (R2.setOwn upd_same hF ho (R1.noP hp) (R1.noTape hp) fun j e _ h => R1.apart hp j e h) .refl
theorem s_ret (hb : isBor e = false) (h : TSt Φ k E fu (.ret e) D σ H) : tRet (T Φ k E e) D σ H := by
  obtain ⟨c, ρ, t, F, rfl, R, r, t', h, o⟩ := h
  refine S_T R h o fun d t1 v H1 F1 h1 R1 s1 o1 out1 => ?_
  cases h1
  exact out1 σ H1 F1 R1 .refl v (o1.rep hb)
theorem s_retN (h : TSt Φ k E fu .retN D σ H) : tRetN D σ H := by
  obtain ⟨c, ρ, t, F, rfl, R, r, t', h, o⟩ := h
  cases h
  exact o σ H F R .refl _ rfl
theorem s_pass (h : TSt Φ k E fu .pass D σ H) : tNext D σ H := by
  obtain ⟨c, ρ, t, F, rfl, R, r, t', h, o⟩ := h
  cases h
  exact o σ H F R .refl
theorem s_brk (h : TSt Φ k E fu .brk D σ H) : tBreak D σ H := by
  obtain ⟨c, ρ, t, F, rfl, R, r, t', h, o⟩ := h
  cases h
  exact o σ H F R .refl
theorem s_cont (h : TSt Φ k E fu .cont D σ H) : L2.tCont D σ H := by
  obtain ⟨c, ρ, t, F, rfl, R, r, t', h, o⟩ := h
  cases h
  exact o σ H F R .refl
theorem s_iff {x y : List Stm} (h : TSt Φ k E fu (.iff e x y) D σ H) : tIfS (TT' Φ k E e) (TSs' Φ k E fu x) (TSs' Φ k E fu y) D σ H := by
  obtain ⟨c, ρ, t, F, rfl, R, r, t', h, o⟩ := h
  refine S_TT R h o fun b t1 H1 F1 h1 R1 s1 out1 => ?_
  cases b with
  | true => exact ⟨c, ρ, t1, F1, rfl, R1, r, t', h1, out1⟩
  | false => exact ⟨c, ρ, t1, F1, rfl, R1, r, t', h1, out1⟩
theorem s_nil (h : TSs' Φ k E fu [] D σ H) : tNext D σ H := by
  obtain ⟨c, ρ, t, F, rfl, R, r, t', h, o⟩ := h
  cases h
  exact o σ H F R .refl
theorem s_cons {s : Stm} {ss : List Stm} (h : TSs' Φ k E fu (s :: ss) D σ H) : tSeq (TSt Φ k E fu s) (TSs' Φ k E fu ss) D σ H := by
  obtain ⟨c, ρ, t, F, rfl, R, r, t', h, o⟩ := h
  have h : bnd (exec Φ fu s ρ) (fun r => match r.1 with
    | .nx => execs Φ fu ss r.2
    | f => ret (f, r.2)) t = some (r, t') := h
  unfold bnd at h
  cases q : exec Φ fu s ρ t with
  | none => rw [q] at h; cases h
  | some p =>
    obtain ⟨x, t1⟩ := p
    rw [q] at h
    cases x with
    | ex n l =>
      cases h
      exact ⟨c, ρ, t, F, rfl, R, .ex n l, t', q, o⟩
    | ok p =>
      obtain ⟨fl, ρ1⟩ := p
      refine ⟨c, ρ, t, F, rfl, R, .ok (fl, ρ1), t1, q, fun σ' H' F' R' s' => ?_⟩
      cases fl with
      | nx => exact ⟨c, ρ1, t1, F', rfl, R', r, t', h, o.sub s'⟩
      | bk => cases h; exact o σ' H' F' R' s'
      | ct => cases h; exact o σ' H' F' R' s'
      | rt d => cases h; exact o σ' H' F' R' s'
end
end VS
end
section
set_option Elab.async false
set_option linter.all false
set_option maxRecDepth 100000
set_option maxHeartbeats 8000000
set_option autoImplicit false
/-! V4q: the readings of statements: objects that change, loops. -/
namespace VS
open PySem PySem.Spec PyProof.Rows L2

/-- d[k] = v -/
def rPutD (k : Kx) : TSet := fun o i v H Q => ∃ F a es kvs x y, o = .ref a ∧ H a = some (dicO a es) ∧ Sub F H ∧ kvsOk kvs ∧ RepP k F kvs es ∧ keyOk kvs x = true ∧ kvs.length < lim ∧ Rep k F x i ∧ Rep k F y v ∧ ∀ es', RepP k F (dput kvs x y) es' → Q (upd H a (dicO a es'))
theorem dput_len : ∀ (kvs : List (D × D)) (x y : D), (dput kvs x y).length ≤ kvs.length + 1
  | [], _, _ => Nat.le_refl _
  | (a, b) :: r, x, y => by
    show (if a = x then (a, y) :: r else (a, b) :: dput r x y).length ≤ _
    by_cases e : a = x
    · rw [if_pos e]; exact Nat.le_succ _
    · rw [if_neg e, List.length_cons, List.length_cons]
      have := dput_len r x y
      omega
theorem set_dct {X : Cx} {k : Kx} {lv : Nat} (hr : Room lv X.A) (hw : X.w = k.w) : PSet X (rPutD k) := by
  rintro pins s σ H o i v ov iv u Q I ro ri rv ⟨F, a, es, kvs, x, y, rfl, ha, hs, ok, r, hk, hl, rx, ry, q⟩
  obtain ⟨l, rfl⟩ := keyT hk
  obtain ⟨b, rfl, rb⟩ := rep_tup_ref (rx.top hs)
  cases ro
  cases ri
  obtain ⟨xs, e1, x1, m1, hm, hz⟩ := dicH I hw ha hs ok r (keyOk_tup hk)
  have hi := key_is (P := X.prog) (w := X.w) I.hok (keyOk_8 hk) (rx.mono hs)
  have g := x1.get ok.keys (keyOk_8 hk)
  refine wpAny_setItem_heap (hsz := hz) (room8 hr) hi m1 fun h' m' sb => ?_
  -- the entries behind the store
  have key : XR k F (dput kvs (.tup l) y) (storedH xs (nkey (.tup l)) b u) := by
    unfold storedH
    cases e : dget kvs (.tup l) with
    | some d =>
      rw [e] at g
      obtain ⟨p, w, e2, _⟩ := g
      rw [e2]
      exact x1.put_old (keyOk_8 hk) ry rv ok.keys ok.1 (by rw [e]; rfl)
    | none =>
      rw [e] at g
      have g : atKey xs (nkey (.tup l)) = none := g
      rw [g]
      exact x1.put_new rfl rb ry rv e
  have hlen : (storedH xs (nkey (.tup l)) b u).length ≤ sizeLine := by
    rw [key.length]
    have h1 := dput_len kvs (.tup l) y
    have h2 : lim = sizeLine := rfl
    omega
  have n := dicNew (P := X.prog) (w := X.w) m' hlen hm (upd H a (dicO a ((storedH xs (nkey (.tup l)) b u).map (entryOfKey (nestedKind X.prog X.w)))))
  obtain ⟨ob, _, _, hob, _⟩ := m'
  refine ⟨_, d_write I (by rw [ha]; trivial) sb ⟨ob, hob⟩ n, q _ ?_⟩
  rw [hw]
  exact key.rep
/-- o[k] = v, a dict or a list -/
def tapeO (k : Kx) (t : Tape) : HO := .dK [(.inr "large", .ref k.lp), (.inr "rest", .int t.rest), (.inr "cells", .ref k.cp), (.inr "turn", .int t.turn)]
/-- tape[name] = n -/
def rTput (k : Kx) : TSet := fun o i v H Q => ∃ F t s n t2, k.on = true ∧ o = .ref k.tp ∧ i = .str s ∧ v = .int n ∧ TapeOk k H F t ∧ tput t s n = some t2 ∧ Q (upd H k.tp (tapeO k t2))
theorem set_tape {X : Cx} {k : Kx} {lv : Nat} (hr : Room lv X.A) : PSet X (rTput k) := by
  rintro pins s σ H o i v ov iv u Q I ro ri rv ⟨F, t, x, n, t2, on, rfl, rfl, rfl, T, ht, q⟩
  replace T := T on
  have g : DPut H k.tp (.str x) (.int n) (upd H k.tp (tapeO k t2)) := by
    unfold tput at ht
    split at ht
    · rename_i e
      cases ht
      subst e
      exact DPut.k (k := .inr "rest") T.d (show 4 < sizeLine by rw [sizeLine_eq]; decide)
    · split at ht
      · rename_i e
        cases ht
        subst e
        exact DPut.k (k := .inr "turn") T.d (show 4 < sizeLine by rw [sizeLine_eq]; decide)
      · cases ht
  cases ro
  exact d_setItem (room1 hr) I g ri rv fun s3 I3 => ⟨_, I3, q⟩
theorem TapeOk.put {k : Kx} {H F : Hp} {t t2 : Tape} {s : Str} {n : Int} (T : TapeOk k H F t) (h : tput t s n = some t2) : TapeOk k (upd H k.tp (tapeO k t2)) F t2 := fun on => by
  replace T := T on
  have e : t2.large = t.large ∧ t2.cells = t.cells := by
    unfold tput at h
    split at h
    · cases h; exact ⟨rfl, rfl⟩
    · split at h
      · cases h; exact ⟨rfl, rfl⟩
      · cases h
  exact ⟨upd_same, by rw [upd_ne (Ne.symm T.n1), e.1]; exact T.l, by rw [upd_ne (Ne.symm T.n2), e.2]; exact T.c, T.fd, T.fl, by rw [e.2]; exact T.fc, T.n1, T.n2, T.n3⟩
def rPut (k : Kx) : TSet := fun o i v H Q => rPutD k o i v H Q ∨ rSetL o i v H Q ∨ rTput k o i v H Q
theorem set_put {X : Cx} {k : Kx} {lv : Nat} (hr : Room lv X.A) (hw : X.w = k.w) : PSet X (rPut k) := by
  intro pins s σ H o i v ov iv u Q I ro ri rv h
  rcases h with h | h | h
  · exact set_dct hr hw pins s σ H o i v ov iv u Q I ro ri rv h
  · exact set_list pins s σ H o i v ov iv u Q I ro ri rv h
  · exact set_tape hr pins s σ H o i v ov iv u Q I ro ri rv h
section
variable {Φ : Nat → List D → M D} {k : Kx} {E : XK} {fu : Nat} {c : Ct} {ρ : Env} {t t' : Tape} {σ : L2.St} {H H' F : Hp} {D : Ends} {d : VS.D} {v : V} {e a b : Ex} {es : List Ex} {r : Res (Fl × Env)}
theorem own_lst (R : Rel c ρ t σ H F) {i : Nat} {l : List VS.D} (h : ρ[i]? = some (some (.lst l, true))) : ∃ a vs, σ[i]? = some (some (V.ref a)) ∧ H a = some (.lst vs) ∧ RepL c.k F l vs := by
  obtain ⟨a, o, h1, h2, h3, ⟨vs, rfl, rl⟩, h5⟩ := R.own i _ h
  exact ⟨a, vs, h1, h2, rl⟩
theorem own_dct (R : Rel c ρ t σ H F) {i : Nat} {l : List (VS.D × VS.D)} (h : ρ[i]? = some (some (.dct l, true))) : ∃ a es, σ[i]? = some (some (V.ref a)) ∧ H a = some (dicO a es) ∧ kvsOk l ∧ RepP c.k F l es := by
  obtain ⟨a, o, h1, h2, h3, ⟨es, rfl, ok, rl⟩, h5⟩ := R.own i _ h
  exact ⟨a, es, h1, h2, ok, rl⟩
theorem s_app {K : PySem.W.Frag} {i : Nat} (hb : isBor e = false) (h : TSt Φ k E fu (.app i e) D σ H) : tDrop (tBM K "list" rAppend (tVar i) (tCons (T Φ k E e) tNil)) D σ H := by
  obtain ⟨c, ρ, t, F, rfl, R, r, t', h, o⟩ := h
  have h : (match lstAt ρ i with
    | some l => bnd (ev Φ e ρ) fun d => if l.length < lim then ret (Fl.nx, setV ρ i (.lst (l ++ [d])) true) else (stuck : M (Fl × Env))
    | none => stuck) t = some (r, t') := h
  cases q : lstAt ρ i with
  | none => rw [q] at h; cases h
  | some l =>
    rw [q] at h
    have hr := lstAt_eq q
    obtain ⟨a, vs, h1, h2, rl⟩ := own_lst R hr
    refine ⟨.ref a, h1, .inl ⟨rfl, vs, .inl (.inl h2)⟩, ?_⟩
    refine S_T R h o fun d t1 v H1 F1 h3 R1 s1 o1 out1 => ?_
    by_cases hl : l.length < lim
    · rw [if_pos hl] at h3
      cases h3
      obtain ⟨a', vs', h1', h2', rl'⟩ := own_lst R1 hr
      rw [h1] at h1'
      cases h1'
      refine ⟨a, vs', v, rfl, rfl, h2', by rw [rl'.length]; exact hl, ?_⟩
      exact out1 _ _ F1 (R1.updOwn hr h1 ⟨_, rfl, rl'.append ⟨v, [], rfl, o1.rep hb, rfl⟩⟩) .refl
    · rw [if_neg hl] at h3
      cases h3
theorem seq_ix (n : Nat) (i : Int) : seqIndex? i n = ixOf n i := by
  unfold seqIndex? ixOf
  by_cases h : 0 ≤ i
  · have h' : ¬ i < 0 := by omega
    simp only [if_pos h, if_neg h']
    by_cases h2 : i.toNat < n
    · rw [if_pos h2, if_pos (by rw [Bool.and_eq_true]; exact ⟨decide_eq_true h, decide_eq_true (by omega)⟩)]
    · rw [if_neg h2, if_neg (by rw [Bool.and_eq_true]; exact fun z => h2 (by have := of_decide_eq_true z.2; omega))]
  · have h' : i < 0 := by omega
    simp only [if_neg h, if_pos h']
    by_cases h2 : 0 ≤ i + n
    · rw [if_pos h2, if_pos (by rw [Bool.and_eq_true]; exact ⟨decide_eq_true h2, decide_eq_true (by omega)⟩)]
    · rw [if_neg h2, if_neg (by rw [Bool.and_eq_true]; exact fun z => h2 (of_decide_eq_true z.1))]
theorem _root_.VS.RepL.erase {k : Kx} {F : Hp} {ds : List VS.D} {vs : List V} (n : Nat) (r : RepL k F ds vs) : RepL k F (ds.eraseIdx n) (vs.eraseIdx n) := by
  rw [List.eraseIdx_eq_take_drop_succ, List.eraseIdx_eq_take_drop_succ]
  exact (r.take n).append (r.drop (n + 1))
theorem s_appPop {K : PySem.W.Frag} {i j : Nat} (hb : isBor e = false) (h : TSt Φ k E fu (.appPop i j e) D σ H) : tDrop (tBM K "list" rAppend (tVar i) (tCons (tBM K "list" rPopAt (tVar j) (tCons (T Φ k E e) tNil)) tNil)) D σ H := by
  obtain ⟨c, ρ, t, F, rfl, R, r, t', h, o⟩ := h
  have h : (match lstAt ρ i with
    | some _ => match lstAt ρ j with
      | some _ => if i = j then stuck else bnd (ev Φ e ρ) fun d => lft ((lstAt ρ i).bind fun l => (lstAt ρ j).bind fun m => popL l m d ρ i j)
      | none => stuck
    | none => (stuck : M (Fl × Env))) t = some (r, t') := h
  cases q : lstAt ρ i with
  | none => rw [q] at h; cases h
  | some l =>
    rw [q] at h
    have h : (match lstAt ρ j with
      | some _ => if i = j then stuck else bnd (ev Φ e ρ) fun d => lft ((lstAt ρ j).bind fun m => popL l m d ρ i j)
      | none => (stuck : M (Fl × Env))) t = some (r, t') := h
    cases q2 : lstAt ρ j with
    | none => rw [q2] at h; cases h
    | some m =>
      rw [q2] at h
      have h : (if i = j then stuck else bnd (ev Φ e ρ) fun d => lft (popL l m d ρ i j)) t = some (r, t') := h
      by_cases hij : i = j
      · rw [if_pos hij] at h; cases h
      · rw [if_neg hij] at h
        have hri := lstAt_eq q
        have hrj := lstAt_eq q2
        obtain ⟨a, vs, h1, h2, rl⟩ := own_lst R hri
        obtain ⟨b, ws, g1, g2, rm⟩ := own_lst R hrj
        refine ⟨.ref a, h1, .inl ⟨rfl, vs, .inl (.inl h2)⟩, ?_⟩
        refine ⟨.ref b, g1, .inl ⟨rfl, ws, .inl (.inl g2)⟩, ?_⟩
        refine S_T R h o fun d t1 v H1 F1 h3 R1 s1 o1 out1 => ?_
        obtain ⟨res, e1, rfl, rfl⟩ := lft_some' h3
        unfold popL at e1
        cases d <;> first | (cases e1; done) | skip
        rename_i n
        obtain ⟨hc, e1⟩ := if_some (show (if (inR n && decide (l.length < lim)) = true then (ixOf m.length n).bind fun q => m[q]?.map fun x => (Fl.nx, setV (setV ρ j (.lst (m.eraseIdx q)) true) i (.lst (l ++ [x])) true) else none) = some res from e1)
        obtain ⟨q, hq, e1⟩ := Option.bind_eq_some_iff.mp e1
        obtain ⟨x, hx, rfl⟩ := Option.map_eq_some_iff.mp e1
        obtain ⟨c1, c2⟩ := Bool.and_eq_true_iff.mp hc
        have c1 := of_decide_eq_true (show decide (-(2 ^ 62) ≤ n ∧ n < 2 ^ 62) = true from c1)
        obtain ⟨a', vs', h1', h2', rl'⟩ := own_lst R1 hri
        obtain ⟨b', ws', g1', g2', rm'⟩ := own_lst R1 hrj
        rw [h1] at h1'
        cases h1'
        rw [g1] at g1'
        cases g1'
        have hab : a ≠ b := fun z => hij (R1.sep i j _ _ a hri hrj h1 (by rw [z]; exact g1))
        cases (show v = V.int n from o1.rep hb)
        obtain ⟨w, hw, rw'⟩ := rm'.get hx
        refine ⟨b, ws', n, q, w, rfl, rfl, g2', by omega, by omega, by rw [seq_ix, rm'.length]; exact hq, hw, ?_⟩
        refine ⟨a, vs', w, rfl, rfl, by rw [upd_ne hab]; exact h2', by rw [rl'.length]; exact of_decide_eq_true c2, ?_⟩
        have R2 := R1.updOwn (d' := .lst (m.eraseIdx q)) (u := .lst (ws'.eraseIdx q)) hrj g1 ⟨_, rfl, rm'.erase q⟩
        have hri2 : (setV ρ j (.lst (m.eraseIdx q)) true)[i]? = some (some (.lst l, true)) := by
          unfold setV
          rw [List.getElem?_set_ne (Ne.symm hij)]
          exact hri
        exact out1 _ _ F1 (R2.updOwn hri2 h1 ⟨_, rfl, rl'.append ⟨w, [], rfl, rw', rfl⟩⟩) .refl
theorem s_put {i : Nat} (ha : isBor a = false) (hb : isBor b = false) (h : TSt Φ k E fu (.put i a b) D σ H) : tAsg (T Φ k E b) (gSub (tVar i) (T Φ k E a) (rPut k)) D σ H := by
  obtain ⟨c, ρ, t, F, rfl, R, r, t', h, o⟩ := h
  have h : (match dctAt ρ i with
    | some kvs => bnd (ev Φ b ρ) fun y => bnd (ev Φ a ρ) fun x => if keyOk kvs x && decide (kvs.length < lim) then ret (Fl.nx, setV ρ i (.dct (dput kvs x y)) true) else (stuck : M (Fl × Env))
    | none => match lstAt ρ i with
      | some l => bnd (ev Φ b ρ) fun y => bnd (ev Φ a ρ) fun x => lft (putL l x y ρ i)
      | none => if isTapeAt ρ i then bnd (ev Φ b ρ) fun y => bnd (ev Φ a ρ) fun x => tputM ρ x y else stuck) t = some (r, t') := h
  cases q0 : dctAt ρ i with
  | some kvs =>
    rw [q0] at h
    have hr := dctAt_eq q0
    refine S_T R h o fun y t1 yv H1 F1 h1 R1 s1 o1 out1 => ?_
    obtain ⟨p, es, g1, g2, ok, rl⟩ := own_dct R1 hr
    refine ⟨.ref p, g1, ?_⟩
    refine S_T R1 h1 out1 fun x t2 xv H2 F2 h2 R2 s2 o2 out2 => ?_
    by_cases hc : (keyOk kvs x && decide (kvs.length < lim)) = true
    · rw [if_pos hc] at h2
      cases h2
      obtain ⟨c1, c2⟩ := Bool.and_eq_true_iff.mp hc
      obtain ⟨p', es', g1', g2', ok', rl'⟩ := own_dct R2 hr
      rw [g1] at g1'
      cases g1'
      exact .inl ⟨F2, p, es', kvs, x, y, rfl, g2', R2.sub, ok', rl', c1, of_decide_eq_true c2, o2.rep ha, (o1.mono s2).rep hb, fun es2 r2 => out2 _ _ F2 (R2.updOwn hr g1 ⟨es2, rfl, ok'.put c1, r2⟩) .refl⟩
    · rw [if_neg hc] at h2
      cases h2
  | none =>
    rw [q0] at h
    have h : (match lstAt ρ i with
      | some l => bnd (ev Φ b ρ) fun y => bnd (ev Φ a ρ) fun x => lft (putL l x y ρ i)
      | none => if isTapeAt ρ i = true then bnd (ev Φ b ρ) fun y => bnd (ev Φ a ρ) fun x => tputM ρ x y else (stuck : M (Fl × Env))) t = some (r, t') := h
    cases q1 : lstAt ρ i with
    | none =>
      rw [q1] at h
      have qq := if_ne (show (if isTapeAt ρ i = true then bnd (ev Φ b ρ) fun y => bnd (ev Φ a ρ) fun x => tputM ρ x y else (stuck : M (Fl × Env))) t = some (r, t') from h)
      clear h
      obtain ⟨hi, h⟩ := qq
      have hr := tape_at hi
      refine S_T R h o fun y t1 yv H1 F1 h1 R1 s1 o1 out1 => ?_
      obtain ⟨v0, g1, g2⟩ := R1.frz i _ hr
      obtain ⟨on, g2⟩ := g2
      cases (show v0 = V.ref c.k.tp from g2)
      refine ⟨.ref c.k.tp, g1, ?_⟩
      refine S_T R1 h1 out1 fun x t2 xv H2 F2 h2 R2 s2 o2 out2 => ?_
      cases x <;> first | (exact nomatch (show none = some (r, t') from h2)) | skip
      cases y <;> first | (exact nomatch (show none = some (r, t') from h2)) | skip
      · rename_i sx n
        obtain ⟨t3, e3, e4⟩ := Option.map_eq_some_iff.mp (show (tput t2 sx n).map (fun t2 => (Res.ok (Fl.nx, ρ), t2)) = some (r, t') from h2)
        cases e4
        have z1 := o2.rep ha
        have z2 := (o1.mono s2).rep hb
        cases (show xv = V.str sx from z1)
        cases (show yv = V.int n from z2)
        have T2 := R2.tape.put e3
        exact .inr (.inr ⟨F2, t2, sx, n, t', on, rfl, rfl, rfl, R2.tape, e3, out2 _ _ F2 (R2.taped T2 fun a n => upd_ne fun e => n ⟨on, .inl e⟩) .refl⟩)
    | some l =>
    rw [q1] at h
    have hr := lstAt_eq q1
    refine S_T R h o fun y t1 yv H1 F1 h1 R1 s1 o1 out1 => ?_
    obtain ⟨p, vs, g1, g2, rl⟩ := own_lst R1 hr
    refine ⟨.ref p, g1, ?_⟩
    refine S_T R1 h1 out1 fun x t2 xv H2 F2 h2 R2 s2 o2 out2 => ?_
    obtain ⟨q, e1, rfl, rfl⟩ := lft_some' h2
    unfold putL at e1
    cases x <;> first | (cases e1; done) | skip
    rename_i j
    obtain ⟨n, e2, rfl⟩ := Option.map_eq_some_iff.mp e1
    obtain ⟨p', vs', g1', g2', rl'⟩ := own_lst R2 hr
    rw [g1] at g1'
    cases g1'
    have z := o2.rep ha
    cases z
    exact .inr (.inl ⟨p, vs', j, n, rfl, rfl, g2', by rw [rl'.length, ← ixOf_ixN]; exact e2, out2 _ _ F2 (R2.updOwn hr g1 ⟨_, rfl, rl'.set ((o1.mono s2).rep hb) n⟩) .refl⟩)
theorem s_aug {i : Nat} {op : Bop} {f : Int → Int → Int} (hb : isBor e = false) (hf : ∀ x y z, augS op x y = some z → ∃ i j, x = .int i ∧ y = .int j ∧ z = .int (f i j)) (h : TSt Φ k E fu (.aug i op e) D σ H) : tAug i (T Φ k E e) (ipI f) D σ H := by
  obtain ⟨c, ρ, t, F, rfl, R, r, t', h, o⟩ := h
  have h : bnd (lft (getV ρ i)) (fun x => bnd (ev Φ e ρ) fun y => bnd (lft (augS op x y)) fun z => ret (Fl.nx, setV ρ i z false)) t = some (r, t') := h
  cases q : getV ρ i with
  | none => rw [q] at h; cases h
  | some x =>
    rw [q] at h
    have h : bnd (ev Φ e ρ) (fun y => bnd (lft (augS op x y)) fun z => ret (Fl.nx, setV ρ i z false)) t = some (r, t') := h
    have hx : ρ[i]? = some (some (x, false)) := by
      unfold getV at q
      split at q
      · cases q; assumption
      · cases q
    obtain ⟨xv, h1, h2⟩ := R.frz i x hx
    refine ⟨xv, h1, ?_⟩
    refine S_T R h o fun y t1 v H1 F1 h3 R1 s1 o1 out1 => ?_
    cases q2 : augS op x y with
    | none => rw [q2] at h3; cases h3
    | some z =>
      rw [q2] at h3
      cases h3
      obtain ⟨m, j, rfl, rfl, rfl⟩ := hf _ _ _ q2
      have z1 := o1.rep hb
      cases z1
      cases h2
      exact ⟨m, j, rfl, rfl, out1 _ _ F1 (R1.set rfl) .refl⟩
/-! two names -/
theorem mode {o : Bool} {e : Ex} {x : VS.D} (h : (!o || (frs e && isMut x)) = true) (ho : o = true) : isMut x = true := by
  rw [ho] at h
  exact (Bool.and_eq_true_iff.mp h).2
theorem OutS.toP {p : Addr} {u : HO} {hn : ¬ onTape c.k p} (hP : ¬ c.P p) (o : OutS E c F t' D r) : OutS E (addP c p u hn) F t' ⟨fun _ _ => True, fun _ _ => True, fun _ _ => True, fun _ _ => True⟩ r := by
  cases r with
  | ok p => obtain ⟨fl, ρ⟩ := p; exact fun σ' H' F' R _ => by cases fl <;> first | exact trivial | exact fun _ _ => trivial
  | ex n l => exact fun ρ' σ' H' F' dx R s x => o ρ' σ' H' F' dx (R.dropP hP).1 s x
/-- the reading of one of a pair -/
def TPm (Φ : Nat → List VS.D → M VS.D) (k : Kx) (E : XK) (o : Bool) (e : Ex) : TE := if o then Tn Φ k E e else T Φ k E e
/-- the second of a pair, of either kind, from a context c' of c's kind -/
theorem par_2 {c' : Ct} {D' : Ends} {i j : Nat} {oi oj : Bool} {x : VS.D} {v : V} (hb : isBor b = false) (R : Rel c' ρ t σ H F) (h : bnd (ev Φ b ρ) (fun y => if (!oj || (frs b && isMut y)) = true then ret (Fl.nx, setV (setV ρ i x oi) j y oj) else (stuck : M (Fl × Env))) t = some (r, t')) (o' : OutS E c' F t' D' r) (o : OutS E c F t' D r) (hk : c'.k = c.k)
    (st : ∀ t1 H1 F1, Rel c' ρ t1 σ H1 F1 → Sub F F1 → Rel c (setV ρ i x oi) t1 (σ.set i (some v)) H1 F1) :
    tCons (TPm Φ c'.k E oj b) tNil σ H fun xs H3 => ∃ w z, v :: xs = [w, z] ∧ D.nx ((σ.set i (some w)).set j (some z)) H3 := by
  unfold TPm
  cases oj with
  | false =>
    refine S_T R h o' fun y t2 u H2 F2 h2 R2 s2 o2 out2 => ?_
    obtain ⟨_, h3⟩ := if_ne h2
    cases h3
    have R3 := st _ _ _ R2 s2
    refine ⟨v, u, rfl, o _ _ F2 (R3.set ?_) s2⟩
    rw [← hk]
    exact o2.rep hb
  | true =>
    refine S_Tn R h o' (fun d t1 z => mode (if_ne z).1 rfl) fun y t2 H2 F2 p u h2 R2 s2 hp ho out2 => ?_
    obtain ⟨_, h3⟩ := if_ne h2
    cases h3
    have R3 := st _ _ _ R2 s2
    have R4 := R3.ext (ext_loose (o := u) R3.sub hp) .refl
    refine ⟨v, .ref p, rfl, o _ _ F2 (R4.setOwn upd_same (R3.sub.none hp) ?_ (R3.noP hp) (R3.noTape hp) fun m e _ hm => R3.apart hp m e hm) s2⟩
    rw [← hk]
    exact ho
theorem s_par {i j : Nat} {oi oj : Bool} (ha : isBor a = false) (hb : isBor b = false) (h : TSt Φ k E fu (.par i j oi oj a b) D σ H) : tPar i j (tCons (TPm Φ k E oi a) (tCons (TPm Φ k E oj b) tNil)) D σ H := by
  obtain ⟨c, ρ, t, F, rfl, R, r, t', h, o⟩ := h
  cases oi with
  | false =>
    refine S_T R h o fun x t1 v H1 F1 h1 R1 s1 o1 out1 => ?_
    obtain ⟨_, h2⟩ := if_ne h1
    exact par_2 hb R1 h2 out1 out1 rfl fun t2 H2 F2 R2 s2 => R2.set ((o1.rep ha).mono s2)
  | true =>
    refine S_Tn R h o (fun d t1 z => mode (if_ne z).1 rfl) fun x t1 H1 F1 p u h1 R1 s1 hp ho out1 => ?_
    obtain ⟨_, h2⟩ := if_ne h1
    have hP := R1.noP hp
    have hn := R1.noTape hp
    have R2 := (R1.ext (ext_loose (o := u) R1.sub hp) .refl).addP (hn := hn) upd_same (R1.sub.none hp) hP (R1.apart hp)
    exact par_2 (c := c) (c' := addP c p u hn) hb R2 h2 (out1.toP hP) out1 rfl fun t2 H2 F2 R3 s3 => by
      obtain ⟨R4, h4, f4, a4⟩ := R3.dropP hP
      exact R4.setOwn h4 f4 (ho.mono s3) hP hn fun m e _ hm => a4 m e hm
end
end VS
end
section
set_option Elab.async false
set_option linter.all false
set_option maxRecDepth 100000
set_option maxHeartbeats 8000000
set_option autoImplicit false
/-! V4r: loops; raise. -/
namespace VS
open PySem PySem.Spec PyProof.Rows L2

section
variable {Φ : Nat → List D → M D} {k : Kx} {E : XK} {fu : Nat} {c : Ct} {ρ : Env} {t t' : Tape} {σ : L2.St} {H H' F : Hp} {D : Ends} {d : VS.D} {v : V} {e a b : Ex} {es : List Ex} {r : Res (Fl × Env)}
theorem S_It {it : It} {f : List VS.D → M (Fl × Env)} {K : L2.It → Hp → Prop} (R : Rel c ρ t σ H F) (hn : noOwn ρ (brI it)) (h : bnd (evI Φ it ρ) f t = some (r, t')) (o : OutS E c F t' D r)
    (g : ∀ ds t1 J H1 F1, f ds t1 = some (r, t') → Rel c ρ t1 σ H1 F1 → Sub F F1 → OutS E c F1 t' D r → (∀ X, okX c H1 X → Walks c.k true (itW it) X H1 F1 ds J) → K J H1) : TIt Φ c.k E true it σ H K :=
  TIt_bind R (fun _ => hn) h (o.to ρ σ H) fun ds t1 J H1 F1 h1 R1 s1 _ _ hJ => g ds t1 J H1 F1 h1 R1 s1 (o.sub s1) hJ
theorem s_for {tg : Tg} {it : It} {b : List Stm} (h : TSt Φ k E fu (.for tg it b) D σ H) : tFor (TIt Φ k E true it) (GT k tg) (TSs' Φ k E fu b) D σ H := by
  obtain ⟨c, ρ, t, F, rfl, R, r, t', h, o⟩ := h
  have h : (if (okIt it tg && (brI it).all fun i => match ρ[i]? with | some (some (_, true)) => false | _ => true) = true then bnd (evI Φ it ρ) fun l => forL (fun d ρ => bnd (lft (setT tg d ρ)) fun ρ' => execs Φ fu b ρ') l ρ else stuck) t = some (r, t') := h
  obtain ⟨hno, h⟩ := if_ne h
  obtain ⟨hok, hno⟩ := Bool.and_eq_true_iff.mp hno
  have hn : noOwn ρ (brI it) := fun i m d e => by
    have := List.all_eq_true.mp hno i m
    rw [e] at this
    cases this
  refine S_It R hn h o fun items t1 J H1 F1 h1 R1 s1 out1 hJ => ?_
  have W := hJ (fun _ => False) fun _ z => z.elim
  refine ⟨fun i m σ H => m = items.length - i ∧ i ≤ items.length ∧ ∃ ρ t F, Rel c ρ t σ H F ∧ Sub F1 F ∧ forL (fun d ρ => bnd (lft (setT tg d ρ)) fun ρ' => execs Φ fu b ρ') (items.drop i) ρ t = some (r, t'), ⟨items.length, by simp, Nat.zero_le _, ρ, t1, F1, R1, .refl, by simpa using h1⟩, ?_⟩
  rintro i m σ2 H2 ⟨rfl, hi, ρ2, t2, F2, R2, s2, hf⟩
  have w := W i H2 F2 ⟨s2, R2.sub, fun z => nomatch z⟩
  by_cases hlt : i < items.length
  · have hd : items.drop i = items[i] :: items.drop (i + 1) := List.drop_eq_getElem_cons hlt
    rw [hd] at hf
    have hf : bnd (bnd (lft (setT tg items[i] ρ2)) fun ρ' => execs Φ fu b ρ') (fun r => match r.1 with
      | .nx => forL (fun d ρ => bnd (lft (setT tg d ρ)) fun ρ' => execs Φ fu b ρ') (items.drop (i + 1)) r.2
      | .ct => forL (fun d ρ => bnd (lft (setT tg d ρ)) fun ρ' => execs Φ fu b ρ') (items.drop (i + 1)) r.2
      | .bk => ret (.nx, r.2)
      | .rt d => ret (.rt d, r.2)) t2 = some (r, t') := hf
    rw [bnd_bnd] at hf
    obtain ⟨go, yl⟩ := w.2 items[i] (by simp [hlt])
    refine .inr ⟨go, fun σ' H' => ∃ ρ t F, Rel c ρ t σ' H' F ∧ Sub F1 F ∧ forL (fun d ρ => bnd (lft (setT tg d ρ)) fun ρ' => execs Φ fu b ρ') (items.drop (i + 1)) ρ t = some (r, t'), fun σ' H' n => ⟨items.length - (i + 1), by omega, rfl, hlt, n⟩, fun x H' y => ?_⟩
    obtain ⟨F3, R3, s3, rx⟩ := NewW.frz R2 (yl x H' y)
    cases q : setT tg items[i] ρ2 with
    | none => rw [q] at hf; cases hf
    | some ρ3 =>
      rw [q] at hf
      refine ⟨c, ρ2, t2, F3, items[i], ρ3, rfl, R3, rx.to (okIt_of hok), q, fun σ3 R4 _ => ?_⟩
      have hf : bnd (execs Φ fu b ρ3) (fun r => match r.1 with
        | .nx => forL (fun d ρ => bnd (lft (setT tg d ρ)) fun ρ' => execs Φ fu b ρ') (items.drop (i + 1)) r.2
        | .ct => forL (fun d ρ => bnd (lft (setT tg d ρ)) fun ρ' => execs Φ fu b ρ') (items.drop (i + 1)) r.2
        | .bk => ret (.nx, r.2)
        | .rt d => ret (.rt d, r.2)) t2 = some (r, t') := hf
      unfold bnd at hf
      cases q2 : execs Φ fu b ρ3 t2 with
      | none => rw [q2] at hf; cases hf
      | some p =>
        obtain ⟨x2, t4⟩ := p
        rw [q2] at hf
        have s13 : Sub F1 F3 := s2.trans s3
        cases x2 with
        | ex n l =>
          cases hf
          exact ⟨c, ρ3, t2, F3, rfl, R4, .ex n l, t', q2, out1.sub s13⟩
        | ok p =>
          obtain ⟨fl, ρ5⟩ := p
          refine ⟨c, ρ3, t2, F3, rfl, R4, .ok (fl, ρ5), t4, q2, fun σ5 H5 F5 R5 s5 => ?_⟩
          cases fl with
          | nx => exact ⟨ρ5, t4, F5, R5, s13.trans s5, hf⟩
          | ct => exact ⟨ρ5, t4, F5, R5, s13.trans s5, hf⟩
          | bk => cases hf; exact out1 σ5 H5 F5 R5 (s13.trans s5)
          | rt d => cases hf; exact out1 σ5 H5 F5 R5 (s13.trans s5)
  · have e : i = items.length := by omega
    subst e
    rw [List.drop_length] at hf
    cases hf
    exact .inl ⟨w.1 (Nat.le_refl _), out1 σ2 H2 F2 R2 s2⟩
theorem s_while {b : List Stm} (h : TSt Φ k E fu (.while e b) D σ H) : tWhile (TT' Φ k E e) (TSs' Φ k E fu b) D σ H := by
  obtain ⟨c, ρ, t, F, rfl, R, r, t', h, o⟩ := h
  refine ⟨fun m σ H => ∃ ρ t F1, Rel c ρ t σ H F1 ∧ Sub F F1 ∧ whileL (fun ρ => bnd (ev Φ e ρ) fun x => lft (truth x)) (fun ρ => execs Φ fu b ρ) m ρ t = some (r, t'), ⟨fu, ρ, t, F, R, .refl, h⟩, ?_⟩
  rintro m σ2 H2 ⟨ρ2, t2, F2, R2, s2, hw⟩
  cases m with
  | zero => cases hw
  | succ m =>
    have hw : bnd (bnd (ev Φ e ρ2) fun x => lft (truth x)) (fun k => if k = true then bnd (execs Φ fu b ρ2) fun r => match r.1 with
        | .nx => whileL (fun ρ => bnd (ev Φ e ρ) fun x => lft (truth x)) (fun ρ => execs Φ fu b ρ) m r.2
        | .ct => whileL (fun ρ => bnd (ev Φ e ρ) fun x => lft (truth x)) (fun ρ => execs Φ fu b ρ) m r.2
        | .bk => ret (.nx, r.2)
        | .rt d => ret (.rt d, r.2) else ret (.nx, ρ2)) t2 = some (r, t') := hw
    rw [bnd_bnd] at hw
    refine S_TT R2 hw (o.sub s2) fun y t3 H3 F3 h3 R3 s3 out3 => ?_
    cases y with
    | false =>
      rw [if_neg Bool.false_ne_true] at h3
      cases h3
      exact out3 σ2 H3 F3 R3 .refl
    | true =>
      rw [if_pos rfl] at h3
      refine ⟨fun σ' H' => ∃ ρ t F1, Rel c ρ t σ' H' F1 ∧ Sub F F1 ∧ whileL (fun ρ => bnd (ev Φ e ρ) fun x => lft (truth x)) (fun ρ => execs Φ fu b ρ) m ρ t = some (r, t'), fun σ' H' n => ⟨m, Nat.lt_succ_self m, n⟩, ?_⟩
      unfold bnd at h3
      cases q2 : execs Φ fu b ρ2 t3 with
      | none => rw [q2] at h3; cases h3
      | some p =>
        obtain ⟨x2, t4⟩ := p
        rw [q2] at h3
        cases x2 with
        | ex n l =>
          cases h3
          exact ⟨c, ρ2, t3, F3, rfl, R3, .ex n l, t', q2, out3⟩
        | ok p =>
          obtain ⟨fl, ρ5⟩ := p
          refine ⟨c, ρ2, t3, F3, rfl, R3, .ok (fl, ρ5), t4, q2, fun σ5 H5 F5 R5 s5 => ?_⟩
          cases fl with
          | nx => exact ⟨ρ5, t4, F5, R5, (s2.trans s3).trans s5, h3⟩
          | ct => exact ⟨ρ5, t4, F5, R5, (s2.trans s3).trans s5, h3⟩
          | bk => cases h3; exact out3 σ5 H5 F5 R5 s5
          | rt d => cases h3; exact out3 σ5 H5 F5 R5 s5
/-! raise -/
theorem s_raise0 {m : Nat} (h : TSt Φ k E fu (.raise m []) D σ H) : E (.ref (k.ec m)) none H := by
  obtain ⟨c, ρ, t, F, rfl, R, r, t', h, o⟩ := h
  cases h
  exact o ρ σ H F none R .refl rfl
theorem s_raise1 {m : Nat} (hb : isBor e = false) (h : TSt Φ k E fu (.raise m [e]) D σ H) : T Φ k E e σ H fun v H1 => ∀ dd, H1 dd = none → E (.ref (k.ec m)) (some dd) (upd H1 dd (.xd [(xfld m, v)])) := by
  obtain ⟨c, ρ, t, F, rfl, R, r, t', h, o⟩ := h
  have h : bnd (bnd (ev Φ e ρ) fun d => bnd (ret []) fun ds => ret (d :: ds)) (fun ds => rse m ds) t = some (r, t') := h
  rw [bnd_bnd] at h
  refine S_T R h o fun d t1 v H1 F1 h1 R1 s1 o1 out1 => fun dd hd => ?_
  cases h1
  exact out1 ρ σ _ F1 (some dd) (R1.ext (ext_loose R1.sub hd) .refl) .refl ⟨dd, v, rfl, upd_same, o1.rep hb⟩
end
end VS
end
section
set_option Elab.async false
set_option linter.all false
set_option maxRecDepth 100000
set_option maxHeartbeats 8000000
set_option autoImplicit false
/-! V4s: what the translation says of a statement is so. -/
namespace VS
open PySem PySem.Spec PyProof.Rows L2

section
variable {Φ : Nat → List D → M D} {k : Kx} {mg : Str → Option Value} {base : Heap} {lv : Nat} {se : SE} {n fu : Nat} {X : Cx} {E : XK}
theorem ps_frz {st : Stmt} {ow l : List Nat} {s : Stm} (h : PS X st (TSt Φ k E fu s)) : PS X st (TSt Φ k E fu (frzS ow l s)) := by
  unfold frzS
  split
  · exact h
  · exact h.weak fun D σ H z => s_frz z
theorem bk_of (hk : X.env.scope.kind = .function) : X.env.blockKind = .function := by unfold Env.blockKind; rw [hk]; rfl
theorem kind_beq {o : Option NameKind} : (o == some NameKind.local) = decide (o = some .local) := by
  cases o with
  | none => rfl
  | some q => cases q <;> rfl
theorem sw_comp {elt : Expr} {gs : List Comprehension} {scope : Scope} {pos py : Pos} {y : Str} {l : Nat} (S : Sx k mg base lv se X E) : swapsWith (.ListComp elt gs scope pos) (some (.Name y py)) l X.env = pure (swaps se (.ListComp elt gs scope pos) y py) := by
  unfold swapsWith swaps compScope isLoc
  simp only [bk_of S.kind]
  have e : X.env.kindOf y = se.sc.names.lookup y := by show X.env.scope.names.lookup y = _; rw [S.sc]
  rw [e, kind_beq]
  rfl
theorem sw_none {e : Expr} {x : Str} {px : Pos} {l : Nat} {env : PySem.Env} (h : compScope e = none) : swapsWith e (some (.Name x px)) l env = pure false := by
  cases e <;> first | rfl | cases h
theorem sw_other {e tg : Expr} {l : Nat} {env : PySem.Env} (h : ∀ x p, tg ≠ .Name x p) : swapsWith e (some tg) l env = pure false := by
  cases e <;> first | rfl | (cases tg <;> first | rfl | exact absurd rfl (h _ _))
theorem ss_none {ts : List Expr} {kk : Nat} {p : Pos} {e : Expr} {env : PySem.Env} (h : ∀ vs k2 p2, e ≠ .Tuple vs k2 p2) : swappedStores [.Tuple ts kk p] e env = pure none := by
  cases e <;> first | rfl | exact absurd rfl (h _ _ _)
theorem comp_tr {e : Expr} {ir : Ex} (h : tr n se e = some ir) : compScope e = none ∨ ∃ elt gs sc p, e = .ListComp elt gs sc p := by
  cases n with
  | zero => exact nomatch (show none = some ir from h)
  | succ n =>
    cases e <;> first | exact .inl rfl | exact .inr ⟨_, _, _, _, rfl⟩ | exact nomatch (show none = some ir from h)
theorem ix_plain {e : Expr} {ir : Ex} (h : tr n se e = some ir) {o : Expr} {pos : Pos} {env : PySem.Env} : ∀ v, assign (.Subscript o e pos) env v = (do
      let ov ← holding [v] (eval o env)
      let iv ← holding [v, ov] (eval e env)
      standAt pos
      holding [v, ov, iv] (setItem ov iv v)
      release [v, ov, iv] []) := by
  cases n with
  | zero => exact nomatch (show none = some ir from h)
  | succ n =>
    cases e <;> first | (intro v; rfl) | exact nomatch (show none = some ir from h)
theorem few1 {e : Expr} {cpos : Pos} {env : PySem.Env} (h : isStar e = false) : ((backTo cpos (starEach [e] env)).all (fun x => !x.1) && (backToKw cpos (keywordEach [] env)).all (fun x => x.1.isSome)
      && decide ([e].length + ([] : List Keyword).length + (if ([] : List Keyword).isEmpty then 0 else 1) < 30)) = true := by
  rw [starEach_cons h]
  rfl
/-- x = e -/
theorem set_ok (S : Sx k mg base lv se X E) (h : OkN Φ k mg base lv (n + 1)) (hn : OkN Φ k mg base lv n) (g : GS Φ k mg base lv se) {x : Str} {px pos : Pos} {e : Expr} {i : Nat} {ir : Ex} (hl : se.loc x = some i) (he : tr (n + 1) se e = some ir) : PS X (.Assign [.Name x px] e pos) (tAsg (T Φ k E ir) (gName i)) ∧ (frs ir = true → PS X (.Assign [.Name x px] e pos) (tAsg (Tn Φ k E ir) (gName i))) := by
  obtain ⟨l1, l2, l3, _⟩ := loc_of S hl
  obtain ⟨a1, a2, a3⟩ := h.e se e ir he g
  obtain ⟨p1, p2, p3⟩ := a3 X E S
  rcases comp_tr he with hc | ⟨elt, gs, sc, p, rfl⟩
  · exact ⟨ps_set S.nod l1 l2 p1 (sw_none hc) l3, fun z => ps_set S.nod l1 l2 (p3 z) (sw_none hc) l3⟩
  · have sw := sw_comp (elt := elt) (gs := gs) (scope := sc) (pos := p) (py := px) (y := x) (l := pos.line) S
    cases hs : swaps se (.ListComp elt gs sc p) x px with
    | false =>
      rw [hs] at sw
      exact ⟨ps_set S.nod l1 l2 p1 sw l3, fun z => ps_set S.nod l1 l2 (p3 z) sw l3⟩
    | true =>
      rw [hs] at sw
      have hyl : X.env.scope.names.lookup x = some .local := by
        unfold swaps at hs
        have hs : (isLoc se x && px.line == p.line && !(sc.names.any fun (n, k) => n == x && (k == .local || k == .cell))) = true := hs
        rw [Bool.and_eq_true, Bool.and_eq_true] at hs
        rw [S.sc]
        exact of_decide_eq_true hs.1.1
      have q := (hn.lc se elt gs sc ir p (show trLc n se elt gs sc = some ir from he) g).2 X E S i x px pos l1 hyl sw
      exact ⟨q.1, fun _ => q.2⟩
/-- a context of a def's body -/
structure SxS (k : Kx) (mg : Str → Option Value) (base : Heap) (lv : Nat) (se : SE) (X : Cx) (E : XK) : Prop extends Sx k mg base lv se X E where
  own : PassesOwn (model X.prog X.w) X.A X.env X.xe
theorem aug_ok {o : Operator} {b : Bop} (h : augOp o = some b) : ∃ f : Int → Int → Int, PIp X o (ipI f) ∧ ∀ x y z, augS b x y = some z → ∃ i j, x = .int i ∧ y = .int j ∧ z = .int (f i j) := by
  cases o <;> first | (cases h; done) | skip
  · cases h
    refine ⟨_, ip_add, fun x y z e => ?_⟩
    cases x <;> first | (cases e; done) | skip
    cases y <;> first | (cases e; done) | skip
    cases e
    exact ⟨_, _, rfl, rfl, rfl⟩
  · cases h
    refine ⟨_, ip_sub, fun x y z e => ?_⟩
    cases x <;> first | (cases e; done) | skip
    cases y <;> first | (cases e; done) | skip
    cases e
    exact ⟨_, _, rfl, rfl, rfl⟩
theorem dups2 {x y : Str} (h : x ≠ y) : [x, y].eraseDups = [x, y] := by
  rw [List.eraseDups_cons]
  have e : [y].filter (fun b => !b == x) = [y] := by
    rw [List.filter_cons]
    have : (y == x) = false := by
      apply Bool.eq_false_iff.mpr
      intro z
      exact h (beq_iff_eq.mp z).symm
    rw [this]
    rfl
  rw [e]
  rfl
theorem par_ss (S : Sx k mg base lv se X E) {x y : Str} {px py pt p2 : Pos} {kt k2 : Nat} {a b : Expr} (h : parOk se [.Name x px, .Name y py] [a, b] = true) :
    swappedStores [.Tuple [.Name x px, .Name y py] kt pt] (.Tuple [a, b] k2 p2) X.env = pure (some [x, y]) ∧ X.env.scope.names.lookup x = some .local ∧ X.env.scope.names.lookup y = some .local ∧ x ≠ y := by
  unfold parOk at h
  simp only [Bool.and_eq_true, Bool.not_eq_true'] at h
  obtain ⟨⟨⟨h1, ⟨⟨h2, h3⟩, h4⟩, h5⟩, h6⟩, h7⟩ := h
  have lx : X.env.scope.names.lookup x = some .local := by rw [S.sc]; exact of_decide_eq_true h2
  have ly : X.env.scope.names.lookup y = some .local := by rw [S.sc]; exact of_decide_eq_true h3
  have kx : X.env.kindOf x = some .local := lx
  have ky : X.env.kindOf y = some .local := ly
  have ne : x ≠ y := fun e => by rw [e, beq_self_eq_true] at h5; cases h5
  refine ⟨?_, lx, ly, ne⟩
  have h1' : ∀ f : Expr → Bool, (∀ e, isStar e = false → f e = false) → [a, b].any f = false := fun f hf => by
    have h1 : (isStar a || (isStar b || false)) = false := h1
    rw [Bool.or_eq_false_iff, Bool.or_false] at h1
    show (f a || (f b || false)) = false
    rw [hf a h1.1, hf b h1.2]
    rfl
  unfold swappedStores
  simp only [bk_of S.kind, List.filterMap_cons, List.filterMap_nil, kx, ky, List.head?_cons, Option.map_some, Option.getD_some, Expr.pos]
  have hx : (some NameKind.local == some NameKind.local && px.line == px.line) = true := by rw [show (some NameKind.local == some NameKind.local) = true from rfl, beq_self_eq_true]; rfl
  have hy : (some NameKind.local == some NameKind.local && py.line == px.line) = true := by rw [h4]; rfl
  rw [if_pos hx, if_pos hy]
  have c1 : (!([Expr.Name x px, Expr.Name y py].length == 2 || [Expr.Name x px, Expr.Name y py].length == 3) || [a, b].length != [Expr.Name x px, Expr.Name y py].length || (ScopeKind.function != ScopeKind.function)) = false := by rfl
  have c2 : ([x, y].length != [Expr.Name x px, Expr.Name y py].length || [x, y].eraseDups.length != [x, y].length) = false := by rw [dups2 ne]; rfl
  rw [if_neg (by rw [c1]; exact Bool.false_ne_true), if_neg (fun z => by rw [h1' _ (fun e he => by cases e <;> first | rfl | cases he)] at z; cases z), if_neg (by rw [c2]; exact Bool.false_ne_true), if_neg (by rw [h6]; exact Bool.false_ne_true), if_neg (by rw [h7]; exact Bool.false_ne_true)]
theorem ite2 {α : Type} {c : Prop} [Decidable c] {w z : α} : (if c then w else if true = true then w else z) = w := by
  by_cases h : c
  · rw [if_pos h]
  · rw [if_neg h]; rfl
theorem seq_ss (S : Sx k mg base lv se X E) {x y : Str} {px py pt p2 : Pos} {kt k2 : Nat} {a b : Expr} (h : seqOk se [.Name x px, .Name y py] [a, b] = true) :
    swappedStores [.Tuple [.Name x px, .Name y py] kt pt] (.Tuple [a, b] k2 p2) X.env = pure none := by
  have ex : (X.env.kindOf x == some NameKind.local) = isLoc se x := by
    rw [kind_beq]; unfold isLoc; rw [← S.sc]; rfl
  have ey : (X.env.kindOf y == some NameKind.local) = isLoc se y := by
    rw [kind_beq]; unfold isLoc; rw [← S.sc]; rfl
  unfold swappedStores
  simp only [bk_of S.kind, List.filterMap_cons, List.filterMap_nil, List.head?_cons, Option.map_some, Option.getD_some, Expr.pos, ex, ey]
  have c1 : (!([Expr.Name x px, Expr.Name y py].length == 2 || [Expr.Name x px, Expr.Name y py].length == 3) || [a, b].length != [Expr.Name x px, Expr.Name y py].length || (ScopeKind.function != ScopeKind.function)) = false := by rfl
  rw [if_neg (by rw [c1]; exact Bool.false_ne_true)]
  split
  · rfl
  · unfold seqOk at h
    have h : (!(isLoc se x && isLoc se y && (py.line == px.line)) || [a, b].all (foldedForSure 8)) = true := h
    rw [beq_self_eq_true, Bool.and_true]
    cases hx : isLoc se x <;> cases hy : isLoc se y <;> cases hl : (py.line == px.line) <;> rw [hx, hy, hl] at h
    all_goals first
      | rfl
      | (have h : [a, b].all (foldedForSure 8) = true := h
         rw [h]
         exact ite2)
/-- two names from a display -/
structure OkS (Φ : Nat → List D → M D) (k : Kx) (mg : Str → Option Value) (base : Heap) (lv fu n : Nat) : Prop where
  s : ∀ se st ir, trS n se st = some ir → GS Φ k mg base lv se → ∀ X E, SxS k mg base lv se X E → PS X st (TSt Φ k E fu ir)
  ss : ∀ se st ir, trSs n se st = some ir → GS Φ k mg base lv se → ∀ X E, SxS k mg base lv se X E → PSs X st (TSs' Φ k E fu ir)
theorem st_ss (h : OkS Φ k mg base lv fu n) (g : GS Φ k mg base lv se) : ∀ st ir, trSs (n + 1) se st = some ir → ∀ X E, SxS k mg base lv se X E → PSs X st (TSs' Φ k E fu ir) := fun st ir q X E S => by
  cases st with
  | nil =>
    have q : some [] = some ir := q
    cases q
    exact pss_nil.weak fun D σ H z => s_nil z
  | cons s ss =>
    obtain ⟨i, hi, q⟩ := Option.bind_eq_some_iff.mp (show (trS n se s).bind (fun s => (trSs n se ss).map (s :: ·)) = some ir from q)
    obtain ⟨is, his, e'⟩ := Option.map_eq_some_iff.mp q
    subst e'
    exact (pss_cons (h.s se s i hi g X E S) (h.ss se ss is his g X E S)).weak fun D σ H z => s_cons z
theorem asg_tup (S : SxS k mg base lv se X E) {ts : List Expr} {kk : Nat} {p pos : Pos} {e : Expr} {te : TE} {tg : Tg} (hg : PG X (.Tuple ts kk p) (GT k tg)) (he : PE X e te) (hw : swappedStores [.Tuple ts kk p] e X.env = pure none) : PS X (.Assign [.Tuple ts kk p] e pos) (tAsg te (GT k tg)) :=
  ps_asg he hg (show swapsWith e (some (.Tuple ts kk p)) pos.line X.env = pure false from sw_other (by intro _ _ z; cases z)) hw rfl
theorem pop_ok (HB : ∀ X E, XC k mg base lv X E → BO k X) (S : SxS k mg base lv se X E) (g : GS Φ k mg base lv se) {e e2 : Expr} {i j : Nat} {pos : Pos} {ir : Stm} (hp : trPop se e = some (i, j, e2)) (q : (tr n se e2).map (fun e => frzS se.ow (vr e) (.appPop i j e)) = some ir) : PS X (.Expr e pos) (TSt Φ k E fu ir) := by
  have AE := all_ok (Φ := Φ) HB
  obtain ⟨ie, he, rfl⟩ := Option.map_eq_some_iff.mp q
  unfold trPop at hp
  split at hp
  · obtain ⟨hc, hp⟩ := if_some hp
    obtain ⟨i', hi, hp⟩ := Option.bind_eq_some_iff.mp hp
    obtain ⟨j', hj, hp⟩ := Option.map_eq_some_iff.mp hp
    cases hp
    simp only [Bool.and_eq_true, decide_eq_true_eq, Bool.not_eq_true'] at hc
    obtain ⟨⟨⟨⟨c1, rfl⟩, c3⟩, rfl⟩, c5⟩ := hc
    obtain ⟨h1, h2, h3, h4⟩ := slot_of S.toSx hi
    obtain ⟨g1, g2, g3, g4⟩ := slot_of S.toSx hj
    obtain ⟨a1, a2, a3⟩ := (AE n).e se e2 ie he g
    exact ps_frz ((ps_expr (pe_bm PySem.F.plainAttrs_list PySem.F.slot_list_append PySem.F.type_list_append mt_append (pe_var h1 h2 h3 h4)
      (pa_cons (pe_bm PySem.F.plainAttrs_list PySem.F.slot_list_pop PySem.F.type_list_pop mt_popAt (pe_var g1 g2 g3 g4) (pa_cons (a3 X E S.toSx).1 pa_nil (starEach_cons a1)) rfl (few1 a1) c3 (starEach_cons a1) rfl) pa_nil rfl) rfl rfl c1 rfl rfl)).weak fun D σ H z => s_appPop a2 z)
  · cases hp
theorem ex_ok (HB : ∀ X E, XC k mg base lv X E → BO k X) (S : SxS k mg base lv se X E) (g : GS Φ k mg base lv se) {e : Expr} {pos : Pos} {ir : Stm} (q : trEx n se e = some ir) : PS X (.Expr e pos) (TSt Φ k E fu ir) := by
  have AE := all_ok (Φ := Φ) HB
  unfold trEx at q
  cases hp : trPop se e with
  | some pp =>
    obtain ⟨i, j, e2⟩ := pp
    rw [hp] at q
    exact pop_ok HB S g hp q
  | none =>
  rw [hp] at q
  clear hp
  replace q : trEx1 n se e = some ir := q
  unfold trEx1 at q
  split at q
  · cases q
    exact ps_doc.weak fun D σ H z => s_pass z
  · rename_i x px m qp e p
    have qq := if_some q
    clear q
    obtain ⟨c, q⟩ := qq
    obtain ⟨c1, c2⟩ := Bool.and_eq_true_iff.mp c
    have c2 := of_decide_eq_true c2
    subst c2
    obtain ⟨i, hi, q⟩ := Option.bind_eq_some_iff.mp q
    obtain ⟨ie, he, e'⟩ := Option.map_eq_some_iff.mp q
    subst e'
    obtain ⟨h1, h2, h3, h4⟩ := slot_of S.toSx hi
    obtain ⟨a1, a2, a3⟩ := (AE n).e se e ie he g
    exact ps_frz ((ps_expr (pe_bm PySem.F.plainAttrs_list PySem.F.slot_list_append PySem.F.type_list_append mt_append (pe_var h1 h2 h3 h4) (pa_cons (a3 X E S.toSx).1 pa_nil (starEach_cons a1)) rfl (few1 a1) c1 (starEach_cons a1) rfl)).weak fun D σ H z => s_app a2 z)
  · rename_i x qp args kws p
    obtain ⟨ie, he, e'⟩ := Option.map_eq_some_iff.mp q
    subst e'
    obtain ⟨a1, a2, a3⟩ := (AE n).e se _ ie he g
    exact ps_frz ((ps_expr (a3 X E S.toSx).1).weak fun D σ H z => s_expr z)
  · cases q
theorem as_ok (HB : ∀ X E, XC k mg base lv X E → BO k X) (S : SxS k mg base lv se X E) (g : GS Φ k mg base lv se) {ts : List Expr} {e : Expr} {pos : Pos} {ir : Stm} (q : trAs n se ts e = some ir) : PS X (.Assign ts e pos) (TSt Φ k E fu ir) := by
  have AE := all_ok (Φ := Φ) HB
  unfold trAs at q
  split at q
  · rename_i x px
    obtain ⟨i, hi, q⟩ := Option.bind_eq_some_iff.mp q
    obtain ⟨ie, he, e'⟩ := Option.map_eq_some_iff.mp q
    subst e'
    cases n with
    | zero => exact nomatch (show none = some ie from he)
    | succ n =>
      obtain ⟨p1, p2⟩ := set_ok (px := px) (pos := pos) S.toSx (AE (n + 1)) (AE n) g hi he
      obtain ⟨a1, a2, a3⟩ := (AE (n + 1)).e se e ie he g
      refine ps_frz ?_
      by_cases c : (se.ow.contains i && frs ie) = true
      · rw [if_pos c]
        exact (p2 (Bool.and_eq_true_iff.mp c).2).weak fun D σ H z => s_new z
      · rw [if_neg c]
        exact p1.weak fun D σ H z => s_asg1 a2 z
  · rename_i x px kx tp
    obtain ⟨i, hi, q⟩ := Option.bind_eq_some_iff.mp q
    obtain ⟨iv, hv, q⟩ := Option.bind_eq_some_iff.mp q
    obtain ⟨ik, hk, e'⟩ := Option.map_eq_some_iff.mp q
    subst e'
    obtain ⟨h1, h2, h3, h4⟩ := slot_of S.toSx hi
    obtain ⟨a1, a2, a3⟩ := (AE n).e se e iv hv g
    obtain ⟨b1, b2, b3⟩ := (AE n).e se kx ik hk g
    refine ps_frz ((ps_asg (a3 X E S.toSx).1 (pg_sub (pe_var h1 h2 h3 h4) (b3 X E S.toSx).1 (set_put S.room S.w) (ix_plain hk)) (show swapsWith e (some (.Subscript (.Name x px) kx tp)) pos.line X.env = pure false from sw_other (by intro _ _ z; cases z)) rfl rfl).weak fun D σ H z => s_put b2 a2 z)
  · rename_i x px y py kt pt a b k2 p2
    obtain ⟨i, hi, q⟩ := Option.bind_eq_some_iff.mp q
    obtain ⟨j, hj, q⟩ := Option.bind_eq_some_iff.mp q
    obtain ⟨l1, l2, l3, _⟩ := loc_of S.toSx hi
    obtain ⟨m1, m2, m3, _⟩ := loc_of S.toSx hj
    unfold trPar at q
    by_cases c1 : parOk se [.Name x px, .Name y py] [a, b] = true
    · rw [if_pos c1] at q
      obtain ⟨ia, ha, q⟩ := Option.bind_eq_some_iff.mp q
      obtain ⟨ib, hb, e'⟩ := Option.map_eq_some_iff.mp q
      subst e'
      obtain ⟨a1, a2, a3⟩ := (AE n).e se a ia ha g
      obtain ⟨b1, b2, b3⟩ := (AE n).e se b ib hb g
      obtain ⟨ss, lx, ly, ne⟩ := par_ss (kt := kt) (pt := pt) (k2 := k2) (p2 := p2) S.toSx c1
      have hij : i ≠ j := fun z => ne (by rw [z, m1] at l1; exact (Option.some.inj l1).symm)
      have mode : ∀ {c : Bool} {e : Expr} {ir : Ex}, (PE X e (T Φ k E ir) ∧ PT X e (TT' Φ k E ir) ∧ (frs ir = true → PE X e (Tn Φ k E ir))) → PE X e (TPm Φ k E (c && frs ir) ir) := fun {c e ir} h => by
        unfold TPm
        by_cases z : (c && frs ir) = true
        · rw [if_pos z]; exact h.2.2 (Bool.and_eq_true_iff.mp z).2
        · rw [if_neg z]; exact h.1
      exact ps_frz ((ps_par S.calm S.nod l1 m1 hij lx ly (pa_cons (mode (c := se.ow.contains i) (a3 X E S.toSx)) (pa_cons (mode (c := se.ow.contains j) (b3 X E S.toSx)) pa_nil (starEach_cons b1)) (starEach_cons a1)) ss rfl).weak fun D σ H z => s_par a2 b2 z)
    · rw [if_neg c1] at q
      have qq := if_some q
      clear q
      obtain ⟨c2, q⟩ := qq
      obtain ⟨ie, he, e'⟩ := Option.map_eq_some_iff.mp q
      subst e'
      obtain ⟨a1, a2, a3⟩ := (AE n).e se _ ie he g
      have pg : PG X (.Tuple [.Name x px, .Name y py] kt pt) (GT k (.tp [.nm i, .nm j])) :=
        (pg_tup (n := 2) S.calm ((pgs_cons ((pg_name (pos := px) S.nod l1 l2 l3).weak fun v σ H Q q => gt_nm q) ((pgs_cons ((pg_name (pos := py) S.nod m1 m2 m3).weak fun v σ H Q q => gt_nm q) (pgs_nil.weak fun v σ H Q q => gts_nil q)).weak fun v σ H Q q => gts_cons q)).weak fun v σ H Q q => gts_cons q)).weak fun v σ H Q q => gt_tp q
      exact ps_frz ((asg_tup S pg (a3 X E S.toSx).1 (seq_ss S.toSx c2)).weak fun D σ H z => s_asg a2 z)
  · rename_i ts kk p _
    by_cases c : isTupE e = true
    · rw [if_pos c] at q; cases q
    · rw [if_neg c] at q
      obtain ⟨itg, ht, q⟩ := Option.bind_eq_some_iff.mp q
      obtain ⟨ie, he, e'⟩ := Option.map_eq_some_iff.mp q
      subst e'
      obtain ⟨a1, a2, a3⟩ := (AE n).e se e ie he g
      exact ps_frz ((asg_tup S ((trTg_ok S.toSx n).1 _ itg ht).2 (a3 X E S.toSx).1 (ss_none fun _ _ _ z => c (by rw [z]; rfl))).weak fun D σ H z => s_asg a2 z)
  · cases q
theorem st_s (HB : ∀ X E, XC k mg base lv X E → BO k X) (h : OkS Φ k mg base lv fu n) (g : GS Φ k mg base lv se) : ∀ st ir, trS (n + 1) se st = some ir → ∀ X E, SxS k mg base lv se X E → PS X st (TSt Φ k E fu ir) := fun st ir q X E S => by
  have AE := all_ok (Φ := Φ) HB
  cases st <;> first | (exact nomatch (show none = some ir from q)) | skip
  case Return v p =>
    cases v with
    | none =>
      have q : some Stm.retN = some ir := q
      cases q
      exact ps_retN.weak fun D σ H z => s_retN z
    | some e =>
      obtain ⟨i, hi, e'⟩ := Option.map_eq_some_iff.mp (show (tr n se e).map (fun e => frzS se.ow (vr e) (.ret e)) = some ir from q)
      subst e'
      obtain ⟨a1, a2, a3⟩ := (AE n).e se e i hi g
      exact ps_frz ((ps_ret (a3 X E S.toSx).1).weak fun D σ H z => s_ret a2 z)
  case Assign ts e p => exact as_ok HB S g q
  case AugAssign t o e p =>
    cases t <;> first | (exact nomatch (show none = some ir from q)) | skip
    rename_i x px
    obtain ⟨i, hi, q⟩ := Option.bind_eq_some_iff.mp (show (se.loc x).bind (fun i => (augOp o).bind fun o => (tr n se e).map fun e => frzS se.ow (vr e) (.aug i o e)) = some ir from q)
    obtain ⟨b, hb, q⟩ := Option.bind_eq_some_iff.mp q
    obtain ⟨ie, he, e'⟩ := Option.map_eq_some_iff.mp q
    subst e'
    obtain ⟨l1, l2, l3, _⟩ := loc_of S.toSx hi
    obtain ⟨a1, a2, a3⟩ := (AE n).e se e ie he g
    obtain ⟨f, hp, hf⟩ := aug_ok (X := X) hb
    exact ps_frz ((ps_aug S.nod l1 l2 (a3 X E S.toSx).1 hp l3).weak fun D σ H z => s_aug a2 hf z)
  case For tg it b o p =>
    cases o with
    | cons _ _ => exact nomatch (show none = some ir from q)
    | nil =>
      obtain ⟨iit, h1, q⟩ := Option.bind_eq_some_iff.mp (show (trI n se (isTupE tg) it).bind (fun it => (trTg n se tg).bind fun tg => (trSs n se b).map fun b => frzS se.ow (brI it ++ vrI it) (.for tg it b)) = some ir from q)
      obtain ⟨itg, h2, q⟩ := Option.bind_eq_some_iff.mp q
      obtain ⟨ib, h3, e'⟩ := Option.map_eq_some_iff.mp q
      subst e'
      obtain ⟨f1, p1⟩ := (AE n).it se _ it iit h1 g
      exact ps_frz ((ps_for S.own S.calm (p1 X E S.toSx tg true fun z => z) ((trTg_ok S.toSx n).1 tg itg h2).2 (h.ss se b ib h3 g X E S) (fun x => f1 X.env x)).weak fun D σ H z => s_for z)
  case While c b o p =>
    cases o with
    | cons _ _ => exact nomatch (show none = some ir from q)
    | nil =>
      obtain ⟨ic, h1, q⟩ := Option.bind_eq_some_iff.mp (show (tr n se c).bind (fun c => (trSs n se b).map fun b => frzS se.ow (vr c) (.while c b)) = some ir from q)
      obtain ⟨ib, h3, e'⟩ := Option.map_eq_some_iff.mp q
      subst e'
      obtain ⟨a1, a2, a3⟩ := (AE n).e se c ic h1 g
      exact ps_frz ((ps_while S.own (a3 X E S.toSx).2.1 (h.ss se b ib h3 g X E S)).weak fun D σ H z => s_while z)
  case If c a b p =>
    obtain ⟨ic, h1, q⟩ := Option.bind_eq_some_iff.mp (show (tr n se c).bind (fun c => (trSs n se a).bind fun a => (trSs n se b).map fun b => frzS se.ow (vr c) (.iff c a b)) = some ir from q)
    obtain ⟨ia, h2, q⟩ := Option.bind_eq_some_iff.mp q
    obtain ⟨ib, h3, e'⟩ := Option.map_eq_some_iff.mp q
    subst e'
    obtain ⟨a1, a2, a3⟩ := (AE n).e se c ic h1 g
    exact ps_frz ((ps_if (a3 X E S.toSx).2.1 (h.ss se a ia h2 g X E S) (h.ss se b ib h3 g X E S)).weak fun D σ H z => s_iff z)
  case Raise a b p =>
    have q : some Stm.nev = some ir := q
    cases q
    exact ps_never.weak fun D σ H z => by
      obtain ⟨c, ρ, t, F, _, _, r, t', e, _⟩ := z
      cases e
  case Expr e p => exact ex_ok HB S g q
  case Pass p =>
    have q : some Stm.pass = some ir := q
    cases q
    exact ps_pass.weak fun D σ H z => s_pass z
  case Break p =>
    have q : some Stm.brk = some ir := q
    cases q
    exact ps_break.weak fun D σ H z => s_brk z
  case Continue p =>
    have q : some Stm.cont = some ir := q
    cases q
    exact ps_continue.weak fun D σ H z => s_cont z
theorem allS_ok (HB : ∀ X E, XC k mg base lv X E → BO k X) : ∀ n, OkS Φ k mg base lv fu n
  | 0 => ⟨(fun _ _ _ h => nomatch (show none = some _ from h)), (fun _ _ _ h => nomatch (show none = some _ from h))⟩
  | n + 1 => by
    have h := allS_ok HB n
    exact ⟨fun se st ir q g => st_s HB h g st ir q, fun se st ir q g => st_ss h g st ir q⟩
end
end VS
end
section
set_option Elab.async false
set_option linter.all false
set_option maxRecDepth 100000
set_option maxHeartbeats 8000000
set_option autoImplicit false
/-! V4t: a def keeps the promise that its translation makes. -/
namespace VS
open PySem PySem.Spec PyProof.Rows L2

/-- a def's promise -/
def spF (Φ : Nat → List D → M D) (k : Kx) (f m : Nat) : Sp := fun vs H Q E => vs.length = m ∧ rCall Φ k E f [] vs H Q
/-- all that stands is protected, the tape aside -/
def ct0 (k : Kx) (H F : Hp) : Ct where
  k := k
  P := fun a => (∃ o, H a = some o) ∧ ¬ onTape k a
  H := H
  F := F
  hp := fun _ h => h.1
  pt := fun _ h => h.2
section
variable {Φ : Nat → List D → M D} {k : Kx} {mg : Str → Option Value} {base : Heap} {lv fu n : Nat} {se : SE}
theorem Rel.after {k : Kx} {H F H' F' : Hp} {ρ : Env} {σ : L2.St} {t' : Tape} (R : Rel (ct0 k H F) ρ t' σ H' F') (s : Sub F F') : After k H F H' F' t' :=
  ⟨R.sub, R.tape, s, fun a o e nt => by
    obtain ⟨h1, h2⟩ := R.prot a ⟨⟨o, e⟩, nt⟩
    exact ⟨h1.trans e, h2⟩⟩
/-- the slots at the entry -/
def env0 (m : Nat) (ds : List D) : Env := ds.map (fun d => some (d, false)) ++ List.replicate (m - ds.length) none
theorem env0_get {m : Nat} {ds : List D} {i : Nat} {p : D × Bool} (h : (env0 m ds)[i]? = some (some p)) : ∃ d, ds[i]? = some d ∧ p = (d, false) := by
  unfold env0 at h
  by_cases hi : i < ds.length
  · rw [List.getElem?_append_left (by rw [List.length_map]; exact hi), List.getElem?_map] at h
    obtain ⟨d, hd, e⟩ := Option.map_eq_some_iff.mp h
    exact ⟨d, hd, (Option.some.inj e).symm⟩
  · rw [List.getElem?_append_right (by rw [List.length_map]; omega), List.getElem?_replicate] at h
    split at h <;> cases h
theorem start_get {N : List Str} {vs : List V} {i : Nat} {v : V} (h : vs[i]? = some v) : (L2.start N vs)[i]? = some (some v) := by
  unfold L2.start
  have hi : i < vs.length := (List.getElem?_eq_some_iff.mp h).1
  rw [List.getElem?_append_left (by rw [List.length_map]; exact hi), List.getElem?_map, h]
  rfl
theorem rel0 {N : List Str} {ds : List D} {vs : List V} {t : Tape} {H F : Hp} (hs : Sub F H) (tp : TapeOk k H F t) (r : RepL k F ds vs) : Rel (ct0 k H F) (env0 N.length ds) t (L2.start N vs) H F where
  sub := hs
  prot := fun _ _ => ⟨rfl, rfl⟩
  tape := tp
  len := by
    unfold env0 L2.start
    rw [List.length_append, List.length_append, List.length_map, List.length_map, List.length_replicate, List.length_replicate, r.length]
  frz := fun i d e => by
    obtain ⟨d', h1, h2⟩ := env0_get e
    cases h2
    obtain ⟨v, h3, h4⟩ := r.get h1
    exact ⟨v, start_get h3, h4⟩
  own := fun i d e => by
    obtain ⟨d', h1, h2⟩ := env0_get e
    cases h2
  sep := fun i j d e a h1 => by
    obtain ⟨d', h1, h2⟩ := env0_get h1
    cases h2
/-- what the run of the body gives -/
theorem run_reads {Φb : Nat → List D → M D} {N : List Str} {b : List Stm} {f : Nat} {E : XK} {vs : List V} {H : Hp} {Q : VK} (hΦ : ∀ ds t r t', ds.length = vs.length → Φ f ds t = some (r, t') → run Φb fu ⟨N.length, b⟩ ds t = some (r, t')) (h : rCall Φ k E f [] vs H Q) :
    TSs' Φb k E fu b { nx := fun _ H' => Q .non H', rt := Q } (L2.start N vs) H := by
  obtain ⟨ds, t, F, r, t', hs, tp, rl, e, o⟩ := h
  rw [List.append_nil] at e
  have e := hΦ ds t r t' rl.length.symm e
  have e : bnd (execs Φb fu b (env0 N.length ds)) (fun r => match r.1 with
    | .nx => ret .non
    | .rt d => ret d
    | _ => stuck) t = some (r, t') := e
  unfold bnd at e
  cases q : execs Φb fu b (env0 N.length ds) t with
  | none => rw [q] at e; cases e
  | some p =>
    obtain ⟨x, t1⟩ := p
    rw [q] at e
    cases x with
    | ex m l =>
      cases e
      exact ⟨ct0 k H F, env0 N.length ds, t, F, rfl, rel0 hs tp rl, .ex m l, t', q, fun ρ' σ' H' F' dx R s x => o H' F' dx (R.after s) x⟩
    | ok p =>
      obtain ⟨fl, ρ'⟩ := p
      refine ⟨ct0 k H F, env0 N.length ds, t, F, rfl, rel0 hs tp rl, .ok (fl, ρ'), t1, q, fun σ' H' F' R s => ?_⟩
      cases fl with
      | nx => cases e; exact o H' F' (R.after s) .non rfl
      | rt d => cases e; exact fun v hv => o H' F' (R.after s) v hv
      | bk => cases e
      | ct => cases e
/-- THE RULE: a def whose body is translated -/
theorem def_ok {Φb : Nat → List D → M D} (HB : ∀ X E, XC k mg base lv X E → BO k X) (g : GS Φb k mg base lv se) {x qual : Str} {params : Arguments} {body : List Stmt} {dvs : List V} {kws : List (Str × V)} {f : Addr} {fd : FuncData} {ps : List Str} {b : List Stm} {m : Nat}
    (F : FunD k.K x qual params body se.sc dvs kws f fd) (S : FnScope se.N ps se.sc) (hf : se.fn = fun _ => true) (ht : trSs n se body = some b) (hΦ : ∀ ds t r t', ds.length = ps.length → Φ m ds t = some (r, t') → run Φb fu ⟨se.N.length, b⟩ ds t = some (r, t')) :
    FnOk k.P k.w k.K mg base (CX k.P k.w) (lv + 1) f fd ps (spF Φ k m ps.length) := by
  refine F.ok S (fun vs H Q E h => h.1) fun cdv A outer s H vs Q E hr h => ⟨TSs' Φb k E fu b, ?_, run_reads (fun ds t r t' hl => hΦ ds t r t' (hl.trans h.1)) h.2⟩
  refine (allS_ok HB n).ss se body b ht g _ E ⟨⟨⟨rfl, rfl, rfl, rfl, rfl, hr, rfl, takes_of rfl rfl rfl rfl⟩, rfl, rfl, S.kind, S.nd, fun _ _ => rfl⟩, passes_of rfl⟩
/-- its calls -/
theorem calls_of {f : Addr} {fd : FuncData} {ps ks : List Str} {m n : Nat} {dfl : List D} {dvs : List V} {its : List Value} (F : FnOk k.P k.w k.K mg base (CX k.P k.w) lv f fd ps (spF Φ k m ps.length)) (hb : KBn k.K fd ps n ks (fun us ws => us ++ (ws ++ its)) (fun vs zs => vs ++ (zs ++ dvs)))
    (hd : ∀ F, RepL k F dfl dvs) (hn : n + (ks.length + dfl.length) = ps.length) : CallsTo Φ k mg base lv f m n ks dfl := by
  intro X E h1 h2 h3 h4 h5 hr tk pins s σ H Q us ws vs zs l1 l2 I r1 r2 h
  obtain ⟨ds, t, Fh, r, t', hs, tp, rl, e, o⟩ := h
  have lv1 : vs.length = n := r1.length.trans l1
  have lz1 : zs.length = ks.length := r2.length.trans l2
  have F' : FnOk X.prog X.w X.K X.mg X.base (CX X.prog X.w) lv f fd ps (spF Φ k m ps.length) := by rw [h1, h2, h3, h4, h5]; exact F
  have hb' : KBn X.K fd ps n ks (fun us ws => us ++ (ws ++ its)) (fun vs zs => vs ++ (zs ++ dvs)) := by rw [h3]; exact hb
  refine run_fnN F' hr hb' (passes_call tk fun _ _ _ _ z => z) I r1 r2 lv1 lz1 ⟨?_, ds ++ dfl, t, Fh, r, t', hs, tp, ?_, ?_, o⟩
  · rw [List.length_append, List.length_append, lv1, lz1, (hd Fh).length]
    exact hn
  · rw [← List.append_assoc]
    exact rl.append (hd Fh)
  · rw [List.append_nil]
    exact e
/-- every parameter is given -/
theorem kbn_all {K : PySem.W.Frag} {x qual : Str} {params : Arguments} {body : List Stmt} {scope : Scope} {dvs : List V} {kws : List (Str × V)} {f : Addr} {fd : FuncData} {ps ks : List Str} {n : Nat} (F : FunD K x qual params body scope dvs kws f fd)
    (h : ∀ (dV kV doc pm : Value) (an : Option Addr) (cdv ct : Value) (us ws : List Value), us.length = n → ws.length = ks.length → bindArgs (PySem.W.fnOf x qual params body scope dV kV doc pm an cdv ct) ⟨us, ks.zip ws⟩ = pure (ps.zip (us ++ (ws ++ [])))) :
    KBn K fd ps n ks (fun us ws => us ++ (ws ++ [])) (fun vs zs => vs ++ (zs ++ [])) := by
  obtain ⟨oc, od, dV, kV, doc, pm, an, cdv, ct, osl, rfl, lk, hcd, hD, hK⟩ := F.ex
  exact ⟨fun s us ws X l1 l2 => .of_eq (h _ _ _ _ _ _ _ us ws l1 l2), fun r1 r2 => r1.append (r2.append .nil)⟩
/-- the last parameters by default: those behind the first j defaults -/
theorem kbn_dfl {K : PySem.W.Frag} {x qual : Str} {params : Arguments} {body : List Stmt} {scope : Scope} {dvs : List V} {kws : List (Str × V)} {f : Addr} {fd : FuncData} {ps ks : List Str} {n j : Nat} (F : FunD K x qual params body scope dvs kws f fd) (hd : dvs ≠ [])
    (h : ∀ (T : Addr) (kV doc pm : Value) (an : Option Addr) (cdv ct : Value) (us ws its : List Value), us.length = n → ws.length = ks.length → its.length = dvs.length →
      ∃ k, bindArgs (PySem.W.fnOf x qual params body scope (.ref T) kV doc pm an cdv ct) ⟨us, ks.zip ws⟩ = seqItems? (.ref T) >>= k ∧ k (some its.toArray) = pure (ps.zip (us ++ (ws ++ its.drop j)))) :
    ∃ its : List Value, KBn K fd ps n ks (fun us ws => us ++ (ws ++ its)) (fun vs zs => vs ++ (zs ++ dvs.drop j)) := by
  obtain ⟨oc, od, dV, kV, doc, pm, an, cdv, ct, osl, rfl, lk, hcd, hD, hK⟩ := F.ex
  rcases hD with ⟨e, _⟩ | ⟨_, T, o, its, m, rfl, lT, oT, rT⟩
  · exact absurd e hd
  · refine ⟨its.drop j, ⟨fun s us ws X l1 l2 => ?_, fun r1 r2 => r1.append (r2.append (rT.drop j))⟩⟩
    obtain ⟨k, e1, e2⟩ := h T kV doc pm an cdv ct us ws its l1 l2 rT.length.symm
    refine BindsTo.of_looks fun M => ?_
    rw [e1]
    exact looks_items X lT oT (.of_pure e2)
end
end VS
end
section
set_option Elab.async false
set_option linter.all false
set_option maxRecDepth 100000
set_option maxHeartbeats 8000000
set_option autoImplicit false
/-! V4u: the built-ins. -/
namespace VS
open PySem PySem.Spec PyProof.Rows L2

section
variable {X : Cx} {k : Kx} {lv : Nat}
theorem bl_vals {F : Hp} : ∀ {l : List D} {bs : List Bool} {vs : List V}, boolsOf l = some bs → RepL k F l vs → vs = bs.map V.bl
  | [], bs, vs, h, r => by cases h; exact r
  | .bl b :: l, bs, vs, h, ⟨v, r, e, h1, h2⟩ => by
    obtain ⟨bs', hb, e'⟩ := Option.map_eq_some_iff.mp (show (boolsOf l).map (b :: ·) = some bs from h)
    subst e'
    cases h1
    rw [e, bl_vals hb h2]
    rfl
theorem b_all (hc : X.calm = true) : CallR X (.builtin "all") (rBlt k .allB) := by
  rintro pins s σ H xs us Q I r ⟨F, ds, d, hs, h, hd, q⟩
  match ds, hd, h with
  | [.lst l], hd, h =>
    obtain ⟨v, rfl, a, vs, rfl, g, rr⟩ := ts1 h
    obtain ⟨bs, hb, e⟩ := Option.map_eq_some_iff.mp (show (boolsOf l).map (fun bs => D.bl (bs.all id)) = some d from hd)
    subst e
    have e := bl_vals hb rr
    subst e
    exact cr_all hc pins s σ H _ us Q I r ⟨a, bs, rfl, .inl g, q _ _ .bl⟩
theorem b_any (hc : X.calm = true) : CallR X (.builtin "any") (rBlt k .anyB) := by
  rintro pins s σ H xs us Q I r ⟨F, ds, d, hs, h, hd, q⟩
  match ds, hd, h with
  | [.lst l], hd, h =>
    obtain ⟨v, rfl, a, vs, rfl, g, rr⟩ := ts1 h
    obtain ⟨bs, hb, e⟩ := Option.map_eq_some_iff.mp (show (boolsOf l).map (fun bs => D.bl (bs.any id)) = some d from hd)
    subst e
    have e := bl_vals hb rr
    subst e
    exact cr_any hc pins s σ H _ us Q I r ⟨a, bs, rfl, .inl g, q _ _ .bl⟩
theorem b_list : CallR X (.type "list") (rBlt k .list) := by
  rintro pins s σ H xs us Q I r ⟨F, ds, d, hs, h, hd, q⟩
  match ds, hd, h with
  | [x], hd, h =>
    obtain ⟨v, rfl, hv⟩ := ts1 h
    cases x <;> first | (cases hd; done) | skip
    · rename_i l
      cases hd
      obtain ⟨a, vs, rfl, g, rr⟩ := hv
      exact call_list_of pins s σ H _ us Q I r ⟨a, vs, rfl, .inr (.inl (hs.rd g.rd)), fun p hp => q _ _ (.inr ⟨p, _, hp, rfl, rfl, vs, rfl, rr⟩)⟩
    · rename_i l
      cases hd
      obtain ⟨a, vs, rfl, g, rr⟩ := hv
      exact call_list_of pins s σ H _ us Q I r ⟨a, vs, rfl, .inl (.inl g), fun p hp => q _ _ (.inr ⟨p, _, hp, rfl, rfl, vs, rfl, rr⟩)⟩
theorem b_tuple : CallR X (.type "tuple") (rBlt k .tuple) := by
  rintro pins s σ H xs us Q I r ⟨F, ds, d, hs, h, hd, q⟩
  match ds, hd, h with
  | [x], hd, h =>
    obtain ⟨v, rfl, hv⟩ := ts1 h
    cases x <;> first | (cases hd; done) | skip
    · rename_i l
      cases hd
      obtain ⟨a, vs, rfl, g, rr⟩ := hv
      exact call_tuple_of pins s σ H _ us Q I r ⟨a, vs, rfl, .inr ⟨.inl (hs.rd g.rd), q _ _ (.inl ⟨rfl, ⟨a, vs, rfl, g, rr⟩, fun z => nomatch z⟩)⟩⟩
    · rename_i l
      cases hd
      obtain ⟨a, ys, rfl, g, rr⟩ := hv
      obtain ⟨u, rfl, rx⟩ := vals1 r
      cases rx
      obtain ⟨its, r', pl, hz⟩ := I.list (.inl g)
      have hlen := r'.length
      refine call_tuple_list pl.isList (fun h' kp => ?_) (by simp only [List.size_toArray] <;> omega)
      have I1 : Inv X pins σ H { s with heap := h' } := I.kept (t' := s.toks) kp
      exact ⟨.ref h'.objs.size, _, I1.laid (t' := s.toks) (fun b o e => Heap.get?_push_of_some _ e) (Nat.le_refl _) (tup_new hz r'), rfl, q _ _ (.inr ⟨_, _, I1.hok.fresh (Nat.le_refl _), rfl, rfl, ys, _, rfl, rfl, rr⟩)⟩
/-! isinstance -/
/-- the type of what is data -/
def tyN : D → Option String
  | .non => some "NoneType"
  | .bl _ => some "bool"
  | .int _ => some "int"
  | .str _ => some "str"
  | .tup _ => some "tuple"
  | .lst _ => some "list"
  | .dct _ => some "dict"
  | .tape => some "dict"
  | _ => none
theorem ty_of {F H : Hp} (hs : Sub F H) : ∀ {d : D} {v : V}, RepT k F H d v → d ≠ .tape → (∀ l, d ≠ .dct l) → ∀ n, tyN d = some n → TyX X.K H v (.type n) := fun {d v} r ht hd n e => by
  cases d <;> first | (cases e; done) | skip
  · cases e; cases r; exact .base .non
  · cases e; cases r; exact .base (.bl _)
  · cases e; cases r; exact .base (.int _)
  · cases e; cases r; exact .base (.str _)
  · cases e
    obtain ⟨a, vs, rfl, ⟨o, g, _⟩, rr⟩ := r
    exact .fTuple (hs _ _ g)
  · cases e
    obtain ⟨a, vs, rfl, g, rr⟩ := r
    rcases g with g | ⟨o, g⟩
    · exact .base (.lst g)
    · exact .base (.frz g)
  · exact absurd rfl (hd _)
  · exact absurd rfl ht
/-! index -/
theorem index_of {d : D} {n : Nat} (hp : plain n d = true) : ∀ {l : List D} {j : Nat}, (∀ x ∈ l, plain n x = true) → indexD l d = some j → ∃ z, l[j]? = some z ∧ PyData.eqv (toPy z) (toPy d) = true ∧ ∀ (m : Nat) (z' : D), m < j → l[m]? = some z' → PyData.eqv (toPy z') (toPy d) = false
  | [], j, _, h => nomatch (show none = some j from h)
  | y :: l, j, hl, h => by
    have h : (if pyEq y d then some 0 else (indexD l d).map (· + 1)) = some j := h
    have e := pyEq_eqv y d n n (hl y (List.mem_cons_self ..)) hp
    cases q : pyEq y d with
    | true =>
      rw [q] at h e
      cases h
      exact ⟨y, rfl, e.symm, fun m z' hm => absurd hm (Nat.not_lt_zero _)⟩
    | false =>
      rw [q] at h e
      obtain ⟨i, hi, e'⟩ := Option.map_eq_some_iff.mp (show (indexD l d).map (· + 1) = some j from h)
      subst e'
      obtain ⟨z, h1, h2, h3⟩ := index_of hp (fun x m => hl x (List.mem_cons_of_mem _ m)) hi
      refine ⟨z, by simpa using h1, h2, fun m z' hm hz => ?_⟩
      cases m with
      | zero =>
        have hz : some y = some z' := by simpa using hz
        cases hz
        exact e.symm
      | succ m => exact h3 m z' (by omega) (by simpa using hz)
theorem shaped_list {l : List D} (h : ∀ x ∈ l, plain 60 x = true) : SeqAt.shaped (.list (toPys l)) = true := by
  obtain ⟨h1, h2⟩ := toPy_lay (.lst l) 61 (plain_lst_of (List.all_eq_true.mpr h))
  unfold SeqAt.shaped
  rw [Bool.and_eq_true]
  exact ⟨h1, decide_eq_true (by show (toPy (.lst l)).depth ≤ 64; omega)⟩
theorem shaped_one {d : D} (h : plain 60 d = true) : SeqAt.shaped (toPy d) = true := by
  obtain ⟨h1, h2⟩ := toPy_lay d 60 h
  unfold SeqAt.shaped
  rw [Bool.and_eq_true]
  exact ⟨h1, decide_eq_true (by omega)⟩
theorem toPys_get {l : List D} {j : Nat} : (toPys l)[j]? = (l[j]?).map toPy := by rw [toPys_map, List.getElem?_map]
/-- l.index(x), t.index(x) -/
theorem mt_ixL (hr : Room lv X.A) {pins : List (Addr × Obj)} {s : Shared} {σ : L2.St} {H F : Hp} {Q : VK} {a : Addr} {y : V} {uy : Value} {l : List D} {d2 d : D} (I : Inv X pins σ H s) (hs : Sub F H) (h1 : RepT k F H (.lst l) (.ref a)) (h2 : RepT k F H d2 y) (ry : RelV y uy)
    (hd : bltS .index [.lst l, d2] = some d) (q : ∀ v H', NewF (frB .index) k F H d v H' → Q v H') : wpAny (model X.prog X.w) X.A (call (.builtin "list.index") [.ref a, uy]) (EP X pins σ Q) X.xe s := by
  have hd : (if (plain 60 d2 && l.all (plain 60)) = true then (indexD l d2).map fun (n : Nat) => D.int (n : Int) else none) = some d := hd
  obtain ⟨hp, hd⟩ := if_some hd
  obtain ⟨hp1, hp2⟩ := Bool.and_eq_true_iff.mp hp
  have hp2 := plain_all hp2
  obtain ⟨j, hj, rfl⟩ := Option.map_eq_some_iff.mp hd
  obtain ⟨z, z1, z2, z3⟩ := index_of hp1 hp2 hj
  have dpl : Dp X.K H (.ref a) (.list (toPys l)) := h1.dp (d := .lst l) (n := 61) hs (plain_lst_of (List.all_eq_true.mpr hp2))
  refine mt_indexD (by have := hr.un; omega) pins s σ H (.ref a) [y] (.ref a) [uy] Q I rfl (.cons ry .nil) ⟨a, y, toPy d2, toPys l, j, toPy z, rfl, rfl, dpl, h2.dp hs hp1, shaped_list hp2, shaped_one hp1, by rw [toPys_get, z1]; rfl, z2, fun m z' hm hz => ?_, q _ _ .int⟩
  rw [toPys_get] at hz
  obtain ⟨w, hw, e⟩ := Option.map_eq_some_iff.mp hz
  rw [← e]
  exact z3 m w hm hw
end
end VS
end
section
set_option Elab.async false
set_option linter.all false
set_option maxRecDepth 100000
set_option maxHeartbeats 8000000
set_option autoImplicit false
/-! V4v: the built-ins: isinstance, index. -/
namespace VS
open PySem PySem.Spec PyProof.Rows L2

section
variable {X : Cx} {k : Kx} {lv : Nat}
theorem kit_data (hw : X.w = k.w) {pins : List (Addr × Obj)} {s : Shared} {σ : L2.St} {H F : Hp} (I : Inv X pins σ H s) (hs : Sub F H) {d : D} {v : V} {u : Value} (ho : okIs d = true) (r : RepT k F H d v) (rx : RelV v u) :
    ∃ n, tyN d = some n ∧ ∃ P : Heap → Prop, PySem.W.KitX X.K u (.type n) P ∧ P s.heap ∧ u ≠ .builtin "__main__.__loader__#opaque" := by
  cases d <;> first | (cases ho; done) | skip
  · exact ⟨_, rfl, kit_of I rx (ty_of hs r (fun e => nomatch e) (fun l e => nomatch e) _ rfl)⟩
  · exact ⟨_, rfl, kit_of I rx (ty_of hs r (fun e => nomatch e) (fun l e => nomatch e) _ rfl)⟩
  · exact ⟨_, rfl, kit_of I rx (ty_of hs r (fun e => nomatch e) (fun l e => nomatch e) _ rfl)⟩
  · exact ⟨_, rfl, kit_of I rx (ty_of hs r (fun e => nomatch e) (fun l e => nomatch e) _ rfl)⟩
  · exact ⟨_, rfl, kit_of I rx (ty_of hs r (fun e => nomatch e) (fun l e => nomatch e) _ rfl)⟩
  · exact ⟨_, rfl, kit_of I rx (ty_of hs r (fun e => nomatch e) (fun l e => nomatch e) _ rfl)⟩
  · rename_i kvs
    obtain ⟨a, es, rfl, ha, ok, rr⟩ := r
    cases (show u = Value.ref a from rx)
    obtain ⟨xs, e1, x1, m1, hm, hz⟩ := dicH I hw ha hs ok rr ok.tups
    obtain ⟨o, h1, h2⟩ := m1.typeIs
    exact ⟨_, rfl, _, PySem.W.kitx_dict, ⟨o, h1, h2⟩, fun z => nomatch z⟩
/-- the table of the built-in types -/
def tyP (T : String) (n : String) : Bool := (n == T) || (n == "bool" && T == "int")
theorem tab : ∀ n ∈ ["NoneType", "bool", "int", "str", "tuple", "list", "dict"], ∀ T ∈ ["int", "bool", "str", "tuple", "list", "dict"], kitB n T = some (tyP T n) := by decide +kernel
theorem tyN_mem {d : D} {n : String} (h : tyN d = some n) : n ∈ ["NoneType", "bool", "int", "str", "tuple", "list", "dict"] := by
  cases d <;> first | (cases h; done) | (cases h; decide)
theorem b_is (hw : X.w = k.w) {T : String} {b : Blt} (hT : T ∈ ["int", "bool", "str", "tuple", "list", "dict"]) (hb : ∀ d r, bltS b [d] = some r → okIs d = true ∧ ∀ n, tyN d = some n → r = .bl (tyP T n)) :
    CallR X (.builtin "isinstance") (fun xs H Q => ∃ y, xs = [y, .ty T] ∧ rBlt k b [y] H Q) := by
  rintro pins s σ H xs us Q I r ⟨y, rfl, F, ds, d, hs, h, hd, q⟩
  obtain ⟨u1, u2, rfl, r1, r2⟩ := vals2 r
  cases (show u2 = Value.type T from r2)
  match ds, hd, h with
  | [], hd, h => cases h
  | [x], hd, h =>
    obtain ⟨v, e, hv⟩ := ts1 h
    cases e
    obtain ⟨ho, hr⟩ := hb x d hd
    obtain ⟨n, hn, P, Z, p, hx⟩ := kit_data hw I hs ho hv r1
    have e := hr n hn
    subst e
    exact PySem.W.kia_one Z I.kIn p (kit_ty (tab n (tyN_mem hn) T hT)) hx fun tk => ⟨.bl _, H, I.tok tk, rfl, q _ _ .bl⟩
  | x :: y' :: l, hd, h =>
    obtain ⟨v, r, e, h1, v', r', e', h2⟩ := h
    subst e'
    cases e
def isLT : D → Bool
  | .lst _ => true
  | .tup _ => true
  | _ => false
theorem b_isLT (hw : X.w = k.w) : CallR X (.builtin "isinstance") (fun xs H Q => ∃ y p, xs = [y, .ref p] ∧ H p = some (.tup [.ty "list", .ty "tuple"]) ∧ rBlt k .isListTuple [y] H Q) := by
  rintro pins s σ H xs us Q I r ⟨y, tp, rfl, hT, F, ds, d, hs, h, hd, q⟩
  obtain ⟨u1, u2, rfl, r1, r2⟩ := vals2 r
  cases (show u2 = Value.ref tp from r2)
  match ds, hd, h with
  | [], hd, h => cases h
  | [x], hd, h =>
    obtain ⟨v, e, hv⟩ := ts1 h
    cases e
    have hd' : (if okIs x = true then some (D.bl (isLT x)) else none) = some d := by cases x <;> exact hd
    clear hd
    obtain ⟨ho, e⟩ := if_some hd'
    cases e
    obtain ⟨n, hn, P, Z, p, hx⟩ := kit_data hw I hs ho hv r1
    obtain ⟨_, its, rv, o, h1, h2, m, h3⟩ := (show ObjOk X.prog X.w H s.heap tp (.tup [.ty "list", .ty "tuple"]) from I.hok tp _ hT)
    have e3 : its = [.type "list", .type "tuple"] := by
      obtain ⟨a, b, rfl, ra, rb⟩ := vals2 rv
      cases (show a = Value.type "list" from ra)
      cases (show b = Value.type "tuple" from rb)
      rfl
    subst e3
    obtain ⟨oc, od, dt, sl⟩ := o
    simp only at h2 h3
    subst h2 h3
    have hn' := tyN_mem hn
    have ans : PySem.W.kitAny X.K (.type n) [.type "list", .type "tuple"] = some (isLT x) := by
      refine kitAny_cons (kit_ty (tab n hn' "list" (by decide))) (fun z => ?_) (fun z => ?_)
      · refine kitAny_cons (kit_ty (tab n hn' "tuple" (by decide))) (fun z2 => ?_) (fun z2 => ?_)
        · rw [kitAny_nil]
          cases x <;> first | (cases hn; done) | (cases hn; cases z; done) | (cases hn; cases z2; done) | rfl
        · cases x <;> first | (cases hn; done) | (cases hn; cases z2; done) | rfl
      · cases x <;> first | (cases hn; done) | (cases hn; cases z; done) | rfl
    exact PySem.W.kia_tup Z I.kIn p h1 ans hx fun tk => ⟨.bl _, H, I.tok tk, rfl, q _ _ .bl⟩
  | x :: y' :: l, hd, h =>
    obtain ⟨v, r, e, h1, v', r', e', h2⟩ := h
    subst e'
    cases e
/-! t.index(x) -/
theorem mt_ixT (hr : Room lv X.A) {pins : List (Addr × Obj)} {s : Shared} {σ : L2.St} {H F : Hp} {Q : VK} {a : Addr} {y : V} {uy : Value} {l : List D} {d2 d : D} (I : Inv X pins σ H s) (hs : Sub F H) (h1 : RepT k F H (.tup l) (.ref a)) (h2 : RepT k F H d2 y) (ry : RelV y uy)
    (hd : bltS .index [.tup l, d2] = some d) (q : ∀ v H', NewF (frB .index) k F H d v H' → Q v H') : wpAny (model X.prog X.w) X.A (call (.builtin "tuple.index") [.ref a, uy]) (EP X pins σ Q) X.xe s := by
  have hd : (if (plain 60 d2 && l.all (plain 60)) = true then (indexD l d2).map fun (n : Nat) => D.int (n : Int) else none) = some d := hd
  obtain ⟨hp, hd⟩ := if_some hd
  obtain ⟨hp1, hp2⟩ := Bool.and_eq_true_iff.mp hp
  have hp2 := plain_all hp2
  obtain ⟨j, hj, rfl⟩ := Option.map_eq_some_iff.mp hd
  obtain ⟨z, z1, z2, z3⟩ := index_of hp1 hp2 hj
  obtain ⟨a', vs, e, g, rl⟩ := h1
  cases e
  obtain ⟨bs, r1⟩ := Dp.reads I (toPy d2) y uy (h2.dp (K := X.K) hs hp1) ry
  have sl := shaped_list hp2
  have sd := shaped_one hp1
  have hxs : PyData.canLayAll0 (toPys l) = true := SeqAt.canLay_of_shaped sl
  have hroom : X.A.units + 1 + min (PyData.depthAll (toPys l)) (toPy d2).depth < cLine := by
    have h1 := SeqAt.depth_of_shaped sd
    have := hr.un
    have h2 : min (PyData.depthAll (toPys l)) (toPy d2).depth ≤ (toPy d2).depth := Nat.min_le_right _ _
    omega
  obtain ⟨its, rv, ⟨⟨cls, dd, data, sls⟩, ho, hc, n, hdt⟩, hlen⟩ := I.tuple (.inl (hs.rd g.rd))
  simp only at hc hdt
  subst hc hdt
  have ha : DpAll X.K H vs (toPys l) := RepL.dp l vs 60 hp2 (rl.mono hs)
  obtain ⟨as, h4⟩ := Dp.readsAll I (toPys l) _ its ha rv
  have hn : its.length = (toPys l).length := SeqAt.ReadsAll.length (toPys l) its as h4
  have hmap : its.map (SeqAt.readOf s.heap) = toPys l := SeqAt.readsAll_map (toPys l) its as hxs h4
  have hz : (toPys l)[j]? = some (toPy z) := by rw [toPys_get, z1]; rfl
  obtain ⟨hjd, _⟩ := List.getElem?_eq_some_iff.mp hz
  have hjl : j < its.length := by omega
  have hj' : j < its.toArray.size := by simpa using hjl
  have at_ : ∀ (m : Nat) (hm : m < its.toArray.size) (z' : PyData), (toPys l)[m]? = some z' → SeqAt.readOf s.heap its.toArray[m] = z' := by
    intro m hm z' hz'
    have hml : m < its.length := by simpa using hm
    rw [← hmap, List.getElem?_map, List.getElem?_eq_getElem hml] at hz'
    have e1 : SeqAt.readOf s.heap its[m] = z' := Option.some.inj (show some (SeqAt.readOf s.heap its[m]) = some z' from hz')
    simpa using e1
  refine call_meets PySem.F.slot_tuple_index ⟨_, ho, rfl⟩ PySem.F.entry_tuple_index (PySem.F.args_tuple_index_2 _ _)
    (TI.tuple_indexAt a its.toArray n dd sls uy (fun u => PyData.eqv (SeqAt.readOf s.heap u) (toPy d2)) j hj' ?_ ?_) ⟨ho, SeqAt.items_eqAt (vs := its.toArray) (show ReadsAll s.heap its.toArray.toList (toPys l) as from h4) r1 hxs (SeqAt.canLay_of_shaped sd) hroom, ?_⟩
  · show PyData.eqv (SeqAt.readOf s.heap its.toArray[j]) (toPy d2) = true
    rw [at_ j hj' _ hz]
    exact z2
  · intro m hm hmj
    have hmd : m < (toPys l).length := by omega
    have hz' : (toPys l)[m]? = some (toPys l)[m] := List.getElem?_eq_getElem hmd
    show PyData.eqv (SeqAt.readOf s.heap its.toArray[m]) (toPy d2) = false
    rw [at_ m hm _ hz']
    rw [toPys_get] at hz'
    obtain ⟨w, hw, e⟩ := Option.map_eq_some_iff.mp hz'
    rw [← e]
    exact z3 m w hmj hw
  · exact ⟨.int (j : Nat), H, I.tok _, ⟨_, rfl⟩, q _ _ .int⟩
/-- o.index(x), a list or a tuple -/
theorem pe_index (hr : Room lv X.A) {o a : Expr} {p q : Pos} {to ta : TE} (hab : abOk o = true) (hl : (q.endLine == p.line) = true) (hs : isStar a = false) (ho : PE X o to) (ha : PE X a ta) :
    PE X (.Call (.Attribute o "index" q) [a] [] p) (fun σ H Q => to σ H fun x H1 => ∃ F d, Sub F H1 ∧ RepT k F H1 d x ∧ mtOk .index d = true ∧ ta σ H1 fun y H2 => rMt k .index d [x, y] H2 Q) := by
  refine ⟨fun pins s σ H Q I h => ?_⟩
  refine wpAny_Call_method_late (ab_of hab) (few1 hs) hl rfl (thn (ho.run pins s σ H _ I h) fun v s1 ⟨x, H1, I1, r1, F, d, hsF, hd, hm, q1⟩ => ?_)
  have hst := starEach_cons (es := []) (env := X.env) hs
  have pa := pa_cons ha (pa_nil (X := X)) hst
  have fin : ∀ (id : String), (∀ (s2 : Shared) (H2 : Hp) (y : V) (uy : Value), Inv X pins σ H2 s2 → RelV y uy → rMt k .index d [x, y] H2 Q → wpAny (model X.prog X.w) X.A (call (.builtin id) [v, uy]) (EP X pins σ Q) X.xe s2) →
      wpAny (model X.prog X.w) X.A (callWith p (.builtin id) [v] (backTo p (starEach [a] X.env)) []) (EP X pins σ Q) X.xe s1 := fun id hc => by
    have hA := pa.run p pins s1 σ H1 (fun ys H2 => match ys with | [y] => rMt k .index d [x, y] H2 Q | _ => False) I1 q1
    rw [hst] at hA ⊢
    refine Calls.callWith_builtin rfl (Calls.evalArgs_plain ?_)
    refine thn hA fun us s2 ⟨vs, H2, I2, r2, z⟩ => ?_
    match vs, r2, z with
    | [y], r2, z =>
      obtain ⟨uy, rfl, ry⟩ := vals1 r2
      exact hc s2 H2 y uy I2 ry z
  cases d <;> first | (cases hm; done) | skip
  · rename_i l
    obtain ⟨b, vs, rfl, g, rl⟩ := hd
    obtain rfl : v = Value.ref b := r1
    obtain ⟨ob, hob, hdict⟩ := g
    have hb := (show s1.heap.get? b = some ob ∧ ObjOk X.prog X.w H1 s1.heap b (.tup vs) from I1.hok b _ (hsF _ _ hob))
    obtain ⟨_, its, rv, o2, ho2, hc2, _⟩ := hb.2
    refine ⟨"tuple", "tuple.index", PySem.F.plainAttrs_tuple, PySem.F.slot_tuple_index, PySem.F.type_tuple_index, ⟨o2, ho2, hc2⟩, fun a' e => ?_, fin _ fun s2 H2 y uy I2 ry z => ?_⟩
    · cases e
      exact ⟨ob, hb.1, hdict⟩
    · obtain ⟨F2, ds, d', hs2, hds, hdd, q⟩ := z
      obtain ⟨v1, r, e, p1, p2⟩ := hds
      cases e
      match ds, p2, hdd with
      | [d2], p2, hdd =>
        obtain ⟨w, e, p2⟩ := ts1 p2
        cases e
        exact mt_ixT hr I2 hs2 p1 p2 ry hdd q
  · rename_i l
    obtain ⟨b, vs, rfl, g, rl⟩ := hd
    obtain rfl : v = Value.ref b := r1
    obtain ⟨h1, h2⟩ := tyV_is (X := X) (T := "list") (x := .ref b) I1 rfl (.inl ⟨rfl, vs, .inl g⟩)
    refine ⟨"list", "list.index", PySem.F.plainAttrs_list, PySem.F.slot_list_index, PySem.F.type_list_index, h1, h2, fin _ fun s2 H2 y uy I2 ry z => ?_⟩
    obtain ⟨F2, ds, d', hs2, hds, hdd, q⟩ := z
    obtain ⟨v1, r, e, p1, p2⟩ := hds
    cases e
    match ds, p2, hdd with
    | [d2], p2, hdd =>
      obtain ⟨w, e, p2⟩ := ts1 p2
      cases e
      exact mt_ixL hr I2 hs2 p1 p2 ry hdd q
end
end VS
end
section
set_option Elab.async false
set_option linter.all false
set_option maxRecDepth 100000
set_option maxHeartbeats 8000000
set_option autoImplicit false
/-! V4w: the built-ins: least and greatest. -/
namespace VS
open PySem PySem.Spec PyProof.Rows L2

mutual
theorem toPy_inj : ∀ (a b : D) (n m : Nat), plain n a = true → plain m b = true → toPy a = toPy b → a = b
  | .non, b, _, m, _, hb, e => by cases b <;> first | rfl | (cases m <;> cases hb; done) | cases e
  | .bl x, b, _, m, _, hb, e => by cases b <;> first | (cases e; rfl) | (cases m <;> cases hb; done) | cases e
  | .int x, b, _, m, _, hb, e => by cases b <;> first | (cases e; rfl) | (cases m <;> cases hb; done) | cases e
  | .str x, b, _, m, _, hb, e => by cases b <;> first | (cases e; rfl) | (cases m <;> cases hb; done) | cases e
  | .tup l, b, n, m, ha, hb, e => by
    obtain ⟨n', _, ha⟩ := plain_tup ha
    cases b with
    | tup l' =>
      obtain ⟨m', _, hb⟩ := plain_tup hb
      rw [toPys_inj l l' n' m' (plain_all ha) (plain_all hb) (PyData.tuple.inj e)]
    | _ => first | cases e | (cases m <;> cases hb)
  | .lst l, b, n, m, ha, hb, e => by
    obtain ⟨n', _, ha⟩ := plain_lst ha
    cases b with
    | lst l' =>
      obtain ⟨m', _, hb⟩ := plain_lst hb
      rw [toPys_inj l l' n' m' (plain_all ha) (plain_all hb) (PyData.list.inj e)]
    | _ => first | cases e | (cases m <;> cases hb)
  | .dct _, _, n, _, h, _, _ => by cases n <;> cases h
  | .ins _ _, _, n, _, h, _, _ => by cases n <;> cases h
  | .exc _ _, _, n, _, h, _, _ => by cases n <;> cases h
  | .tape, _, n, _, h, _, _ => by cases n <;> cases h
theorem toPys_inj : ∀ (a b : List D) (n m : Nat), (∀ d ∈ a, plain n d = true) → (∀ d ∈ b, plain m d = true) → toPys a = toPys b → a = b
  | [], b, _, _, _, _, e => by cases b with | nil => rfl | cons _ _ => cases e
  | a :: as, b, n, m, ha, hb, e => by
    cases b with
    | nil => cases e
    | cons b bs =>
      obtain ⟨e1, e2⟩ := List.cons.inj (show toPy a :: toPys as = toPy b :: toPys bs from e)
      rw [toPy_inj a b n m (ha a (List.mem_cons_self ..)) (hb b (List.mem_cons_self ..)) e1, toPys_inj as bs n m (fun x h => ha x (List.mem_cons_of_mem _ h)) (fun x h => hb x (List.mem_cons_of_mem _ h)) e2]
end
theorem fold_mem {f : D → D → Bool} : ∀ (l : List D) (x : D), l.foldl (fun m y => if f y m then y else m) x = x ∨ l.foldl (fun m y => if f y m then y else m) x ∈ l
  | [], x => .inl rfl
  | y :: l, x => by
    rw [List.foldl_cons]
    rcases fold_mem l (if f y x then y else x) with e | e
    · rw [e]
      by_cases h : f y x = true
      · rw [if_pos h]; exact .inr (List.mem_cons_self ..)
      · rw [if_neg h]; exact .inl rfl
    · exact .inr (List.mem_cons_of_mem _ e)
theorem min_py : ∀ (l : List D) (x : D), plain 60 x = true → (∀ d ∈ l, plain 60 d = true) → (∀ d ∈ x :: l, ∀ e ∈ x :: l, alikeD d e = true) → toPy (l.foldl (fun m y => if ltD y m then y else m) x) = PySem.W.minD (toPy x) (toPys l)
  | [], x, _, _, _ => rfl
  | y :: l, x, hx, hl, ha => by
    have hy := hl y (List.mem_cons_self ..)
    have e := lt_py y x 60 60 hy hx (ha y (List.mem_cons_of_mem _ (List.mem_cons_self ..)) x (List.mem_cons_self ..))
    show toPy (l.foldl _ (if ltD y x then y else x)) = (toPys l).foldl _ (if PySem.W.dataLt (toPy y) (toPy x) then toPy y else toPy x)
    rw [← e]
    cases ltD y x with
    | true => exact min_py l y hy (fun d m => hl d (List.mem_cons_of_mem _ m)) fun d hd e he => ha d (List.mem_cons_of_mem _ hd) e (List.mem_cons_of_mem _ he)
    | false => exact min_py l x hx (fun d m => hl d (List.mem_cons_of_mem _ m)) fun d hd e he => ha d (by rcases List.mem_cons.mp hd with z | z; exact z ▸ List.mem_cons_self ..; exact List.mem_cons_of_mem _ (List.mem_cons_of_mem _ z)) e (by rcases List.mem_cons.mp he with z | z; exact z ▸ List.mem_cons_self ..; exact List.mem_cons_of_mem _ (List.mem_cons_of_mem _ z))
theorem max_py : ∀ (l : List D) (x : D), plain 60 x = true → (∀ d ∈ l, plain 60 d = true) → (∀ d ∈ x :: l, ∀ e ∈ x :: l, alikeD d e = true) → toPy (l.foldl (fun m y => if ltD m y then y else m) x) = PySem.W.maxD (toPy x) (toPys l)
  | [], x, _, _, _ => rfl
  | y :: l, x, hx, hl, ha => by
    have hy := hl y (List.mem_cons_self ..)
    have e := lt_py x y 60 60 hx hy (ha x (List.mem_cons_self ..) y (List.mem_cons_of_mem _ (List.mem_cons_self ..)))
    show toPy (l.foldl _ (if ltD x y then y else x)) = (toPys l).foldl _ (if PySem.W.dataLt (toPy x) (toPy y) then toPy y else toPy x)
    rw [← e]
    cases ltD x y with
    | true => exact max_py l y hy (fun d m => hl d (List.mem_cons_of_mem _ m)) fun d hd e he => ha d (List.mem_cons_of_mem _ hd) e (List.mem_cons_of_mem _ he)
    | false => exact max_py l x hx (fun d m => hl d (List.mem_cons_of_mem _ m)) fun d hd e he => ha d (by rcases List.mem_cons.mp hd with z | z; exact z ▸ List.mem_cons_self ..; exact List.mem_cons_of_mem _ (List.mem_cons_of_mem _ z)) e (by rcases List.mem_cons.mp he with z | z; exact z ▸ List.mem_cons_self ..; exact List.mem_cons_of_mem _ (List.mem_cons_of_mem _ z))
section
variable {X : Cx} {k : Kx} {lv : Nat}
/-- what min and max of data ask -/
theorem mm_ok {l : List D} (h : (sortable l && l.all fun d => decide (d ≠ .non)) = true) : (∀ d ∈ l, plain 60 d = true) ∧ (∀ d ∈ l, ∀ e ∈ l, alikeD d e = true) ∧ PySem.W.AlikeAll (toPys l) := by
  obtain ⟨h1, h2⟩ := Bool.and_eq_true_iff.mp h
  have hh := h1
  unfold sortable at h1
  rw [Bool.and_eq_true, Bool.and_eq_true] at h1
  have hp := plain_all h1.1.1
  have ha : ∀ d ∈ l, ∀ e ∈ l, alikeD d e = true := fun d hd e he => List.all_eq_true.mp (List.all_eq_true.mp h1.1.2 d hd) e he
  refine ⟨hp, ha, fun x hx y hy => ?_, fun x hx e => ?_⟩
  · rw [toPys_map] at hx hy
    obtain ⟨a, ha', rfl⟩ := List.mem_map.mp hx
    obtain ⟨b, hb, rfl⟩ := List.mem_map.mp hy
    rw [← alike_py a b 60 60 (hp a ha') (hp b hb)]
    exact ha a ha' b hb
  · rw [toPys_map] at hx
    obtain ⟨a, ha', rfl⟩ := List.mem_map.mp hx
    have z := of_decide_eq_true (List.all_eq_true.mp h2 a ha')
    exact z (toPy_inj a .non 60 60 (hp a ha') rfl e)
theorem mm_room (hr : Room lv X.A) {l : List D} (h : ∀ d ∈ l, plain 60 d = true) : X.A.units + 1 + PyData.depthAll (toPys l) < cLine := by
  have h1 := (toPys_lay l 60 h).2
  have := hr.un
  omega
/-- the item whose data is known -/
theorem pick_ok {pins : List (Addr × Obj)} {s : Shared} {σ : L2.St} {H F : Hp} {l : List D} {its : List Value} {vs : List V} {i : Nat} {v : Value} {h' : Heap} {bs : List Addr} {m : D} {n : Nat} {fr : Bool} (I : Inv X pins σ H s) (hs : Sub F H) (hp : ∀ d ∈ l, plain 60 d = true) (rl : RepL k F l vs) (rv : Vals vs its) (hm : m ∈ l) (hi : its.toArray[i]? = some v)
    (r : Reads h' v (toPy m) bs) (kp : ∀ b o, s.heap.get? b = some o → h'.get? b = some o) (hfr : fr = false) {Q : VK} {tk : Nat} (q : ∀ v H', NewF fr k F H m v H' → Q v H') : EP X pins σ Q v { s with heap := h', toks := tk } := by
  have hi : its[i]? = some v := by simpa using hi
  have hil : i < vs.length := by rw [rv.length]; exact (List.getElem?_eq_some_iff.mp hi).1
  obtain ⟨w, hw⟩ : ∃ w, vs[i]? = some w := ⟨vs[i], by simp [hil]⟩
  obtain ⟨u, hu, ru⟩ := rv.get hw
  rw [hi] at hu
  cases hu
  obtain ⟨d, hd, rd⟩ := rl.getV hw
  have hdm := List.mem_of_getElem? hd
  have I1 : Inv X pins σ H { s with heap := h', toks := tk } := I.kept kp
  obtain ⟨as, r2⟩ := Dp.reads I1 (toPy d) w v (Rep.dp (K := X.K) d w 60 (hp d hdm) (rd.mono hs)) ru
  have e := SeqAt.Reads.unique (toPy d) (toPy m) v as bs (toPy_lay d 60 (hp d hdm)).1 r2 r
  have e := toPy_inj d m 60 60 (hp d hdm) (hp m hm) e
  subst e
  exact ⟨w, H, I1, ru, q _ _ (.inl ⟨rfl, rd, fun z => by rw [hfr] at z; cases z⟩)⟩
theorem min_cases {ds : List D} {d : D} (h : bltS .min ds = some d) : (∃ a b, ds = [.int a, .int b] ∧ d = .int (if b < a then b else a)) ∨ ∃ l, (if (sortable l && l.all fun d => decide (d ≠ .non)) = true then minD l else none) = some d ∧ (ds = [.lst l] ∨ ds = [.tup l]) := by
  cases ds with
  | nil => cases h
  | cons x r =>
    cases r with
    | nil =>
      cases x <;> first | (cases h; done) | skip
      · rename_i l
        exact .inr ⟨l, h, .inr rfl⟩
      · rename_i l
        exact .inr ⟨l, h, .inl rfl⟩
    | cons y r =>
      cases r with
      | nil =>
        cases x <;> first | (cases h; done) | skip
        cases y <;> first | (cases h; done) | skip
        cases h
        exact .inl ⟨_, _, rfl, rfl⟩
      | cons z r =>
        exfalso
        cases x <;> first | (cases h; done) | (cases y <;> cases h)
theorem b_min (hr : Room lv X.A) (hc : X.calm = true) : CallR X (.builtin "min") (rBlt k .min) := by
  rintro pins s σ H xs us Q I r ⟨F, ds, d, hs, h, hd, q⟩
  have go : ∀ (l : List D) (v : V), (if (sortable l && l.all fun d => decide (d ≠ .non)) = true then minD l else none) = some d → xs = [v] → (RepT k F H (.lst l) v ∨ RepT k F H (.tup l) v) → wpAny (model X.prog X.w) X.A (call (.builtin "min") us) (EP X pins σ Q) X.xe s := fun l v hd e hv => by
    subst e
    obtain ⟨hok, hd⟩ := if_some hd
    obtain ⟨hp, hal, hpy⟩ := mm_ok hok
    obtain ⟨u, rfl, ru⟩ := vals1 r
    cases l with
    | nil => cases hd
    | cons x l =>
      have hm : d = l.foldl (fun m y => if ltD y m then y else m) x := (Option.some.inj hd).symm
      have hmem : d ∈ x :: l := by
        rw [hm]
        rcases fold_mem (f := ltD) l x with e | e
        · rw [e]; exact List.mem_cons_self ..
        · exact List.mem_cons_of_mem _ e
      have epy : toPy d = PySem.W.minD (toPy x) (toPys l) := by
        rw [hm]
        exact min_py l x (hp x (List.mem_cons_self ..)) (fun z m => hp z (List.mem_cons_of_mem _ m)) hal
      have hroom : X.A.units + 1 + PyData.depthAll (toPy x :: toPys l) < cLine := mm_room hr (l := x :: l) hp
      rcases hv with ⟨a, vs, rfl, g, rl⟩ | ⟨a, vs, rfl, g, rl⟩
      · cases ru
        obtain ⟨its, rv, pl, hz⟩ := I.list (.inl g)
        obtain ⟨as, r4⟩ := Dp.readsAll I (toPys (x :: l)) _ its (RepL.dp (K := X.K) (x :: l) vs 60 hp (rl.mono hs)) rv
        exact PySem.W.min_list_data (I.ok.hd hc) pl.isList (show ReadsAll s.heap its.toArray.toList (toPy x :: toPys l) as from r4) hpy hroom fun i w h' tk bs hi rd kp => pick_ok (n := 0) I hs hp rl rv hmem hi (by rw [epy]; exact rd) kp rfl q
      · cases ru
        obtain ⟨its, rv, pl, hz⟩ := I.tuple (.inl (hs.rd g.rd))
        obtain ⟨as, r4⟩ := Dp.readsAll I (toPys (x :: l)) _ its (RepL.dp (K := X.K) (x :: l) vs 60 hp (rl.mono hs)) rv
        exact PySem.W.min_tuple_data (I.ok.hd hc) (show s.heap.IsTuple a its.toArray from pl) (show ReadsAll s.heap its.toArray.toList (toPy x :: toPys l) as from r4) hpy hroom fun i w h' tk bs hi rd kp => pick_ok (n := 0) I hs hp rl rv hmem hi (by rw [epy]; exact rd) kp rfl q
  rcases min_cases hd with ⟨a, b, rfl, rfl⟩ | ⟨l, hl, rfl | rfl⟩
  · obtain ⟨x, y, rfl, h1, h2⟩ := ts2 h
    cases h1
    cases h2
    exact call_min2 hc pins s σ H _ us Q I r ⟨a, b, rfl, q _ _ .int⟩
  · obtain ⟨v, rfl, hv⟩ := ts1 h
    exact go l v hl rfl (.inl hv)
  · obtain ⟨v, rfl, hv⟩ := ts1 h
    exact go l v hl rfl (.inr hv)
theorem max_cases {ds : List D} {d : D} (h : bltS .max ds = some d) : (∃ a b, ds = [.int a, .int b] ∧ d = .int (if b > a then b else a)) ∨ ∃ l, (if (sortable l && l.all fun d => decide (d ≠ .non)) = true then maxD l else none) = some d ∧ (ds = [.lst l] ∨ ds = [.tup l]) := by
  cases ds with
  | nil => cases h
  | cons x r =>
    cases r with
    | nil =>
      cases x <;> first | (cases h; done) | skip
      · rename_i l
        exact .inr ⟨l, h, .inr rfl⟩
      · rename_i l
        exact .inr ⟨l, h, .inl rfl⟩
    | cons y r =>
      cases r with
      | nil =>
        cases x <;> first | (cases h; done) | skip
        cases y <;> first | (cases h; done) | skip
        cases h
        exact .inl ⟨_, _, rfl, rfl⟩
      | cons z r =>
        exfalso
        cases x <;> first | (cases h; done) | (cases y <;> cases h)
theorem b_max (hr : Room lv X.A) (hc : X.calm = true) : CallR X (.builtin "max") (rBlt k .max) := by
  rintro pins s σ H xs us Q I r ⟨F, ds, d, hs, h, hd, q⟩
  have go : ∀ (l : List D) (v : V), (if (sortable l && l.all fun d => decide (d ≠ .non)) = true then maxD l else none) = some d → xs = [v] → (RepT k F H (.lst l) v ∨ RepT k F H (.tup l) v) → wpAny (model X.prog X.w) X.A (call (.builtin "max") us) (EP X pins σ Q) X.xe s := fun l v hd e hv => by
    subst e
    obtain ⟨hok, hd⟩ := if_some hd
    obtain ⟨hp, hal, hpy⟩ := mm_ok hok
    obtain ⟨u, rfl, ru⟩ := vals1 r
    cases l with
    | nil => cases hd
    | cons x l =>
      have hm : d = l.foldl (fun m y => if ltD m y then y else m) x := (Option.some.inj hd).symm
      have hmem : d ∈ x :: l := by
        rw [hm]
        rcases fold_mem (f := fun a b => ltD b a) l x with e | e
        · rw [show l.foldl (fun m y => if ltD m y then y else m) x = x from e]; exact List.mem_cons_self ..
        · exact List.mem_cons_of_mem _ e
      have epy : toPy d = PySem.W.maxD (toPy x) (toPys l) := by
        rw [hm]
        exact max_py l x (hp x (List.mem_cons_self ..)) (fun z m => hp z (List.mem_cons_of_mem _ m)) hal
      have hroom : X.A.units + 1 + PyData.depthAll (toPy x :: toPys l) < cLine := mm_room hr (l := x :: l) hp
      rcases hv with ⟨a, vs, rfl, g, rl⟩ | ⟨a, vs, rfl, g, rl⟩
      · cases ru
        obtain ⟨its, rv, pl, hz⟩ := I.list (.inl g)
        obtain ⟨as, r4⟩ := Dp.readsAll I (toPys (x :: l)) _ its (RepL.dp (K := X.K) (x :: l) vs 60 hp (rl.mono hs)) rv
        exact PySem.W.max_list_data (I.ok.hd hc) pl.isList (show ReadsAll s.heap its.toArray.toList (toPy x :: toPys l) as from r4) hpy hroom fun i w h' tk bs hi rd kp => pick_ok (n := 0) I hs hp rl rv hmem hi (by rw [epy]; exact rd) kp rfl q
      · cases ru
        obtain ⟨its, rv, pl, hz⟩ := I.tuple (.inl (hs.rd g.rd))
        obtain ⟨as, r4⟩ := Dp.readsAll I (toPys (x :: l)) _ its (RepL.dp (K := X.K) (x :: l) vs 60 hp (rl.mono hs)) rv
        exact PySem.W.max_tuple_data (I.ok.hd hc) (show s.heap.IsTuple a its.toArray from pl) (show ReadsAll s.heap its.toArray.toList (toPy x :: toPys l) as from r4) hpy hroom fun i w h' tk bs hi rd kp => pick_ok (n := 0) I hs hp rl rv hmem hi (by rw [epy]; exact rd) kp rfl q
  rcases max_cases hd with ⟨a, b, rfl, rfl⟩ | ⟨l, hl, rfl | rfl⟩
  · obtain ⟨x, y, rfl, h1, h2⟩ := ts2 h
    cases h1
    cases h2
    exact call_max2 hc pins s σ H _ us Q I r ⟨a, b, rfl, q _ _ .int⟩
  · obtain ⟨v, rfl, hv⟩ := ts1 h
    exact go l v hl rfl (.inl hv)
  · obtain ⟨v, rfl, hv⟩ := ts1 h
    exact go l v hl rfl (.inr hv)
end
end VS
end
section
set_option Elab.async false
set_option linter.all false
set_option maxRecDepth 100000
set_option maxHeartbeats 8000000
set_option autoImplicit false
/-! V4x: list(range(..)), list(zip(..)). -/
namespace VS
open PySem PySem.Spec PyProof.Rows L2

section
variable {X : Cx} {k : Kx} {lv : Nat}
theorem rgV_rep {F : Hp} {lo hi : Int} : RepL k F (rangeL lo (hi - lo).toNat) (rgV lo hi) := by
  have go : ∀ (n : Nat) (lo : Int), RepL k F (rangeL lo n) ((List.range n).map fun i => V.int (lo + (i : Nat))) := by
    intro n
    induction n with
    | zero => intro lo; rfl
    | succ n ih =>
      intro lo
      rw [List.range_succ_eq_map, List.map_cons, List.map_map]
      refine ⟨V.int (lo + ((0 : Nat) : Int)), _, rfl, ?_, ?_⟩
      · show V.int (lo + ((0 : Nat) : Int)) = V.int lo
        simp
      · have e : (fun i : Nat => V.int (lo + 1 + (i : Nat))) = (fun i : Nat => V.int (lo + (i : Nat))) ∘ Nat.succ := by
          funext i
          show V.int _ = V.int _
          congr 1
          rw [Nat.succ_eq_add_one]
          push_cast
          omega
        rw [← e]
        exact ih (lo + 1)
  exact go _ lo
theorem rangeS_rep {F : Hp} {s : Int} : ∀ (n : Nat) (lo : Int), RepL k F (rangeS lo s n) ((List.range n).map fun i => V.int (lo + (i : Nat) * s))
  | 0, lo => rfl
  | n + 1, lo => by
    rw [List.range_succ_eq_map, List.map_cons, List.map_map]
    refine ⟨V.int (lo + ((0 : Nat) : Int) * s), _, rfl, ?_, ?_⟩
    · show V.int (lo + ((0 : Nat) : Int) * s) = V.int lo
      simp
    · have e : (fun i : Nat => V.int (lo + s + (i : Nat) * s)) = (fun i : Nat => V.int (lo + (i : Nat) * s)) ∘ Nat.succ := by
        funext i
        show V.int _ = V.int _
        congr 1
        rw [Nat.succ_eq_add_one]
        push_cast
        rw [Int.add_mul]
        omega
      rw [← e]
      exact rangeS_rep n (lo + s)
theorem rangeL_S : ∀ (n : Nat) (lo : Int), rangeL lo n = rangeS lo 1 n
  | 0, _ => rfl
  | n + 1, lo => by rw [rangeL, rangeS, rangeL_S n (lo + 1)]
theorem rangeL_rep {F : Hp} (n : Nat) (lo : Int) : RepL k F (rangeL lo n) ((List.range n).map fun i => V.int (lo + (i : Nat) * 1)) := by
  rw [rangeL_S]
  exact rangeS_rep n lo
theorem rangeS_len : ∀ (n : Nat) (lo s : Int), (rangeS lo s n).length = n
  | 0, _, _ => rfl
  | n + 1, lo, s => by rw [rangeS, List.length_cons, rangeS_len n]
theorem size_S {i j s : Int} (hs : 0 < s) : Builtin.Range.rangeSize i j s = (((j - i + s - 1) / s).toNat : Nat) := by
  unfold Builtin.Range.rangeSize
  rw [if_pos hs]
  by_cases h : i < j
  · rw [if_pos h]
    have e : j - i + s - 1 = (j - i - 1) + 1 * s := by omega
    rw [e, Int.add_mul_ediv_right _ _ (by omega)]
    have h2 : 0 ≤ (j - i - 1) / s := Int.ediv_nonneg (by omega) (by omega)
    omega
  · rw [if_neg h]
    have h1 : (j - i + s - 1) / s ≤ 0 := by
      by_cases h0 : 0 ≤ j - i + s - 1
      · rw [Int.ediv_eq_zero_of_lt h0 (by omega)]
        exact Int.le_refl _
      · have := Int.ediv_neg_of_neg_of_pos (a := j - i + s - 1) (b := s) (by omega) hs
        omega
    omega
/-- the list made of a range that has come -/
theorem list_rng {pins : List (Addr × Obj)} {s : Shared} {σ : L2.St} {H F : Hp} {Q : VK} {r : Addr} {a b c : Int} {t u v : Tok} {n : Nat} {l : List D} (I : Inv X pins σ H s) (hc : X.calm = true) (hr : IsRange s.heap r a b c t u v) (hs : Builtin.Range.small a b c = true) (hn : Builtin.Range.rangeSize a b c = n) (hl : n ≤ 2 ^ 24)
    (rep : RepL k F l ((List.range n).map fun i => V.int (a + (i : Nat) * c))) (q : ∀ v H', NewF (frB .listRange) k F H (.lst l) v H' → Q v H') : wpAny (model X.prog X.w) X.A (call (.type "list") [.ref r]) (EP X pins σ Q) X.xe s := by
  refine call_list_range (n := n) (I.ok.hd hc) hr hs hn hl fun h' tk acc c' hk e' hi => ?_
  have hv : Vals ((List.range n).map fun i => V.int (a + (i : Nat) * c)) acc.toList := by
    have e : acc.toList.length = n := by rw [Array.length_toList]; exact hi.1
    rw [← e]
    refine vals_of_get acc.toList _ fun j u hj => ?_
    obtain ⟨t, rfl⟩ := hi.2 j u (by rw [← hj, Array.getElem?_toList])
    exact ⟨t, rfl⟩
  refine ⟨.ref s.heap.objs.size, _, I.laid hk (Nat.le_refl _) (show ObjOk X.prog X.w _ _ _ (.lst ((List.range n).map fun i => V.int (a + (i : Nat) * c))) from ⟨?_, acc.toList, c', hv, ?_⟩), rfl, q _ _ (.inr ⟨_, _, I.hok.fresh (Nat.le_refl _), rfl, rfl, _, rfl, rep⟩)⟩
  · rw [List.length_map, List.length_range, sizeLine_eq]; omega
  · rw [Array.toArray_toList]; exact e'
/-- list(range(..)) -/
theorem pe_listRange (hc : X.calm = true) {p q r s : Pos} {as : List Expr} {ta : TA} (g1 : Gl X "list") (m1 : X.mg "list" = none) (g2 : Gl X "range") (m2 : X.mg "range" = none) (ns : noStar as) (ne : as ≠ []) (pa : PA X as ta) :
    PE X (.Call (.Name "list" p) [.Call (.Name "range" q) as [] r] [] s) (fun σ H Q => ta σ H fun vs H1 => rBlt k .listRange vs H1 Q) := by
  refine ⟨fun pins s0 σ H Q I h => ?_⟩
  cases as with
  | nil => exact absurd rfl ne
  | cons e es =>
    have hst := starEach_cons (es := es) (env := X.env) (ns e (List.mem_cons_self ..))
    have hpl := starEach_none (env := X.env) (pos := r) (es := es) fun y m => ns y (List.mem_cons_of_mem _ m)
    have inner : wpAny (model X.prog X.w) X.A (eval (.Call (.Name "range" q) (e :: es) [] r) X.env) (fun x s1 => ∃ a, x = Value.ref a ∧ wpAny (model X.prog X.w) X.A (call (.type "list") [.ref a]) (EP X pins σ Q) X.xe s1) X.xe s0 := by
      refine Call_ (ld_blt I g2 m2 boot_range (PyProof.Rows.callWith_type1 (thn (pa.run r pins s0 σ H _ I h) fun us s1 ⟨vs, H1, I1, r1, F, ds, d, hs, hds, hd, qq⟩ => ?_) hst hpl))
      obtain ⟨rl, hr, hd⟩ := Option.bind_eq_some_iff.mp (show (rangeOf ds).bind (fun r => if r.length ≤ lim then some (D.lst r) else none) = some d from hd)
      have hlim : lim = 2 ^ 24 := rfl
      by_cases hz : rl.length ≤ lim
      · rw [if_pos hz] at hd
        cases hd
        rw [hlim] at hz
        unfold rangeOf at hr
        split at hr
        · rename_i j
          obtain ⟨c1, e1⟩ := if_some hr
          cases e1
          obtain ⟨b1, b2⟩ := inR_of c1
          obtain ⟨v, rfl, hv⟩ := ts1 hds
          cases hv
          obtain ⟨u, rfl, ⟨t, rfl⟩⟩ := vals1 r1
          rw [rangeL_len] at hz
          refine call_range_1 ⟨_, rfl, ?_⟩
          have I2 : Inv X pins σ H1 { s1 with heap := s1.heap.push { cls := .type "range", data := .fields #[.int 0 s1.toks, .int j t, .int 1 (s1.toks + 1)] }, toks := s1.toks + 2 } := I1.kept fun b o e => Heap.get?_push_of_some _ e
          exact list_rng (n := j.toNat) I2 hc (IsRange.new ..) (small_one (by omega) (by omega) b1 b2) (by rw [rangeSize_nat, Int.sub_zero]) hz (rangeL_rep _ _) qq
        · rename_i i j
          obtain ⟨c1, e1⟩ := if_some hr
          cases e1
          obtain ⟨c2, c3⟩ := Bool.and_eq_true_iff.mp c1
          obtain ⟨b1, b2⟩ := inR_of c2
          obtain ⟨b3, b4⟩ := inR_of c3
          obtain ⟨v, w, rfl, hv, hw⟩ := ts2 hds
          cases hv
          cases hw
          obtain ⟨u, u', rfl, ⟨t, rfl⟩, ⟨t', rfl⟩⟩ := vals2 r1
          rw [rangeL_len] at hz
          refine call_range_2 ⟨_, rfl, ?_⟩
          have I2 : Inv X pins σ H1 { s1 with heap := s1.heap.push { cls := .type "range", data := .fields #[.int i t, .int j t', .int 1 s1.toks] }, toks := s1.toks + 1 } := I1.kept fun b o e => Heap.get?_push_of_some _ e
          exact list_rng (n := (j - i).toNat) I2 hc (IsRange.new ..) (small_one b1 b2 b3 b4) (rangeSize_nat _ _) hz (rangeL_rep _ _) qq
        · rename_i i j st
          obtain ⟨c1, e1⟩ := if_some hr
          cases e1
          obtain ⟨c2, c3, c4⟩ := and3 c1
          obtain ⟨b1, b2⟩ := inR_of c2
          obtain ⟨b3, b4⟩ := inR_of c3
          have c4 := of_decide_eq_true c4
          obtain ⟨v, r', e1, hv, h2⟩ := hds
          obtain ⟨w, z, rfl, hw, hz'⟩ := ts2 h2
          subst e1
          cases hv
          cases hw
          cases hz'
          cases r1 with
          | cons ra rb =>
          obtain ⟨u', u'', rfl, ⟨t', rfl⟩, ⟨t'', rfl⟩⟩ := vals2 rb
          obtain ⟨t, rfl⟩ := ra
          rw [rangeS_len] at hz
          refine call_range_3 (by omega) ⟨_, rfl, ?_⟩ (.inl (PyProof.noPylong_small (by omega)))
          have I2 : Inv X pins σ H1 { s1 with heap := s1.heap.push { cls := .type "range", data := .fields #[.int i t, .int j t', .int st t''] }, toks := s1.toks } := I1.kept fun b o e => Heap.get?_push_of_some _ e
          refine list_rng (n := ((j - i + st - 1) / st).toNat) I2 hc (IsRange.new ..) ?_ (size_S c4.1) hz (rangeS_rep _ _) qq
          unfold Builtin.Range.small
          rw [size_S c4.1]
          have h2 : (2 : Nat) ^ 24 = 16777216 := rfl
          rw [h2] at hz
          rw [if_pos (show st > 0 from c4.1)]
          simp only [Builtin.Range.rangeFitsLong, Bool.and_eq_true, Bool.or_eq_true, decide_eq_true_eq, beq_iff_eq]
          omega
        · cases hr
      · rw [if_neg hz] at hd
        cases hd
    refine Call_ (ld_blt I g1 m1 boot_list (PyProof.Rows.callWith_type1 (args_cons (thn inner fun x s1 ⟨a, ex, z⟩ => args_nil ?_) rfl) rfl rfl))
    subst ex
    exact z
end
end VS
end
section
set_option Elab.async false
set_option linter.all false
set_option maxRecDepth 100000
set_option maxHeartbeats 8000000
set_option autoImplicit false
/-! V4y: isinstance with an own class; one class's facts. -/
namespace VS
open PySem PySem.Spec PyProof.Rows L2

/-- what is asked of a class whose instances are data -/
structure ClsF (k : Kx) (c : Nat) : Prop where
  cls : Cls k.K (k.cl c)
  ha : PySem.W.findIn k.K (.ref (k.cl c)) "__class__" = some (some (.builtin "object.__class__"))
  hn : PySem.W.specialIn k.K (.builtin "object.__class__") "__get__" = some (some (.builtin "getset_descriptor.__get__"))
  htk : PySem.W.takesIn k.K (.builtin "object.__class__") = some true
  hm : PySem.W.mroIn k.K (k.cl c) (.type "object") = some true
  ty : ∀ n ∈ ["NoneType", "bool", "int", "str", "tuple", "list", "dict"], PySem.W.kitOne k.K (.type n) (.ref (k.cl c)) = some false
section
variable {X : Cx} {k : Kx} {lv : Nat}
theorem b_isCls (hw : X.w = k.w) (hK : X.K = k.K) {c : Nat} (C : ClsF k c) :
    CallR X (.builtin "isinstance") (fun xs H Q => ∃ y, xs = [y, .ref (k.cl c)] ∧ rBlt k (.isCls c) [y] H Q) := by
  rintro pins s σ H xs us Q I r ⟨y, rfl, F, ds, d, hs, h, hd, q⟩
  obtain ⟨u1, u2, rfl, r1, r2⟩ := vals2 r
  cases (show u2 = Value.ref (k.cl c) from r2)
  match ds, hd, h with
  | [], hd, h => cases h
  | [x], hd, h =>
    obtain ⟨v, e, hv⟩ := ts1 h
    cases e
    by_cases hx : isIns x = true
    · cases x <;> first | (cases hx; done) | skip
      rename_i e l
      have hd : (if e = c then some (D.bl true) else none) = some d := hd
      have hec : e = c := Classical.byContradiction fun z => by rw [if_neg z] at hd; cases hd
      rw [if_pos hec] at hd
      cases hd
      subst hec
      have hr : Rep k F (.ins e l) y := hv
      have Ce := C
      have kt : PySem.W.kitOne k.K (.ref (k.cl e)) (.ref (k.cl e)) = some true := by unfold PySem.W.kitOne; rw [if_pos (by simp)]
      obtain ⟨a, dx, vs, rfl, ha, hl, rl⟩ := hr
      have ty : TyX X.K H (.ref a) (.ref (k.cl e)) := .base (.ins (hs _ _ ha) (by rw [hK]; exact Ce.cls) (by rw [hK]; exact Ce.ha) (by rw [hK]; exact Ce.hn) (by rw [hK]; exact Ce.htk) (by rw [hK]; exact Ce.hm))
      obtain ⟨P, Z, p, hx⟩ := kit_of I r1 ty
      exact PySem.W.kia_one Z I.kIn p (by rw [hK]; exact kt) hx fun tk => ⟨.bl _, H, I.tok tk, rfl, q _ _ .bl⟩
    · have hd' : (if okIs x = true then some (D.bl false) else none) = some d := by
        cases x <;> first | exact hd | exact absurd rfl hx
      obtain ⟨ho, e⟩ := if_some hd'
      cases e
      obtain ⟨n, hn, P, Z, p, hx⟩ := kit_data hw I hs ho hv r1
      exact PySem.W.kia_one Z I.kIn p (by rw [hK]; exact C.ty n (tyN_mem hn)) hx fun tk => ⟨.bl _, H, I.tok tk, rfl, q _ _ .bl⟩
  | x :: y' :: l, hd, h =>
    obtain ⟨v, r, e, h1, v', r', e', h2⟩ := h
    subst e'
    cases e
end
end VS
end
section
set_option Elab.async false
set_option linter.all false
set_option maxRecDepth 100000
set_option maxHeartbeats 8000000
set_option autoImplicit false
/-! V4z: dict(a list of pairs). -/
namespace VS
open PySem PySem.Spec PyProof.Rows L2

section
variable {X : Cx} {k : Kx} {lv : Nat}
theorem XR.store {F : Hp} {ps : List (D × D)} {xs : List (NestedKey × Addr × Value)} {l : List D} {y : D} {b : Addr} {u : Value} {v : V} (x1 : XR k F ps xs) (ok : kvsOk ps) (hk : keyOk ps (.tup l) = true) (rb : Rep k F (.tup l) (.ref b)) (ry : Rep k F y v) (rv : RelV v u) : XR k F (dput ps (.tup l) y) (storedH xs (nkey (.tup l)) b u) := by
  have g := x1.get ok.keys (keyOk_8 hk)
  unfold storedH
  cases e : dget ps (.tup l) with
  | some d =>
    rw [e] at g
    obtain ⟨p, w, e2, _⟩ := g
    rw [e2]
    exact x1.put_old (keyOk_8 hk) ry rv ok.keys ok.1 (by rw [e]; rfl)
  | none =>
    rw [e] at g
    have g : atKey xs (nkey (.tup l)) = none := g
    rw [g]
    exact x1.put_new rfl rb ry rv e
theorem XR.stores {F : Hp} : ∀ {ps acc kvs : List (D × D)} {qs xs : List (NestedKey × Addr × Value)}, dputs acc ps = some kvs → kvsOk acc → XR k F acc xs → XR k F ps qs → kvsOk kvs ∧ XR k F kvs (storedAllH xs qs) ∧ kvs.length ≤ acc.length + ps.length
  | [], acc, kvs, qs, xs, h, ok, x1, x2 => by
    have h : some acc = some kvs := h
    cases h
    rw [show qs = [] from x2]
    exact ⟨ok, x1, Nat.le_refl _⟩
  | (a, b) :: ps, acc, kvs, qs, xs, h, ok, x1, ⟨q, r, eq, h1, h2, h3, ⟨y, h4, h5⟩, h6⟩ => by
    obtain ⟨hk, h⟩ := if_some (show (if keyOk acc a = true then dputs (dput acc a b) ps else none) = some kvs from h)
    obtain ⟨l, rfl⟩ := keyT hk
    subst eq
    have st := x1.store ok hk h3 h4 h5
    obtain ⟨g1, g2, g3⟩ := XR.stores h (ok.put hk) st h6
    refine ⟨g1, ?_, ?_⟩
    · have e : storedAllH xs (q :: r) = storedAllH (storedH xs (nkey (.tup l)) q.2.1 q.2.2) r := by
        unfold storedAllH
        rw [List.foldl_cons, h1]
      rw [e]
      exact g2
    · have := dput_len acc (.tup l) b
      rw [List.length_cons]
      omega
theorem dputs_tup : ∀ {ps acc kvs : List (D × D)}, dputs acc ps = some kvs → ∀ p ∈ ps, isTup p.1 = true
  | [], _, _, _, _, m => by cases m
  | (a, b) :: ps, acc, kvs, h, p, m => by
    obtain ⟨hk, h⟩ := if_some (show (if keyOk acc a = true then dputs (dput acc a b) ps else none) = some kvs from h)
    rcases List.mem_cons.mp m with e | m
    · obtain ⟨l, rfl⟩ := keyT hk
      rw [e]
      rfl
    · exact dputs_tup h p m
/-- the pairs as they lie -/
theorem pairs_read {pins : List (Addr × Obj)} {s : Shared} {σ : L2.St} {H F : Hp} (I : Inv X pins σ H s) (hs : Sub F H) : ∀ {l : List D} {ps : List (D × D)} {vs : List V} {its : List Value}, pairsOf l = some ps → (∀ p ∈ ps, isTup p.1 = true) → RepL k F l vs → Vals vs its →
    ∃ (qs : List (NestedKey × Addr × Value)) (Tl : List Addr), XR k F ps qs ∧ its = Tl.map Value.ref ∧ Tl.length = qs.length ∧ ∀ (j : Nat) (T : Addr) (q : NestedKey × Addr × Value), Tl[j]? = some T → qs[j]? = some q → s.heap.IsTuple T #[.ref q.2.1, q.2.2]
  | [], ps, vs, its, h, _, r, rv => by
    cases h
    rw [show vs = [] from r] at rv
    cases rv
    exact ⟨[], [], rfl, rfl, rfl, fun j T q e => by simp at e⟩
  | .tup [a, b] :: l, ps, vs, its, h, ht, ⟨v, r, e, ⟨T, ws, ev, g, rw'⟩, hr⟩, rv => by
    obtain ⟨ps', hp, e'⟩ := Option.map_eq_some_iff.mp (show (pairsOf l).map ((a, b) :: ·) = some ps from h)
    subst e'
    subst e
    subst ev
    cases rv with
    | cons r1 r2 =>
    rename_i u its
    obtain rfl : u = Value.ref T := r1
    obtain ⟨qs, Tl, x1, e1, e2, e3⟩ := pairs_read I hs hp (fun p m => ht p (List.mem_cons_of_mem _ m)) hr r2
    obtain ⟨w1, r', ew, ra, w2, r'', ew', rb, er⟩ := rw'
    subst er
    subst ew'
    subst ew
    have hta := ht (a, b) (List.mem_cons_self ..)
    obtain ⟨its2, rv2, ht2, _⟩ := I.tuple (.inl (hs.rd g.rd))
    obtain ⟨u1, u2, rfl, ra', rb'⟩ := vals2 rv2
    cases a with
    | tup la =>
      obtain ⟨c, cs, rfl, gc, rc⟩ := ra
      obtain rfl : u1 = Value.ref c := ra'
      refine ⟨(nkey (.tup la), c, u2) :: qs, T :: Tl, ⟨_, _, rfl, rfl, rfl, ⟨c, cs, rfl, gc, rc⟩, ⟨w2, rb, rb'⟩, x1⟩, by rw [List.map_cons, e1], by rw [List.length_cons, List.length_cons, e2], fun j T' q hT hq => ?_⟩
      cases j with
      | zero =>
        have hT : some T = some T' := by simpa using hT
        have hq : some (nkey (.tup la), c, u2) = some q := by simpa using hq
        cases hT
        cases hq
        exact ht2
      | succ j => exact e3 j T' q (by simpa using hT) (by simpa using hq)
    | _ => cases hta
theorem XR.mem {F : Hp} : ∀ {ps : List (D × D)} {qs : List (NestedKey × Addr × Value)}, XR k F ps qs → ∀ q ∈ qs, ∃ p ∈ ps, q.1 = nkey p.1 ∧ isTup p.1 = true ∧ Rep k F p.1 (.ref q.2.1)
  | [], qs, h, q, m => by rw [show qs = [] from h] at m; cases m
  | (a, b) :: ps, qs, ⟨x, r, e, h1, h2, h3, _, h6⟩, q, m => by
    subst e
    rcases List.mem_cons.mp m with z | z
    · subst z
      exact ⟨(a, b), List.mem_cons_self .., h1, h2, h3⟩
    · obtain ⟨p, hp, h⟩ := XR.mem h6 q z
      exact ⟨p, List.mem_cons_of_mem _ hp, h⟩
theorem dputs_key : ∀ {ps acc kvs : List (D × D)}, dputs acc ps = some kvs → ∀ p ∈ ps, isKey 8 p.1 = true
  | [], _, _, _, _, m => by cases m
  | (a, b) :: ps, acc, kvs, h, p, m => by
    obtain ⟨hk, h⟩ := if_some (show (if keyOk acc a = true then dputs (dput acc a b) ps else none) = some kvs from h)
    rcases List.mem_cons.mp m with e | m
    · rw [e]; exact keyOk_8 hk
    · exact dputs_key h p m
theorem b_dict (hr : Room lv X.A) (hc : X.calm = true) (hw : X.w = k.w) : CallR X (.type "dict") (rBlt k .dictL) := by
  rintro pins s σ H xs us Q I r ⟨F, ds, d, hs, h, hd, q⟩
  match ds, hd, h with
  | [.lst l], hd, h =>
    obtain ⟨v, rfl, a, vs, rfl, g, rr⟩ := ts1 h
    obtain ⟨ps, hp, hd⟩ := Option.bind_eq_some_iff.mp (show (pairsOf l).bind (fun ps => (dputs [] ps).map D.dct) = some d from hd)
    obtain ⟨kvs, hk, rfl⟩ := Option.map_eq_some_iff.mp hd
    obtain ⟨u, rfl, ru⟩ := vals1 r
    cases ru
    obtain ⟨its, rv, pl, hz⟩ := I.list (.inl g)
    obtain ⟨qs, Tl, x1, e1, e2, e3⟩ := pairs_read I hs hp (dputs_tup hk) rr rv
    obtain ⟨ok, x2, hlen⟩ := XR.stores hk kvsOk.nil (show XR k F [] [] from rfl) x1
    have hlq : qs.length = vs.length := by rw [← e2, rv.length, e1, List.length_map]
    refine call_dict_pairsH (knd := nestedKind X.prog X.w) (ps := qs) (PairArg.list a its.toArray (fun j => Tl.getD j 0) (qs.map fun q => (Value.ref q.2.1, q.2.2))) (I.ok.hd hc) ?_ ⟨?_, ?_⟩ ⟨by rw [List.length_map], fun i key v e => ?_⟩ ?_ (by rw [List.length_map, hlq]; exact hz) fun h' tk hd' hkp => ?_
    · have := hr.un
      show X.A.units + 1 + 1 + 8 < cLine
      omega
    · exact pl
    · refine ⟨by rw [List.size_toArray, e1, List.length_map, List.length_map, e2], fun j kk v e => ?_⟩
      rw [List.getElem?_map] at e
      obtain ⟨qq, hq, e'⟩ := Option.map_eq_some_iff.mp e
      cases e'
      obtain ⟨hj, _⟩ := List.getElem?_eq_some_iff.mp hq
      have hT : Tl[j]? = some (Tl.getD j 0) := by
        have : j < Tl.length := by rw [e2]; exact hj
        rw [List.getD_eq_getElem?_getD, List.getElem?_eq_getElem this]
        rfl
      refine ⟨?_, .inl (e3 j _ qq hT hq)⟩
      have e5 : its[j]? = some (Value.ref (Tl.getD j 0)) := by rw [e1, List.getElem?_map, hT]; rfl
      rw [List.getElem?_toArray]
      exact e5
    · have e : (qs.map fun q => (Value.ref q.2.1, q.2.2))[i]? = some (key, v) := e
      rw [List.getElem?_map] at e
      obtain ⟨qq, hq, e'⟩ := Option.map_eq_some_iff.mp e
      cases e'
      exact ⟨qq.1, qq.2.1, hq, rfl⟩
    · intro h' hkp x hx
      have I1 : Inv X pins σ H { s with heap := h' } := I.kept (t' := s.toks) fun b o e => hkp b o (Nat.ne_of_lt (Heap.lt_size e)) (by simp) e
      obtain ⟨p, hpm, h1, h2, h3⟩ := x1.mem x hx
      rw [h1]
      obtain ⟨p1, p2⟩ := p
      cases p1 with
      | tup lk => exact key_is (P := X.prog) (w := X.w) I1.hok (dputs_key hk _ hpm) (h3.mono hs)
      | _ => cases h2
    · have hm : (s.heap.objs.size == sysModules) = false := beq_eq_false_iff_ne.mpr (Ne.symm (Nat.ne_of_lt I.big))
      have hps : ps.length = qs.length := x1.length.symm
      have hl2 : (storedAllH [] qs).length ≤ sizeLine := by
        rw [x2.length]
        rw [List.length_nil] at hlen
        omega
      have n := dicNew (P := X.prog) (w := X.w) hd' hl2 hm (upd H s.heap.objs.size (dicO s.heap.objs.size ((storedAllH [] qs).map (entryOfKey (nestedKind X.prog X.w)))))
      refine ⟨.ref s.heap.objs.size, _, I.laid (t' := tk) (fun b o e => hkp b o (by simp) e) (Nat.le_refl _) n, rfl, q _ _ (.inr ⟨_, _, I.hok.fresh (Nat.le_refl _), rfl, rfl, _, rfl, ok, ?_⟩)⟩
      rw [hw]
      exact x2.rep
end
end VS
end
section
set_option Elab.async false
set_option linter.all false
set_option maxRecDepth 100000
set_option maxHeartbeats 8000000
set_option autoImplicit false
/-! V5a: the built-ins by their names. -/
namespace VS
open PySem PySem.Spec PyProof.Rows L2

section
variable {X : Cx} {k : Kx} {lv : Nat}
theorem bt_int : bootBuiltins "int" = some (.type "int") := by decide +kernel
theorem bt_bool : bootBuiltins "bool" = some (.type "bool") := by decide +kernel
theorem bt_str : bootBuiltins "str" = some (.type "str") := by decide +kernel
theorem bt_tuple : bootBuiltins "tuple" = some (.type "tuple") := by decide +kernel
theorem bt_list : bootBuiltins "list" = some (.type "list") := by decide +kernel
theorem bt_dict : bootBuiltins "dict" = some (.type "dict") := by decide +kernel
theorem bt_len : bootBuiltins "len" = some (.builtin "len") := by decide +kernel
theorem bt_abs : bootBuiltins "abs" = some (.builtin "abs") := by decide +kernel
theorem bt_min : bootBuiltins "min" = some (.builtin "min") := by decide +kernel
theorem bt_max : bootBuiltins "max" = some (.builtin "max") := by decide +kernel
theorem bt_sorted : bootBuiltins "sorted" = some (.builtin "sorted") := by decide +kernel
theorem bt_all : bootBuiltins "all" = some (.builtin "all") := by decide +kernel
theorem bt_any : bootBuiltins "any" = some (.builtin "any") := by decide +kernel
theorem bo_fn (hr : Room lv X.A) (hc : X.calm = true) (hw : X.w = k.w) : ∀ x b, blt1 x = some b → (∃ id, bootBuiltins x = some (.builtin id) ∧ CallR X (.builtin id) (rBlt k b)) ∨ ∃ T, bootBuiltins x = some (.type T) ∧ CallR X (.type T) (rBlt k b) := fun x b h => by
  unfold blt1 at h
  repeat' split at h
  all_goals first | (cases h; done) | (cases h; subst_vars)
  · exact .inl ⟨_, bt_len, b_len hw⟩
  · exact .inr ⟨_, bt_int, b_int⟩
  · exact .inl ⟨_, bt_abs, b_abs⟩
  · exact .inl ⟨_, bt_min, b_min hr hc⟩
  · exact .inl ⟨_, bt_max, b_max hr hc⟩
  · exact .inl ⟨_, bt_sorted, b_sorted hr hc hw⟩
  · exact .inr ⟨_, bt_list, b_list⟩
  · exact .inr ⟨_, bt_tuple, b_tuple⟩
  · exact .inr ⟨_, bt_dict, b_dict hr hc hw⟩
  · exact .inl ⟨_, bt_all, b_all hc⟩
  · exact .inl ⟨_, bt_any, b_any hc⟩
theorem is_of {b : Blt} {T : String} {p : D → Bool} (hb : ∀ l, bltS b l = isB p l) (hp : ∀ d n, okIs d = true → tyN d = some n → p d = tyP T n) : ∀ d r, bltS b [d] = some r → okIs d = true ∧ ∀ n, tyN d = some n → r = .bl (tyP T n) := fun d r h => by
  rw [hb] at h
  obtain ⟨h1, h2⟩ := if_some (show (if okIs d = true then some (D.bl (p d)) else none) = some r from h)
  cases h2
  exact ⟨h1, fun n hn => by rw [hp d n h1 hn]⟩
theorem bo_isTy (hw : X.w = k.w) : ∀ x b, tyOf x = some b → ∃ T, bootBuiltins x = some (.type T) ∧ CallR X (.builtin "isinstance") (fun xs H Q => ∃ y, xs = [y, .ty T] ∧ rBlt k b [y] H Q) := fun x b h => by
  unfold tyOf at h
  repeat' split at h
  all_goals first | (cases h; done) | (cases h; subst_vars)
  · exact ⟨_, bt_int, b_is hw (by decide) (is_of (fun _ => rfl) fun d n ho e => by cases d <;> first | (cases ho; done) | (cases e; rfl))⟩
  · exact ⟨_, bt_bool, b_is hw (by decide) (is_of (fun _ => rfl) fun d n ho e => by cases d <;> first | (cases ho; done) | (cases e; rfl))⟩
  · exact ⟨_, bt_str, b_is hw (by decide) (is_of (fun _ => rfl) fun d n ho e => by cases d <;> first | (cases ho; done) | (cases e; rfl))⟩
  · exact ⟨_, bt_tuple, b_is hw (by decide) (is_of (fun _ => rfl) fun d n ho e => by cases d <;> first | (cases ho; done) | (cases e; rfl))⟩
  · exact ⟨_, bt_list, b_is hw (by decide) (is_of (fun _ => rfl) fun d n ho e => by cases d <;> first | (cases ho; done) | (cases e; rfl))⟩
  · exact ⟨_, bt_dict, b_is hw (by decide) (is_of (fun _ => rfl) fun d n ho e => by cases d <;> first | (cases ho; done) | (cases e; rfl))⟩
end
end VS
end
section
set_option Elab.async false
set_option linter.all false
set_option maxRecDepth 100000
set_option maxHeartbeats 8000000
set_option autoImplicit false
/-! V5b: list(zip(a, b)). -/
namespace VS
open PySem PySem.Spec PyProof.Rows L2

theorem zip_no_len : typeLookup (.type "zip") "__len__" = pure none := am_miss_of_fast (by decide +kernel)
theorem zip_no_hint : typeLookup (.type "zip") "__length_hint__" = pure none := am_miss_of_fast (by decide +kernel)
/-- the zip and its parts, i pairs handed out, behind S -/
structure Zst (h : Heap) (S z TI TO i1 i2 l1 l2 : Addr) (xs ys : Array Value) (i : Nat) : Prop where
  ti : IsPair h TI (.ref i1) (.ref i2)
  a1 : h.IsListIter i1 l1 i
  a2 : h.IsListIter i2 l2 i
  b1 : h.IsList l1 xs
  b2 : h.IsList l2 ys
  zz : (IsZip h z TI TO .none ∧ ∃ a b, IsPair h TO a b) ∨ ∃ T f oT, IsZipHeld h z TI TO T f ∧ h.get? T = some oT ∧ T ≠ z ∧ T ≠ i1 ∧ T ≠ i2 ∧ T ≠ S
theorem Zst.at {h h' : Heap} {S z TI TO i1 i2 l1 l2 : Addr} {xs ys : Array Value} {i : Nat} (x : Zst h S z TI TO i1 i2 l1 l2 xs ys i) (hS : ∀ b ∈ [z, TI, TO, i1, i2, l1, l2], b ≠ S) (k : ∀ b o, b ≠ S → h.get? b = some o → h'.get? b = some o) : Zst h' S z TI TO i1 i2 l1 l2 xs ys i where
  ti := k _ _ (hS _ (by simp)) x.ti
  a1 := x.a1.at fun o e => k _ o (hS _ (by simp)) e
  a2 := x.a2.at fun o e => k _ o (hS _ (by simp)) e
  b1 := x.b1.at fun o e => k _ o (hS _ (by simp)) e
  b2 := x.b2.at fun o e => k _ o (hS _ (by simp)) e
  zz := by
    rcases x.zz with ⟨hz, a, b, hTO⟩ | ⟨T, f, oT, hz, hT, r1, r2, r3, r4⟩
    · exact .inl ⟨k _ _ (hS _ (by simp)) hz, a, b, k _ _ (hS _ (by simp)) hTO⟩
    · exact .inr ⟨T, f, oT, k _ _ (hS _ (by simp)) hz, k _ _ r4 hT, r1, r2, r3, r4⟩
/-- the pairs handed out: T_j is new and holds (x_j, y_j) -/
structure Zts (h : Heap) (n0 : Nat) (xs ys : Array Value) (acc : Array Value) (i : Nat) (Ts : List Addr) : Prop where
  acc : acc.toList = Ts.map Value.ref
  len : Ts.length = i
  nod : Ts.Nodup
  tup : ∀ (j : Nat) (T : Addr), Ts[j]? = some T → n0 ≤ T ∧ ∃ x y, xs[j]? = some x ∧ ys[j]? = some y ∧ IsPair h T x y
section
variable {prog : Program} {w : World} {A : Around} {R : Result → Shared → Prop} {S z TI TO i1 i2 l1 l2 : Addr} {xs ys : Array Value}
theorem zip_loop (hh : A.handled = none) (D : ZipApart z TI TO i1 i2 l1 l2) (hl : min xs.size ys.size ≤ sizeLine) (n0 : Nat) (hS : ∀ b ∈ [z, TI, TO, i1, i2, l1, l2], b ≠ S) (hS0 : S < n0) (hlt : ∀ b ∈ [z, TI, TO, i1, i2], b < n0) (res : Value) :
    ∀ (k i : Nat) (s : Shared) (acc : Array Value) (c : Nat) (Ts : List Addr), min xs.size ys.size - i = k → i ≤ min xs.size ys.size → n0 ≤ s.heap.objs.size → Zst s.heap S z TI TO i1 i2 l1 l2 xs ys i → s.heap.get? S = some { cls := .type "list", dict := none, data := .seq acc c, slots := #[] } → Zts s.heap n0 xs ys acc i Ts →
    (∀ h' acc' c' Ts', (∀ b o, b ∉ [S, z, TO, i1, i2] → s.heap.get? b = some o → h'.get? b = some o) → h'.get? S = some { cls := .type "list", dict := none, data := .seq acc' c', slots := #[] } → Zts h' n0 xs ys acc' (min xs.size ys.size) Ts' → R (.ok (.ret res)) { s with heap := h' }) →
    codeAny (model prog w) A (.builtin "list.extend.loop" ⟨[.ref S, .ref z, res], []⟩) R s := by
  have nS : ∀ b ∈ [z, TI, TO, i1, i2, l1, l2], S ≠ b := fun b m e => hS b m e.symm
  intro k
  induction k with
  | zero =>
    intro i s acc c Ts hk hi hn st hSo ht hR
    have hin : i = min xs.size ys.size := by omega
    have hend : xs[i]? = none ∨ ys[i]? = none := by
      rcases Nat.le_total xs.size ys.size with h | h
      · exact .inl (Array.getElem?_eq_none (by rw [hin, Nat.min_eq_left h]; exact Nat.le_refl _))
      · exact .inr (Array.getElem?_eq_none (by rw [hin, Nat.min_eq_right h]; exact Nat.le_refl _))
    refine codeAny_builtin F.entry_extend_loop ?_
    rw [Around.under_plainId F.plain_extend_loop _]
    show wpAny _ A.in1 (pyNext (.ref z) >>= _) _ _ s
    have fin : ∀ h' : Heap, (∀ c o, c ≠ z → c ≠ TO → c ≠ i1 → c ≠ i2 → s.heap.get? c = some o → h'.get? c = some o) → R (.ok (.ret res)) { s with heap := h' } := fun h' hk' => by
      refine hR h' acc c Ts (fun b o hb e => hk' b o (fun q => hb (by simp [q])) (fun q => hb (by simp [q])) (fun q => hb (by simp [q])) (fun q => hb (by simp [q])) e) (hk' S _ (nS _ (by simp)) (nS _ (by simp)) (nS _ (by simp)) (nS _ (by simp)) hSo) ?_
      refine ⟨ht.acc, by rw [ht.len, hin], ht.nod, fun j T e => ?_⟩
      obtain ⟨h1, x, y, h2, h3, h4⟩ := ht.tup j T e
      have ne : ∀ b ∈ [z, TI, TO, i1, i2], T ≠ b := fun b m q => absurd (hlt b m) (by rw [← q]; exact Nat.not_lt.mpr h1)
      exact ⟨h1, x, y, h2, h3, hk' T _ (ne _ (by simp)) (ne _ (by simp)) (ne _ (by simp)) (ne _ (by simp)) h4⟩
    rcases st.zz with ⟨hz, a, b, hTO⟩ | ⟨T, f, oT, hz, hT, r1, r2, r3, r4⟩
    · exact wpAny_bind (wpAny_pyNext_zip_end hh D hz st.ti hTO st.a1 st.a2 st.b1 st.b2 hend fun h' hk' => wpAny_pure (fin h' hk'))
    · exact wpAny_bind (wpAny_pyNext_zip_end_held hh D hz hT st.ti st.a1 st.a2 st.b1 st.b2 hend fun h' hk' => wpAny_pure (fin h' fun c o c1 c2 c3 c4 e => hk' c o c1 c3 c4 e))
  | succ k ih =>
    intro i s acc c Ts hk hi hn st hSo ht hR
    have hi' : i < min xs.size ys.size := by omega
    have hix : i < xs.size := Nat.lt_of_lt_of_le hi' (Nat.min_le_left ..)
    have hiy : i < ys.size := Nat.lt_of_lt_of_le hi' (Nat.min_le_right ..)
    have ex := Array.getElem?_eq_getElem hix
    have ey := Array.getElem?_eq_getElem hiy
    have lt : ∀ {c o}, s.heap.get? c = some o → s.heap.objs.size ≠ c := fun e => Nat.ne_of_gt (Heap.lt_size e)
    have n1 : s.heap.objs.size ≠ i1 := let ⟨_, e, _⟩ := st.a1; lt e
    have n2 : s.heap.objs.size ≠ i2 := let ⟨_, e, _⟩ := st.a2; lt e
    have accsz : acc.size = i := by rw [← Array.length_toList, ht.acc, List.length_map, ht.len]
    refine codeAny_builtin F.entry_extend_loop ?_
    rw [Around.under_plainId F.plain_extend_loop _]
    show wpAny _ A.in1 (pyNext (.ref z) >>= _) _ _ s
    have fin : ∀ h' : Heap, Zst h' S z TI TO i1 i2 l1 l2 xs ys (i + 1) → IsPair h' s.heap.objs.size xs[i] ys[i] → h'.objs.size = s.heap.objs.size + 1 → (∀ c o, c ≠ z → c ≠ TO → c ≠ i1 → c ≠ i2 → s.heap.get? c = some o → h'.get? c = some o) →
        wpAny (model prog w) A.in1 (updateSeq S (·.push (.ref s.heap.objs.size)) >>= fun _ => again (.builtin "list.extend.loop" ⟨[.ref S, .ref z, res], []⟩)) (fun fin s' => match fin with | .done f => R (.ok f) s' | .again c' => c'.quiet = true ∧ codeAny (model prog w) A c' R s') (fun e s' => R (.error e) s') { s with heap := h' } := fun h' st' hp hsz hk' => by
      have hS' : h'.get? S = _ := hk' S _ (nS _ (by simp)) (nS _ (by simp)) (nS _ (by simp)) (nS _ (by simp)) hSo
      have TS : s.heap.objs.size ≠ S := lt hSo
      have oth : ∀ b o, b ≠ S → h'.get? b = some o → (h'.update S (Obj.mapSeq (·.push (Value.ref s.heap.objs.size)))).get? b = some o := fun b o hb e => (Heap.get?_update_other _ _ (Ne.symm hb)).trans e
      refine wpAny_bind ?_
      refine wpAny_updateSeq hS' rfl (wpAny_pure ⟨plainId_quiet F.plain_extend_loop _, ih (i + 1) _ (acc.push (.ref s.heap.objs.size)) _ (Ts ++ [s.heap.objs.size]) (by omega) hi' ?_ (st'.at hS oth) (Heap.get?_update_self _ hS' rfl) ?_ fun h2 acc' c' Ts' hk2 hS2 ht2 => ?_⟩)
        (by rw [accsz]; omega) (by show (acc.push _).size ≤ sizeLine + 1; rw [Array.size_push, accsz]; omega)
      · show n0 ≤ (h'.update S _).objs.size
        rw [(Heap.SameBut.update h' S _).1, hsz]
        omega
      · refine ⟨by rw [Array.toList_push, ht.acc, List.map_append]; rfl, by rw [List.length_append, ht.len]; rfl, ?_, fun j T e => ?_⟩
        · rw [List.nodup_append]
          refine ⟨ht.nod, by simp, fun a ha b hb => ?_⟩
          obtain ⟨j, hj⟩ := List.mem_iff_getElem?.mp ha
          obtain ⟨_, _, _, _, _, h4⟩ := ht.tup j a hj
          rw [List.mem_singleton.mp hb]
          exact (lt h4).symm
        · by_cases hj : j < Ts.length
          · rw [List.getElem?_append_left hj] at e
            obtain ⟨h1, x, y, h2, h3, h4⟩ := ht.tup j T e
            have ne : ∀ b ∈ [z, TI, TO, i1, i2], T ≠ b := fun b m q => absurd (hlt b m) (by rw [← q]; exact Nat.not_lt.mpr h1)
            exact ⟨h1, x, y, h2, h3, oth _ _ (fun q => absurd hS0 (by rw [← q]; exact Nat.not_lt.mpr h1)) (hk' T _ (ne _ (by simp)) (ne _ (by simp)) (ne _ (by simp)) (ne _ (by simp)) h4)⟩
          · rw [List.getElem?_append_right (Nat.not_lt.mp hj)] at e
            obtain ⟨q1, q2⟩ := List.getElem?_eq_some_iff.mp e
            have q3 : j = i := by simp at q1; have := ht.len; omega
            have q4 : T = s.heap.objs.size := by rw [← q2]; simp
            subst q3 q4
            exact ⟨hn, _, _, ex, ey, oth _ _ TS hp⟩
      · refine hR h2 acc' c' Ts' (fun b o hb e => hk2 b o hb (oth b o (fun q => hb (by simp [q])) (hk' b o (fun q => hb (by simp [q])) (fun q => hb (by simp [q])) (fun q => hb (by simp [q])) (fun q => hb (by simp [q])) e))) hS2 ht2
    rcases st.zz with ⟨hz, a, b, hTO⟩ | ⟨T, f, oT, hz, hT, r1, r2, r3, r4⟩
    · refine wpAny_bind (wpAny_pyNext_zip_item D hz st.ti hTO st.a1 st.a2 st.b1 st.b2 ex ey fun h' a1 a2 a3 a4 a5 a6 hk' => ?_)
      refine fin h' ⟨hk' _ _ D.TIz D.TITO D.TIi1 D.TIi2 st.ti, a3, a4, st.b1.at fun o e => hk' _ o D.l1z D.l1TO D.l1i1 D.l1i2 e, st.b2.at fun o e => hk' _ o D.l2z D.l2TO D.l2i1 D.l2i2 e,
        .inr ⟨s.heap.objs.size, false, _, a1, a5, lt hz, n1, n2, lt hSo⟩⟩ a5 a6 hk'
    · refine wpAny_bind (wpAny_pyNext_zip_item_held D hz hT st.ti st.a1 st.a2 st.b1 st.b2 ex ey fun h' a1 a3 a4 a5 a6 hk' => ?_)
      refine fin h' ⟨hk' _ _ D.TIz D.TIi1 D.TIi2 st.ti, a3, a4, st.b1.at fun o e => hk' _ o D.l1z D.l1i1 D.l1i2 e, st.b2.at fun o e => hk' _ o D.l2z D.l2i1 D.l2i2 e,
        .inr ⟨T, true, oT, a1, hk' _ _ r1 r2 r3 hT, r1, r2, r3, r4⟩⟩ a5 a6 fun c o c1 c2 c3 c4 e => hk' c o c1 c3 c4 e
theorem zip_extend (hh : A.handled = none) (D : ZipApart z TI TO i1 i2 l1 l2) (hl : min xs.size ys.size ≤ sizeLine) {s : Shared} (hS : ∀ b ∈ [z, TI, TO, i1, i2, l1, l2], b ≠ S) (hlt : ∀ b ∈ [z, TI, TO, i1, i2], b < s.heap.objs.size) (res : Value) (c₀ : Nat)
    (hSo : s.heap.get? S = some { cls := .type "list", data := .seq #[] c₀ }) (hz : IsZip s.heap z TI TO .none) (st : Zst s.heap S z TI TO i1 i2 l1 l2 xs ys 0)
    (hR : ∀ h' acc' c' Ts', (∀ b o, b ∉ [S, z, TO, i1, i2] → s.heap.get? b = some o → h'.get? b = some o) → h'.get? S = some { cls := .type "list", dict := none, data := .seq acc' c', slots := #[] } → Zts h' s.heap.objs.size xs ys acc' (min xs.size ys.size) Ts' → R (.ok (.ret res)) { s with heap := h' }) :
    wpAny (model prog w) A.in1 (Builtin.List.listExtendWith (.ref S) (.ref z) res)
      (fun fin s' => match fin with | .done f => R (.ok f) s' | .again c' => c'.quiet = true ∧ codeAny (model prog w) A c' R s') (fun e s' => R (.error e) s') s := by
  have hSz : S ≠ z := Ne.symm (hS z (by simp))
  have hT : s.TypeIs (.ref z) "zip" := ⟨_, hz, rfl⟩
  unfold Builtin.List.listExtendWith
  refine wpAny_bind (wpAny_typeOf hT ?_)
  have h1 : Builtin.List.listSameRef (.ref S) (.ref z) = false := by simp [Builtin.List.listSameRef, hSz]
  have h2 : (Value.type "zip" == Value.type "list") = false := by decide
  have h3 : (Value.type "zip" == Value.type "tuple") = false := by decide
  simp only [h1, h2, h3, Bool.or_false, Bool.false_eq_true, if_false]
  refine wpAny_bind (wpAny_pyIter_zip hz ?_)
  refine wpAny_bind (wpAny_holding ?_)
  unfold Builtin.List.listLengthHint
  refine wpAny_bind (wpAny_specialOf hT zip_no_len ?_)
  show wpAny _ A.in1 (specialOf (Value.ref z) (Str.ofString "__length_hint__") >>= _) _ _ _
  refine wpAny_bind (wpAny_specialOf hT zip_no_hint ?_)
  refine wpAny_pure ?_
  show wpAny _ A.in1 (rule "list.extend.makes-room" >>= fun _ => Builtin.List.listTouch (.ref S) >>= fun _ =>
    again (.builtin "list.extend.loop" ⟨[.ref S, .ref z, res], []⟩)) _ _ _
  refine wpAny_bind (wpAny_rule ?_)
  refine wpAny_bind ?_
  show wpAny _ A.in1 (updateSeq S (·.push .none) >>= fun _ => updateSeq S (·.pop)) _ _ _
  refine wpAny_bind (wpAny_updateSeq hSo rfl ?_)
  have hS₂ := Heap.get?_update_self (Obj.mapSeq (·.push Value.none)) hSo rfl
  refine wpAny_updateSeq (hz := by seq_fits) hS₂ rfl ?_
  have hS₃ := Heap.get?_update_self (Obj.mapSeq (·.pop)) hS₂ rfl
  have oth : ∀ b o, b ≠ S → s.heap.get? b = some o → ((s.heap.update S (Obj.mapSeq (·.push Value.none))).update S (Obj.mapSeq (·.pop))).get? b = some o :=
    fun b o hb e => (Heap.get?_update_other _ _ (Ne.symm hb)).trans ((Heap.get?_update_other _ _ (Ne.symm hb)).trans e)
  have sz : ((s.heap.update S (Obj.mapSeq (·.push Value.none))).update S (Obj.mapSeq (·.pop))).objs.size = s.heap.objs.size := by
    rw [(Heap.SameBut.update _ S _).1, (Heap.SameBut.update _ S _).1]
  refine wpAny_pure ⟨plainId_quiet F.plain_extend_loop _, zip_loop hh D hl s.heap.objs.size hS (Heap.lt_size hSo) hlt _ _ 0 _ _ _ [] rfl (Nat.zero_le _) (Nat.le_of_eq sz.symm) (st.at hS oth) hS₃ ⟨rfl, rfl, List.nodup_nil, fun _ _ e => by simp at e⟩ fun h' acc' c' Ts' hk hS' ht => ?_⟩
  exact hR h' acc' c' Ts' (fun b o hb e => hk b o hb (oth b o (fun q => hb (by simp [q])) e)) hS' ht
theorem zip_init (hh : A.handled = none) (D : ZipApart z TI TO i1 i2 l1 l2) (hl : min xs.size ys.size ≤ sizeLine) {s : Shared} (hS : ∀ b ∈ [z, TI, TO, i1, i2, l1, l2], b ≠ S) (hlt : ∀ b ∈ [z, TI, TO, i1, i2], b < s.heap.objs.size)
    (hSo : s.heap.get? S = some { cls := .type "list", data := .seq #[] }) (hz : IsZip s.heap z TI TO .none) (st : Zst s.heap S z TI TO i1 i2 l1 l2 xs ys 0)
    (hR : ∀ h' acc' c' Ts', (∀ b o, b ∉ [S, z, TO, i1, i2] → s.heap.get? b = some o → h'.get? b = some o) → h'.get? S = some { cls := .type "list", dict := none, data := .seq acc' c', slots := #[] } → Zts h' s.heap.objs.size xs ys acc' (min xs.size ys.size) Ts' → R (.ok (.ret .none)) { s with heap := h' }) :
    wpAny (model prog w) A.in1 (Builtin.«list.__init__» ⟨[.ref S, .ref z], []⟩)
      (fun fin s' => match fin with | .done f => R (.ok f) s' | .again c' => c'.quiet = true ∧ codeAny (model prog w) A c' R s') (fun e s' => R (.error e) s') s := by
  show wpAny _ A.in1 (do let old ← Builtin.List.listItems (.ref S); Builtin.List.listUpdate (.ref S) (fun _ => #[]); letGo old.toList.reverse; Builtin.List.listExtendWith (.ref S) (.ref z) .none) _ _ s
  refine wpAny_bind ?_
  unfold Builtin.List.listItems
  refine wpAny_bind (wpAny_seqItems hSo rfl (wpAny_pure ?_))
  show wpAny _ A.in1 (updateSeq S (fun _ => #[]) >>= fun _ => letGo (#[] : Array Value).toList.reverse >>= fun _ => Builtin.List.listExtendWith (.ref S) (.ref z) .none) _ _ s
  refine wpAny_bind (wpAny_updateSeq hSo rfl ?_)
  have hS₂ := Heap.get?_update_self (Obj.mapSeq (fun _ => (#[] : Array Value))) hSo rfl
  have oth : ∀ b o, b ≠ S → s.heap.get? b = some o → (s.heap.update S (Obj.mapSeq (fun _ => (#[] : Array Value)))).get? b = some o :=
    fun b o hb e => (Heap.get?_update_other _ _ (Ne.symm hb)).trans e
  have sz : (s.heap.update S (Obj.mapSeq (fun _ => (#[] : Array Value)))).objs.size = s.heap.objs.size := (Heap.SameBut.update _ S _).1
  refine wpAny_bind (wpAny_letGo ?_)
  refine zip_extend hh D hl (s := { s with heap := _ }) hS (fun b m => by show b < (s.heap.update S _).objs.size; rw [sz]; exact hlt b m) .none _ hS₂ (oth _ _ (hS z (by simp)) hz) (st.at hS oth) fun h' acc' c' Ts' hk hS' ht => ?_
  refine hR h' acc' c' Ts' (fun b o hb e => hk b o hb (oth b o (fun q => hb (by simp [q])) e)) hS' ?_
  have ht : Zts h' (s.heap.update S (Obj.mapSeq (fun _ => (#[] : Array Value)))).objs.size xs ys acc' (min xs.size ys.size) Ts' := ht
  rw [sz] at ht
  exact ht
end
section
variable {prog : Program} {w : World} {A : Around} {E : Value → Shared → Prop} {s : Shared} {z TI TO i1 i2 l1 l2 : Addr} {xs ys : Array Value}
theorem call_list_zip {Q : Value → Shared → Prop} (hh : A.handled = none) (D : ZipApart z TI TO i1 i2 l1 l2) (hl : min xs.size ys.size ≤ sizeLine) (hlt : ∀ b ∈ [z, TI, TO, i1, i2, l1, l2], b < s.heap.objs.size)
    (hz : IsZip s.heap z TI TO .none) (hTI : IsPair s.heap TI (.ref i1) (.ref i2)) (hTO : IsPair s.heap TO .none .none) (h1 : s.heap.IsListIter i1 l1 0) (h2 : s.heap.IsListIter i2 l2 0) (hl1 : s.heap.IsList l1 xs) (hl2 : s.heap.IsList l2 ys)
    (hQ : ∀ h' acc' c' Ts', (∀ b o, b ∉ [z, TO, i1, i2] → s.heap.get? b = some o → h'.get? b = some o) → h'.get? s.heap.objs.size = some { cls := .type "list", dict := none, data := .seq acc' c', slots := #[] } → Zts h' (s.heap.objs.size + 1) xs ys acc' (min xs.size ys.size) Ts' → Q (.ref s.heap.objs.size) { s with heap := h' }) :
    wpAny (model prog w) A (call (.type "list") [.ref z]) Q E s := by
  refine callType_codes (Q₁ := fun obj s₁ => obj = .ref s.heap.objs.size ∧ s₁ = { s with heap := s.heap.push { cls := .type "list", data := .seq #[] } }) F.called_list (F.typeCall_list_1 _) F.entry_list_init
    (code_list_new _ ⟨rfl, rfl⟩) fun obj s₁ h₁ => ?_
  obtain ⟨rfl, rfl⟩ := h₁
  have hS : (s.heap.push { cls := .type "list", data := .seq #[] }).get? s.heap.objs.size = some { cls := .type "list", data := .seq #[] } := Heap.get?_push_size _ rfl
  have up : ∀ b o, s.heap.get? b = some o → (s.heap.push { cls := .type "list", data := .seq #[] }).get? b = some o := fun b o e => Heap.get?_push_of_some _ e
  have sz : (s.heap.push { cls := .type "list", data := .seq #[] }).objs.size = s.heap.objs.size + 1 := Heap.size_push ..
  refine ⟨⟨_, hS, rfl⟩, F.args_list_init_2 _ _, zip_init (A := A.in1) hh D hl (s := { s with heap := _ }) (fun b m => Nat.ne_of_lt (hlt b m)) (fun b m => ?_) hS (up _ _ hz)
    ⟨up _ _ hTI, h1.at fun o e => up _ o e, h2.at fun o e => up _ o e, hl1.at fun o e => up _ o e, hl2.at fun o e => up _ o e, .inl ⟨up _ _ hz, _, _, up _ _ hTO⟩⟩ fun h' acc' c' Ts' hk hS' ht => ?_⟩
  · show b < (s.heap.push _).objs.size
    rw [sz]
    exact Nat.lt_succ_of_lt (hlt b (by simp only [List.mem_cons, List.not_mem_nil, or_false] at m ⊢; rcases m with e | e | e | e | e <;> simp [e]))
  · have ht : Zts h' (s.heap.push { cls := .type "list", data := .seq #[] }).objs.size xs ys acc' (min xs.size ys.size) Ts' := ht
    rw [sz] at ht
    exact ⟨rfl, hQ h' acc' c' Ts' (fun b o hb e => hk b o (fun m => (List.mem_cons.mp m).elim (fun q => absurd (Heap.lt_size e) (by rw [q]; exact Nat.lt_irrefl _)) hb) (up b o e)) hS' ht⟩
end
end VS
namespace VS
open PySem PySem.Spec PyProof.Rows L2
section
variable {X : Cx} {k : Kx}
theorem Fp.upd {pins : List (Addr × Obj)} {H : Hp} {b a : Addr} {o : HO} (f : FpOk X pins H b) (ne : b ≠ a) : FpOk X pins (upd H a o) b := ⟨by rw [upd_ne ne]; exact f.1, f.2⟩
/-- the pairs are tracked, one behind the other -/
theorem pairs_take {pins : List (Addr × Obj)} {σ : L2.St} : ∀ (a b : List D) (va vb : List V) (xa xb : List Value) (Ts : List Addr) (F H : Hp) (s : Shared), RepL k F a va → RepL k F b vb → Vals va xa → Vals vb xb → Ts.length = min xa.length xb.length →
    (∀ (j : Nat) (T : Addr), Ts[j]? = some T → ∃ x y, xa[j]? = some x ∧ xb[j]? = some y ∧ IsPair s.heap T x y) → Ts.Nodup → Inv X pins σ H s → Sub F H → (∀ T ∈ Ts, FpOk X pins H T) →
    ∃ F' H', PairsN k (zipL a b) F H (Ts.map V.ref) F' H' ∧ Inv X pins σ H' s ∧ ∀ c, c ∉ Ts → H' c = H c
  | [], b, va, vb, xa, xb, Ts, F, H, s, ra, rb, wa, wb, hl, ht, hn, I, hs, hf => by
    have e1 : va = [] := ra
    subst e1
    cases wa
    have e2 : Ts = [] := List.length_eq_zero_iff.mp (by simpa using hl)
    subst e2
    exact ⟨F, H, ⟨rfl, rfl, rfl⟩, I, fun _ _ => rfl⟩
  | d :: a, [], va, vb, xa, xb, Ts, F, H, s, ra, rb, wa, wb, hl, ht, hn, I, hs, hf => by
    have e1 : vb = [] := rb
    subst e1
    cases wb
    have e2 : Ts = [] := List.length_eq_zero_iff.mp (by simpa using hl)
    subst e2
    exact ⟨F, H, ⟨rfl, rfl, rfl⟩, I, fun _ _ => rfl⟩
  | d :: a, e :: b, va, vb, xa, xb, Ts, F, H, s, ra, rb, wa, wb, hl, ht, hn, I, hs, hf => by
    obtain ⟨v, ra', e1, hv, ta⟩ := ra
    obtain ⟨u, rb', e2, hu, tb⟩ := rb
    subst e1 e2
    cases wa with
    | @cons _ x _ xa wx wa =>
    cases wb with
    | @cons _ y _ xb wy wb =>
    cases Ts with
    | nil => simp at hl
    | cons T Ts =>
    obtain ⟨x', y', q1, q2, hp⟩ := ht 0 T rfl
    cases q1
    cases q2
    have fT := hf T (List.mem_cons_self ..)
    have hT : H T = none := fT.1
    have hFT : F T = none := hs.none hT
    obtain ⟨nT, nTs⟩ := List.nodup_cons.mp hn
    have I2 : Inv X pins σ (upd H T (.frz { cls := .type "tuple", data := .seq #[x, y] } (.tup [v, u]))) s := by
      have := I.take (h' := s.heap) (t' := s.toks) (fun _ _ _ q => q) fT (show ObjOk X.prog X.w (upd H T (.frz { cls := .type "tuple", data := .seq #[x, y] } (.tup [v, u]))) s.heap T (.frz { cls := .type "tuple", data := .seq #[x, y] } (.tup [v, u])) from
        ⟨hp, (by rw [sizeLine_eq]; show 2 ≤ _; decide), [x, y], .cons wx (.cons wy .nil), ⟨_, hp, rfl, 0, rfl⟩⟩)
      exact this
    have s2 : Sub (upd F T (.frz { cls := .type "tuple", data := .seq #[x, y] } (.tup [v, u]))) (upd H T (.frz { cls := .type "tuple", data := .seq #[x, y] } (.tup [v, u]))) := fun c o q => by
      by_cases z : c = T
      · subst z; rw [upd_same] at q ⊢; exact q
      · rw [upd_ne z] at q ⊢; exact hs c o q
    have sF := sub_upd (o := HO.frz { cls := .type "tuple", data := .seq #[x, y] } (.tup [v, u])) hFT
    obtain ⟨F', H', z, I3, k3⟩ := pairs_take a b ra' rb' xa xb Ts _ _ s (ta.mono sF) (tb.mono sF) wa wb (by simp at hl ⊢; omega) (fun j T' q => ht (j + 1) T' q) nTs I2 s2 fun T' m => Fp.upd (hf T' (List.mem_cons_of_mem _ m)) fun q => nT (q ▸ m)
    refine ⟨F', H', ⟨T, _, _, hT, ⟨[v, u], _, rfl, rfl, v, [u], rfl, hv, u, [], rfl, hu, rfl⟩, rfl, z⟩, I3, fun c hc => ?_⟩
    rw [k3 c fun m => hc (List.mem_cons_of_mem _ m), upd_ne fun q => hc (by rw [q]; exact List.mem_cons_self ..)]
theorem ref_vals : ∀ (Ts : List Addr), Vals (Ts.map V.ref) (Ts.map Value.ref)
  | [] => .nil
  | T :: Ts => .cons rfl (ref_vals Ts)
/-- list(zip(..)) -/
theorem pe_listZip (hc : X.calm = true) {p q r s : Pos} {a b : Expr} {ta tb : TE} (g1 : Gl X "list") (m1 : X.mg "list" = none) (g2 : Gl X "zip") (m2 : X.mg "zip" = none) (na : isStar a = false) (nb : isStar b = false) (pa : PE X a ta) (pb : PE X b tb) :
    PE X (.Call (.Name "list" p) [.Call (.Name "zip" q) [a, b] [] r] [] s) (fun σ H Q => ta σ H fun x H1 => tb σ H1 fun y H2 => rZip k [x, y] H2 Q) := by
  refine ⟨fun pins s0 σ H Q I h => ?_⟩
  have hst := starEach_cons (es := [b]) (env := X.env) na
  have hpl := starEach_none (env := X.env) (pos := r) (es := [b]) fun y m => by rw [List.mem_singleton.mp m]; exact nb
  have pab : PA X [a, b] (tCons ta (tCons tb tNil)) := pa_cons pa (pa_cons pb pa_nil (starEach_cons nb)) (starEach_cons na)
  have inner : wpAny (model X.prog X.w) X.A (eval (.Call (.Name "zip" q) [a, b] [] r) X.env) (fun x s1 => ∃ a, x = Value.ref a ∧ wpAny (model X.prog X.w) X.A (call (.type "list") [.ref a]) (EP X pins σ Q) X.xe s1) X.xe s0 := by
    refine Call_ (ld_blt I g2 m2 boot_zip (PyProof.Rows.callWith_type1 (thn (pab.run r pins s0 σ H (fun vs H2 => rZip k vs H2 Q) I h) fun us s1 ⟨vs, H1, I1, r1, F, aa, ab, hs, hds, qq⟩ => ?_) hst hpl))
    obtain ⟨v, w, rfl, ⟨za, va, rfl, ga, ra⟩, ⟨zb, vb, rfl, gb, rb⟩⟩ := ts2 hds
    obtain ⟨u, u', rfl, e1, e2⟩ := vals2 r1
    cases e1
    cases e2
    obtain ⟨xa, wa, pA, zva⟩ := I1.list (.inl ga)
    obtain ⟨xb, wb, pB, _⟩ := I1.list (.inl gb)
    have la := pA.lt
    have lb := pB.lt
    refine call_zip_2 pA.isList pB.isList fun h' hz hTI hTO h1 h2 hsz hk => ⟨_, rfl, ?_⟩
    have hge : ∀ c ∈ [s1.heap.objs.size + 4, s1.heap.objs.size + 2, s1.heap.objs.size + 3, s1.heap.objs.size, s1.heap.objs.size + 1], s1.heap.objs.size ≤ c := fun c m => by
      simp only [List.mem_cons, List.not_mem_nil, or_false] at m
      omega
    have la' : za < h'.objs.size := Nat.lt_of_lt_of_le la (by rw [hsz]; exact Nat.le_add_right _ _)
    have lb' : zb < h'.objs.size := Nat.lt_of_lt_of_le lb (by rw [hsz]; exact Nat.le_add_right _ _)
    have len1 : va.length = xa.length := wa.length
    have hz1 : xa.length ≤ sizeLine := by rw [← len1]; exact zva
    refine call_list_zip (xs := xa.toArray) (ys := xb.toArray) (s := { s1 with heap := h' }) (I1.ok.hd hc) (PySem.W.ktu_apart s1.heap.objs.size za zb la lb) (Nat.le_trans (Nat.min_le_left ..) hz1) (fun b m => ?_) hz hTI hTO h1 h2 (pA.isList.at fun o e => hk _ o e) (pB.isList.at fun o e => hk _ o e) fun h2' acc' c' Ts hk2 hS ht => ?_
    · show b < h'.objs.size
      simp only [List.mem_cons, List.not_mem_nil, or_false] at m
      rcases m with e | e | e | e | e | e | e
      all_goals first | (rw [e]; assumption) | (rw [e, hsz]; exact Nat.add_lt_add_left (by decide) _) | (rw [e, hsz]; exact Nat.lt_add_of_pos_right (by decide))
    · have I2 : Inv X pins σ H1 { s1 with heap := h2' } := I1.kept (t' := s1.toks) fun c o e => hk2 c o (fun m => absurd (Heap.lt_size e) (Nat.not_lt.mpr (hge c (by simp only [List.mem_cons, List.not_mem_nil, or_false] at m ⊢; rcases m with q | q | q | q <;> simp [q])))) (hk c o e)
      have hS0 : s1.heap.objs.size ≤ h'.objs.size := by rw [hsz]; omega
      have tl : ∀ T ∈ Ts, h'.objs.size + 1 ≤ T := fun T m => by
        obtain ⟨j, hj⟩ := List.mem_iff_getElem?.mp m
        exact (ht.tup j T hj).1
      have tf : ∀ T ∈ Ts, s1.heap.objs.size ≤ T := fun T m => by have := tl T m; omega
      have ln : Ts.length = min xa.length xb.length := ht.len
      obtain ⟨F', H', zz, I3, k3⟩ := pairs_take (k := k) (X := X) aa ab va vb xa xb Ts F H1 { s1 with heap := h2' } ra rb wa wb ln (fun j T e => by
        obtain ⟨_, x, y, e1, e2, e3⟩ := ht.tup j T e
        exact ⟨x, y, by simpa using e1, by simpa using e2, e3⟩) ht.nod I2 hs fun T m => I1.fpOk (tf T m) (I1.hok.fresh (tf T m))
      have nS : h'.objs.size ∉ Ts := fun m => absurd (tl _ m) (Nat.not_succ_le_self _)
      have hS1 : H' h'.objs.size = none := (k3 _ nS).trans (I1.hok.fresh hS0)
      have I4 := I3.take (h' := h2') (t' := s1.toks) (fun _ _ _ q => q) (I1.fpOk hS0 hS1) (show ObjOk X.prog X.w (upd H' h'.objs.size (.lst (Ts.map V.ref))) h2' h'.objs.size (.lst (Ts.map V.ref)) from
        ⟨by rw [List.length_map, ln]; exact Nat.le_trans (Nat.min_le_left ..) hz1, _, c', ref_vals Ts, by rw [← ht.acc]; rw [Array.toArray_toList]; exact hS⟩)
      exact ⟨.ref h'.objs.size, _, I4, rfl, qq _ _ _ zz _ hS1⟩
  refine Call_ (ld_blt I g1 m1 boot_list (PyProof.Rows.callWith_type1 (args_cons (thn inner fun x s1 ⟨a, ex, z⟩ => args_nil ?_) rfl) rfl rfl))
  subst ex
  exact z
end
end VS
end
section
set_option Elab.async false
set_option linter.all false
set_option maxRecDepth 100000
set_option maxHeartbeats 8000000
set_option autoImplicit false
/-! V5c: all that is asked of the built-ins. -/
namespace VS
open PySem PySem.Spec PyProof.Rows L2

theorem bo_all {k : Kx} {mg : Str → Option Value} {base : Heap} {lv : Nat} (X : Cx) (E : XK) (S : XC k mg base lv X E) : BO k X where
  fn := bo_fn S.room S.calm S.w
  isTy := bo_isTy S.w
  isLT := b_isLT S.w
  mtIx := fun ho hl hs po pa => pe_index S.room ho hl hs po pa
  listRange := fun g1 m1 g2 m2 ns ne pa => pe_listRange S.calm g1 m1 g2 m2 ns ne pa
  listZip := fun g1 m1 g2 m2 na nb pa pb => pe_listZip S.calm g1 m1 g2 m2 na nb pa pb
end VS
end
section
set_option Elab.async false
set_option linter.all false
set_option maxRecDepth 100000
set_option maxHeartbeats 8000000
set_option autoImplicit false
/-! V6a: a class of two fields is made: its __init__. -/
namespace VS
open PySem PySem.Spec PyProof.Rows L2

theorem bnd_cases {α β : Type} {m : M α} {f : α → M β} {t t' : Tape} {r : Res β} (h : bnd m f t = some (r, t')) : (∃ a t1, m t = some (.ok a, t1) ∧ f a t1 = some (r, t')) ∨ ∃ n l, m t = some (.ex n l, t') ∧ r = .ex n l := by
  unfold bnd at h
  cases q : m t with
  | none => rw [q] at h; cases h
  | some p =>
    obtain ⟨x, t1⟩ := p
    rw [q] at h
    cases x with
    | ok a => exact .inl ⟨a, t1, rfl, h⟩
    | ex n l =>
      cases h
      exact .inr ⟨n, l, rfl, rfl⟩
/-- f(self, d): looks at d; self.f1 = e2; the rest; self.f2 = the dict of slot i -/
def initM (Φ : Nat → List D → M D) (fu m : Nat) (e1 e2 : Ex) (b3 b4 : Stm) (i : Nat) (x : Addr) (d : D) : M D :=
  bnd (ev Φ e1 (env0 m [.exc x [], d])) fun _ => bnd (ev Φ e2 (env0 m [.exc x [], d])) fun a => bnd (exec Φ fu b3 (env0 m [.exc x [], d])) fun r3 => match r3.1 with
    | .nx => bnd (exec Φ fu b4 r3.2) fun r4 => match r4.1, dctAt r4.2 i with
      | .nx, some kvs => if r4.2[0]? = some (some (.exc x [], false)) then ret (.ins 0 [a, .dct kvs]) else stuck
      | _, _ => stuck
    | _ => stuck
section
variable {Φ : Nat → List D → M D} {k : Kx} {E : XK}
/-- what its run is asked -/
def initSp (Φ : Nat → List D → M D) (k : Kx) (nI : Nat) : Sp := fun vs H Q E => ∃ x dx v H0 Q0, vs = [.ref x, v] ∧ H = upd (upd H0 dx (.own x)) x (.ins (k.cl 0) dx []) ∧ H0 x = none ∧ H0 dx = none ∧ dx ≠ x ∧ rCall Φ k E nI [] [v] H0 Q0 ∧ ∀ H', Q0 (.ref x) H' → Q .non H'
def tInit (Φ : Nat → List D → M D) (k : Kx) (E : XK) (fu : Nat) (e1 e2 : Ex) (b3 b4 : Stm) (i : Nat) : TS :=
  tSeq (TSt Φ k E fu (.expr e1)) (tSeq (sFld k.K (T Φ k E (.bor 0)) (T Φ k E e2) "own_rules") (tSeq (TSt Φ k E fu b3) (tSeq (TSt Φ k E fu b4) (sFld k.K (T Φ k E (.bor 0)) (T Φ k E (.bor i)) "own_nexts"))))
theorem tape_ne {k : Kx} {H F : Hp} {t : Tape} (T : TapeOk k H F t) {x C dx : Addr} {fs : List (Str × V)} (h : H x = some (.ins C dx fs)) : ¬ onTape k x := fun z => by
  obtain ⟨on, z⟩ := z
  replace T := T on
  rcases z with e | e | e
  · rw [e, T.d] at h; cases h
  · rw [e, T.l] at h; cases h
  · rw [e, T.c] at h; cases h
theorem no_own {m : Nat} {ds : List D} {i : Nat} {d : D} (h : (env0 m ds)[i]? = some (some (d, true))) : False := by
  obtain ⟨d', _, e⟩ := env0_get h
  cases e
theorem env0_at {m : Nat} {ds : List D} {i : Nat} {d : D} (h : ds[i]? = some d) : (env0 m ds)[i]? = some (some (d, false)) := by
  unfold env0
  have hi : i < ds.length := (List.getElem?_eq_some_iff.mp h).1
  rw [List.getElem?_append_left (by rw [List.length_map]; exact hi), List.getElem?_map, h]
  rfl
theorem init_reads {Φb : Nat → List D → M D} {N : List Str} {fu nI : Nat} {e1 e2 : Ex} {b3 b4 : Stm} {i : Nat} {vs : List V} {H : Hp} {Q : VK} (hb : isBor e2 = false) (C : Cls k.K (k.cl 0)) (n1 : NoAttr k.K (k.cl 0) "own_rules") (n2 : NoAttr k.K (k.cl 0) "own_nexts")
    (hΦ : ∀ (x : Addr) d t r t', Φ nI [d] t = some (r, t') → initM Φb fu N.length e1 e2 b3 b4 i x d t = some (r, t')) (h : initSp Φ k nI vs H Q E) :
    tInit Φb k E fu e1 e2 b3 b4 i { nx := fun _ H' => Q .non H', rt := Q } (L2.start N vs) H := by
  obtain ⟨x, dx, v, H0, Q0, rfl, eH, hx, hdx, hne, ⟨ds, t, F, r, t', hs, tp, rl, e, out⟩, hQ⟩ := h
  obtain ⟨v', r', ev', rv, rn⟩ : ∃ d0, ds = [d0] ∧ Rep k F d0 v ∧ True ∧ True := by
    match ds, rl with
    | [d0], ⟨_, _, e', h', h2⟩ => cases e'; exact ⟨d0, rfl, h', trivial, trivial⟩
    | [], h' => cases h'
    | _ :: _ :: _, ⟨_, _, e', _, _, _, e2, _⟩ => cases e'; cases e2
  have rv0 := ev'
  clear rv rn ev'
  subst r'
  have hI := hΦ x v' t r t' e
  have fx : F x = none := hs.none hx
  have fdx : F dx = none := hs.none hdx
  have Hx : H x = some (.ins (k.cl 0) dx []) := by rw [eH, upd_same]
  have Ho : ∀ b o, H0 b = some o → H b = some o := fun b o q => by
    rw [eH, upd_ne (fun z => by rw [z, hx] at q; cases q), upd_ne (fun z => by rw [z, hdx] at q; cases q)]
    exact q
  have tpH : TapeOk k H F t := fun on => have tp := tp on; ⟨Ho _ _ tp.d, Ho _ _ tp.l, Ho _ _ tp.c, tp.fd, tp.fl, tp.fc, tp.n1, tp.n2, tp.n3⟩
  have subH : Sub F H := fun b o q => Ho b o (hs b o q)
  have R0 : Rel (ct0 k H F) (env0 N.length [.exc x [], v']) t (L2.start N [.ref x, v]) H F := rel0 subH tpH ⟨_, _, rfl, rfl, _, _, rfl, rv0, rfl⟩
  have Px : (ct0 k H F).P x := ⟨⟨_, Hx⟩, tape_ne tpH Hx⟩
  have after1 : ∀ {ρ : Env} {σ : L2.St} {H1 F1 : Hp} {t1 : Tape}, Rel (ct0 k H F) ρ t1 σ H1 F1 → Sub F F1 → After k H0 F H1 F1 t1 := fun {ρ σ H1 F1 t1} R s =>
    ⟨R.sub, R.tape, s, fun b o q n => by
      obtain ⟨h1, h2⟩ := R.prot b ⟨⟨o, Ho b o q⟩, n⟩
      exact ⟨h1.trans (Ho b o q), h2⟩⟩
  unfold initM at hI
  rcases bnd_cases hI with ⟨d1, t1, q1, hI1⟩ | ⟨n, l, q1, rfl⟩
  · refine ⟨ct0 k H F, _, t, F, rfl, R0, .ok (.nx, env0 N.length [.exc x [], v']), t1, by unfold exec; unfold bnd; rw [q1]; rfl, fun σ1 H1 F1 R1 s1 => ?_⟩
    show sFld k.K (T Φb k E (.bor 0)) (T Φb k E e2) "own_rules" _ σ1 H1
    rcases bnd_cases hI1 with ⟨a, t2, q2, hI2⟩ | ⟨n, l, q2, rfl⟩
    · refine ⟨_, _, t1, F1, rfl, R1, .ok a, t2, q2, fun H2 F2 R2 s2 z2 y hy => ?_⟩
      refine ⟨_, _, t2, F2, rfl, R2, .ok (.exc x []), t2, by unfold ev; unfold getB; rw [env0_at (d := .exc x []) rfl]; rfl, fun H3 F3 R3 s3 z3 w hw => ?_⟩
      obtain ⟨w', hw1, hw2⟩ := R3.frz 0 (.exc x []) (env0_at rfl)
      cases (show w' = V.ref x from hw2)
      cases hw.1.symm.trans hw1
      have H3x : H3 x = some (.ins (k.cl 0) dx []) := (R3.prot x Px).1.trans Hx
      have F3x : F3 x = none := (R3.prot x Px).2.trans fx
      refine ⟨x, k.cl 0, dx, [], rfl, H3x, C, n1, by decide, ?_⟩
      show TSt Φb k E fu b3 _ σ1 (upd H3 x (.ins (k.cl 0) dx [("own_rules", y)]))
      have ry : Rep k F3 a y := (hy.rep hb).mono s3
      have tx := tape_ne R3.tape H3x
      have H4x : upd H3 x (HO.ins (k.cl 0) dx [("own_rules", y)]) x = some (.ins (k.cl 0) dx [("own_rules", y)]) := upd_same
      have H4o : ∀ b, b ≠ x → upd H3 x (HO.ins (k.cl 0) dx [("own_rules", y)]) b = H3 b := fun b q => upd_ne q
      generalize eH4 : upd H3 x (HO.ins (k.cl 0) dx [("own_rules", y)]) = H4 at H4x H4o ⊢
      have R4 : Rel (ct0 k H4 F3) (env0 N.length [.exc x [], v']) t2 σ1 H4 F3 := {
        sub := fun b o q => (H4o b fun z => by rw [z, F3x] at q; cases q).trans (R3.sub b o q)
        prot := fun _ _ => ⟨rfl, rfl⟩
        tape := R3.tape.same fun b hb => ⟨H4o b fun z => tx (z ▸ hb), rfl⟩
        len := R3.len
        frz := R3.frz
        own := fun j d q => (no_own q).elim
        sep := fun j _ d _ _ q => (no_own q).elim }
      have P4x : (ct0 k H4 F3).P x := ⟨⟨_, H4x⟩, tape_ne R4.tape H4x⟩
      have grow4 : ∀ {F' : Hp}, Sub F3 F' → Sub F F' := fun s => s1.trans (s2.trans (s3.trans s))
      have old4 : ∀ b o, H0 b = some o → ¬ onTape k b → b ≠ x ∧ H4 b = some o ∧ F3 b = F b := fun b o q n => by
        have ne : b ≠ x := fun z => by rw [z, hx] at q; cases q
        obtain ⟨h1, h2⟩ := R3.prot b ⟨⟨o, Ho b o q⟩, n⟩
        exact ⟨ne, (H4o b ne).trans (h1.trans (Ho b o q)), h2⟩
      have after4 : ∀ {ρ : Env} {σ : L2.St} {H' F' : Hp} {t' : Tape}, Rel (ct0 k H4 F3) ρ t' σ H' F' → Sub F3 F' → After k H0 F H' F' t' := fun {ρ σ H' F' t'} R s =>
        ⟨R.sub, R.tape, grow4 s, fun b o q n => by
          obtain ⟨_, h1, h2⟩ := old4 b o q n
          obtain ⟨h3, h4⟩ := R.prot b ⟨⟨o, h1⟩, n⟩
          exact ⟨h3.trans h1, h4.trans h2⟩⟩
      rcases bnd_cases hI2 with ⟨⟨f3, ρ3⟩, t3, q3, hI3⟩ | ⟨n, l, q3, rfl⟩
      · cases f3 with
        | nx =>
          refine ⟨_, _, t2, F3, rfl, R4, .ok (.nx, ρ3), t3, q3, fun σ5 H5 F5 R5 s5 => ?_⟩
          show TSt Φb k E fu b4 _ σ5 H5
          have hI3 : bnd (exec Φb fu b4 ρ3) (fun r4 => match r4.1, dctAt r4.2 i with
            | .nx, some kvs => if r4.2[0]? = some (some (D.exc x [], false)) then ret (D.ins 0 [a, .dct kvs]) else stuck
            | _, _ => stuck) t3 = some (r, t') := hI3
          rcases bnd_cases hI3 with ⟨⟨f4, ρ4⟩, t4, q4, hI4⟩ | ⟨n, l, q4, rfl⟩
          · cases f4 with
            | nx =>
              refine ⟨_, _, t3, F5, rfl, R5, .ok (.nx, ρ4), t4, q4, fun σ6 H6 F6 R6 s6 => ?_⟩
              show sFld k.K (T Φb k E (.bor 0)) (T Φb k E (.bor i)) "own_nexts" _ σ6 H6
              have hI4 : (match dctAt ρ4 i with
                | some kvs => if ρ4[0]? = some (some (D.exc x [], false)) then ret (D.ins 0 [a, .dct kvs]) else (stuck : M D)
                | _ => stuck) t4 = some (r, t') := by
                  cases hq : dctAt ρ4 i with
                  | none => simp only [hq] at hI4; cases hI4
                  | some kvs => simp only [hq] at hI4; exact hI4
              cases hq : dctAt ρ4 i with
              | none => rw [hq] at hI4; cases hI4
              | some kvs =>
                rw [hq] at hI4
                have ek := dctAt_eq hq
                by_cases h0 : ρ4[0]? = some (some (.exc x [], false))
                · have hI4 : (if ρ4[0]? = some (some (D.exc x [], false)) then ret (D.ins 0 [a, .dct kvs]) else (stuck : M D)) t4 = some (r, t') := hI4
                  rw [if_pos h0] at hI4
                  cases hI4
                  refine ⟨_, _, t', F6, rfl, R6, .ok (.dct kvs), t', by unfold ev; unfold getB; rw [ek]; rfl, fun H7 F7 R7 s7 z7 u hu => ?_⟩
                  refine ⟨_, _, t', F7, rfl, R7, .ok (.exc x []), t', by unfold ev; unfold getB; rw [h0]; rfl, fun H8 F8 R8 s8 z8 w2 hw2 => ?_⟩
                  obtain ⟨w3, hw3, hw4⟩ := R8.frz 0 (.exc x []) h0
                  cases (show w3 = V.ref x from hw4)
                  cases hw2.1.symm.trans hw3
                  obtain ⟨p, ob, k1, k2, k3, k4, k5, k6⟩ := R8.own i _ ek
                  cases hu.1.symm.trans k1
                  have H8x : H8 x = some (.ins (k.cl 0) dx [("own_rules", y)]) := (R8.prot x P4x).1.trans H4x
                  have F8x : F8 x = none := (R8.prot x P4x).2.trans F3x
                  refine ⟨x, k.cl 0, dx, _, rfl, H8x, C, n2, (by show 1 < 1000; decide), ?_⟩
                  have px : p ≠ x := fun z => k5 (z ▸ P4x)
                  refine hQ _ (out _ (upd (upd F8 p ob) x (.ins (k.cl 0) dx [("own_rules", y), ("own_nexts", .ref p)])) ⟨?_, ?_, ?_, ?_⟩ (.ref x) ?_)
                  · intro b o q
                    by_cases z : b = x
                    · subst z
                      rw [upd_same] at q
                      cases q
                      exact upd_same
                    · rw [upd_ne z] at q
                      show upd H8 x _ b = _
                      rw [upd_ne z]
                      by_cases z2 : b = p
                      · subst z2
                        rw [upd_same] at q
                        cases q
                        exact k2
                      · rw [upd_ne z2] at q
                        exact R8.sub b o q
                  · refine R8.tape.same fun b hb => ?_
                    have ne : b ≠ x := fun z => tx (z ▸ hb)
                    have ne2 : b ≠ p := fun z => k6 (z ▸ hb)
                    exact ⟨upd_ne ne, by rw [upd_ne ne, upd_ne ne2]⟩
                  · refine ((grow4 ((s5.trans s6).trans (s7.trans s8))).trans (sub_upd k3)).trans (sub_upd ?_)
                    rw [upd_ne (Ne.symm px)]
                    exact F8x
                  · intro b o q n
                    obtain ⟨ne, h1, h2⟩ := old4 b o q n
                    obtain ⟨h3, h4⟩ := R8.prot b ⟨⟨o, h1⟩, n⟩
                    have np : b ≠ p := fun z => k5 (z ▸ ⟨⟨o, h1⟩, n⟩)
                    exact ⟨(upd_ne ne).trans (h3.trans h1), by rw [upd_ne ne, upd_ne np]; exact h4.trans h2⟩
                  · have sF : Sub F8 (upd (upd F8 p ob) x (.ins (k.cl 0) dx [("own_rules", y), ("own_nexts", .ref p)])) := (sub_upd k3).trans (sub_upd (by rw [upd_ne (Ne.symm px)]; exact F8x))
                    refine ⟨x, dx, [y, .ref p], rfl, upd_same, rfl, y, [.ref p], rfl, ry.mono (((s5.trans s6).trans (s7.trans s8)).trans sF), .ref p, [], rfl, ?_, rfl⟩
                    exact ObjR.rep (by rw [upd_ne px]; exact upd_same) (k4.mono sF)
                · have hI4 : (if ρ4[0]? = some (some (D.exc x [], false)) then ret (D.ins 0 [a, .dct kvs]) else (stuck : M D)) t4 = some (r, t') := hI4
                  rw [if_neg h0] at hI4
                  cases hI4
            | _ => cases hI4
          · exact ⟨_, _, t3, F5, rfl, R5, .ex n l, t', q4, fun ρ' σ' H' F' dx' R' s' xr => out H' F' dx' (after4 R' (s5.trans s')) xr⟩
        | _ => cases hI3
      · exact ⟨_, _, t2, F3, rfl, R4, .ex n l, t', q3, fun ρ' σ' H' F' dx' R' s' xr => out H' F' dx' (after4 R' s') xr⟩
    · exact ⟨_, _, t1, F1, rfl, R1, .ex n l, t', q2, fun H' F' dx' R' s' _ xr => out H' F' dx' (after1 R' (s1.trans s')) xr⟩
  · exact ⟨ct0 k H F, _, t, F, rfl, R0, .ex n l, t', by unfold exec; unfold bnd; rw [q1], fun ρ' σ' H' F' dx' R' s' xr => out H' F' dx' (after1 R' s') xr⟩
end
end VS
end
section
set_option Elab.async false
set_option linter.all false
set_option maxRecDepth 100000
set_option maxHeartbeats 8000000
set_option autoImplicit false
/-! V6b: a class of two fields: made, its properties, its ==. -/
namespace VS
open PySem PySem.Spec PyProof.Rows L2

section
variable {Φ : Nat → List D → M D} {k : Kx} {mg : Str → Option Value} {base : Heap} {lv fu n : Nat} {se : SE}
theorem init_ok {Φb : Nat → List D → M D} (HB : ∀ X E, XC k mg base lv X E → BO k X) (g : GS Φb k mg base lv se) {x qual : Str} {params : Arguments} {S1 S3 S4 : Stmt} {o1 o2 v2 v5 : Expr} {p1 p2 p3 p4 : Pos} {body : List Stmt} {f : Addr} {fd : FuncData} {nI i : Nat} {e1 e2 : Ex} {b3 b4 : Stm}
    (eb : body = [S1, .Assign [.Attribute o1 "own_rules" p1] v2 p2, S3, S4, .Assign [.Attribute o2 "own_nexts" p3] v5 p4]) (F : FunD k.K x qual params body se.sc [] [] f fd) (S : FnScope se.N ["self", "rules"] se.sc) (hf : se.fn = fun _ => true)
    (h1 : trS n se S1 = some (.expr e1)) (h2 : tr n se v2 = some e2) (h3 : trS n se S3 = some b3) (h4 : trS n se S4 = some b4) (h5 : trO n se v5 = some (.bor i)) (h6 : trO n se o1 = some (.bor 0)) (h7 : trO n se o2 = some (.bor 0))
    (sw2 : ∀ env, swapsWith v2 (some (.Attribute o1 "own_rules" p1)) p2.line env = pure false) (sw5 : ∀ env, swapsWith v5 (some (.Attribute o2 "own_nexts" p3)) p4.line env = pure false)
    (C : Cls k.K (k.cl 0)) (n1 : NoAttr k.K (k.cl 0) "own_rules") (n2 : NoAttr k.K (k.cl 0) "own_nexts") (hΦ : ∀ (x : Addr) d t r t', Φ nI [d] t = some (r, t') → initM Φb fu se.N.length e1 e2 b3 b4 i x d t = some (r, t')) :
    FnOk k.P k.w k.K mg base (CX k.P k.w) (lv + 1) f fd ["self", "rules"] (initSp Φ k nI) := by
  refine F.ok S (fun vs H Q E h => ?_) fun cdv A outer s H vs Q E hr h => ⟨tInit Φb k E fu e1 e2 b3 b4 i, ?_, ?_⟩
  · obtain ⟨_, _, _, _, _, e, _⟩ := h
    rw [e]
    rfl
  · have SX : SxS k mg base lv se (cxOf (CX k.P k.w) k.P k.w k.K mg base se.N qual se.sc f cdv A outer s H E) E := ⟨⟨⟨rfl, rfl, rfl, rfl, rfl, hr, rfl, takes_of rfl rfl rfl rfl⟩, rfl, rfl, S.kind, S.nd, fun y _ => rfl⟩, passes_of rfl⟩
    have oS := allS_ok (fu := fu) HB n (Φ := Φb)
    have oE := all_ok HB n (Φ := Φb)
    rw [eb]
    refine pss_cons (oS.s se S1 _ h1 g _ E SX) (pss_cons ?_ (pss_cons (oS.s se S3 _ h3 g _ E SX) (pss_cons (oS.s se S4 _ h4 g _ E SX) (pss_one ?_))))
    · exact ps_fld ((oE.o se o1 _ h6 g).2 _ E SX.toSx) (((oE.e se v2 _ h2 g).2.2 _ E SX.toSx).1) (sw2 _)
    · exact ps_fld ((oE.o se o2 _ h7 g).2 _ E SX.toSx) ((oE.o se v5 _ h5 g).2 _ E SX.toSx) (sw5 _)
  · exact init_reads ((all_ok HB n (Φ := Φb)).e se v2 _ h2 g).2.1 C n1 n2 hΦ h
theorem calls_make {f C : Addr} {fd : FuncData} {nI : Nat} (M : Mk k.K C f) (hC : C = k.cl 0) (F : FnOk k.P k.w k.K mg base (CX k.P k.w) lv f fd ["self", "rules"] (initSp Φ k nI)) (hb : Binds k.K fd ["self", "rules"] []) : CallsTo Φ k mg base (lv + 1) C nI 1 [] [] := by
  intro X E h1 h2 h3 h4 h5 hr tk pins s σ H Q us ws vs zs l1 l2 I r1 r2 h
  have F' : FnOk X.prog X.w X.K X.mg X.base (CX X.prog X.w) lv f fd ["self", "rules"] (initSp Φ k nI) := by rw [h1, h2, h3, h4, h5]; exact F
  match us, l1, r1 with
  | [u], _, .cons (a := v) ru .nil =>
    match ws, l2, r2 with
    | [], _, .nil =>
      exact run_make (by rw [h3]; exact M) F' hr (by rw [h3]; exact hb) .nil (passes_call tk fun _ _ _ _ z => z) I (.cons ru .nil) fun x dx hx hdx hne => ⟨x, dx, v, H, Q, rfl, by rw [hC], hx, hdx, hne, h, fun H' q => ⟨rfl, q⟩⟩
theorem prop_to {x : Str} {f : Nat} {p g : Addr} {fd : FuncData} (C : Cls k.K (k.cl 0)) (hp : PropOf k.K (k.cl 0) x p g) (F : FnOk k.P k.w k.K mg base (CX k.P k.w) lv g fd ["self"] (spF Φ k f 1)) (hb : Binds k.K fd ["self"] [])
    (hI : ∀ ds t r t', Φ f ds t = some (r, t') → (∃ l, ds = [.ins 0 l]) ∧ ∃ d, r = .ok d) : PropTo Φ k mg base (lv + 1) x f where
  ok := fun ds t r t' e => (hI ds t r t' e).2
  to := fun X E S pins s σ H Q y u I ru h => by
    have hc := h
    obtain ⟨ds, t, F', r, t', hs, tp, rl, e, o⟩ := h
    obtain ⟨⟨l, el⟩, _⟩ := hI _ _ _ _ e
    rw [List.append_nil] at el
    subst el
    obtain ⟨v', r', e', hv, _⟩ := rl
    cases e'
    obtain ⟨a, dx, vs, rfl, ha, _⟩ := hv
    cases (show u = Value.ref a from ru)
    have F2 : FnOk X.prog X.w X.K X.mg X.base (CX X.prog X.w) lv g fd ["self"] (spF Φ k f 1) := by rw [S.prog, S.w, S.K, S.mg, S.base]; exact F
    exact getprop_ok (E := E0) I (hs _ _ ha) (by rw [S.K]; exact C) (by rw [S.K]; exact hp) F2 S.room (by rw [S.K]; exact hb) .nil (passes_call (X := X.nox) takes0 fun _ _ _ _ z => z) ⟨rfl, hc⟩
theorem eq_own {g : Addr} (hs : PySem.W.findIn k.K (.ref (k.cl 0)) "__eq__" = some (some (.ref g))) (hf : PySem.W.isFn k.K (.ref g) = true) (hc : CallsTo Φ k mg base lv g 0 2 [] [])
    (hI : ∀ ds t r t', Φ 0 ds t = some (r, t') → ∃ l m, ds = [.ins 0 l, .ins 0 m]) : ∀ X E, XC k mg base lv X E → ∀ o, OpR X (compareOp (cpOf o)) (rCmpI Φ k E o) := by
  rintro X E S o pins s σ H x y v u Q I rx ry ⟨F', t, d1, d2, r, t', hi, hs', tp, r1, r2, e, out⟩
  cases o <;> first | (cases e; done) | skip
  have e : Φ 0 [d1, d2] t = some (r, t') := e
  obtain ⟨l, m, em⟩ := hI _ _ _ _ e
  cases em
  have rc : rCall Φ k E 0 [] [x, y] H Q := ⟨[.ins 0 l, .ins 0 m], t, F', r, t', hs', tp, ⟨_, _, rfl, r1, _, _, rfl, r2, rfl⟩, e, out⟩
  obtain ⟨a, dx, vs, rfl, ha, _⟩ := r1
  obtain ⟨b, dy, ws, rfl, hb, _⟩ := r2
  cases (show v = Value.ref a from rx)
  cases (show u = Value.ref b from ry)
  obtain ⟨mA, J, _⟩ := ins_get I.hok (hs' _ _ ha)
  obtain ⟨mB, J', _⟩ := ins_get I.hok (hs' _ _ hb)
  obtain ⟨od, J, _⟩ := J.look
  obtain ⟨od', J', _⟩ := J'.look
  obtain ⟨m, hF⟩ := I.fr
  show wpAny _ _ (richCompare .Eq (.ref a) (.ref b)) _ _ s
  refine PySem.W.cmp_K (op := .Eq) (tb := .ref (k.cl 0)) S.room.units0 hF I.ok.mod.kin J J'.type (by simp [PySem.W.notFirst]) (by rw [S.K]; exact hs) (by rw [S.K]; exact hf) ?_
  refine wpAny_mono (hc X E S.prog S.w S.K S.mg S.base S.room S.takes pins s σ H Q [.ref a, .ref b] [] [.ref a, .ref b] [] rfl rfl I (.cons rfl (.cons rfl .nil)) .nil rc) (fun w s' z => ?_) fun _ _ q => q
  obtain ⟨z', H', I', rz, qz⟩ := z
  exact SlX.cmpback rz ⟨z', H', I', rz, qz⟩
end
end VS
end
section
set_option Elab.async false
set_option linter.all false
set_option maxRecDepth 100000
set_option maxHeartbeats 8000000
set_option autoImplicit false
/-! V6c: the tape's begin; the law's def. -/
namespace VS
open PySem PySem.Spec PyProof.Rows L2

def Φ0 : Nat → List D → M D := fun _ _ => stuck
/-- a script of ns: the large numbers, the cells -/
def begunSp (Lf Cf : List Int → List Int) : Sp := fun vs H Q E => ∃ (a : Addr) (ns : List Int), vs = [.ref a] ∧ Rd H a (.lst (ns.map V.int)) ∧ ns.length ≤ 63 ∧ ∀ tp lp cp H', (∀ b o, H b = some o → H' b = some o) → H tp = none → H lp = none → H cp = none → tp ≠ lp → tp ≠ cp → lp ≠ cp →
  H' tp = some (.dK [(.inr "large", .ref lp), (.inr "rest", .int 0), (.inr "cells", .ref cp), (.inr "turn", .int 0)]) → H' lp = some (.lst ((Lf ns).map V.int)) → H' cp = some (.lst ((Cf ns).map V.int)) → Q (.ref tp) H'
def lawSp : Sp := fun vs H Q E => ∃ (a : Addr) (ns : List Int), vs = [.ref a] ∧ Rd H a (.lst (ns.map V.int)) ∧ ns.length ≤ 63 ∧ ∀ H', Q (.bl true) H'
theorem ints_eq {k : Kx} {F : Hp} : ∀ (l : List Int) {vs : List V}, RepL k F (l.map D.int) vs → vs = l.map V.int
  | [], _, h => h
  | i :: l, vs, ⟨v, r, e, h, t⟩ => by
    subst e
    cases (show v = V.int i from h)
    rw [ints_eq l t]
    rfl
section
variable {Φ : Nat → List D → M D} {k : Kx} {mg : Str → Option Value} {base : Heap} {lv fu n : Nat} {se : SE}
theorem cx_sxs {A : Around} {outer : List PySem.Env} {s : Shared} {H : Hp} {E : XK} {qual : Str} {f : Addr} {cdv : Value} {ps : List Str} (S : FnScope se.N ps se.sc) (hr : Room lv (A.deeper (envOfC qual se.sc s.heap.objs.size f cdv))) :
    SxS k mg base lv se (cxOf (CX k.P k.w) k.P k.w k.K mg base se.N qual se.sc f cdv A outer s H E) E := ⟨⟨⟨rfl, rfl, rfl, rfl, rfl, hr, rfl, takes_of rfl rfl rfl rfl⟩, rfl, rfl, S.kind, S.nd, fun y _ => rfl⟩, passes_of rfl⟩
theorem begun_ok (HB : ∀ X E, XC k mg base lv X E → BO k X) (hon : k.on = false) (g : GS Φ0 k mg base lv se) {Lf Cf : List Int → List Int} {x qual : Str} {params : Arguments} {S1 : Stmt} {c3 : Expr} {q1 q2 q3 q4 q5 q6 q8 q9 q10 : Pos} {j1 j2 j3 j4 j6 j8 : Nat} {body : List Stmt} {f : Addr} {fd : FuncData} {e1 e3 : Ex}
    (eb : body = [S1, .Return (some (.Dict [some (.Constant (.str "large") j1 q1), some (.Constant (.str "rest") j2 q2), some (.Constant (.str "cells") j3 q3), some (.Constant (.str "turn") j4 q4)] [.Name "large" q5, .Constant (.int 0) j6 q6, c3, .Constant (.int 0) j8 q8] q9)) q10])
    (F : FunD k.K x qual params body se.sc [] [] f fd) (S : FnScope se.N ["script"] se.sc) (h1 : trS n se S1 = some (.new 1 e1)) (h3 : tr n se c3 = some e3) (h5 : trO n se (.Name "large" q5) = some (.bor 1)) (f1 : frs e1 = true) (f3 : frs e3 = true) (hN : 1 < se.N.length)
    (hL : ∀ (ns : List Int) t, ns.length ≤ 63 → ev Φ0 e1 (env0 se.N.length [.lst (ns.map .int)]) t = some (.ok (.lst ((Lf ns).map .int)), t))
    (hC : ∀ (ns : List Int) t, ns.length ≤ 63 → ev Φ0 e3 (setV (env0 se.N.length [.lst (ns.map .int)]) 1 (.lst ((Lf ns).map .int)) true) t = some (.ok (.lst ((Cf ns).map .int)), t)) :
    FnOk k.P k.w k.K mg base (CX k.P k.w) (lv + 1) f fd ["script"] (begunSp Lf Cf) := by
  refine F.ok S (fun vs H Q E h => ?_) fun cdv A outer s H vs Q E hr h => ⟨tSeq (TSt Φ0 k E 0 (.new 1 e1)) (tRet (tDisp [(tC (.str "large"), T Φ0 k E (.bor 1)), (tC (.str "rest"), tC (.int 0)), (tC (.str "cells"), Tn Φ0 k E e3), (tC (.str "turn"), tC (.int 0))])), ?_, ?_⟩
  · obtain ⟨_, _, e, _⟩ := h
    rw [e]
    rfl
  · have SX : SxS k mg base lv se (cxOf (CX k.P k.w) k.P k.w k.K mg base se.N qual se.sc f cdv A outer s H E) E := cx_sxs S hr
    have oS := allS_ok (fu := 0) HB n (Φ := Φ0)
    have oE := all_ok HB n (Φ := Φ0)
    rw [eb]
    refine pss_cons (oS.s se S1 _ h1 g _ E SX) (pss_one (ps_ret (pe_disp ?_ rfl rfl (by simp) (by show 4 ≤ 15; decide))))
    exact pps_cons pe_str ((oE.o se _ _ h5 g).2 _ E SX.toSx) (pps_cons pe_str pe_int (pps_cons pe_str (((oE.e se c3 _ h3 g).2.2 _ E SX.toSx).2.2 f3) (pps_cons pe_str pe_int pps_nil)))
  · obtain ⟨a, ns, rfl, ha, hlen, hQ⟩ := h
    have nt : ∀ b, ¬ onTape k b := fun b z => by
      have := z.1
      rw [hon] at this
      cases this
    have R0 : Rel (ct0 k H H) (env0 se.N.length [.lst (ns.map .int)]) ⟨[], 0, [], 0⟩ (L2.start se.N [.ref a]) H H := rel0 Sub.refl (fun on => by rw [hon] at on; cases on) ⟨_, _, rfl, ⟨a, _, rfl, ha, ints_rep ns⟩, rfl⟩
    have PP : ∀ b o, H b = some o → (ct0 k H H).P b := fun b o e => ⟨⟨o, e⟩, nt b⟩
    refine ⟨_, _, _, _, rfl, R0, .ok (.nx, setV (env0 se.N.length [.lst (ns.map .int)]) 1 (.lst ((Lf ns).map .int)) true), ⟨[], 0, [], 0⟩, ?_, ?_⟩
    · unfold exec
      unfold bnd
      rw [hL ns _ hlen]
      show (if (frs e1 && isMut (.lst ((Lf ns).map D.int))) = true then ret _ else stuck) _ = _
      rw [f1]
      rfl
    · intro σ1 H1 F1 R1 s1
      have R1 : Rel (ct0 k H H) (setV (env0 se.N.length [.lst (ns.map .int)]) 1 (.lst ((Lf ns).map .int)) true) ⟨[], 0, [], 0⟩ σ1 H1 F1 := R1
      have hg1 : (setV (env0 se.N.length [.lst (ns.map .int)]) 1 (.lst ((Lf ns).map .int)) true)[1]? = some (some (.lst ((Lf ns).map .int), true)) := by
        unfold setV
        rw [List.getElem?_set_self]
        unfold env0
        rw [List.length_append, List.length_map, List.length_replicate, List.length_singleton]
        omega
      intro p hp
      have hF1 := R1.sub.none hp
      have R1' := R1.ext (H' := upd H1 p (.dK [])) (F' := F1) ⟨fun b o e => by rw [upd_ne (ne_of_none e hF1)]; exact R1.sub b o e, fun b o e => ⟨by rw [upd_ne (ne_of_none e hp)]; exact e, rfl⟩⟩ Sub.refl
      refine ⟨_, _, _, F1, rfl, R1', .ok (.lst ((Lf ns).map .int)), ⟨[], 0, [], 0⟩, ?_, fun H2 F2 R2 s2 z2 v hv => ?_⟩
      · unfold ev getB
        rw [hg1]
        rfl
      · obtain ⟨lp, ol, k1, k2, k3, k4, k5, k6⟩ := R2.own 1 _ hg1
        cases hv.1.symm.trans k1
        refine ⟨_, _, _, F2, rfl, R2, .ok (.lst ((Cf ns).map .int)), ⟨[], 0, [], 0⟩, hC ns _ hlen, rfl, fun H3 F3 R3 s3 z3 q u hq ho => ?_⟩
        obtain ⟨lp', ol', l1, l2, l3, l4, l5, l6⟩ := R3.own 1 _ hg1
        cases k1.symm.trans l1
        obtain ⟨cs, rfl, rc⟩ := ho
        obtain ⟨ls, rfl, rl⟩ := l4
        have H2p : H2 p = some (.dK []) := z2 p _ upd_same (nt p)
        have H3p : H3 p = some (.dK []) := z3 p _ H2p (nt p)
        have npq : p ≠ q := fun e => by rw [e, hq] at H3p; cases H3p
        have nlq : lp ≠ q := fun e => by rw [e, hq] at l2; cases l2
        have npl : p ≠ lp := fun e => by rw [e, l2] at H3p; cases H3p
        have keep : ∀ b o, H b = some o → H3 b = some o ∧ b ≠ p ∧ b ≠ q := fun b o e => by
          have e1 := (R1.prot b (PP b o e)).1.trans e
          have e3 := (R3.prot b (PP b o e)).1.trans e
          exact ⟨e3, (fun z => by rw [z, hp] at e1; cases e1), fun z => by rw [z, hq] at e3; cases e3⟩
        have none_of : ∀ b, (∀ o, H b = some o → False) → H b = none := fun b h => by
          cases e : H b with
          | none => rfl
          | some o => exact (h o e).elim
        refine ⟨by rw [upd_ne npq]; exact H3p, [(.inr "large", .ref lp), (.inr "rest", .int 0), (.inr "cells", .ref q), (.inr "turn", .int 0)], rfl, by show 4 ≤ 15; decide, ?_⟩
        refine hQ p lp q _ (fun b o e => ?_) (none_of p fun o e => (keep p o e).2.1 rfl) (none_of lp fun o e => l5 (PP lp o e)) (none_of q fun o e => (keep q o e).2.2 rfl) npl npq nlq ?_ ?_ ?_
        · obtain ⟨h1, h2, h3⟩ := keep b o e
          rw [upd_ne h2, upd_ne h3]
          exact h1
        · rw [upd_same]
          rfl
        · rw [upd_ne (Ne.symm npl), upd_ne nlq, l2, ints_eq _ rl]
        · rw [upd_ne (Ne.symm npq), upd_same, ints_eq _ rc]
/-- the law's run, its tape made -/
def kxT (k : Kx) (tp lp cp : Addr) : Kx := { k with tp := tp, lp := lp, cp := cp, on := true }
theorem law_ok (HB : ∀ tp lp cp X E, XC (kxT k tp lp cp) mg base lv X E → BO (kxT k tp lp cp) X) (g : ∀ tp lp cp, GS Φ (kxT k tp lp cp) mg base lv se) {Lf Cf : List Int → List Int} {x qual : Str} {params : Arguments} {rest : List Stmt} {p1 p2 p3 p4 p5 : Pos} {body : List Stmt} {f fb : Addr} {fd fdb : FuncData} {b : List Stm}
    (eb : body = .Assign [.Name "tape" p1] (.Call (.Name "_law_begun" p2) [.Name "script" p3] [] p4) p5 :: rest) (F : FunD k.K x qual params body se.sc [] [] f fd) (S : FnScope se.N ["script"] se.sc) (hf : se.fn = fun _ => true)
    (B : FnOk k.P k.w k.K mg base (CX k.P k.w) lv fb fdb ["script"] (begunSp Lf Cf)) (hmb : mg "_law_begun" = some (.ref fb)) (kpb : PySem.W.keepIn k.K (.ref fb) = true) (bb : Binds k.K fdb ["script"] [])
    (h0 : se.slot "script" = some 0) (h1 : se.loc "tape" = some 1) (hgl : se.isGl "_law_begun" = true) (hr : trSs n se rest = some b) (hN : 1 < se.N.length)
    (run : ∀ ns : List Int, ns.length ≤ 63 → ∃ ρ' t', execs Φ fu b (setV (env0 se.N.length [.lst (ns.map .int)]) 1 .tape false) ⟨Lf ns, 0, Cf ns, 0⟩ = some (.ok (.rt (.bl true), ρ'), t')) :
    FnOk k.P k.w k.K mg base (CX k.P k.w) (lv + 1) f fd ["script"] lawSp := by
  refine F.ok S (fun vs H Q E h => ?_) fun cdv A outer s H vs Q E hro h => ⟨tSeq (tAsg (tCall (begunSp Lf Cf) [] E0 (tCons (tVar 0) tNil)) (gName 1)) (fun D σ H => ∃ tp lp cp, TSs' Φ (kxT k tp lp cp) E fu b D σ H), ?_, ?_⟩
  · obtain ⟨_, _, e, _⟩ := h
    rw [e]
    rfl
  · have SX : ∀ tp lp cp, SxS (kxT k tp lp cp) mg base lv se (cxOf (CX k.P k.w) k.P k.w k.K mg base se.N qual se.sc f cdv A outer s H E) E := fun tp lp cp => cx_sxs (k := kxT k tp lp cp) S hro
    rw [eb]
    refine pss_cons ?_ ⟨fun pins s1 σ H1 D I q => ?_⟩
    · have S0 := (SX 0 0 0).toSx
      obtain ⟨a1, a2, a3, a4⟩ := slot_of S0 h0
      obtain ⟨l1, l2, l3, _⟩ := loc_of S0 h1
      obtain ⟨g1, g2, _⟩ := gl_of S0 hgl
      exact ps_set S.nd l1 l2 (pe_call B hro g1 hmb kpb bb .nil (passes_call (X := cxOf (CX k.P k.w) k.P k.w k.K mg base se.N qual se.sc f cdv A outer s H E) S0.takes fun _ _ _ _ z => z.elim) (pa_cons (pe_var a1 a2 a3 a4) pa_nil rfl) g2 rfl rfl) rfl l3
    · obtain ⟨tp, lp, cp, q⟩ := q
      exact ((allS_ok (fu := fu) (HB tp lp cp) n (Φ := Φ)).ss se rest b hr (g tp lp cp) _ E (SX tp lp cp)).run pins s1 σ H1 D I q
  · obtain ⟨a, ns, rfl, ha, hlen, hQ⟩ := h
    refine ⟨.ref a, start_get rfl, a, ns, rfl, ha, hlen, fun tp lp cp H' hold e1 e2 e3 n1 n2 n3 ht hl hc => ?_⟩
    obtain ⟨ρ', t', he⟩ := run ns hlen
    have Ha : ∀ u, Rd H a u → a ≠ tp ∧ a ≠ lp := fun u z => by
      have : ∃ o, H a = some o := z.elim (fun z => ⟨_, z⟩) fun ⟨o, z⟩ => ⟨_, z⟩
      obtain ⟨o, e⟩ := this
      exact ⟨(fun z => by rw [z, e1] at e; cases e), fun z => by rw [z, e2] at e; cases e⟩
    let Fr : Hp := fun b => if b = tp ∨ b = lp then none else H' b
    have Fne : ∀ b, b ≠ tp → b ≠ lp → Fr b = H' b := fun b z w => if_neg fun q => q.elim z w
    have ftp : Fr tp = none := if_pos (.inl rfl)
    have flp : Fr lp = none := if_pos (.inr rfl)
    have sub : Sub Fr H' := fun b o e => by
      by_cases z : b = tp ∨ b = lp
      · rw [show Fr b = none from if_pos z] at e; cases e
      · rw [show Fr b = H' b from if_neg z] at e; exact e
    have T0 : TapeOk (kxT k tp lp cp) H' Fr ⟨Lf ns, 0, Cf ns, 0⟩ := fun _ => ⟨ht, hl, hc, ftp, flp, (Fne cp (Ne.symm n2) (Ne.symm n3)).trans hc, n1, n2, n3⟩
    have lenE : (env0 se.N.length [D.lst (ns.map .int)]).length = se.N.length := by
      unfold env0
      rw [List.length_append, List.length_map, List.length_replicate, List.length_singleton]
      omega
    have R : Rel (ct0 (kxT k tp lp cp) H' Fr) (setV (env0 se.N.length [.lst (ns.map .int)]) 1 .tape false) ⟨Lf ns, 0, Cf ns, 0⟩ ((L2.start se.N [.ref a]).set 1 (some (.ref tp))) H' Fr := {
      sub := sub
      prot := fun _ _ => ⟨rfl, rfl⟩
      tape := T0
      len := by
        unfold setV
        rw [List.length_set, List.length_set, lenE]
        unfold L2.start
        rw [List.length_append, List.length_map, List.length_replicate, List.length_singleton]
        omega
      frz := fun i d e => by
        unfold setV at e
        by_cases hi : i = 1
        · subst hi
          rw [List.getElem?_set_self (by rw [lenE]; exact hN)] at e
          cases e
          refine ⟨.ref tp, ?_, rfl, rfl⟩
          rw [List.getElem?_set_self]
          unfold L2.start
          rw [List.length_append, List.length_map, List.length_replicate, List.length_singleton]
          omega
        · rw [List.getElem?_set_ne (Ne.symm hi)] at e
          obtain ⟨d', h1, h2⟩ := env0_get e
          cases h2
          match i, h1 with
          | 0, h1 =>
            cases h1
            refine ⟨.ref a, by rw [List.getElem?_set_ne (by decide)]; exact start_get rfl, a, _, rfl, ?_, ints_rep ns⟩
            obtain ⟨m1, m2⟩ := Ha _ ha
            rcases ha with z | ⟨o, z⟩
            · exact .inl ((Fne a m1 m2).trans (hold _ _ z))
            · exact .inr ⟨o, (Fne a m1 m2).trans (hold _ _ z)⟩
          | i + 1, h1 => simp at h1
      own := fun i d e => by
        unfold setV at e
        by_cases hi : i = 1
        · subst hi
          rw [List.getElem?_set_self (by rw [lenE]; exact hN)] at e
          cases e
        · rw [List.getElem?_set_ne (Ne.symm hi)] at e
          exact (no_own e).elim
      sep := fun i j d e b h => by
        unfold setV at h
        by_cases hi : i = 1
        · subst hi
          rw [List.getElem?_set_self (by rw [lenE]; exact hN)] at h
          cases h
        · rw [List.getElem?_set_ne (Ne.symm hi)] at h
          exact (no_own h).elim }
    refine ⟨tp, lp, cp, _, _, _, _, rfl, R, _, _, he, fun σ' H2 F2 R2 s2 v hv => ?_⟩
    cases (show v = V.bl true from hv)
    exact hQ H2
end
end VS
end
section
set_option Elab.async false
set_option linter.all false
set_option maxRecDepth 100000
set_option maxHeartbeats 8000000
set_option autoImplicit false
/-! V7: what the head tells: defs, getters of properties, the class of two fields. -/
namespace VS
open PySem PySem.Spec PyProof.Rows L2

/-- the function at a, as far as it is looked at -/
def fnA (K : PySem.W.Frag) (a : Addr) : He.FnW := (K.lookup a).bind fun o => match o.data with
  | .func z => some (z.name, z.qualname, z.params, z.body, z.scope, z.globals, z.closure, z.builtins)
  | _ => none
/-- the function behind the property x of the class at C -/
def gtA (K : PySem.W.Frag) (C : Addr) (x : Str) : Addr := match PySem.W.recIn K (He.ma K C x) "property" with
  | some (.ref g :: _) => g
  | _ => 0
def okA (K : PySem.W.Frag) (a : Addr) (q : Str) : Bool := PySem.W.keepIn K (.ref a) && (match (K.lookup a).map (·.data) with
  | some (Data.func z) => PySem.W.codeIn K z.code q && (He.dflB K z.defaults [] && He.kwdB K z.kwdefaults [])
  | _ => false)
theorem fnA_ok {K : PySem.W.Frag} {a : Addr} {d : He.DefD} (h1 : fnA K a = d.val) (h2 : okA K a d.qual = true) : ∃ fd, FunD K d.name d.qual d.params d.body d.scope [] [] a fd := by
  unfold okA at h2
  obtain ⟨kp, h2⟩ := Bool.and_eq_true_iff.mp h2
  unfold fnA at h1
  cases q : K.lookup a with
  | none => rw [q] at h1; cases h1
  | some o =>
    obtain ⟨oc, od, dt, osl⟩ := o
    rw [q] at h1 h2
    cases dt <;> first | (cases h1; done) | skip
    rename_i z
    cases z
    have h1 := Option.some.inj h1
    simp only [Prod.mk.injEq] at h1
    obtain ⟨rfl, rfl, rfl, rfl, rfl, rfl, rfl, rfl⟩ := h1
    obtain ⟨k1, k2⟩ := Bool.and_eq_true_iff.mp h2
    obtain ⟨k3, k4⟩ := Bool.and_eq_true_iff.mp k2
    exact ⟨_, ⟨_, _, _, _, _, _, _, _, _, _, rfl, q, k1, He.dflB_ok k3, He.kwdB_ok k4⟩, kp⟩
abbrev AlY : Type := He.AlD × Bool × List He.FnW
def obsY (fa : List He.Fa) (fn gs : List He.DefD) (ex : PySem.W.Frag → Bool) (K : PySem.W.Frag) : AlY :=
  (He.obsD fa fn K, ex K && gs.all fun d => okA K (gtA K (He.ga K d.at_.1) d.name) d.qual, gs.map fun d => fnA K (gtA K (He.ga K d.at_.1) d.name))
def valY (fn gs : List He.DefD) : AlY := (He.valD fn, true, gs.map He.DefD.val)
def hookY (n : Nat) (fa : List He.Fa) (fn gs : List He.DefD) (ex : PySem.W.Frag → Bool) : PySem.W.Hook where
  α := AlY
  obs := fun s => obsY fa fn gs ex (He.frG s.heap.get? (He.asD s.heap.get? n))
  val := fun _ => valY fn gs
  says := fun _ h => ∃ K : PySem.W.Frag, K.In h ∧ obsY fa fn gs ex K = valY fn gs
  of := fun _ _ e => ⟨_, He.frG_in, e⟩
  keeps := fun _ _ _ ⟨K, hK, c⟩ k => ⟨K, hK.keeps k, c⟩
theorem obsY_eq {n : Nat} {fa : List He.Fa} {fn gs : List He.DefD} {ex : PySem.W.Frag → Bool} {g : Addr → Option Obj} {s : Shared} (h : ∀ a, g a = s.heap.get? a) : obsY fa fn gs ex (He.frG g (He.asD g n)) = (hookY n fa fn gs ex).obs s := by
  rw [show g = s.heap.get? from funext h]
  rfl
section
variable {fa : List He.Fa} {fn gs : List He.DefD} {ex : PySem.W.Frag → Bool} {K : PySem.W.Frag}
theorem saysY (c : obsY fa fn gs ex K = valY fn gs) : He.SaysD fa fn K ∧ ex K = true ∧ ∀ (i : Nat) (d : He.DefD), gs[i]? = some d → ∃ fd, FunD K d.name d.qual d.params d.body d.scope [] [] (gtA K (He.ga K d.at_.1) d.name) fd := by
  have c1 := congrArg Prod.fst c
  have c2 := congrArg (fun z : AlY => z.2.1) c
  have c3 := congrArg (fun z : AlY => z.2.2) c
  obtain ⟨h1, h2⟩ := Bool.and_eq_true_iff.mp (show (ex K && gs.all fun d => okA K (gtA K (He.ga K d.at_.1) d.name) d.qual) = true from c2)
  refine ⟨c1, h1, fun i d e => ?_⟩
  have m := List.mem_of_getElem? e
  have e2 : (gs.map fun d => fnA K (gtA K (He.ga K d.at_.1) d.name))[i]? = (gs.map He.DefD.val)[i]? := congrArg (fun l : List He.FnW => l[i]?) c3
  rw [List.getElem?_map, List.getElem?_map, e] at e2
  exact fnA_ok (Option.some.inj e2) (List.all_eq_true.mp h2 d m)
/-- no list is written -/
def noLst (K : PySem.W.Frag) : Bool := K.all fun p => !(p.2.cls == .type "list")
theorem noLst_rd (h : noLst K = true) {H : Hp} {a : Addr} {vs : List V} (s : SqL K H a vs) : Rd H a (.lst vs) := by
  rcases s with s | ⟨o, its, n, hk, hc, _⟩
  · exact s
  · have m : (a, o) ∈ K := by
      clear h hc
      induction K with
      | nil => cases hk
      | cons p r ih =>
        obtain ⟨b, ob⟩ := p
        rw [List.lookup_cons] at hk
        split at hk
        · rename_i q
          cases hk
          rw [beq_iff_eq.mp q]
          exact List.mem_cons_self ..
        · exact List.mem_cons_of_mem _ (ih hk)
    have := List.all_eq_true.mp h _ m
    rw [show ((a, o) : Addr × Obj).2.cls = .type "list" from hc] at this
    cases this
/-- the class of two fields -/
def clsB (K : PySem.W.Frag) (C : Addr) : Bool :=
  He.eqO (PySem.W.findIn K (.ref C) "__class__") (some (some (.builtin "object.__class__"))) && (He.eqO (PySem.W.specialIn K (.builtin "object.__class__") "__get__") (some (some (.builtin "getset_descriptor.__get__"))) &&
    (decide (PySem.W.takesIn K (.builtin "object.__class__") = some true) && (decide (PySem.W.mroIn K C (.type "object") = some true) &&
      (["NoneType", "bool", "int", "str", "tuple", "list", "dict"] : List String).all fun n => decide (PySem.W.kitOne K (.type n) (.ref C) = some false))))
theorem clsB_ok {k : Kx} {c : Nat} (h : clsB k.K (k.cl c) = true) (hc : Cls k.K (k.cl c)) : ClsF k c := by
  obtain ⟨h1, h⟩ := Bool.and_eq_true_iff.mp h
  obtain ⟨h2, h⟩ := Bool.and_eq_true_iff.mp h
  obtain ⟨h3, h⟩ := Bool.and_eq_true_iff.mp h
  obtain ⟨h4, h5⟩ := Bool.and_eq_true_iff.mp h
  exact ⟨hc, He.eqO_ok h1, He.eqO_ok h2, of_decide_eq_true h3, of_decide_eq_true h4, fun n m => of_decide_eq_true (List.all_eq_true.mp h5 n m)⟩
/-- a property -/
def propB (K : PySem.W.Frag) (C : Addr) (x : Str) : Bool :=
  He.eqO (PySem.W.findIn K (.ref C) x) (some (some (.ref (He.ma K C x)))) && (He.eqO (PySem.W.specialIn K (.ref (He.ma K C x)) "__get__") (some (some (.builtin "property.__get__"))) && (decide (PySem.W.takesIn K (.ref (He.ma K C x)) = some true) &&
    (match PySem.W.recIn K (He.ma K C x) "property" with
      | some (.ref g :: _) => true
      | _ => false)))
theorem propB_ok {C : Addr} {x : Str} (h : propB K C x = true) : PropOf K C x (He.ma K C x) (gtA K C x) := by
  obtain ⟨h1, h⟩ := Bool.and_eq_true_iff.mp h
  obtain ⟨h2, h⟩ := Bool.and_eq_true_iff.mp h
  obtain ⟨h3, h4⟩ := Bool.and_eq_true_iff.mp h
  refine ⟨He.eqO_ok h1, He.eqO_ok h2, of_decide_eq_true h3, ?_⟩
  unfold gtA
  split at h4
  · rename_i g r e
    rw [e]
    exact ⟨r, rfl⟩
  · cases h4
end
end VS
end
section
set_option Elab.async false
set_option linter.all false
set_option maxRecDepth 100000
set_option maxHeartbeats 8000000
set_option autoImplicit false
/-! V8: a module's facts, entry by entry. -/
namespace VS
open PySem PySem.Spec PyProof.Rows L2

section
variable (Φ : Nat → List D → M D) (k : Kx) (mg : Str → Option Value) (base : Heap) (lv : Nat)
def ShAll (fv : Addr) (f : Nat) : List (Nat × List Str × List D) → Prop
  | [] => True
  | p :: r => CallsTo Φ k mg base lv fv f p.1 p.2.1 p.2.2 ∧ ShAll fv f r
def FnEnt (x : Str) (g : GFn) : Prop := ∃ fv, mg x = some (.ref fv) ∧ PySem.W.keepIn k.K (.ref fv) = true ∧ ShAll Φ k mg base lv fv g.f g.sh
def EntOk (x : Str) : GK → Prop
  | .fn g => FnEnt Φ k mg base lv x g
  | .cls g => FnEnt Φ k mg base lv x g
  | .const d => ∃ v u, mg x = some u ∧ RelV v u ∧ ∀ F, Rep k F d v
  | _ => True
def EntAll : List (Str × GK) → Prop
  | [] => True
  | p :: r => EntOk Φ k mg base lv p.1 p.2 ∧ EntAll r
def AttOk (x : Str) : AK → Prop
  | .fld c i => (flds c)[i]? = some x ∧ (flds c).Nodup ∧ Cls k.K (k.cl c) ∧ NoAttr k.K (k.cl c) x
  | .prop f => PropTo Φ k mg base lv x f
def AttAll : List (Str × AK) → Prop
  | [] => True
  | p :: r => AttOk Φ k mg base lv p.1 p.2 ∧ AttAll r
def CidAll : List (Str × Nat) → Prop
  | [] => True
  | p :: r => (mg p.1 = some (.ref (k.cl p.2)) ∧ ClsF k p.2) ∧ CidAll r
end
section
variable {Φ : Nat → List D → M D} {k : Kx} {mg : Str → Option Value} {base : Heap} {lv lv' : Nat} {se : SE}
theorem ShAll.all {fv : Addr} {f : Nat} : ∀ {l : List (Nat × List Str × List D)}, ShAll Φ k mg base lv fv f l → ∀ p ∈ l, CallsTo Φ k mg base lv fv f p.1 p.2.1 p.2.2
  | _ :: _, h, p, m => (List.mem_cons.mp m).elim (fun e => e ▸ h.1) fun m => ShAll.all h.2 p m
theorem EntAll.at : ∀ {l : List (Str × GK)}, EntAll Φ k mg base lv l → ∀ {x : Str} {g : GK}, l.lookup x = some g → EntOk Φ k mg base lv x g
  | p :: r, h, x, g, e => by
    rw [List.lookup_cons] at e
    split at e
    · rename_i q
      cases e
      rw [beq_iff_eq.mp q]
      exact h.1
    · exact EntAll.at h.2 e
theorem AttAll.at : ∀ {l : List (Str × AK)}, AttAll Φ k mg base lv l → ∀ {x : Str} {g : AK}, l.lookup x = some g → AttOk Φ k mg base lv x g
  | p :: r, h, x, g, e => by
    rw [List.lookup_cons] at e
    split at e
    · rename_i q
      cases e
      rw [beq_iff_eq.mp q]
      exact h.1
    · exact AttAll.at h.2 e
theorem CidAll.at : ∀ {l : List (Str × Nat)}, CidAll k mg l → ∀ {x : Str} {c : Nat}, l.lookup x = some c → mg x = some (.ref (k.cl c)) ∧ ClsF k c
  | p :: r, h, x, g, e => by
    rw [List.lookup_cons] at e
    split at e
    · rename_i q
      cases e
      rw [beq_iff_eq.mp q]
      exact h.1
    · exact CidAll.at h.2 e
theorem gs_of (he : EntAll Φ k mg base lv se.g) (ha : AttAll Φ k mg base lv se.att) (hc : CidAll k mg se.cids) (hb : ∀ x, bltNames.contains x = true → mg x = none) (hq : ∀ X E, XC k mg base lv X E → ∀ o, OpR X (compareOp (cpOf o)) (rCmpI Φ k E o)) : GS Φ k mg base lv se where
  fn := fun x g h => by
    rcases h with h | h
    all_goals
      obtain ⟨fv, h1, h2, h3⟩ := he.at h
      exact ⟨fv, h1, h2, h3.all⟩
  const := fun x d h => he.at h
  blt := fun x h _ => hb x h
  cid := fun x c h => ⟨(hc.at h).1, fun X E S => b_isCls S.w S.K (hc.at h).2⟩
  fld := fun x c i h => ha.at h
  prop := fun x f h => ha.at h
  eqI := hq
theorem XC.mono {X : Cx} {E : XK} (S : XC k mg base lv' X E) (h : lv ≤ lv') : XC k mg base lv X E := ⟨S.prog, S.w, S.K, S.mg, S.base, S.room.mono h, S.calm, S.takes⟩
theorem PropTo.mono {x : Str} {f : Nat} (p : PropTo Φ k mg base lv x f) (h : lv ≤ lv') : PropTo Φ k mg base lv' x f := ⟨p.ok, fun X E S => p.to X E (S.mono h)⟩
theorem PropTo.conv {Φ' : Nat → List D → M D} {x : Str} {f : Nat} (p : PropTo Φ k mg base lv x f) (e : Φ' f = Φ f) : PropTo Φ' k mg base lv x f where
  ok := by rw [e]; exact p.ok
  to := fun X E S pins s σ H Q y u I ru h => p.to X E S pins s σ H Q y u I ru (by unfold rCall at h ⊢; rw [e] at h; exact h)
theorem eq_to {Φ' : Nat → List D → M D} (h : ∀ X E, XC k mg base lv X E → ∀ o, OpR X (compareOp (cpOf o)) (rCmpI Φ k E o)) (e : Φ' 0 = Φ 0) : ∀ X E, XC k mg base lv X E → ∀ o, OpR X (compareOp (cpOf o)) (rCmpI Φ' k E o) := by
  rintro X E S o pins s σ H x y v u Q I rx ry ⟨F, t, d1, d2, r, t', hi, hs', tp, r1, r2, e', out⟩
  refine h X E S o pins s σ H x y v u Q I rx ry ⟨F, t, d1, d2, r, t', hi, hs', tp, r1, r2, ?_, out⟩
  cases o <;> first | (cases e'; done) | skip
  have e' : Φ' 0 [d1, d2] t = some (r, t') := e'
  rw [e] at e'
  exact e'
/-- no instance is compared -/
theorem eq_none (h : ∀ ds, Φ 0 ds = stuck) : ∀ X E, XC k mg base lv X E → ∀ o, OpR X (compareOp (cpOf o)) (rCmpI Φ k E o) := by
  rintro X E S o pins s σ H x y v u Q I rx ry ⟨F, t, d1, d2, r, t', hi, hs', tp, r1, r2, e, out⟩
  cases o <;> first | (cases e; done) | skip
  have e : Φ 0 [d1, d2] t = some (r, t') := e
  rw [h] at e
  cases e
theorem CallsTo.to {Φ' : Nat → List D → M D} {fv : Addr} {f n : Nat} {ks : List Str} {dfl : List D} (h : CallsTo Φ k mg base lv fv f n ks dfl) (e : Φ' f = Φ f) : CallsTo Φ' k mg base lv fv f n ks dfl := by
  intro X E h1 h2 h3 h4 h5 hr tk pins s σ H Q us ws vs zs l1 l2 I r1 r2 q
  refine h X E h1 h2 h3 h4 h5 hr tk pins s σ H Q us ws vs zs l1 l2 I r1 r2 ?_
  unfold rCall at q ⊢
  rw [e] at q
  exact q
/-- every parameter is given, no defaults -/
theorem kbn_none {K : PySem.W.Frag} {x qual : Str} {params : Arguments} {body : List Stmt} {scope : Scope} {kws : List (Str × V)} {f : Addr} {fd : FuncData} {ps ks : List Str} {n : Nat} (F : FunD K x qual params body scope [] kws f fd)
    (h : ∀ (kV doc pm : Value) (an : Option Addr) (cdv ct : Value) (us ws : List Value), us.length = n → ws.length = ks.length → bindArgs (PySem.W.fnOf x qual params body scope .none kV doc pm an cdv ct) ⟨us, ks.zip ws⟩ = pure (ps.zip (us ++ (ws ++ [])))) :
    KBn K fd ps n ks (fun us ws => us ++ (ws ++ [])) (fun vs zs => vs ++ (zs ++ [])) := by
  obtain ⟨oc, od, dV, kV, doc, pm, an, cdv, ct, osl, rfl, lk, hcd, hD, hK⟩ := F.ex
  rcases hD with ⟨_, rfl⟩ | ⟨e, _⟩
  · exact ⟨fun s us ws X l1 l2 => .of_eq (h _ _ _ _ _ _ us ws l1 l2), fun r1 r2 => r1.append (r2.append .nil)⟩
  · exact absurd rfl e
theorem FunD_one {K : PySem.W.Frag} {x qual : Str} {params : Arguments} {body : List Stmt} {scope : Scope} {dvs : List V} {kws : List (Str × V)} {f : Addr} {fd fd' : FuncData} (F : FunD K x qual params body scope dvs kws f fd) (F' : FunD K x qual params body scope dvs kws f fd') : fd = fd' := by
  obtain ⟨_, _, _, _, _, _, _, _, _, _, _, lk, _⟩ := F.ex
  obtain ⟨_, _, _, _, _, _, _, _, _, _, _, lk', _⟩ := F'.ex
  have e := lk.symm.trans lk'
  simp only [Option.some.injEq, Obj.mk.injEq, Data.func.injEq] at e
  exact e.2.2.1
/-- what may leave a law's run, whatever the world -/
def CXw (P : Program) : CXT := fun st H s E u s' => ∃ w, CX P w st H s E u s'
theorem fn_cx {P : Program} {w : World} {K : PySem.W.Frag} {mg : Str → Option Value} {base : Heap} {lv : Nat} {f : Addr} {fd : FuncData} {ps : List Str} {sp : Sp} (F : FnOk P w K mg base (CX P w) lv f fd ps sp) : FnOk P w K mg base (CXw P) lv f fd ps sp :=
  ⟨F.len, fun A outer s H args us vs Q E hr he hb hv hs => codeAny_mono (F.run A outer s H args us vs Q E hr he hb hv hs) fun r s' q => by
    cases r with
    | error e => exact ⟨w, q⟩
    | ok fl => cases fl <;> exact q⟩
theorem cxw_no {P : Program} {H : Hp} {s s' : Shared} {e : Value} (h : CXw P [] H s (fun _ _ _ => False) e s') : False := by
  obtain ⟨w, _, _, _, _, _, _, _, _, _, _, _, _, z⟩ := h
  exact z
theorem free_all {mg : Str → Option Value} (h : ∀ x ∈ bltNames, mg x = none) : ∀ x, bltNames.contains x = true → mg x = none := fun x hx => h x (List.contains_iff_mem.mp hx)
end
end VS
end
section
set_option Elab.async false
set_option linter.all false
set_option maxRecDepth 100000
set_option maxHeartbeats 4000000
set_option autoImplicit false
/-! V9: plain rules for the evaluator; states of switches. -/
namespace VS
open PySem

/-- it comes to an end, with P -/
def wp {α : Type} (m : M α) (P : α → Tape → Prop) (t : Tape) : Prop := ∃ a t', m t = some (.ok a, t') ∧ P a t'
section
variable {α β : Type} {m : M α} {f : α → M β} {P : α → Tape → Prop} {Q : β → Tape → Prop} {t : Tape}
theorem wp_ret {a : α} (h : P a t) : wp (ret a) P t := ⟨a, t, rfl, h⟩
theorem wp_bnd (h : wp m (fun a t' => wp (f a) Q t') t) : wp (bnd m f) Q t := by
  obtain ⟨a, t', e, b, t2, e2, q⟩ := h
  exact ⟨b, t2, (bnd_ok e).trans e2, q⟩
theorem wp_mono {P' : α → Tape → Prop} (h : wp m P t) (w : ∀ a t', P a t' → P' a t') : wp m P' t := by
  obtain ⟨a, t', e, p⟩ := h
  exact ⟨a, t', e, w a t' p⟩
theorem wp_lft {a : α} {o : Option α} (e : o = some a) (h : P a t) : wp (lft o) P t := by
  subst e
  exact ⟨a, t, rfl, h⟩
theorem wp_of {a : α} (e : m = ret a) (h : P a t) : wp m P t := by
  subst e
  exact wp_ret h
end
theorem flatM_ret {f : D → M (List D)} {g : D → List D} : ∀ {l : List D}, (∀ x ∈ l, f x = ret (g x)) → flatM f l = ret (l.flatMap g)
  | [], _ => rfl
  | x :: l, h => by
    unfold flatM
    rw [h x (List.mem_cons_self ..), flatM_ret fun y m => h y (List.mem_cons_of_mem _ m)]
    rfl
theorem flatM_map {α : Type} {f : D → M (List D)} {i : α → D} {g : α → D} (l : List α) (h : ∀ x ∈ l, f (i x) = ret [g x]) : flatM f (l.map i) = ret (l.map g) := by
  induction l with
  | nil => rfl
  | cons x l ih =>
    rw [List.map_cons]
    unfold flatM
    rw [h x (List.mem_cons_self ..), ih fun y m => h y (List.mem_cons_of_mem _ m)]
    rfl
theorem flatM_bind {α : Type} {f : D → M (List D)} {i : α → D} {g : α → List D} (l : List α) (h : ∀ x ∈ l, f (i x) = ret (g x)) : flatM f (l.map i) = ret (l.flatMap g) := by
  induction l with
  | nil => rfl
  | cons x l ih =>
    rw [List.map_cons]
    unfold flatM
    rw [h x (List.mem_cons_self ..), ih fun y m => h y (List.mem_cons_of_mem _ m)]
    rfl
theorem wp_flatM {f : D → M (List D)} (I : Nat → List D → Tape → Prop) : ∀ (l : List D) (n : Nat) (acc : List D) {t : Tape} {P : List D → Tape → Prop}, I n acc t → (∀ i x acc t, l[i]? = some x → I (n + i) acc t → wp (f x) (fun r t' => I (n + i + 1) (acc ++ r) t') t) →
    (∀ r t', I (n + l.length) (acc ++ r) t' → P r t') → wp (flatM f l) P t
  | [], n, acc, t, P, h0, _, hP => wp_ret (hP [] t (by simpa using h0))
  | x :: l, n, acc, t, P, h0, hs, hP => by
    unfold flatM
    refine wp_bnd (wp_mono (hs 0 x acc t rfl h0) fun r t' h1 => wp_bnd ?_)
    refine wp_flatM I l (n + 1) (acc ++ r) h1 (fun i y acc' t2 e h2 => ?_) fun r2 t2 h2 => wp_ret (hP _ _ ?_)
    · have := hs (i + 1) y acc' t2 (by simpa using e) (by rw [show n + (i + 1) = n + 1 + i by omega]; exact h2)
      rw [show n + (i + 1) + 1 = n + 1 + i + 1 by omega] at this
      exact this
    · rw [List.length_cons, show n + (l.length + 1) = n + 1 + l.length by omega, ← List.append_assoc]
      exact h2
theorem forL_env {f : D → Env → M (Fl × Env)} (E : Nat → Env) : ∀ (l : List D) (n : Nat), (∀ i x, l[i]? = some x → f x (E (n + i)) = ret (.nx, E (n + i + 1))) → forL f l (E n) = ret (.nx, E (n + l.length))
  | [], n, _ => rfl
  | x :: l, n, h => by
    unfold forL
    have h0 := h 0 x rfl
    rw [Nat.add_zero] at h0
    rw [h0]
    show forL f l (E (n + 1)) = _
    rw [forL_env E l (n + 1) fun i y e => by
      have := h (i + 1) y (by simpa using e)
      rw [show n + (i + 1) = n + 1 + i by omega] at this
      exact this]
    rw [List.length_cons, show n + 1 + l.length = n + (l.length + 1) by omega]
/-- a loop that runs through -/
theorem wp_for {f : D → Env → M (Fl × Env)} (I : Nat → Env → Tape → Prop) : ∀ (l : List D) (n : Nat) {ρ : Env} {t : Tape} {P : Fl × Env → Tape → Prop}, I n ρ t → (∀ i x ρ t, l[i]? = some x → I (n + i) ρ t → wp (f x ρ) (fun r t' => r.1 = .nx ∧ I (n + i + 1) r.2 t') t) →
    (∀ ρ t', I (n + l.length) ρ t' → P (.nx, ρ) t') → wp (forL f l ρ) P t
  | [], n, ρ, t, P, h0, _, hP => wp_ret (hP ρ t (by simpa using h0))
  | x :: l, n, ρ, t, P, h0, hs, hP => by
    unfold forL
    refine wp_bnd (wp_mono (hs 0 x ρ t rfl h0) fun r t' h1 => ?_)
    obtain ⟨fl, ρ'⟩ := r
    obtain ⟨e, h1⟩ := h1
    subst e
    refine wp_for I l (n + 1) h1 (fun i y ρ2 t2 e h2 => ?_) fun ρ2 t2 h2 => hP _ _ ?_
    · have := hs (i + 1) y ρ2 t2 (by simpa using e) (by rw [show n + (i + 1) = n + 1 + i by omega]; exact h2)
      rw [show n + (i + 1) + 1 = n + 1 + i + 1 by omega] at this
      exact this
    · rw [List.length_cons, show n + (l.length + 1) = n + 1 + l.length by omega]
      exact h2
/-! ### states of switches -/
def stsL : Nat → List (List Int)
  | 0 => [[]]
  | n + 1 => (stsL n).flatMap fun s => [s ++ [0], s ++ [1]]
def Sd (s : List Int) : D := .tup (s.map .int)
theorem stsL_len : ∀ n, ∀ s ∈ stsL n, s.length = n
  | 0, s, h => by simp [stsL] at h; rw [h]; rfl
  | n + 1, s, h => by
    obtain ⟨r, hr, hs⟩ := List.mem_flatMap.mp h
    have := stsL_len n r hr
    simp at hs
    rcases hs with e | e <;> rw [e, List.length_append, this] <;> rfl
theorem stsL_bit : ∀ n, ∀ s ∈ stsL n, ∀ i ∈ s, i = 0 ∨ i = 1
  | 0, s, h => by simp [stsL] at h; rw [h]; intro i m; cases m
  | n + 1, s, h => by
    obtain ⟨r, hr, hs⟩ := List.mem_flatMap.mp h
    have := stsL_bit n r hr
    simp at hs
    rcases hs with e | e <;> rw [e] <;> intro i m <;> rcases List.mem_append.mp m with m | m
    · exact this i m
    · exact .inl (List.mem_singleton.mp m)
    · exact this i m
    · exact .inr (List.mem_singleton.mp m)
theorem stsL_all : ∀ n (s : List Int), s.length = n → (∀ i ∈ s, i = 0 ∨ i = 1) → s ∈ stsL n
  | 0, s, h, _ => by rw [List.length_eq_zero_iff.mp h]; simp [stsL]
  | n + 1, s, h, hb => by
    have hne : s ≠ [] := fun e => by rw [e] at h; simp at h
    have e : s = s.dropLast ++ [s.getLast hne] := (List.dropLast_concat_getLast hne).symm
    refine List.mem_flatMap.mpr ⟨s.dropLast, stsL_all n _ (by rw [List.length_dropLast, h]; rfl) fun i m => hb i (List.dropLast_subset s m), ?_⟩
    rcases hb _ (List.getLast_mem hne) with q | q
    · rw [q] at e; rw [← e]; exact List.mem_cons_self ..
    · rw [q] at e; rw [← e]; exact List.mem_cons_of_mem _ (List.mem_cons_self ..)
theorem Sd_inj {s r : List Int} (h : Sd s = Sd r) : s = r := by
  have h := D.tup.inj h
  exact (List.map_inj_right fun a b e => D.int.inj e).mp h
theorem flat_pairs_len (l : List (List Int)) : (l.flatMap fun s => [s ++ [0], s ++ [1]]).length = 2 * l.length := by
  induction l with
  | nil => rfl
  | cons a l ih => rw [List.flatMap_cons, List.length_append, ih]; simp; omega
theorem stsL_size : ∀ n, (stsL n).length = 2 ^ n
  | 0 => rfl
  | n + 1 => by
    show ((stsL n).flatMap _).length = _
    rw [flat_pairs_len, stsL_size n, Nat.pow_succ, Nat.mul_comm]
theorem stsL_nodup : ∀ n, (stsL n).Nodup
  | 0 => by simp [stsL]
  | n + 1 => by
    show ((stsL n).flatMap _).Nodup
    rw [List.nodup_iff_pairwise_ne]
    rw [List.pairwise_flatMap]
    refine ⟨fun s _ => by simp, (List.nodup_iff_pairwise_ne.mp (stsL_nodup n)).imp fun {a b} ne x hx y hy e => ?_⟩
    apply ne
    have : x.dropLast = a := by simp at hx; rcases hx with q | q <;> rw [q] <;> simp
    have h2 : y.dropLast = b := by simp at hy; rcases hy with q | q <;> rw [q] <;> simp
    rw [← this, ← h2, e]
end VS
end
section
set_option Elab.async false
set_option linter.all false
set_option maxRecDepth 100000
set_option maxHeartbeats 400000
set_option autoImplicit false
/-! V9a: the evaluator's equations. -/
namespace VS
section
variable (Φ : Nat → List D → M D) (ρ : Env) (fu : Nat)
theorem ev_lit (d : D) : ev Φ (.lit d) ρ = ret d := rfl
theorem ev_var (i : Nat) : ev Φ (.var i) ρ = lft (getV ρ i) := rfl
theorem ev_bor (i : Nat) : ev Φ (.bor i) ρ = lft (getB ρ i) := rfl
theorem ev_tup (es : List Ex) : ev Φ (.tup es) ρ = bnd (evs Φ es ρ) fun ds => if ds.length ≤ lim then ret (.tup ds) else stuck := rfl
theorem ev_tupS (ss : List Bool) (es : List Ex) : ev Φ (.tupS ss es) ρ = bnd (evSt Φ es ss ρ) fun l => if l.length ≤ lim then ret (.tup l) else stuck := rfl
theorem ev_lst (es : List Ex) : ev Φ (.lst es) ρ = bnd (evs Φ es ρ) fun ds => if ds.length ≤ lim then ret (.lst ds) else stuck := rfl
theorem ev_dsp : ev Φ (.dsp []) ρ = ret (.dct []) := rfl
theorem ev_bin (o : Bop) (a b : Ex) : ev Φ (.bin o a b) ρ = bnd (ev Φ a ρ) fun x => bnd (ev Φ b ρ) fun y => lft (binS o x y) := rfl
theorem ev_neg (a : Ex) : ev Φ (.neg a) ρ = bnd (ev Φ a ρ) fun x => match x with
    | .int i => ret (.int (-i))
    | _ => stuck := rfl
theorem ev_cmp (o : Cop) (a b : Ex) : ev Φ (.cmp o a b) ρ = bnd (ev Φ a ρ) fun x => bnd (ev Φ b ρ) fun y => if isIns x && isIns y then (match o with
      | .eq => Φ 0 [x, y]
      | _ => stuck) else lft ((cmpS o x y).map .bl) := rfl
theorem ev_cmp2 (o p : Cop) (a b c : Ex) : ev Φ (.cmp2 o p a b c) ρ = bnd (ev Φ a ρ) fun x => bnd (ev Φ b ρ) fun y => bnd (lft (cmpS o x y)) fun k => if k then bnd (ev Φ c ρ) fun z => lft ((cmpS p y z).map .bl) else ret (.bl false) := rfl
theorem ev_isN (a : Ex) : ev Φ (.isN a) ρ = bnd (ev Φ a ρ) fun x => ret (.bl (decide (x = .non))) := rfl
theorem ev_notN (a : Ex) : ev Φ (.notN a) ρ = bnd (ev Φ a ρ) fun x => ret (.bl (!decide (x = .non))) := rfl
theorem ev_and (a b : Ex) : ev Φ (.and a b) ρ = bnd (ev Φ a ρ) fun x => bnd (lft (truth x)) fun k => if k then ev Φ b ρ else ret (.bl false) := rfl
theorem ev_or (a b : Ex) : ev Φ (.or a b) ρ = bnd (ev Φ a ρ) fun x => bnd (lft (truth x)) fun k => if k then ret (.bl true) else ev Φ b ρ := rfl
theorem ev_not (a : Ex) : ev Φ (.not a) ρ = bnd (ev Φ a ρ) fun x => bnd (lft (truth x)) fun k => ret (.bl (!k)) := rfl
theorem ev_ife (c a b : Ex) : ev Φ (.ife c a b) ρ = bnd (ev Φ c ρ) fun x => bnd (lft (truth x)) fun k => if k then ev Φ a ρ else ev Φ b ρ := rfl
theorem ev_sub (a i : Ex) : ev Φ (.sub a i) ρ = bnd (ev Φ a ρ) fun x => bnd (ev Φ i ρ) fun y => subM x y := rfl
theorem ev_slc (a lo hi : Ex) : ev Φ (.slc a lo hi) ρ = bnd (ev Φ a ρ) fun x => bnd (ev Φ lo ρ) fun y => bnd (lft (optI y)) fun l => bnd (ev Φ hi ρ) fun z => bnd (lft (optI z)) fun u => lft (slcS x l u) := rfl
theorem ev_att (a : Ex) (c f : Nat) : ev Φ (.att a c f) ρ = bnd (ev Φ a ρ) fun x => match x with
    | .ins e l => if e = c then lft l[f]? else stuck
    | _ => stuck := rfl
theorem ev_tnx (i f : Nat) : ev Φ (.tnx i f) ρ = if isTapeAt ρ i then tnxM (Φ f [.tape]) else stuck := rfl
theorem ev_call (f : Nat) (es : List Ex) : ev Φ (.call f es) ρ = bnd (evs Φ es ρ) fun ds => Φ f ds := rfl
theorem ev_blt (b : Blt) (es : List Ex) : ev Φ (.blt b es) ρ = bnd (evs Φ es ρ) fun ds => lft (bltS b ds) := rfl
theorem ev_mt (b : Blt) (o : Ex) (es : List Ex) : ev Φ (.mt b o es) ρ = bnd (ev Φ o ρ) fun d => if mtOk b d then bnd (evs Φ es ρ) fun ds => lft (bltS b (d :: ds)) else stuck := rfl
/-- a turn of a comprehension -/
def cStep (ρ₀ : Env) (tg : Tg) (ifs : List Ex) (elt : Ex) (d : D) : M (List D) := bnd (lft (setT tg d ρ₀)) fun ρ₁ => bnd (evT Φ ifs ρ₁) fun k => if k then bnd (ev Φ elt ρ₁) fun y => ret [y] else ret []
def cStep2 (ρ₀ : Env) (tg : Tg) (ifs : List Ex) (own2 : List Nat) (tg2 : Tg) (it2 : It) (ifs2 : List Ex) (elt : Ex) (d : D) : M (List D) := bnd (lft (setT tg d ρ₀)) fun ρ₁ => bnd (evT Φ ifs ρ₁) fun k => if k then
  bnd (evI Φ it2 ρ₁) fun items2 => match wipeE ρ₁ own2 with
    | none => stuck
    | some ρ₂ => flatM (cStep Φ ρ₂ tg2 ifs2 elt) items2
  else ret []
theorem ev_comp (own : List Nat) (tg : Tg) (it : It) (ifs : List Ex) (elt : Ex) : ev Φ (.comp own tg it ifs elt) ρ = if okIt it tg then (bnd (evI Φ it ρ) fun items => match wipeE ρ own with
    | none => stuck
    | some ρ₀ => bnd (sealM (flatM (cStep Φ ρ₀ tg ifs elt) items)) fun l => if l.length ≤ lim then ret (.lst l) else stuck) else stuck := rfl
theorem ev_comp2 (own own2 : List Nat) (tg : Tg) (it : It) (ifs : List Ex) (tg2 : Tg) (it2 : It) (ifs2 : List Ex) (elt : Ex) : ev Φ (.comp2 own own2 tg it ifs tg2 it2 ifs2 elt) ρ = if okIt it tg && okIt it2 tg2 then (bnd (evI Φ it ρ) fun items => match wipeE ρ own with
    | none => stuck
    | some ρ₀ => bnd (sealM (flatM (cStep2 Φ ρ₀ tg ifs own2 tg2 it2 ifs2 elt) items)) fun l => if l.length ≤ lim then ret (.lst l) else stuck) else stuck := rfl
theorem evs_nil : evs Φ [] ρ = ret [] := rfl
theorem evs_cons (e : Ex) (es : List Ex) : evs Φ (e :: es) ρ = bnd (ev Φ e ρ) fun d => bnd (evs Φ es ρ) fun ds => ret (d :: ds) := rfl
theorem evSt_nil (ss : List Bool) : evSt Φ [] ss ρ = ret [] := by cases ss <;> rfl
theorem evSt_cons (e : Ex) (es : List Ex) (s : Bool) (ss : List Bool) : evSt Φ (e :: es) (s :: ss) ρ = bnd (ev Φ e ρ) fun d => bnd (lft (if s then seqOf d else some [d])) fun l => bnd (evSt Φ es ss ρ) fun m => ret (l ++ m) := rfl
theorem evT_nil : evT Φ [] ρ = ret true := rfl
theorem evT_one (e : Ex) : evT Φ [e] ρ = bnd (ev Φ e ρ) fun x => lft (truth x) := rfl
theorem evI_seq (e : Ex) : evI Φ (.seq e) ρ = bnd (ev Φ e ρ) fun x => lft (iterOf x) := rfl
theorem evI_range (es : List Ex) : evI Φ (.range es) ρ = bnd (evs Φ es ρ) fun ds => lft (rangeOf ds) := rfl
theorem evI_enum (e : Ex) : evI Φ (.enum e) ρ = bnd (ev Φ e ρ) fun x => lft (enumOf x) := rfl
theorem evI_zip (a b : Ex) : evI Φ (.zip a b) ρ = bnd (ev Φ a ρ) fun x => bnd (ev Φ b ρ) fun y => lft (zipOf x y) := rfl
/-! statements -/
theorem ex_expr (e : Ex) : exec Φ fu (.expr e) ρ = bnd (ev Φ e ρ) fun _ => ret (.nx, ρ) := rfl
theorem ex_asg (tg : Tg) (e : Ex) : exec Φ fu (.asg tg e) ρ = bnd (ev Φ e ρ) fun d => bnd (lft (setT tg d ρ)) fun ρ' => ret (.nx, ρ') := rfl
theorem ex_new (i : Nat) (e : Ex) : exec Φ fu (.new i e) ρ = bnd (ev Φ e ρ) fun d => if frs e && isMut d then ret (.nx, setV ρ i d true) else stuck := rfl
theorem ex_par (i j : Nat) (oi oj : Bool) (a b : Ex) : exec Φ fu (.par i j oi oj a b) ρ = bnd (ev Φ a ρ) fun x => if !oi || (frs a && isMut x) then bnd (ev Φ b ρ) fun y => if !oj || (frs b && isMut y) then ret (.nx, setV (setV ρ i x oi) j y oj) else stuck else stuck := rfl
theorem ex_app (i : Nat) (e : Ex) : exec Φ fu (.app i e) ρ = match lstAt ρ i with
    | some l => bnd (ev Φ e ρ) fun d => if l.length < lim then ret (.nx, setV ρ i (.lst (l ++ [d])) true) else stuck
    | none => stuck := rfl
theorem ex_put (i : Nat) (k v : Ex) : exec Φ fu (.put i k v) ρ = match dctAt ρ i with
    | some kvs => bnd (ev Φ v ρ) fun y => bnd (ev Φ k ρ) fun x => if keyOk kvs x && decide (kvs.length < lim) then ret (.nx, setV ρ i (.dct (dput kvs x y)) true) else stuck
    | none => match lstAt ρ i with
      | some l => bnd (ev Φ v ρ) fun y => bnd (ev Φ k ρ) fun x => lft (putL l x y ρ i)
      | none => if isTapeAt ρ i then bnd (ev Φ v ρ) fun y => bnd (ev Φ k ρ) fun x => tputM ρ x y else stuck := rfl
theorem ex_appPop (i j : Nat) (e : Ex) : exec Φ fu (.appPop i j e) ρ = match lstAt ρ i with
    | some _ => match lstAt ρ j with
      | some _ => if i = j then stuck else bnd (ev Φ e ρ) fun d => lft ((lstAt ρ i).bind fun l => (lstAt ρ j).bind fun m => popL l m d ρ i j)
      | none => stuck
    | none => stuck := rfl
theorem ex_ret (e : Ex) : exec Φ fu (.ret e) ρ = bnd (ev Φ e ρ) fun d => ret (.rt d, ρ) := rfl
theorem ex_retN : exec Φ fu .retN ρ = ret (.rt .non, ρ) := rfl
theorem ex_iff (c : Ex) (a b : List Stm) : exec Φ fu (.iff c a b) ρ = bnd (ev Φ c ρ) fun x => bnd (lft (truth x)) fun k => if k then execs Φ fu a ρ else execs Φ fu b ρ := rfl
/-- a slot is not owned -/
def notOwn (ρ : Env) (i : Nat) : Bool := match ρ[i]? with
  | some (some (_, true)) => false
  | _ => true
/-- a turn of a loop -/
def fStep (tg : Tg) (b : List Stm) (d : D) (ρ : Env) : M (Fl × Env) := bnd (lft (setT tg d ρ)) fun ρ' => execs Φ fu b ρ'
theorem ex_for (tg : Tg) (it : It) (b : List Stm) : exec Φ fu (.for tg it b) ρ = if okIt it tg && (brI it).all (notOwn ρ) then bnd (evI Φ it ρ) fun l => forL (fStep Φ fu tg b) l ρ else stuck := rfl
theorem ex_while (c : Ex) (b : List Stm) : exec Φ fu (.while c b) ρ = whileL (fun ρ => bnd (ev Φ c ρ) fun x => lft (truth x)) (fun ρ => execs Φ fu b ρ) fu ρ := rfl
theorem ex_pass : exec Φ fu .pass ρ = ret (.nx, ρ) := rfl
theorem ex_nev : exec Φ fu .nev ρ = stuck := rfl
theorem ex_frz (is : List Nat) (s : Stm) : exec Φ fu (.frz is s) ρ = exec Φ fu s (frzE ρ is) := rfl
theorem exs_nil : execs Φ fu [] ρ = ret (.nx, ρ) := rfl
theorem exs_cons (s : Stm) (ss : List Stm) : execs Φ fu (s :: ss) ρ = bnd (exec Φ fu s ρ) fun r => match r.1 with
    | .nx => execs Φ fu ss r.2
    | f => ret (f, r.2) := rfl
theorem run_eq (F : Fn) (ds : List D) : run Φ fu F ds = bnd (execs Φ fu F.body (ds.map (fun d => some (d, false)) ++ List.replicate (F.slots - ds.length) none)) fun r => match r.1 with
  | .nx => ret .non
  | .rt d => ret d
  | _ => stuck := rfl
end
/-- a comprehension, each turn one item -/
theorem comp_map {α : Type} {Φ : Nat → List D → M D} {ρ ρ₀ : Env} {own : List Nat} {tg : Tg} {it : It} {elt : Ex} {i g : α → D} {l : List α} (h1 : okIt it tg = true) (h2 : evI Φ it ρ = ret (l.map i)) (h3 : wipeE ρ own = some ρ₀) (hs : ∀ x ∈ l, cStep Φ ρ₀ tg [] elt (i x) = ret [g x]) (hl : l.length ≤ lim) :
    ev Φ (.comp own tg it [] elt) ρ = ret (.lst (l.map g)) := by
  rw [ev_comp, if_pos h1, h2, bnd_ret, h3]
  show bnd (sealM (flatM (cStep Φ ρ₀ tg [] elt) (l.map i))) _ = _
  rw [flatM_map l hs, seal_ret, bnd_ret, if_pos (by rw [List.length_map]; exact hl)]
theorem comp_bind {α : Type} {Φ : Nat → List D → M D} {ρ ρ₀ : Env} {own : List Nat} {tg : Tg} {it : It} {ifs : List Ex} {elt : Ex} {i : α → D} {g : α → List D} {l : List α} (h1 : okIt it tg = true) (h2 : evI Φ it ρ = ret (l.map i)) (h3 : wipeE ρ own = some ρ₀) (hs : ∀ x ∈ l, cStep Φ ρ₀ tg ifs elt (i x) = ret (g x)) (hl : (l.flatMap g).length ≤ lim) :
    ev Φ (.comp own tg it ifs elt) ρ = ret (.lst (l.flatMap g)) := by
  rw [ev_comp, if_pos h1, h2, bnd_ret, h3]
  show bnd (sealM (flatM (cStep Φ ρ₀ tg ifs elt) (l.map i))) _ = _
  rw [flatM_bind l hs, seal_ret, bnd_ret, if_pos hl]
theorem boolsOf_map {α : Type} (g : α → Bool) : ∀ l : List α, boolsOf (l.map fun x => .bl (g x)) = some (l.map g)
  | [] => rfl
  | x :: l => by
    show (boolsOf (l.map fun x => .bl (g x))).map (g x :: ·) = _
    rw [boolsOf_map g l]
    rfl
end VS
namespace VS
theorem setT_nm (i : Nat) (d : D) (ρ : Env) : setT (.nm i) d ρ = some (setV ρ i d false) := rfl
theorem setT_tp (l : List Tg) (ds : List D) (ρ : Env) : setT (.tp l) (.tup ds) ρ = setTs l ds ρ := rfl
theorem setTs_nil (ρ : Env) : setTs [] [] ρ = some ρ := rfl
theorem setTs_cons (t : Tg) (ts : List Tg) (d : D) (ds : List D) (ρ : Env) : setTs (t :: ts) (d :: ds) ρ = (setT t d ρ).bind fun ρ => setTs ts ds ρ := rfl
end VS
namespace VS
theorem ret_of_wp {α : Type} {m : M α} {x : α} (h : ∀ t, wp m (fun a t' => a = x ∧ t' = t) t) : m = ret x := by
  funext t
  obtain ⟨a, t', e, rfl, rfl⟩ := h t
  exact e
section
variable {Φ : Nat → List D → M D} {fu : Nat} {ρ ρ' : Env} {P : Fl × Env → Tape → Prop} {t : Tape} {s : Stm} {ss : List Stm}
theorem wp_s {t' : Tape} (h : exec Φ fu s ρ t = some (.ok (.nx, ρ'), t')) (h2 : wp (execs Φ fu ss ρ') P t') : wp (execs Φ fu (s :: ss) ρ) P t := by
  rw [exs_cons]
  obtain ⟨a, t2, e, q⟩ := h2
  exact ⟨a, t2, (bnd_ok h).trans e, q⟩
theorem wp_p (h : exec Φ fu s ρ = ret (.nx, ρ')) (h2 : wp (execs Φ fu ss ρ') P t) : wp (execs Φ fu (s :: ss) ρ) P t := wp_s (by rw [h]; rfl) h2
theorem wp_r {d : D} (h : exec Φ fu s ρ = ret (.rt d, ρ')) (h2 : P (.rt d, ρ') t) : wp (execs Φ fu (s :: ss) ρ) P t := ⟨(.rt d, ρ'), t, by rw [exs_cons, h]; rfl, h2⟩
theorem wp_n (h : P (.nx, ρ) t) : wp (execs Φ fu [] ρ) P t := ⟨_, t, rfl, h⟩
/-- a loop in the statements' sequence -/
theorem wp_f {tg : Tg} {it : It} {b : List Stm} {l : List D} (I : Nat → Env → Tape → Prop) (h1 : okIt it tg = true) (h2 : (brI it).all (notOwn ρ) = true) (h3 : evI Φ it ρ = ret l) (h0 : I 0 ρ t)
    (hs : ∀ i x ρ t, l[i]? = some x → I i ρ t → wp (fStep Φ fu tg b x ρ) (fun r t' => r.1 = .nx ∧ I (i + 1) r.2 t') t) (hP : ∀ ρ t, I l.length ρ t → wp (execs Φ fu ss ρ) P t) : wp (execs Φ fu (.for tg it b :: ss) ρ) P t := by
  rw [exs_cons, ex_for, h1, h2, h3]
  refine wp_bnd ?_
  show wp (forL (fStep Φ fu tg b) l ρ) _ t
  refine wp_for I l 0 h0 (fun i x ρ t e h => ?_) fun ρ t h => ?_
  · have := hs i x ρ t e (by simpa using h)
    simpa using this
  · exact hP ρ t (by simpa using h)
/-- a turn of a loop -/
theorem wp_t {tg : Tg} {b : List Stm} {d : D} {ρ : Env} (h : setT tg d ρ = some ρ') (h2 : wp (execs Φ fu b ρ') P t) : wp (fStep Φ fu tg b d ρ) P t := by
  unfold fStep
  rw [h]
  exact h2
theorem run_wp {F : Fn} {ds : List D} {x : D} (h : ∀ t, wp (execs Φ fu F.body (ds.map (fun d => some (d, false)) ++ List.replicate (F.slots - ds.length) none)) (fun r t' => r.1 = .rt x ∧ t' = t) t) : run Φ fu F ds = ret x := by
  refine ret_of_wp fun t => ?_
  rw [run_eq]
  refine wp_bnd (wp_mono (h t) fun r t' q => ?_)
  obtain ⟨fl, ρ⟩ := r
  obtain ⟨e, rfl⟩ := q
  cases (show fl = .rt x from e)
  exact wp_ret ⟨rfl, rfl⟩
end
theorem rg_get : ∀ (n : Nat) (lo : Int) (i : Nat) (x : D), (rangeL lo n)[i]? = some x → i < n ∧ x = .int (lo + i)
  | 0, _, _, _, h => by simp [rangeL] at h
  | n + 1, lo, 0, x, h => by simp [rangeL] at h; exact ⟨by omega, by rw [← h]; simp⟩
  | n + 1, lo, i + 1, x, h => by
    obtain ⟨h1, h2⟩ := rg_get n (lo + 1) i x (by simpa [rangeL] using h)
    exact ⟨by omega, by rw [h2]; congr 1; push_cast; omega⟩
theorem rg_len : ∀ (n : Nat) (lo : Int), (rangeL lo n).length = n
  | 0, _ => rfl
  | n + 1, lo => by rw [rangeL, List.length_cons, rg_len n]
theorem comp2_bind {α : Type} {Φ : Nat → List D → M D} {ρ ρ₀ : Env} {own own2 : List Nat} {tg tg2 : Tg} {it it2 : It} {ifs ifs2 : List Ex} {elt : Ex} {i : α → D} {g : α → List D} {l : List α} (h1 : (okIt it tg && okIt it2 tg2) = true) (h2 : evI Φ it ρ = ret (l.map i)) (h3 : wipeE ρ own = some ρ₀)
    (hs : ∀ x ∈ l, cStep2 Φ ρ₀ tg ifs own2 tg2 it2 ifs2 elt (i x) = ret (g x)) (hl : (l.flatMap g).length ≤ lim) : ev Φ (.comp2 own own2 tg it ifs tg2 it2 ifs2 elt) ρ = ret (.lst (l.flatMap g)) := by
  rw [ev_comp2, if_pos h1, h2, bnd_ret, h3]
  show bnd (sealM (flatM (cStep2 Φ ρ₀ tg ifs own2 tg2 it2 ifs2 elt) (l.map i))) _ = _
  rw [flatM_bind l hs, seal_ret, bnd_ret, if_pos hl]
end VS
namespace VS
theorem rg0 (n i : Nat) (x : D) (h : (rangeL 0 n)[i]? = some x) : i < n ∧ x = .int i := by
  obtain ⟨h1, h2⟩ := rg_get n 0 i x h
  exact ⟨h1, by rw [h2]; simp⟩
theorem run_wp0 {Φ : Nat → List D → M D} {fu : Nat} {F : Fn} {ds : List D} {x : D} (ρ : Env) (h0 : ds.map (fun d => some (d, false)) ++ List.replicate (F.slots - ds.length) none = ρ) (h : ∀ t, wp (execs Φ fu F.body ρ) (fun r t' => r.1 = .rt x ∧ t' = t) t) : run Φ fu F ds = ret x := run_wp fun t => by rw [h0]; exact h t
end VS
end
section
set_option Elab.async false
set_option linter.all false
set_option maxRecDepth 100000
set_option maxHeartbeats 1000000
set_option autoImplicit false
/-! V9b: nets as data: states as keys, in lists; walks. -/
namespace VS
theorem wp_while {c : Env → M Bool} {f : Env → M (Fl × Env)} {P : Fl × Env → Tape → Prop} (I : Nat → Env → Tape → Prop)
    (h : ∀ k ρ t, I k ρ t → (c ρ t = some (.ok false, t) ∧ P (.nx, ρ) t) ∨ (c ρ t = some (.ok true, t) ∧ 0 < k ∧ wp (f ρ) (fun r t' => r.1 = .nx ∧ I (k - 1) r.2 t') t)) : ∀ (fu k : Nat) (ρ : Env) (t : Tape), I k ρ t → k < fu → wp (whileL c f fu ρ) P t
  | 0, k, _, _, _, hk => absurd hk (Nat.not_lt_zero k)
  | fu + 1, k, ρ, t, hi, hk => by
    show wp (bnd (c ρ) fun k => if k then bnd (f ρ) fun r => match r.1 with
      | .nx => whileL c f fu r.2
      | .ct => whileL c f fu r.2
      | .bk => ret (.nx, r.2)
      | .rt d => ret (.rt d, r.2)
    else ret (.nx, ρ)) P t
    rcases h k ρ t hi with ⟨e, p⟩ | ⟨e, h0, w⟩
    · exact ⟨_, _, (bnd_ok e).trans rfl, p⟩
    · obtain ⟨a, t', e', q⟩ := wp_bnd (f := fun r : Fl × Env => match r.1 with
        | .nx => whileL c f fu r.2
        | .ct => whileL c f fu r.2
        | .bk => ret (.nx, r.2)
        | .rt d => ret (.rt d, r.2)) (Q := P) (wp_mono w fun r t' q => by
          obtain ⟨fl, ρ'⟩ := r
          obtain ⟨e, q⟩ := q
          cases (show fl = .nx from e)
          exact wp_while I h fu (k - 1) ρ' t' q (by omega))
      exact ⟨a, t', (bnd_ok e).trans e', q⟩
/-- a loop that may be left by a return -/
theorem wp_forR {f : D → Env → M (Fl × Env)} (I : Nat → Env → Tape → Prop) : ∀ (l : List D) (n : Nat) {ρ : Env} {t : Tape} {P : Fl × Env → Tape → Prop}, I n ρ t →
    (∀ i x ρ t, l[i]? = some x → I (n + i) ρ t → wp (f x ρ) (fun r t' => (r.1 = .nx ∧ I (n + i + 1) r.2 t') ∨ ∃ d, r.1 = .rt d ∧ P r t') t) → (∀ ρ t', I (n + l.length) ρ t' → P (.nx, ρ) t') → wp (forL f l ρ) P t
  | [], n, ρ, t, P, h0, _, hP => wp_ret (hP ρ t (by simpa using h0))
  | x :: l, n, ρ, t, P, h0, hs, hP => by
    unfold forL
    refine wp_bnd (wp_mono (hs 0 x ρ t rfl h0) fun r t' h1 => ?_)
    obtain ⟨fl, ρ'⟩ := r
    rcases h1 with ⟨e, h1⟩ | ⟨d, e, h1⟩
    · cases (show fl = .nx from e)
      refine wp_forR I l (n + 1) h1 (fun i y ρ2 t2 e h2 => ?_) fun ρ2 t2 h2 => hP _ _ ?_
      · have := hs (i + 1) y ρ2 t2 (by simpa using e) (by rw [show n + (i + 1) = n + 1 + i by omega]; exact h2)
        rw [show n + (i + 1) + 1 = n + 1 + i + 1 by omega] at this
        exact this
      · rw [List.length_cons, show n + (l.length + 1) = n + 1 + l.length by omega]
        exact h2
    · cases (show fl = .rt d from e)
      exact wp_ret h1
theorem wp_fR {Φ : Nat → List D → M D} {fu : Nat} {ρ : Env} {P : Fl × Env → Tape → Prop} {t : Tape} {ss : List Stm} {tg : Tg} {it : It} {b : List Stm} {l : List D} (I : Nat → Env → Tape → Prop) (h1 : okIt it tg = true) (h2 : (brI it).all (notOwn ρ) = true) (h3 : evI Φ it ρ = ret l) (h0 : I 0 ρ t)
    (hs : ∀ i x ρ t, l[i]? = some x → I i ρ t → wp (fStep Φ fu tg b x ρ) (fun r t' => (r.1 = .nx ∧ I (i + 1) r.2 t') ∨ ∃ d, r.1 = .rt d ∧ P r t') t) (hP : ∀ ρ t, I l.length ρ t → wp (execs Φ fu ss ρ) P t) : wp (execs Φ fu (.for tg it b :: ss) ρ) P t := by
  rw [exs_cons, ex_for, h1, h2, h3]
  refine wp_bnd ?_
  show wp (forL (fStep Φ fu tg b) l ρ) _ t
  refine wp_forR I l 0 h0 (fun i x ρ t e h => wp_mono (hs i x ρ t e (by simpa using h)) fun r t' q => ?_) fun ρ t h => ?_
  · rcases q with q | ⟨d, q1, q2⟩
    · exact .inl (by simpa using q)
    · refine .inr ⟨d, q1, ?_⟩
      obtain ⟨fl, ρ'⟩ := r
      cases (show fl = .rt d from q1)
      exact wp_ret q2
  · exact hP ρ t (by simpa using h)
theorem wp_w {Φ : Nat → List D → M D} {fu : Nat} {ρ : Env} {P : Fl × Env → Tape → Prop} {t : Tape} {ss b : List Stm} {c : Ex} (I : Nat → Env → Tape → Prop) (k : Nat) (hk : k < fu) (h0 : I k ρ t)
    (h : ∀ k ρ t, I k ρ t → (ev Φ c ρ = ret (.bl false) ∧ wp (execs Φ fu ss ρ) P t) ∨ (ev Φ c ρ = ret (.bl true) ∧ 0 < k ∧ wp (execs Φ fu b ρ) (fun r t' => r.1 = .nx ∧ I (k - 1) r.2 t') t)) : wp (execs Φ fu (.while c b :: ss) ρ) P t := by
  rw [exs_cons, ex_while]
  refine wp_bnd (wp_while I (fun k ρ t hi => ?_) fu k ρ t h0 hk)
  rcases h k ρ t hi with ⟨e, p⟩ | ⟨e, h1, w⟩
  · exact .inl ⟨by rw [e]; rfl, p⟩
  · exact .inr ⟨by rw [e]; rfl, h1, w⟩
/-! states as keys, compared -/
theorem key_ints : ∀ l : List Int, (l.map D.int).all (isKey 7) = true := fun l => List.all_eq_true.mpr fun d m => by
  obtain ⟨i, _, rfl⟩ := List.mem_map.mp m
  rfl
theorem key_Sd (s : List Int) : isKeyT (Sd s) = true := key_ints s
theorem keyOk_Sd {kvs : List (D × D)} (h : ∀ p ∈ kvs, isTup p.1 = true) (s : List Int) : keyOk kvs (Sd s) = true := by
  unfold keyOk
  rw [key_Sd, Bool.true_and]
  exact List.all_eq_true.mpr fun p m => by rw [h p m]; rfl
theorem plain_ints (n : Nat) (l : List Int) : (l.map D.int).all (plain n) = true := List.all_eq_true.mpr fun d m => by
  obtain ⟨i, _, rfl⟩ := List.mem_map.mp m
  cases n <;> rfl
theorem plain_Sd (n : Nat) (s : List Int) : plain (n + 1) (Sd s) = true := plain_ints n s
theorem plain_Sds (n : Nat) (l : List (List Int)) : (l.map Sd).all (plain (n + 1)) = true := List.all_eq_true.mpr fun d m => by
  obtain ⟨i, _, rfl⟩ := List.mem_map.mp m
  exact plain_Sd n i
theorem pyEqL_ints : ∀ a b : List Int, pyEqL (a.map .int) (b.map .int) = decide (a = b)
  | [], [] => rfl
  | [], _ :: _ => rfl
  | _ :: _, [] => rfl
  | x :: a, y :: b => by
    show ((x == y) && pyEqL (a.map .int) (b.map .int)) = _
    rw [pyEqL_ints a b]
    by_cases h : x = y <;> simp [h]
theorem pyEq_Sd (a b : List Int) : pyEq (Sd a) (Sd b) = decide (a = b) := pyEqL_ints a b
theorem pyEqL_Sds : ∀ a b : List (List Int), pyEqL (a.map Sd) (b.map Sd) = decide (a = b)
  | [], [] => rfl
  | [], _ :: _ => rfl
  | _ :: _, [] => rfl
  | x :: a, y :: b => by
    show (pyEq (Sd x) (Sd y) && pyEqL (a.map Sd) (b.map Sd)) = _
    rw [pyEqL_Sds a b, pyEq_Sd]
    by_cases h : x = y <;> simp [h]
theorem eq_Sd (a b : List Int) : eqS (Sd a) (Sd b) = some (decide (a = b)) := by
  unfold eqS
  rw [plain_Sd, plain_Sd, pyEq_Sd]
  rfl
theorem any_Sds (l : List (List Int)) (s : List Int) : ((l.map Sd).any fun y => pyEq y (Sd s)) = decide (s ∈ l) := by
  rw [List.any_map]
  by_cases h : s ∈ l
  · rw [decide_eq_true h]
    exact List.any_eq_true.mpr ⟨s, h, by simp [pyEq_Sd]⟩
  · rw [decide_eq_false h]
    exact List.any_eq_false.mpr fun x m => by simp [pyEq_Sd]; exact fun e => h (e ▸ m)
theorem mem_Sds (l : List (List Int)) (s : List Int) : cmpS .mem (Sd s) (.lst (l.map Sd)) = some (decide (s ∈ l)) := by
  show (if plain 60 (Sd s) && (l.map Sd).all (plain 60) then some ((l.map Sd).any fun y => pyEq y (Sd s)) else none) = _
  rw [plain_Sd, plain_Sds, any_Sds]
  rfl
theorem memT_Sds (l : List (List Int)) (s : List Int) : cmpS .mem (Sd s) (.tup (l.map Sd)) = some (decide (s ∈ l)) := by
  show (if plain 60 (Sd s) && (l.map Sd).all (plain 60) then some ((l.map Sd).any fun y => pyEq y (Sd s)) else none) = _
  rw [plain_Sd, plain_Sds, any_Sds]
  rfl
theorem idx_ne {α : Type} [BEq α] [LawfulBEq α] {x s : α} (l : List α) (e : x ≠ s) : (x :: l).idxOf s = (l.idxOf s).succ := by
  rw [List.idxOf_cons, show (x == s) = false from beq_eq_false_iff_ne.mpr e]
  rfl
theorem index_Sds : ∀ (l : List (List Int)) (s : List Int), s ∈ l → indexD (l.map Sd) (Sd s) = some (l.idxOf s)
  | [], _, h => absurd h (by simp)
  | x :: l, s, h => by
    show (if pyEq (Sd x) (Sd s) then some 0 else (indexD (l.map Sd) (Sd s)).map (· + 1)) = _
    rw [pyEq_Sd]
    by_cases e : x = s
    · rw [decide_eq_true e, if_pos rfl, e, List.idxOf_cons_self]
    · rw [decide_eq_false e, if_neg Bool.false_ne_true]
      have m : s ∈ l := by
        rcases List.mem_cons.mp h with q | q
        · exact absurd q.symm e
        · exact q
      rw [index_Sds l s m, idx_ne _ e]
      rfl
theorem blt_index (l : List (List Int)) (s : List Int) (h : s ∈ l) : bltS .index [.lst (l.map Sd), Sd s] = some (.int (l.idxOf s : Nat)) ∧ bltS .index [.tup (l.map Sd), Sd s] = some (.int (l.idxOf s : Nat)) := by
  have e : (if plain 60 (Sd s) && (l.map Sd).all (plain 60) then (indexD (l.map Sd) (Sd s)).map fun (n : Nat) => D.int (n : Int) else none) = some (.int (l.idxOf s : Nat)) := by
    rw [plain_Sd, plain_Sds, index_Sds l s h]
    rfl
  exact ⟨e, e⟩
theorem dget_map {g : List Int → D} : ∀ (l : List (List Int)) (s : List Int), dget (l.map fun s => (Sd s, g s)) (Sd s) = if s ∈ l then some (g s) else none
  | [], s => by simp [dget]
  | x :: l, s => by
    show (if Sd x = Sd s then some (g x) else dget (l.map fun s => (Sd s, g s)) (Sd s)) = _
    by_cases e : x = s
    · subst e
      rw [if_pos rfl, if_pos (List.mem_cons_self ..)]
    · rw [if_neg fun q => e (Sd_inj q), dget_map l s]
      by_cases h : s ∈ l
      · rw [if_pos h, if_pos (List.mem_cons_of_mem _ h)]
      · rw [if_neg h, if_neg fun q => (List.mem_cons.mp q).elim (fun z => e z.symm) h]
/-- keys and their places -/
def kdA : Nat → List (List Int) → List (D × D)
  | _, [] => []
  | i, s :: l => (Sd s, .int i) :: kdA (i + 1) l
theorem kdA_tup : ∀ (l : List (List Int)) (i : Nat), ∀ p ∈ kdA i l, isTup p.1 = true
  | s :: l, i, p, m => (List.mem_cons.mp m).elim (fun e => e ▸ rfl) fun m => kdA_tup l (i + 1) p m
theorem kdA_len : ∀ (l : List (List Int)) (i : Nat), (kdA i l).length = l.length
  | [], _ => rfl
  | s :: l, i => by rw [kdA, List.length_cons, kdA_len l, List.length_cons]
theorem kdA_get : ∀ (l : List (List Int)) (i : Nat) (s : List Int), dget (kdA i l) (Sd s) = if s ∈ l then some (.int ((i + l.idxOf s : Nat) : Int)) else none
  | [], i, s => by simp [kdA, dget]
  | x :: l, i, s => by
    show (if Sd x = Sd s then some (D.int i) else dget (kdA (i + 1) l) (Sd s)) = _
    by_cases e : x = s
    · subst e
      rw [if_pos rfl, if_pos (List.mem_cons_self ..), List.idxOf_cons_self]
      rfl
    · rw [if_neg fun q => e (Sd_inj q), kdA_get l (i + 1) s, idx_ne _ e]
      by_cases h : s ∈ l
      · rw [if_pos h, if_pos (List.mem_cons_of_mem _ h), show i + 1 + l.idxOf s = i + (l.idxOf s).succ by omega]
      · rw [if_neg h, if_neg fun q => (List.mem_cons.mp q).elim (fun z => e z.symm) h]
theorem kdA_put : ∀ (l : List (List Int)) (i : Nat) (s : List Int), s ∉ l → dput (kdA i l) (Sd s) (.int ((i + l.length : Nat) : Int)) = kdA i (l ++ [s])
  | [], i, s, _ => rfl
  | x :: l, i, s, h => by
    show (if Sd x = Sd s then _ else (Sd x, D.int i) :: dput (kdA (i + 1) l) (Sd s) _) = (Sd x, D.int i) :: kdA (i + 1) (l ++ [s])
    rw [if_neg fun q => h (by rw [Sd_inj q]; exact List.mem_cons_self ..), ← kdA_put l (i + 1) s fun m => h (List.mem_cons_of_mem _ m), List.length_cons, show i + (l.length + 1) = i + 1 + l.length by omega]
/-! walks -/
theorem nodup_len {α : Type} [DecidableEq α] : ∀ (l L : List α), l.Nodup → (∀ x ∈ l, x ∈ L) → l.length ≤ L.length
  | [], _, _, _ => Nat.zero_le _
  | x :: l, L, h, hs => by
    obtain ⟨h1, h2⟩ := List.nodup_cons.mp h
    have hx := hs x (List.mem_cons_self ..)
    have := nodup_len l (L.erase x) h2 fun y m => (List.mem_erase_of_ne fun e => h1 (by rw [← e]; exact m)).mpr (hs y (List.mem_cons_of_mem _ m))
    rw [List.length_erase_of_mem hx] at this
    have h0 : 0 < L.length := List.length_pos_of_mem hx
    rw [List.length_cons]
    omega
theorem full {α : Type} [DecidableEq α] {l L : List α} (h : l.Nodup) (hs : ∀ x ∈ l, x ∈ L) (hl : L.length ≤ l.length) {x : α} (hx : x ∈ L) : x ∈ l := Classical.byContradiction fun n => by
  have := nodup_len (x :: l) L (List.nodup_cons.mpr ⟨n, h⟩) fun y m => (List.mem_cons.mp m).elim (fun e => e ▸ hx) (hs y)
  rw [List.length_cons] at this
  omega
def walk (f : List Int → List Int) : Nat → List (List Int) → List Int → List (List Int) × List Int
  | 0, line, s => (line, s)
  | k + 1, line, s => if s ∈ line then (line, s) else walk f k (line ++ [s]) (f s)
structure Vn (n : Nat) (f : List Int → List Int) : Prop where
  lo : 1 ≤ n
  hi : n ≤ 5
  cl : ∀ s ∈ stsL n, f s ∈ stsL n
/-- on the way -/
structure Wk (n : Nat) (k : Nat) (line : List (List Int)) (s : List Int) : Prop where
  nd : line.Nodup
  sub : ∀ x ∈ line, x ∈ stsL n
  mem : s ∈ stsL n
  many : 2 ^ n ≤ k + line.length
theorem Wk.le {n k : Nat} {line : List (List Int)} {s : List Int} (w : Wk n k line s) : line.length ≤ 2 ^ n := by
  rw [← stsL_size n]
  exact nodup_len _ _ w.nd w.sub
theorem Wk.pos {n k : Nat} {line : List (List Int)} {s : List Int} (w : Wk n k line s) (h : s ∉ line) : 0 < k := Classical.byContradiction fun z => h (full w.nd w.sub (by rw [stsL_size]; have := w.many; omega) w.mem)
theorem Wk.next {n k : Nat} {f : List Int → List Int} (v : Vn n f) {line : List (List Int)} {s : List Int} (w : Wk n (k + 1) line s) (h : s ∉ line) : Wk n k (line ++ [s]) (f s) where
  nd := List.nodup_append.mpr ⟨w.nd, by simp, fun a ha b hb => by rw [List.mem_singleton.mp hb]; exact fun e => h (e ▸ ha)⟩
  sub := fun x m => (List.mem_append.mp m).elim (w.sub x) fun m => by rw [List.mem_singleton.mp m]; exact w.mem
  mem := v.cl s w.mem
  many := by rw [List.length_append, List.length_singleton]; have := w.many; omega
theorem walk_end {n : Nat} {f : List Int → List Int} (v : Vn n f) : ∀ (k : Nat) (line : List (List Int)) (s : List Int), Wk n k line s → (walk f k line s).2 ∈ (walk f k line s).1 ∧ (walk f k line s).1.Nodup ∧ ∀ x ∈ (walk f k line s).1, x ∈ stsL n
  | 0, line, s, w => ⟨Classical.byContradiction fun h => absurd (w.pos h) (by decide), w.nd, w.sub⟩
  | k + 1, line, s, w => by
    unfold walk
    by_cases h : s ∈ line
    · rw [if_pos h]
      exact ⟨h, w.nd, w.sub⟩
    · rw [if_neg h]
      exact walk_end v k _ _ (w.next v h)
theorem walk_stop {f : List Int → List Int} {line : List (List Int)} {s : List Int} (h : s ∈ line) : ∀ k, walk f k line s = (line, s)
  | 0 => rfl
  | k + 1 => by unfold walk; rw [if_pos h]
theorem walk_go {f : List Int → List Int} {line : List (List Int)} {s : List Int} {k : Nat} (h : s ∉ line) : walk f (k + 1) line s = walk f k (line ++ [s]) (f s) := by rw [walk, if_neg h]
theorem Wk.start {n : Nat} {s : List Int} (h : s ∈ stsL n) : Wk n (2 ^ n) [] s := ⟨List.nodup_nil, (fun x m => absurd m (by simp)), h, by simp⟩
def wkL (n : Nat) (f : List Int → List Int) (s : List Int) : List (List Int) := (walk f (2 ^ n) [] s).1
def wkI (n : Nat) (f : List Int → List Int) (s : List Int) : Nat := (walk f (2 ^ n) [] s).1.idxOf (walk f (2 ^ n) [] s).2
def tlL (n : Nat) (f : List Int → List Int) (s : List Int) : List (List Int) := (wkL n f s).take (wkI n f s)
def rgL (n : Nat) (f : List Int → List Int) (s : List Int) : List (List Int) := (wkL n f s).drop (wkI n f s)
/-- the tail, the ring as data -/
def trD (n : Nat) (f : List Int → List Int) (s : List Int) : D := .tup [.tup ((tlL n f s).map Sd), .tup ((rgL n f s).map Sd)]
def dn (n : Nat) (f : List Int → List Int) : List (D × D) := (stsL n).map fun s => (Sd s, Sd (f s))
def rl (n : Nat) (f : List Int → List Int) : List D := (List.range n).map fun i => .tup ((stsL n).map fun s => .int ((f s).getD i 0))
def net (n : Nat) (f : List Int → List Int) : D := .ins 0 [.tup (rl n f), .dct (dn n f)]
theorem dn_key (n : Nat) (f : List Int → List Int) (s : List Int) : keyOk (dn n f) (Sd s) = true := keyOk_Sd (fun p m => by
  obtain ⟨r, _, rfl⟩ := List.mem_map.mp m
  rfl) s
theorem dn_get {n : Nat} {f : List Int → List Int} {s : List Int} (h : s ∈ stsL n) : dget (dn n f) (Sd s) = some (Sd (f s)) := by
  unfold dn
  rw [dget_map (g := fun s => Sd (f s)), if_pos h]
theorem dn_sub {n : Nat} {f : List Int → List Int} {s : List Int} (h : s ∈ stsL n) : subM (.dct (dn n f)) (Sd s) = ret (Sd (f s)) := by
  show lft (if keyOk (dn n f) (Sd s) then dget (dn n f) (Sd s) else none) = _
  rw [dn_key, if_pos rfl, dn_get h]
  rfl
theorem rl_len (n : Nat) (f : List Int → List Int) : (rl n f).length = n := by unfold rl; rw [List.length_map, List.length_range]
end VS
end
section
set_option Elab.async false
set_option linter.all false
set_option maxRecDepth 100000
set_option maxHeartbeats 0
namespace LW
open PySem PySem.Spec PyProof.Rows L2 VS
def top (i : Nat) : Stmt := PySem.Challenge.pw_ringrests_k50_whole_beats_followed_far.main.body.getD i (.Pass ⟨0, 0, 0, 0⟩)
def inn (i j : Nat) : Stmt := match top i with
  | .ClassDef _ _ _ b _ _ _ _ _ _ _ => b.getD j (.Pass ⟨0, 0, 0, 0⟩)
  | _ => .Pass ⟨0, 0, 0, 0⟩
def d_Net_eq : He.DefD := ⟨("Net", some "__eq__"), "__eq__", "Net.__eq__", defArgs (inn 18 3), defBody (inn 18 3), defScope (inn 18 3), [], []⟩
def d_is_number : He.DefD := ⟨("is_number", none), "is_number", "is_number", defArgs (top 9), defBody (top 9), defScope (top 9), [], []⟩
def d_is_list : He.DefD := ⟨("is_list", none), "is_list", "is_list", defArgs (top 11), defBody (top 11), defScope (top 11), [], []⟩
def d_all_states : He.DefD := ⟨("all_states", none), "all_states", "all_states", defArgs (top 15), defBody (top 15), defScope (top 15), [], []⟩
def d_need_net : He.DefD := ⟨("need_net", none), "need_net", "need_net", defArgs (top 19), defBody (top 19), defScope (top 19), [.non], []⟩
def d_next_by : He.DefD := ⟨("next_by", none), "next_by", "next_by", defArgs (top 23), defBody (top 23), defScope (top 23), [], []⟩
def d__law_begun : He.DefD := ⟨("_law_begun", none), "_law_begun", "_law_begun", defArgs (top 37), defBody (top 37), defScope (top 37), [], []⟩
def d__law_blend : He.DefD := ⟨("_law_blend", none), "_law_blend", "_law_blend", defArgs (top 38), defBody (top 38), defScope (top 38), [], []⟩
def d__law_power : He.DefD := ⟨("_law_power", none), "_law_power", "_law_power", defArgs (top 42), defBody (top 42), defScope (top 42), [], []⟩
def d__law_states : He.DefD := ⟨("_law_states", none), "_law_states", "_law_states", defArgs (top 43), defBody (top 43), defScope (top 43), [], []⟩
def d__law_run : He.DefD := ⟨("_law_run", none), "_law_run", "_law_run", defArgs (top 47), defBody (top 47), defScope (top 47), [], []⟩
def d__law_four : He.DefD := ⟨("_law_four", none), "_law_four", "_law_four", defArgs (top 48), defBody (top 48), defScope (top 48), [], []⟩
def d_is_between : He.DefD := ⟨("is_between", none), "is_between", "is_between", defArgs (top 10), defBody (top 10), defScope (top 10), [], []⟩
def d_states_many : He.DefD := ⟨("states_many", none), "states_many", "states_many", defArgs (top 16), defBody (top 16), defScope (top 16), [], []⟩
def d_beat_track : He.DefD := ⟨("beat_track", none), "beat_track", "beat_track", defArgs (top 27), defBody (top 27), defScope (top 27), [], []⟩
def d__law_draw : He.DefD := ⟨("_law_draw", none), "_law_draw", "_law_draw", defArgs (top 39), defBody (top 39), defScope (top 39), [], []⟩
def d_is_tuple_of : He.DefD := ⟨("is_tuple_of", none), "is_tuple_of", "is_tuple_of", defArgs (top 12), defBody (top 12), defScope (top 12), [], []⟩
def d_state_after : He.DefD := ⟨("state_after", none), "state_after", "state_after", defArgs (top 29), defBody (top 29), defScope (top 29), [], []⟩
def d_need_times : He.DefD := ⟨("need_times", none), "need_times", "need_times", defArgs (top 30), defBody (top 30), defScope (top 30), [], []⟩
def d_time_by : He.DefD := ⟨("time_by", none), "time_by", "time_by", defArgs (top 33), defBody (top 33), defScope (top 33), [], []⟩
def d_longest_tail : He.DefD := ⟨("longest_tail", none), "longest_tail", "longest_tail", defArgs (top 35), defBody (top 35), defScope (top 35), [], []⟩
def d__law_pick : He.DefD := ⟨("_law_pick", none), "_law_pick", "_law_pick", defArgs (top 40), defBody (top 40), defScope (top 40), [], []⟩
def d__law_shuffled : He.DefD := ⟨("_law_shuffled", none), "_law_shuffled", "_law_shuffled", defArgs (top 41), defBody (top 41), defScope (top 41), [], []⟩
def d__law_small_nets : He.DefD := ⟨("_law_small_nets", none), "_law_small_nets", "_law_small_nets", defArgs (top 46), defBody (top 46), defScope (top 46), [], []⟩
def d_need_rules : He.DefD := ⟨("need_rules", none), "need_rules", "need_rules", defArgs (top 17), defBody (top 17), defScope (top 17), [], []⟩
def d_is_state : He.DefD := ⟨("is_state", none), "is_state", "is_state", defArgs (top 20), defBody (top 20), defScope (top 20), [], []⟩
def d__law_net : He.DefD := ⟨("_law_net", none), "_law_net", "_law_net", defArgs (top 44), defBody (top 44), defScope (top 44), [], []⟩
def d_need_state : He.DefD := ⟨("need_state", none), "need_state", "need_state", defArgs (top 21), defBody (top 21), defScope (top 21), [], []⟩
def d_Net_init : He.DefD := ⟨("Net", some "__init__"), "__init__", "Net.__init__", defArgs (inn 18 0), defBody (inn 18 0), defScope (inn 18 0), [], []⟩
def d_need_net_state : He.DefD := ⟨("need_net_state", none), "need_net_state", "need_net_state", defArgs (top 22), defBody (top 22), defScope (top 22), [], []⟩
def d_need_two_states : He.DefD := ⟨("need_two_states", none), "need_two_states", "need_two_states", defArgs (top 32), defBody (top 32), defScope (top 32), [], []⟩
def d_next_state : He.DefD := ⟨("next_state", none), "next_state", "next_state", defArgs (top 24), defBody (top 24), defScope (top 24), [], []⟩
def d_beat_run : He.DefD := ⟨("beat_run", none), "beat_run", "beat_run", defArgs (top 28), defBody (top 28), defScope (top 28), [], []⟩
def d_after : He.DefD := ⟨("after", none), "after", "after", defArgs (top 31), defBody (top 31), defScope (top 31), [], []⟩
def d_beat_time : He.DefD := ⟨("beat_time", none), "beat_time", "beat_time", defArgs (top 34), defBody (top 34), defScope (top 34), [], []⟩
def d__law_made : He.DefD := ⟨("_law_made", none), "_law_made", "_law_made", defArgs (top 45), defBody (top 45), defScope (top 45), [], []⟩
def d__law_net_right : He.DefD := ⟨("_law_net_right", none), "_law_net_right", "_law_net_right", defArgs (top 49), defBody (top 49), defScope (top 49), [], []⟩
def d_law : He.DefD := ⟨("law", none), "law", "law", defArgs (top 50), defBody (top 50), defScope (top 50), [], []⟩
def d_Net_switches : He.DefD := ⟨("Net", some "switches"), "switches", "Net.switches", defArgs (inn 18 1), defBody (inn 18 1), defScope (inn 18 1), [], []⟩
def d_Net_rules : He.DefD := ⟨("Net", some "rules"), "rules", "Net.rules", defArgs (inn 18 2), defBody (inn 18 2), defScope (inn 18 2), [], []⟩
def fn : List He.DefD := [d_Net_eq, d_is_number, d_is_list, d_all_states, d_need_net, d_next_by, d__law_begun, d__law_blend, d__law_power, d__law_states, d__law_run, d__law_four, d_is_between, d_states_many, d_beat_track, d__law_draw, d_is_tuple_of, d_state_after, d_need_times, d_time_by, d_longest_tail, d__law_pick, d__law_shuffled, d__law_small_nets, d_need_rules, d_is_state, d__law_net, d_need_state, d_Net_init, d_need_net_state, d_need_two_states, d_next_state, d_beat_run, d_after, d_beat_time, d__law_made, d__law_net_right, d_law]
def gs : List He.DefD := [d_Net_switches, d_Net_rules]
def fa : List He.Fa := [.glo "is_number", .glo "is_between", .glo "is_list", .glo "is_tuple_of", .glo "all_states", .glo "states_many", .glo "need_rules", .glo "need_net", .glo "is_state", .glo "need_state", .glo "need_net_state", .glo "next_by", .glo "next_state", .glo "beat_track", .glo "beat_run", .glo "state_after", .glo "need_times", .glo "after", .glo "need_two_states", .glo "time_by", .glo "beat_time", .glo "longest_tail", .glo "_law_begun", .glo "_law_blend", .glo "_law_draw", .glo "_law_pick", .glo "_law_shuffled", .glo "_law_power", .glo "_law_states", .glo "_law_net", .glo "_law_made", .glo "_law_small_nets", .glo "_law_run", .glo "_law_four", .glo "_law_net_right", .glo "law", .glo "Net", .free "len", .free "int", .free "abs", .free "min", .free "max", .free "sorted", .free "list", .free "tuple", .free "dict", .free "all", .free "any", .free "isinstance", .free "range", .free "zip", .free "enumerate", .free "bool", .free "str", .free "set", .int "MOST_SWITCHES" 5, .int "MOST_TIMES" 1000000000000000000, .cls "Net", .noat "Net" "own_rules", .noat "Net" "own_nexts", .mkr "Net", .meth "Net" "__eq__"]
def ex (K : PySem.W.Frag) : Bool := noLst K && (clsB K (He.ga K "Net") && ([propB K (He.ga K "Net") "switches", propB K (He.ga K "Net") "rules"].all id))
def nm0 : List PySem.Str := ["NetError", "PartError", "ItemError", "BadNumber", "NoNet", "BadRules", "BadState", "is_number", "is_between", "is_list", "is_tuple_of", "MOST_SWITCHES", "all_states", "states_many", "need_rules", "Net", "need_net", "is_state", "need_state", "need_net_state"]
def nm1 : List PySem.Str := ["next_by", "next_state", "MOST_TIMES", "beat_track", "beat_run", "state_after", "need_times", "after", "need_two_states", "time_by", "beat_time", "longest_tail", "_law_begun", "_law_blend", "_law_draw", "_law_pick", "_law_shuffled", "_law_power", "_law_states", "_law_net"]
def nm2 : List PySem.Str := ["_law_made", "_law_small_nets", "_law_run", "_law_four", "_law_net_right"]
abbrev R : PySem.W.OpenRow := PySem.W.OpenLaw.row PySem.Challenge.rw_ringrests_k50_whole_beats_followed_far
abbrev hk : PySem.W.Hook := hookY 6 fa fn gs ex
def ob (s : PySem.W.SharedT) : AlY := obsY fa fn gs ex (He.frG (HandSHeadRun.getT s) (He.asD (HandSHeadRun.getT s) 6))
theorem ob_eq (s : PySem.W.SharedT) : ob s = hk.obs s.abs := obsY_eq (HandSHeadRun.getT_eq s)
theorem runH (w : World) : HandSHeadRun.RunEq R (PySem.W.view R.prog [50]) hk ob 4000 (nm0 ++ nm1 ++ nm2) w := by
  intro os
  kernel_rfl
end LW
end
section
set_option Elab.async false
set_option linter.all false
set_option maxRecDepth 100000
set_option maxHeartbeats 0
namespace LW
open PySem PySem.Spec PyProof.Rows L2 VS
def se_Net_eq : SE := ⟨[("self" : Str), ("other" : Str)], defScope (inn 18 3), [], [(("own_rules" : Str), .fld 0 0)], [(("Net" : Str), 0)], [], fun _ => true⟩
theorem sc_Net_eq : FnScope (se_Net_eq).N [("self" : Str), ("other" : Str)] (se_Net_eq).sc := ⟨rfl, rfl, rfl, by decide +kernel, rfl, by decide +kernel, by decide +kernel⟩
def se_is_number : SE := ⟨[("thing" : Str)], defScope (top 9), [], [], [], [], fun _ => true⟩
theorem sc_is_number : FnScope (se_is_number).N [("thing" : Str)] (se_is_number).sc := ⟨rfl, rfl, rfl, by decide +kernel, rfl, by decide +kernel, by decide +kernel⟩
def se_is_list : SE := ⟨[("thing" : Str)], defScope (top 11), [], [], [], [], fun _ => true⟩
theorem sc_is_list : FnScope (se_is_list).N [("thing" : Str)] (se_is_list).sc := ⟨rfl, rfl, rfl, by decide +kernel, rfl, by decide +kernel, by decide +kernel⟩
def se_all_states : SE := ⟨[("many" : Str), ("found" : Str), ("switch" : Str), ("state" : Str), ("answer" : Str)], defScope (top 15), [], [], [], [], fun _ => true⟩
theorem sc_all_states : FnScope (se_all_states).N [("many" : Str)] (se_all_states).sc := ⟨rfl, rfl, rfl, by decide +kernel, rfl, by decide +kernel, by decide +kernel⟩
def se_need_net : SE := ⟨[("net" : Str), ("part" : Str)], defScope (top 19), [], [], [(("Net" : Str), 0)], [], fun _ => true⟩
theorem sc_need_net : FnScope (se_need_net).N [("net" : Str), ("part" : Str)] (se_need_net).sc := ⟨rfl, rfl, rfl, by decide +kernel, rfl, by decide +kernel, by decide +kernel⟩
def se_next_by : SE := ⟨[("net" : Str), ("state" : Str)], defScope (top 23), [], [(("own_nexts" : Str), .fld 0 1)], [], [], fun _ => true⟩
theorem sc_next_by : FnScope (se_next_by).N [("net" : Str), ("state" : Str)] (se_next_by).sc := ⟨rfl, rfl, rfl, by decide +kernel, rfl, by decide +kernel, by decide +kernel⟩
def se__law_begun : SE := ⟨[("script" : Str), ("large" : Str), ("grain" : Str)], defScope (top 37), [], [], [], [1], fun _ => true⟩
theorem sc__law_begun : FnScope (se__law_begun).N [("script" : Str)] (se__law_begun).sc := ⟨rfl, rfl, rfl, by decide +kernel, rfl, by decide +kernel, by decide +kernel⟩
def se__law_blend : SE := ⟨[("tape" : Str), ("great" : Str), ("turn" : Str), ("found" : Str), ("blended" : Str), ("grain" : Str)], defScope (top 38), [], [], [], [0], fun _ => true⟩
theorem sc__law_blend : FnScope (se__law_blend).N [("tape" : Str)] (se__law_blend).sc := ⟨rfl, rfl, rfl, by decide +kernel, rfl, by decide +kernel, by decide +kernel⟩
def se__law_power : SE := ⟨[("base" : Str), ("times" : Str), ("found" : Str), ("lap" : Str)], defScope (top 42), [], [], [], [], fun _ => true⟩
theorem sc__law_power : FnScope (se__law_power).N [("base" : Str), ("times" : Str)] (se__law_power).sc := ⟨rfl, rfl, rfl, by decide +kernel, rfl, by decide +kernel, by decide +kernel⟩
def se__law_states : SE := ⟨[("many" : Str), ("found" : Str), ("switch" : Str), ("later" : Str), ("state" : Str)], defScope (top 43), [], [], [], [], fun _ => true⟩
theorem sc__law_states : FnScope (se__law_states).N [("many" : Str)] (se__law_states).sc := ⟨rfl, rfl, rfl, by decide +kernel, rfl, by decide +kernel, by decide +kernel⟩
def se__law_run : SE := ⟨[("nexts" : Str), ("state" : Str), ("line" : Str), ("lap" : Str), ("spot" : Str)], defScope (top 47), [], [], [], [2], fun _ => true⟩
theorem sc__law_run : FnScope (se__law_run).N [("nexts" : Str), ("state" : Str)] (se__law_run).sc := ⟨rfl, rfl, rfl, by decide +kernel, rfl, by decide +kernel, by decide +kernel⟩
def se__law_four : SE := ⟨[], defScope (top 48), [], [], [], [], fun _ => true⟩
theorem sc__law_four : FnScope (se__law_four).N [] (se__law_four).sc := ⟨rfl, rfl, rfl, by decide +kernel, rfl, by decide +kernel, by decide +kernel⟩
def se_Net_switches : SE := ⟨[("self" : Str)], defScope (inn 18 1), [], [(("own_rules" : Str), .fld 0 0)], [], [], fun _ => true⟩
theorem sc_Net_switches : FnScope (se_Net_switches).N [("self" : Str)] (se_Net_switches).sc := ⟨rfl, rfl, rfl, by decide +kernel, rfl, by decide +kernel, by decide +kernel⟩
def se_Net_rules : SE := ⟨[("self" : Str)], defScope (inn 18 2), [], [(("own_rules" : Str), .fld 0 0)], [], [], fun _ => true⟩
theorem sc_Net_rules : FnScope (se_Net_rules).N [("self" : Str)] (se_Net_rules).sc := ⟨rfl, rfl, rfl, by decide +kernel, rfl, by decide +kernel, by decide +kernel⟩
def se_is_between : SE := ⟨[("thing" : Str), ("low" : Str), ("high" : Str)], defScope (top 10), [(("is_number" : Str), .fn ⟨1, [(1, [], [])]⟩)], [], [], [], fun _ => true⟩
theorem sc_is_between : FnScope (se_is_between).N [("thing" : Str), ("low" : Str), ("high" : Str)] (se_is_between).sc := ⟨rfl, rfl, rfl, by decide +kernel, rfl, by decide +kernel, by decide +kernel⟩
def se_states_many : SE := ⟨[("many" : Str)], defScope (top 16), [(("all_states" : Str), .fn ⟨5, [(1, [], [])]⟩)], [], [], [], fun _ => true⟩
theorem sc_states_many : FnScope (se_states_many).N [("many" : Str)] (se_states_many).sc := ⟨rfl, rfl, rfl, by decide +kernel, rfl, by decide +kernel, by decide +kernel⟩
def se_beat_track : SE := ⟨[("net" : Str), ("state" : Str), ("found" : Str), ("line" : Str)], defScope (top 27), [(("next_by" : Str), .fn ⟨12, [(2, [], [])]⟩)], [], [], [2, 3], fun _ => true⟩
theorem sc_beat_track : FnScope (se_beat_track).N [("net" : Str), ("state" : Str)] (se_beat_track).sc := ⟨rfl, rfl, rfl, by decide +kernel, rfl, by decide +kernel, by decide +kernel⟩
def se__law_draw : SE := ⟨[("tape" : Str), ("size" : Str), ("found" : Str)], defScope (top 39), [(("_law_blend" : Str), .fn ⟨24, [(1, [], [])]⟩)], [], [], [0], fun _ => true⟩
theorem sc__law_draw : FnScope (se__law_draw).N [("tape" : Str), ("size" : Str)] (se__law_draw).sc := ⟨rfl, rfl, rfl, by decide +kernel, rfl, by decide +kernel, by decide +kernel⟩
def se_is_tuple_of : SE := ⟨[("thing" : Str), ("many" : Str), ("low" : Str), ("high" : Str), ("item" : Str)], defScope (top 12), [(("is_between" : Str), .fn ⟨2, [(3, [], [])]⟩)], [], [], [], fun _ => true⟩
theorem sc_is_tuple_of : FnScope (se_is_tuple_of).N [("thing" : Str), ("many" : Str), ("low" : Str), ("high" : Str)] (se_is_tuple_of).sc := ⟨rfl, rfl, rfl, by decide +kernel, rfl, by decide +kernel, by decide +kernel⟩
def se_state_after : SE := ⟨[("net" : Str), ("state" : Str), ("times" : Str), ("tail" : Str), ("ring" : Str)], defScope (top 29), [(("beat_track" : Str), .fn ⟨14, [(2, [], [])]⟩)], [], [], [], fun _ => true⟩
theorem sc_state_after : FnScope (se_state_after).N [("net" : Str), ("state" : Str), ("times" : Str)] (se_state_after).sc := ⟨rfl, rfl, rfl, by decide +kernel, rfl, by decide +kernel, by decide +kernel⟩
def se_need_times : SE := ⟨[("times" : Str)], defScope (top 30), [(("is_between" : Str), .fn ⟨2, [(3, [], [])]⟩), (("MOST_TIMES" : Str), .const (.int 1000000000000000000))], [], [], [], fun _ => true⟩
theorem sc_need_times : FnScope (se_need_times).N [("times" : Str)] (se_need_times).sc := ⟨rfl, rfl, rfl, by decide +kernel, rfl, by decide +kernel, by decide +kernel⟩
def se_time_by : SE := ⟨[("net" : Str), ("one" : Str), ("other" : Str), ("line" : Str), ("tail" : Str), ("ring" : Str)], defScope (top 33), [(("beat_track" : Str), .fn ⟨14, [(2, [], [])]⟩)], [], [], [], fun _ => true⟩
theorem sc_time_by : FnScope (se_time_by).N [("net" : Str), ("one" : Str), ("other" : Str)] (se_time_by).sc := ⟨rfl, rfl, rfl, by decide +kernel, rfl, by decide +kernel, by decide +kernel⟩
def se_longest_tail : SE := ⟨[("net" : Str), ("found" : Str), ("state" : Str)], defScope (top 35), [(("need_net" : Str), .fn ⟨8, [(1, [], [.non])]⟩), (("all_states" : Str), .fn ⟨5, [(1, [], [])]⟩), (("beat_track" : Str), .fn ⟨14, [(2, [], [])]⟩)], [(("switches" : Str), .prop 38)], [], [], fun _ => true⟩
theorem sc_longest_tail : FnScope (se_longest_tail).N [("net" : Str)] (se_longest_tail).sc := ⟨rfl, rfl, rfl, by decide +kernel, rfl, by decide +kernel, by decide +kernel⟩
def se__law_pick : SE := ⟨[("tape" : Str), ("several" : Str)], defScope (top 40), [(("_law_draw" : Str), .fn ⟨25, [(2, [], [])]⟩)], [], [], [], fun _ => true⟩
theorem sc__law_pick : FnScope (se__law_pick).N [("tape" : Str), ("several" : Str)] (se__law_pick).sc := ⟨rfl, rfl, rfl, by decide +kernel, rfl, by decide +kernel, by decide +kernel⟩
def se__law_shuffled : SE := ⟨[("tape" : Str), ("several" : Str), ("left" : Str), ("found" : Str)], defScope (top 41), [(("_law_draw" : Str), .fn ⟨25, [(2, [], [])]⟩)], [], [], [2, 3], fun _ => true⟩
theorem sc__law_shuffled : FnScope (se__law_shuffled).N [("tape" : Str), ("several" : Str)] (se__law_shuffled).sc := ⟨rfl, rfl, rfl, by decide +kernel, rfl, by decide +kernel, by decide +kernel⟩
def se__law_small_nets : SE := ⟨[("tape" : Str), ("share" : Str), ("found" : Str), ("many" : Str), ("total" : Str), ("number" : Str), ("states" : Str), ("begin" : Str), ("state" : Str), ("nexts" : Str), ("left" : Str)], defScope (top 46), [(("_law_power" : Str), .fn ⟨28, [(2, [], [])]⟩), (("_law_states" : Str), .fn ⟨29, [(1, [], [])]⟩), (("_law_draw" : Str), .fn ⟨25, [(2, [], [])]⟩)], [], [], [2, 9], fun _ => true⟩
theorem sc__law_small_nets : FnScope (se__law_small_nets).N [("tape" : Str), ("share" : Str)] (se__law_small_nets).sc := ⟨rfl, rfl, rfl, by decide +kernel, rfl, by decide +kernel, by decide +kernel⟩
def se_need_rules : SE := ⟨[("rules" : Str), ("size" : Str), ("index" : Str), ("rule" : Str)], defScope (top 17), [(("states_many" : Str), .fn ⟨6, [(1, [], [])]⟩), (("is_list" : Str), .fn ⟨3, [(1, [], [])]⟩), (("is_tuple_of" : Str), .fn ⟨4, [(4, [], [])]⟩), (("MOST_SWITCHES" : Str), .const (.int 5))], [], [], [], fun _ => true⟩
theorem sc_need_rules : FnScope (se_need_rules).N [("rules" : Str)] (se_need_rules).sc := ⟨rfl, rfl, rfl, by decide +kernel, rfl, by decide +kernel, by decide +kernel⟩
def se_is_state : SE := ⟨[("many" : Str), ("thing" : Str)], defScope (top 20), [(("is_tuple_of" : Str), .fn ⟨4, [(4, [], [])]⟩)], [], [], [], fun _ => true⟩
theorem sc_is_state : FnScope (se_is_state).N [("many" : Str), ("thing" : Str)] (se_is_state).sc := ⟨rfl, rfl, rfl, by decide +kernel, rfl, by decide +kernel, by decide +kernel⟩
def se__law_net : SE := ⟨[("tape" : Str), ("most" : Str), ("rules" : Str), ("switch" : Str), ("state" : Str), ("many" : Str), ("turn" : Str), ("states" : Str), ("nexts" : Str), ("asked" : Str), ("item" : Str), ("table" : Str)], defScope (top 44), [(("_law_draw" : Str), .fn ⟨25, [(2, [], [])]⟩), (("_law_states" : Str), .fn ⟨29, [(1, [], [])]⟩), (("_law_pick" : Str), .fn ⟨26, [(2, [], [])]⟩), (("_law_shuffled" : Str), .fn ⟨27, [(2, [], [])]⟩)], [], [], [2, 8], fun _ => true⟩
theorem sc__law_net : FnScope (se__law_net).N [("tape" : Str), ("most" : Str)] (se__law_net).sc := ⟨rfl, rfl, rfl, by decide +kernel, rfl, by decide +kernel, by decide +kernel⟩
def se_need_state : SE := ⟨[("net" : Str), ("state" : Str)], defScope (top 21), [(("is_state" : Str), .fn ⟨9, [(2, [], [])]⟩)], [(("switches" : Str), .prop 38)], [], [], fun _ => true⟩
theorem sc_need_state : FnScope (se_need_state).N [("net" : Str), ("state" : Str)] (se_need_state).sc := ⟨rfl, rfl, rfl, by decide +kernel, rfl, by decide +kernel, by decide +kernel⟩
def se_Net_init : SE := ⟨[("self" : Str), ("rules" : Str), ("nexts" : Str), ("index" : Str), ("state" : Str), ("rule" : Str)], defScope (inn 18 0), [(("need_rules" : Str), .fn ⟨7, [(1, [], [])]⟩), (("all_states" : Str), .fn ⟨5, [(1, [], [])]⟩)], [(("own_rules" : Str), .fld 0 0), (("own_nexts" : Str), .fld 0 1)], [], [2], fun _ => true⟩
theorem sc_Net_init : FnScope (se_Net_init).N [("self" : Str), ("rules" : Str)] (se_Net_init).sc := ⟨rfl, rfl, rfl, by decide +kernel, rfl, by decide +kernel, by decide +kernel⟩
def se_need_net_state : SE := ⟨[("net" : Str), ("state" : Str)], defScope (top 22), [(("need_net" : Str), .fn ⟨8, [(1, [], [.non])]⟩), (("need_state" : Str), .fn ⟨10, [(2, [], [])]⟩)], [], [], [], fun _ => true⟩
theorem sc_need_net_state : FnScope (se_need_net_state).N [("net" : Str), ("state" : Str)] (se_need_net_state).sc := ⟨rfl, rfl, rfl, by decide +kernel, rfl, by decide +kernel, by decide +kernel⟩
def se_need_two_states : SE := ⟨[("net" : Str), ("one" : Str), ("other" : Str)], defScope (top 32), [(("need_net" : Str), .fn ⟨8, [(1, [], [.non])]⟩), (("need_state" : Str), .fn ⟨10, [(2, [], [])]⟩)], [], [], [], fun _ => true⟩
theorem sc_need_two_states : FnScope (se_need_two_states).N [("net" : Str), ("one" : Str), ("other" : Str)] (se_need_two_states).sc := ⟨rfl, rfl, rfl, by decide +kernel, rfl, by decide +kernel, by decide +kernel⟩
def se_next_state : SE := ⟨[("net" : Str), ("state" : Str)], defScope (top 24), [(("need_net_state" : Str), .fn ⟨11, [(2, [], [])]⟩), (("next_by" : Str), .fn ⟨12, [(2, [], [])]⟩)], [], [], [], fun _ => true⟩
theorem sc_next_state : FnScope (se_next_state).N [("net" : Str), ("state" : Str)] (se_next_state).sc := ⟨rfl, rfl, rfl, by decide +kernel, rfl, by decide +kernel, by decide +kernel⟩
def se_beat_run : SE := ⟨[("net" : Str), ("state" : Str)], defScope (top 28), [(("need_net_state" : Str), .fn ⟨11, [(2, [], [])]⟩), (("beat_track" : Str), .fn ⟨14, [(2, [], [])]⟩)], [], [], [], fun _ => true⟩
theorem sc_beat_run : FnScope (se_beat_run).N [("net" : Str), ("state" : Str)] (se_beat_run).sc := ⟨rfl, rfl, rfl, by decide +kernel, rfl, by decide +kernel, by decide +kernel⟩
def se_after : SE := ⟨[("net" : Str), ("state" : Str), ("times" : Str)], defScope (top 31), [(("need_net_state" : Str), .fn ⟨11, [(2, [], [])]⟩), (("need_times" : Str), .fn ⟨17, [(1, [], [])]⟩), (("state_after" : Str), .fn ⟨16, [(3, [], [])]⟩)], [], [], [], fun _ => true⟩
theorem sc_after : FnScope (se_after).N [("net" : Str), ("state" : Str), ("times" : Str)] (se_after).sc := ⟨rfl, rfl, rfl, by decide +kernel, rfl, by decide +kernel, by decide +kernel⟩
def se_beat_time : SE := ⟨[("net" : Str), ("one" : Str), ("other" : Str)], defScope (top 34), [(("need_two_states" : Str), .fn ⟨19, [(3, [], [])]⟩), (("time_by" : Str), .fn ⟨20, [(3, [], [])]⟩)], [], [], [], fun _ => true⟩
theorem sc_beat_time : FnScope (se_beat_time).N [("net" : Str), ("one" : Str), ("other" : Str)] (se_beat_time).sc := ⟨rfl, rfl, rfl, by decide +kernel, rfl, by decide +kernel, by decide +kernel⟩
def se__law_made : SE := ⟨[("nexts" : Str), ("states" : Str), ("switch" : Str), ("state" : Str)], defScope (top 45), [(("Net" : Str), .cls ⟨37, [(1, [], [])]⟩)], [], [], [], fun _ => true⟩
theorem sc__law_made : FnScope (se__law_made).N [("nexts" : Str)] (se__law_made).sc := ⟨rfl, rfl, rfl, by decide +kernel, rfl, by decide +kernel, by decide +kernel⟩
def se__law_net_right : SE := ⟨[("tape" : Str), ("nexts" : Str), ("states" : Str), ("state" : Str), ("net" : Str), ("lengths" : Str), ("times" : Str), ("line" : Str), ("other" : Str), ("tail" : Str), ("ring" : Str), ("due" : Str)], defScope (top 49), [(("_law_made" : Str), .fn ⟨31, [(1, [], [])]⟩), (("longest_tail" : Str), .fn ⟨22, [(1, [], [])]⟩), (("_law_run" : Str), .fn ⟨33, [(2, [], [])]⟩), (("_law_draw" : Str), .fn ⟨25, [(2, [], [])]⟩), (("beat_run" : Str), .fn ⟨15, [(2, [], []), (0, [("net" : Str), ("state" : Str)], [])]⟩), (("next_state" : Str), .fn ⟨13, [(2, [], [])]⟩), (("after" : Str), .fn ⟨18, [(3, [], []), (0, [("net" : Str), ("state" : Str), ("times" : Str)], [])]⟩), (("beat_time" : Str), .fn ⟨21, [(3, [], []), (0, [("net" : Str), ("one" : Str), ("other" : Str)], [])]⟩)], [], [], [5], fun _ => true⟩
theorem sc__law_net_right : FnScope (se__law_net_right).N [("tape" : Str), ("nexts" : Str), ("states" : Str)] (se__law_net_right).sc := ⟨rfl, rfl, rfl, by decide +kernel, rfl, by decide +kernel, by decide +kernel⟩
def se_law : SE := ⟨[("script" : Str), ("tape" : Str), ("nexts" : Str), ("lap" : Str), ("four" : Str), ("two" : Str), ("item" : Str)], defScope (top 50), [(("_law_small_nets" : Str), .fn ⟨32, [(2, [], [])]⟩), (("_law_net" : Str), .fn ⟨30, [(2, [], [])]⟩), (("_law_made" : Str), .fn ⟨31, [(1, [], [])]⟩), (("_law_net_right" : Str), .fn ⟨35, [(3, [], [])]⟩), (("_law_four" : Str), .fn ⟨34, [(0, [], [])]⟩), (("beat_run" : Str), .fn ⟨15, [(2, [], []), (0, [("net" : Str), ("state" : Str)], [])]⟩), (("after" : Str), .fn ⟨18, [(3, [], []), (0, [("net" : Str), ("state" : Str), ("times" : Str)], [])]⟩), (("beat_time" : Str), .fn ⟨21, [(3, [], []), (0, [("net" : Str), ("one" : Str), ("other" : Str)], [])]⟩), (("longest_tail" : Str), .fn ⟨22, [(1, [], [])]⟩), (("_law_pick" : Str), .fn ⟨26, [(2, [], [])]⟩), (("Net" : Str), .cls ⟨37, [(1, [], [])]⟩)], [], [], [], fun _ => true⟩
theorem sc_law : FnScope (se_law).N [("script" : Str)] (se_law).sc := ⟨rfl, rfl, rfl, by decide +kernel, rfl, by decide +kernel, by decide +kernel⟩
end LW
end
section
set_option linter.all false
set_option maxRecDepth 100000
set_option autoImplicit false
namespace LW
open PySem VS
/-- instances alone -/
def in1 (ds : List D) (m : M D) : M D := match ds with
  | [.ins 0 _] => m
  | _ => stuck
def in2 (ds : List D) (m : M D) : M D := match ds with
  | [.ins 0 _, .ins 0 _] => m
  | _ => stuck
def b_Net_eq : Fn := ⟨2, [.ret (.and (.blt (.isCls 0) [(.bor 1)]) (.cmp .eq (.att (.var 0) 0 0) (.att (.var 1) 0 0)))]⟩
def b_is_number : Fn := ⟨1, [.ret (.and (.blt .isInt [(.bor 0)]) (.not (.blt .isBool [(.bor 0)])))]⟩
def b_is_list : Fn := ⟨1, [.ret (.blt .isListTuple [(.bor 0)])]⟩
def b_all_states : Fn := ⟨5, [.asg (.nm 1) (.lst [(.tup [])]), .for (.nm 2) (.range [(.var 0)]) [.asg (.nm 1) (.comp2 [3, 4] [4] (.nm 3) (.seq (.bor 1)) [] (.nm 4) (.seq (.tup [(.lit (.int 0)), (.lit (.int 1))])) [] (.tupS [true, false] [(.bor 3), (.var 4)]))], .ret (.var 1)]⟩
def b_need_net : Fn := ⟨2, [.iff (.not (.blt (.isCls 0) [(.bor 0)])) [.nev] []]⟩
def b_next_by : Fn := ⟨2, [.ret (.sub (.att (.var 0) 0 1) (.var 1))]⟩
def begE1 : Ex := (.comp [2] (.nm 2) (.seq (.bor 0)) [(.cmp .ge (.blt .abs [(.bor 2)]) (.bin .pow (.lit (.int 10)) (.lit (.int 18))))] (.bin .sub (.blt .abs [(.bor 2)]) (.bin .pow (.lit (.int 10)) (.lit (.int 18)))))
def begE3 : Ex := (.comp [2] (.nm 2) (.seq (.bor 0)) [] (.blt .abs [(.bor 2)]))
def b__law_blend : Fn := ⟨6, [.put 0 (.lit (.str ("turn" : Str))) (.bin .add (.sub (.bor 0) (.lit (.str ("turn" : Str)))) (.lit (.int 1))), .par 2 3 false false (.blt .int [(.sub (.bor 0) (.lit (.str ("turn" : Str))))]) (.lit (.int 0)), .for (.nm 1) (.seq (.lst [(.lit (.int 2147483629)), (.lit (.int 2147483587)), (.lit (.int 2147483579))])) [.asg (.nm 4) (.bin .mod (.bin .add (.bin .mul (.bor 2) (.lit (.int 69621))) (.bin .fdiv (.bor 1) (.lit (.int 7)))) (.bor 1)), .for (.nm 5) (.seq (.sub (.bor 0) (.lit (.str ("cells" : Str))))) [.asg (.nm 4) (.bin .mod (.bin .add (.bin .mul (.bor 4) (.lit (.int 48271))) (.blt .int [(.bor 5)])) (.bor 1))], .asg (.nm 3) (.bin .add (.bin .mul (.bor 3) (.lit (.int 2147483647))) (.bin .mod (.bin .pow (.bor 4) (.lit (.int 5))) (.bor 1)))], .ret (.var 3)]⟩
def b__law_power : Fn := ⟨4, [.asg (.nm 2) (.lit (.int 1)), .for (.nm 3) (.range [(.var 1)]) [.asg (.nm 2) (.bin .mul (.bor 2) (.bor 0))], .ret (.var 2)]⟩
def b__law_states : Fn := ⟨5, [.asg (.nm 1) (.lst [(.tup [])]), .for (.nm 2) (.range [(.var 0)]) [.asg (.nm 3) (.lst []), .for (.nm 4) (.seq (.bor 1)) [.asg (.nm 3) (.bin .add (.bor 3) (.lst [(.bin .add (.bor 4) (.tup [(.lit (.int 0))])), (.bin .add (.bor 4) (.tup [(.lit (.int 1))]))]))], .asg (.nm 1) (.var 3)], .ret (.var 1)]⟩
def b__law_run : Fn := ⟨5, [.new 2 (.lst []), .for (.nm 3) (.range [(.bin .add (.blt .len [(.bor 0)]) (.lit (.int 1)))]) [.iff (.cmp .mem (.bor 1) (.bor 2)) [.asg (.nm 4) (.mt .index (.bor 2) [(.bor 1)]), .ret (.tup [(.blt .tuple [(.slc (.bor 2) (.lit .non) (.var 4))]), (.blt .tuple [(.slc (.bor 2) (.var 4) (.lit .non))])])] [], .app 2 (.var 1), .asg (.nm 1) (.sub (.bor 0) (.var 1))], .ret (.tup [(.tup []), (.tup [])])]⟩
def b__law_four : Fn := ⟨0, [.ret (.blt .dictL [(.lst [(.tup [(.tup [(.lit (.int 0)), (.lit (.int 0))]), (.tup [(.lit (.int 1)), (.lit (.int 0))])]), (.tup [(.tup [(.lit (.int 0)), (.lit (.int 1))]), (.tup [(.lit (.int 0)), (.lit (.int 0))])]), (.tup [(.tup [(.lit (.int 1)), (.lit (.int 0))]), (.tup [(.lit (.int 1)), (.lit (.int 1))])]), (.tup [(.tup [(.lit (.int 1)), (.lit (.int 1))]), (.tup [(.lit (.int 0)), (.lit (.int 1))])])])])]⟩
def b_Net_switches : Fn := ⟨1, [.ret (.blt .len [(.att (.var 0) 0 0)])]⟩
def b_Net_rules : Fn := ⟨1, [.ret (.att (.var 0) 0 0)]⟩
def b_is_between : Fn := ⟨3, [.ret (.and (.call 1 [(.var 0)]) (.cmp2 .le .le (.var 1) (.var 0) (.var 2)))]⟩
def b_states_many : Fn := ⟨1, [.ret (.blt .len [(.call 5 [(.var 0)])])]⟩
def b_beat_track : Fn := ⟨4, [.par 2 3 true true (.dsp []) (.lst []), .while (.cmp .nmem (.bor 1) (.bor 2)) [.put 2 (.var 1) (.blt .len [(.bor 3)]), .app 3 (.var 1), .asg (.nm 1) (.call 12 [(.var 0), (.var 1)])], .ret (.tup [(.blt .tuple [(.slc (.bor 3) (.lit .non) (.sub (.bor 2) (.var 1)))]), (.blt .tuple [(.slc (.bor 3) (.sub (.bor 2) (.var 1)) (.lit .non))])])]⟩
def b__law_draw : Fn := ⟨3, [.iff (.cmp .eq (.sub (.bor 0) (.lit (.str ("rest" : Str)))) (.lit (.int 0))) [.frz [0] (.put 0 (.lit (.str ("rest" : Str))) (.tnx 0 24))] [], .asg (.nm 2) (.bin .mod (.blt .int [(.sub (.bor 0) (.lit (.str ("rest" : Str))))]) (.bor 1)), .put 0 (.lit (.str ("rest" : Str))) (.bin .fdiv (.blt .int [(.sub (.bor 0) (.lit (.str ("rest" : Str))))]) (.bor 1)), .ret (.var 2)]⟩
def b_is_tuple_of : Fn := ⟨5, [.ret (.and (.blt .isTuple [(.bor 0)]) (.and (.cmp .eq (.blt .len [(.bor 0)]) (.bor 1)) (.blt .allB [(.comp [4] (.nm 4) (.seq (.bor 0)) [] (.call 2 [(.var 4), (.var 2), (.var 3)]))])))]⟩
def b_state_after : Fn := ⟨5, [.asg (.tp [(.nm 3), (.nm 4)]) (.call 14 [(.var 0), (.var 1)]), .ret (.ife (.cmp .lt (.bor 2) (.blt .len [(.bor 3)])) (.sub (.bor 3) (.var 2)) (.sub (.bor 4) (.bin .mod (.bin .sub (.bor 2) (.blt .len [(.bor 3)])) (.blt .len [(.bor 4)]))))]⟩
def b_need_times : Fn := ⟨1, [.iff (.not (.call 2 [(.var 0), (.lit (.int 0)), (.lit (.int 1000000000000000000))])) [.nev] []]⟩
def b_time_by : Fn := ⟨6, [.asg (.tp [(.nm 4), (.nm 5)]) (.call 14 [(.var 0), (.var 1)]), .asg (.nm 3) (.tupS [true, true] [(.bor 4), (.bor 5)]), .ret (.ife (.cmp .mem (.bor 2) (.bor 3)) (.mt .index (.bor 3) [(.bor 2)]) (.lit .non))]⟩
def b_longest_tail : Fn := ⟨3, [.expr (.call 8 [(.var 0), (.lit .non)]), .asg (.nm 1) (.comp [2] (.nm 2) (.seq (.call 5 [(.call 38 [(.var 0)])])) [] (.tup [(.bin .sub (.lit (.int 0)) (.blt .len [(.sub (.call 14 [(.var 0), (.var 2)]) (.lit (.int 0)))])), (.var 2)])), .ret (.tup [(.bin .sub (.lit (.int 0)) (.sub (.blt .min [(.bor 1)]) (.lit (.int 0)))), (.sub (.blt .min [(.bor 1)]) (.lit (.int 1)))])]⟩
def b__law_pick : Fn := ⟨2, [.ret (.sub (.bor 1) (.call 25 [(.var 0), (.blt .len [(.bor 1)])]))]⟩
def b__law_shuffled : Fn := ⟨4, [.par 2 3 true true (.blt .list [(.bor 1)]) (.lst []), .while (.cmp .ne (.bor 2) (.lst [])) [.appPop 3 2 (.call 25 [(.var 0), (.blt .len [(.bor 2)])])], .frz [3] (.ret (.var 3))]⟩
def b__law_small_nets : Fn := ⟨11, [.new 2 (.lst []), .for (.nm 3) (.seq (.lst [(.lit (.int 1)), (.lit (.int 2))])) [.par 6 7 false false (.call 29 [(.var 3)]) (.call 25 [(.var 0), (.var 1)]), .asg (.nm 4) (.call 28 [(.blt .len [(.bor 6)]), (.blt .len [(.bor 6)])]), .for (.nm 5) (.seq (.ife (.cmp .eq (.bor 3) (.lit (.int 1))) (.blt .listRange [(.var 4)]) (.blt .listRange [(.var 7), (.var 4), (.var 1)]))) [.par 9 10 true false (.dsp []) (.var 5), .for (.nm 8) (.seq (.bor 6)) [.put 9 (.var 8) (.sub (.bor 6) (.bin .mod (.blt .int [(.bor 10)]) (.blt .len [(.bor 6)]))), .asg (.nm 10) (.bin .fdiv (.bor 10) (.blt .len [(.bor 6)]))], .frz [9] (.app 2 (.var 9))]], .frz [2] (.ret (.var 2))]⟩
def b_need_rules : Fn := ⟨4, [.iff (.or (.not (.call 3 [(.var 0)])) (.not (.cmp2 .le .le (.lit (.int 1)) (.blt .len [(.bor 0)]) (.lit (.int 5))))) [.nev] [], .asg (.nm 1) (.call 6 [(.blt .len [(.bor 0)])]), .for (.tp [(.nm 2), (.nm 3)]) (.enum (.bor 0)) [.iff (.not (.call 4 [(.var 3), (.var 1), (.lit (.int 0)), (.lit (.int 1))])) [.nev] []]]⟩
def b_is_state : Fn := ⟨2, [.ret (.call 4 [(.var 1), (.var 0), (.lit (.int 0)), (.lit (.int 1))])]⟩
def b__law_net : Fn := ⟨12, [.asg (.tp [(.nm 5), (.nm 6)]) (.tup [(.bin .add (.lit (.int 1)) (.call 25 [(.var 0), (.var 1)])), (.call 25 [(.var 0), (.lit (.int 6))])]), .par 7 8 false true (.call 29 [(.var 5)]) (.dsp []), .iff (.cmp .lt (.bor 6) (.lit (.int 2))) [.for (.nm 4) (.seq (.bor 7)) [.put 8 (.var 4) (.call 26 [(.var 0), (.var 7)])], .frz [8] (.ret (.var 8))] [], .iff (.cmp .eq (.bor 6) (.lit (.int 2))) [.ret (.blt .dictL [(.blt .listZip [(.bor 7), (.call 27 [(.var 0), (.var 7)])])])] [], .new 2 (.lst []), .for (.nm 3) (.range [(.var 5)]) [.asg (.nm 9) (.ife (.cmp .lt (.bor 6) (.lit (.int 5))) (.comp [10] (.nm 10) (.range [(.bin .add (.lit (.int 1)) (.call 25 [(.var 0), (.lit (.int 2))]))]) [] (.call 25 [(.var 0), (.var 5)])) (.lst [(.bin .mod (.blt .int [(.bin .sub (.bin .add (.bor 3) (.bor 5)) (.lit (.int 1)))]) (.bor 5))])), .app 2 (.tup [(.var 9), (.comp [10] (.nm 10) (.range [(.lit (.int 4))]) [] (.call 25 [(.var 0), (.lit (.int 2))]))])], .for (.nm 4) (.seq (.bor 7)) [.put 8 (.var 4) (.blt .tuple [(.comp [9, 11] (.tp [(.nm 9), (.nm 11)]) (.seq (.bor 2)) [] (.sub (.bor 11) (.bin .add (.bin .mul (.sub (.bor 4) (.sub (.bor 9) (.lit (.int 0)))) (.lit (.int 2))) (.sub (.bor 4) (.sub (.bor 9) (.neg (.lit (.int 1))))))))])], .frz [8] (.ret (.var 8))]⟩
def b_need_state : Fn := ⟨2, [.iff (.not (.call 9 [(.call 38 [(.var 0)]), (.var 1)])) [.nev] []]⟩
def iniE1 : Ex := (.call 7 [(.var 1)])
def iniE2 : Ex := (.blt .tuple [(.bor 1)])
def iniB3 : Stm := .new 2 (.dsp [])
def iniB4 : Stm := .for (.tp [(.nm 3), (.nm 4)]) (.enum (.call 5 [(.blt .len [(.bor 1)])])) [.put 2 (.var 4) (.blt .tuple [(.comp [5] (.nm 5) (.seq (.bor 1)) [] (.sub (.bor 5) (.var 3)))])]
def b_need_net_state : Fn := ⟨2, [.expr (.call 8 [(.var 0), (.lit .non)]), .expr (.call 10 [(.var 0), (.var 1)])]⟩
def b_need_two_states : Fn := ⟨3, [.expr (.call 8 [(.var 0), (.lit .non)]), .expr (.call 10 [(.var 0), (.var 1)]), .expr (.call 10 [(.var 0), (.var 2)])]⟩
def b_next_state : Fn := ⟨2, [.expr (.call 11 [(.var 0), (.var 1)]), .ret (.call 12 [(.var 0), (.var 1)])]⟩
def b_beat_run : Fn := ⟨2, [.expr (.call 11 [(.var 0), (.var 1)]), .ret (.call 14 [(.var 0), (.var 1)])]⟩
def b_after : Fn := ⟨3, [.expr (.call 11 [(.var 0), (.var 1)]), .expr (.call 17 [(.var 2)]), .ret (.call 16 [(.var 0), (.var 1), (.var 2)])]⟩
def b_beat_time : Fn := ⟨3, [.expr (.call 19 [(.var 0), (.var 1), (.var 2)]), .ret (.call 20 [(.var 0), (.var 1), (.var 2)])]⟩
def b__law_made : Fn := ⟨4, [.asg (.nm 1) (.blt .sorted [(.bor 0)]), .ret (.call 37 [(.comp [2] (.nm 2) (.range [(.blt .len [(.sub (.bor 1) (.lit (.int 0)))])]) [] (.blt .tuple [(.comp [3] (.nm 3) (.seq (.bor 1)) [] (.sub (.sub (.bor 0) (.var 3)) (.var 2)))]))])]⟩
def b__law_net_right : Fn := ⟨12, [.par 4 5 false true (.call 31 [(.var 1)]) (.lst []), .for (.nm 3) (.seq (.blt .sorted [(.bor 1)])) [.app 5 (.tup [(.bin .sub (.lit (.int 0)) (.blt .len [(.sub (.call 33 [(.var 1), (.var 3)]) (.lit (.int 0)))])), (.var 3)])], .iff (.cmp .ne (.call 22 [(.var 4)]) (.tup [(.bin .sub (.lit (.int 0)) (.sub (.blt .min [(.bor 5)]) (.lit (.int 0)))), (.sub (.blt .min [(.bor 5)]) (.lit (.int 1)))])) [.ret (.lit (.bl false))] [], .for (.nm 3) (.seq (.bor 2)) [.asg (.tp [(.nm 9), (.nm 10)]) (.call 33 [(.var 1), (.var 3)]), .iff (.or (.cmp .ne (.call 15 [(.var 4), (.var 3)]) (.tup [(.var 9), (.var 10)])) (.cmp .ne (.call 13 [(.var 4), (.var 3)]) (.sub (.bor 1) (.var 3)))) [.ret (.lit (.bl false))] [], .for (.nm 6) (.seq (.lst [(.lit (.int 0)), (.lit (.int 1)), (.lit (.int 2)), (.lit (.int 3)), (.blt .len [(.bor 9)]), (.bin .add (.blt .len [(.bor 9)]) (.blt .len [(.bor 10)])), (.call 25 [(.var 0), (.lit (.int 100))]), (.bin .sub (.bin .pow (.lit (.int 10)) (.lit (.int 18))) (.call 25 [(.var 0), (.lit (.int 50))]))])) [.asg (.nm 11) (.ife (.cmp .lt (.bor 6) (.blt .len [(.bor 9)])) (.sub (.bor 9) (.var 6)) (.sub (.bor 10) (.bin .mod (.blt .int [(.bin .sub (.bor 6) (.blt .len [(.bor 9)]))]) (.blt .len [(.bor 10)])))), .iff (.cmp .ne (.call 18 [(.var 4), (.var 3), (.var 6)]) (.bor 11)) [.ret (.lit (.bl false))] []], .asg (.nm 7) (.bin .add (.bor 9) (.bor 10)), .for (.nm 8) (.seq (.blt .sorted [(.bor 1)])) [.iff (.cmp .ne (.call 21 [(.var 4), (.var 3), (.var 8)]) (.ife (.cmp .mem (.bor 8) (.bor 7)) (.mt .index (.bor 7) [(.bor 8)]) (.lit .non))) [.ret (.lit (.bl false))] []]], .ret (.lit (.bl true))]⟩
def b_law : Fn := ⟨7, [.pass, .for (.nm 2) (.seq (.call 32 [(.var 1), (.lit (.int 4))])) [.iff (.not (.call 35 [(.var 1), (.var 2), (.blt .sorted [(.bor 2)])])) [.ret (.lit (.bl false))] []], .for (.nm 3) (.range [(.bin .add (.lit (.int 3)) (.blt .min [(.blt .len [(.bor 0)]), (.lit (.int 7))]))]) [.asg (.nm 2) (.call 30 [(.var 1), (.lit (.int 5))]), .iff (.not (.call 35 [(.var 1), (.var 2), (.comp [6] (.nm 6) (.range [(.lit (.int 4))]) [] (.call 26 [(.var 1), (.blt .sorted [(.bor 2)])]))])) [.ret (.lit (.bl false))] []], .par 4 5 false false (.call 31 [(.call 34 [])]) (.call 37 [(.lst [(.tup [(.lit (.int 1)), (.lit (.int 0)), (.lit (.int 1)), (.lit (.int 0))]), (.tup [(.lit (.int 1)), (.lit (.int 1)), (.lit (.int 0)), (.lit (.int 0))])])]), .iff (.or (.cmp .ne (.call 15 [(.var 5), (.tup [(.lit (.int 0)), (.lit (.int 0))])]) (.tup [(.tup []), (.tup [(.tup [(.lit (.int 0)), (.lit (.int 0))]), (.tup [(.lit (.int 1)), (.lit (.int 1))])])])) (.or (.cmp .ne (.call 18 [(.var 4), (.tup [(.lit (.int 0)), (.lit (.int 0))]), (.bin .sub (.bin .pow (.lit (.int 10)) (.lit (.int 18))) (.lit (.int 1)))]) (.tup [(.lit (.int 0)), (.lit (.int 1))])) (.cmp .ne (.call 21 [(.var 4), (.tup [(.lit (.int 0)), (.lit (.int 1))]), (.tup [(.lit (.int 1)), (.lit (.int 1))])]) (.lit (.int 3))))) [.ret (.lit (.bl false))] [], .ret (.and (.isN (.call 21 [(.var 5), (.tup [(.lit (.int 0)), (.lit (.int 1))]), (.tup [(.lit (.int 1)), (.lit (.int 0))])])) (.and (.cmp .eq (.call 22 [(.call 37 [(.lst [(.tup [(.lit (.int 1)), (.lit (.int 1))])])])]) (.tup [(.lit (.int 1)), (.tup [(.lit (.int 0))])])) (.cmp .eq (.bor 4) (.call 37 [(.lst [(.tup [(.lit (.int 1)), (.lit (.int 0)), (.lit (.int 1)), (.lit (.int 0))]), (.tup [(.lit (.int 0)), (.lit (.int 0)), (.lit (.int 1)), (.lit (.int 1))])])]))))]⟩
def P1 (f : Nat) (ds : List D) : M D := match f with
  | 0 => in2 ds (run Φ0 100000 b_Net_eq ds)
  | 1 => run Φ0 100000 b_is_number ds
  | 3 => run Φ0 100000 b_is_list ds
  | 5 => run Φ0 100000 b_all_states ds
  | 8 => run Φ0 100000 b_need_net ds
  | 12 => run Φ0 100000 b_next_by ds
  | 24 => run Φ0 100000 b__law_blend ds
  | 28 => run Φ0 100000 b__law_power ds
  | 29 => run Φ0 100000 b__law_states ds
  | 33 => run Φ0 100000 b__law_run ds
  | 34 => run Φ0 100000 b__law_four ds
  | 38 => in1 ds (run Φ0 100000 b_Net_switches ds)
  | 39 => in1 ds (run Φ0 100000 b_Net_rules ds)
  | f => Φ0 f ds
theorem e_is_number (ds : List D) : P1 1 ds = run Φ0 100000 b_is_number ds := rfl
theorem e_is_list (ds : List D) : P1 3 ds = run Φ0 100000 b_is_list ds := rfl
theorem e_all_states (ds : List D) : P1 5 ds = run Φ0 100000 b_all_states ds := rfl
theorem e_need_net (ds : List D) : P1 8 ds = run Φ0 100000 b_need_net ds := rfl
theorem e_next_by (ds : List D) : P1 12 ds = run Φ0 100000 b_next_by ds := rfl
theorem e__law_blend (ds : List D) : P1 24 ds = run Φ0 100000 b__law_blend ds := rfl
theorem e__law_power (ds : List D) : P1 28 ds = run Φ0 100000 b__law_power ds := rfl
theorem e__law_states (ds : List D) : P1 29 ds = run Φ0 100000 b__law_states ds := rfl
theorem e__law_run (ds : List D) : P1 33 ds = run Φ0 100000 b__law_run ds := rfl
theorem e__law_four (ds : List D) : P1 34 ds = run Φ0 100000 b__law_four ds := rfl
def P2 (f : Nat) (ds : List D) : M D := match f with
  | 2 => run P1 100000 b_is_between ds
  | 6 => run P1 100000 b_states_many ds
  | 14 => run P1 100000 b_beat_track ds
  | 25 => run P1 100000 b__law_draw ds
  | f => P1 f ds
theorem e_is_between (ds : List D) : P2 2 ds = run P1 100000 b_is_between ds := rfl
theorem e_states_many (ds : List D) : P2 6 ds = run P1 100000 b_states_many ds := rfl
theorem e_beat_track (ds : List D) : P2 14 ds = run P1 100000 b_beat_track ds := rfl
theorem e__law_draw (ds : List D) : P2 25 ds = run P1 100000 b__law_draw ds := rfl
def P3 (f : Nat) (ds : List D) : M D := match f with
  | 4 => run P2 100000 b_is_tuple_of ds
  | 16 => run P2 100000 b_state_after ds
  | 17 => run P2 100000 b_need_times ds
  | 20 => run P2 100000 b_time_by ds
  | 22 => run P2 100000 b_longest_tail ds
  | 26 => run P2 100000 b__law_pick ds
  | 27 => run P2 100000 b__law_shuffled ds
  | 32 => run P2 100000 b__law_small_nets ds
  | f => P2 f ds
theorem e_is_tuple_of (ds : List D) : P3 4 ds = run P2 100000 b_is_tuple_of ds := rfl
theorem e_state_after (ds : List D) : P3 16 ds = run P2 100000 b_state_after ds := rfl
theorem e_need_times (ds : List D) : P3 17 ds = run P2 100000 b_need_times ds := rfl
theorem e_time_by (ds : List D) : P3 20 ds = run P2 100000 b_time_by ds := rfl
theorem e_longest_tail (ds : List D) : P3 22 ds = run P2 100000 b_longest_tail ds := rfl
theorem e__law_pick (ds : List D) : P3 26 ds = run P2 100000 b__law_pick ds := rfl
theorem e__law_shuffled (ds : List D) : P3 27 ds = run P2 100000 b__law_shuffled ds := rfl
theorem e__law_small_nets (ds : List D) : P3 32 ds = run P2 100000 b__law_small_nets ds := rfl
def P4 (f : Nat) (ds : List D) : M D := match f with
  | 7 => run P3 100000 b_need_rules ds
  | 9 => run P3 100000 b_is_state ds
  | 30 => run P3 100000 b__law_net ds
  | f => P3 f ds
/-- the bits of a rule at an index -/
def bitAt (i : Nat) : D → D
  | .tup l => l.getD i .non
  | _ => .non
def isBit : D → Bool
  | .int i => i == 0 || i == 1
  | _ => false
def goodRule (z : Nat) : D → Bool
  | .tup l => l.length == z && l.all isBit
  | _ => false
def goodRules (l : List D) : Bool := decide (1 ≤ l.length) && (decide (l.length ≤ 5) && l.all (goodRule (2 ^ l.length)))
def netD (l : List D) : D := .ins 0 [.tup l, .dct ((stsL l.length).zipIdx.map fun p => (Sd p.1, .tup (l.map (bitAt p.2))))]
def mkNet : List D → M D
  | [.lst l] => if goodRules l then ret (netD l) else stuck
  | _ => stuck
theorem e_need_rules (ds : List D) : P4 7 ds = run P3 100000 b_need_rules ds := rfl
theorem e_is_state (ds : List D) : P4 9 ds = run P3 100000 b_is_state ds := rfl
theorem e__law_net (ds : List D) : P4 30 ds = run P3 100000 b__law_net ds := rfl
def P5 (f : Nat) (ds : List D) : M D := match f with
  | 10 => run P4 100000 b_need_state ds
  | 37 => mkNet ds
  | f => P4 f ds
theorem e_need_state (ds : List D) : P5 10 ds = run P4 100000 b_need_state ds := rfl
def P6 (f : Nat) (ds : List D) : M D := match f with
  | 11 => run P5 100000 b_need_net_state ds
  | 19 => run P5 100000 b_need_two_states ds
  | f => P5 f ds
theorem e_need_net_state (ds : List D) : P6 11 ds = run P5 100000 b_need_net_state ds := rfl
theorem e_need_two_states (ds : List D) : P6 19 ds = run P5 100000 b_need_two_states ds := rfl
def P7 (f : Nat) (ds : List D) : M D := match f with
  | 13 => run P6 100000 b_next_state ds
  | 15 => run P6 100000 b_beat_run ds
  | 18 => run P6 100000 b_after ds
  | 21 => run P6 100000 b_beat_time ds
  | 31 => run P6 100000 b__law_made ds
  | f => P6 f ds
theorem e_next_state (ds : List D) : P7 13 ds = run P6 100000 b_next_state ds := rfl
theorem e_beat_run (ds : List D) : P7 15 ds = run P6 100000 b_beat_run ds := rfl
theorem e_after (ds : List D) : P7 18 ds = run P6 100000 b_after ds := rfl
theorem e_beat_time (ds : List D) : P7 21 ds = run P6 100000 b_beat_time ds := rfl
theorem e__law_made (ds : List D) : P7 31 ds = run P6 100000 b__law_made ds := rfl
def P8 (f : Nat) (ds : List D) : M D := match f with
  | 35 => run P7 100000 b__law_net_right ds
  | f => P7 f ds
theorem e__law_net_right (ds : List D) : P8 35 ds = run P7 100000 b__law_net_right ds := rfl
theorem u_2_8 (ds : List D) : P2 8 ds = P1 8 ds := rfl
theorem u_2_5 (ds : List D) : P2 5 ds = P1 5 ds := rfl
theorem u_2_38 (ds : List D) : P2 38 ds = P1 38 ds := rfl
theorem u_2_28 (ds : List D) : P2 28 ds = P1 28 ds := rfl
theorem u_2_29 (ds : List D) : P2 29 ds = P1 29 ds := rfl
theorem u_3_6 (ds : List D) : P3 6 ds = P2 6 ds := rfl
theorem u_3_3 (ds : List D) : P3 3 ds = P1 3 ds := rfl
theorem u_3_25 (ds : List D) : P3 25 ds = P2 25 ds := rfl
theorem u_3_29 (ds : List D) : P3 29 ds = P1 29 ds := rfl
theorem u_4_38 (ds : List D) : P4 38 ds = P1 38 ds := rfl
theorem u_4_5 (ds : List D) : P4 5 ds = P1 5 ds := rfl
theorem u_5_8 (ds : List D) : P5 8 ds = P1 8 ds := rfl
theorem u_6_12 (ds : List D) : P6 12 ds = P1 12 ds := rfl
theorem u_6_14 (ds : List D) : P6 14 ds = P2 14 ds := rfl
theorem u_6_17 (ds : List D) : P6 17 ds = P3 17 ds := rfl
theorem u_6_16 (ds : List D) : P6 16 ds = P3 16 ds := rfl
theorem u_6_20 (ds : List D) : P6 20 ds = P3 20 ds := rfl
theorem u_6_37 (ds : List D) : P6 37 ds = P5 37 ds := rfl
theorem u_7_22 (ds : List D) : P7 22 ds = P3 22 ds := rfl
theorem u_7_33 (ds : List D) : P7 33 ds = P1 33 ds := rfl
theorem u_7_25 (ds : List D) : P7 25 ds = P2 25 ds := rfl
theorem u_8_32 (ds : List D) : P8 32 ds = P3 32 ds := rfl
theorem u_8_30 (ds : List D) : P8 30 ds = P4 30 ds := rfl
theorem u_8_31 (ds : List D) : P8 31 ds = P7 31 ds := rfl
theorem u_8_34 (ds : List D) : P8 34 ds = P1 34 ds := rfl
theorem u_8_15 (ds : List D) : P8 15 ds = P7 15 ds := rfl
theorem u_8_18 (ds : List D) : P8 18 ds = P7 18 ds := rfl
theorem u_8_21 (ds : List D) : P8 21 ds = P7 21 ds := rfl
theorem u_8_22 (ds : List D) : P8 22 ds = P3 22 ds := rfl
theorem u_8_26 (ds : List D) : P8 26 ds = P3 26 ds := rfl
theorem u_8_37 (ds : List D) : P8 37 ds = P5 37 ds := rfl
abbrev Phi : Nat → List D → M D := P8
end LW
end
section
set_option Elab.async false
set_option linter.all false
set_option maxRecDepth 100000
set_option maxHeartbeats 1000000
set_option autoImplicit false
namespace LW
open VS
theorem r_is_number (i : Int) : P1 1 [.int i] = ret (.bl true) := rfl
theorem r_is_between (x lo hi : Int) : P2 2 [.int x, .int lo, .int hi] = ret (.bl (decide (lo ≤ x) && decide (x ≤ hi))) := by
  rw [e_is_between]
  by_cases h : lo ≤ x <;> simp [run_eq, ev_lit, ev_var, ev_bor, ev_tup, ev_tupS, ev_lst, ev_dsp, ev_bin, ev_neg, ev_cmp, ev_cmp2, ev_isN, ev_notN, ev_and, ev_or, ev_not, ev_ife, ev_sub, ev_slc, ev_att, ev_call, ev_blt, ev_mt, evs_nil, evs_cons, evSt_nil, evSt_cons, evT_nil, evT_one, evI_seq, evI_range, evI_enum, evI_zip, ex_expr, ex_asg, ex_new, ex_par, ex_app, ex_ret, ex_retN, ex_iff, ex_pass, ex_nev, ex_frz, exs_nil, exs_cons, setT_nm, setT_tp, setTs_nil, setTs_cons, getB, getV, setV, truth, iterOf, seqOf, okIt, itW, isTp, brI, lstAt, dctAt, isTapeAt, frzE, wipeE, isIns, okIs, isB, isC, b_is_between, r_is_number, cmpS, h]
theorem r_is_list (l : List D) : P1 3 [.lst l] = ret (.bl true) := rfl
theorem u_3_2 (ds : List D) : P3 2 ds = P2 2 ds := rfl
theorem r_is_tuple_of (s : List Int) (n lo hi : Int) (hz : s.length ≤ lim) : P3 4 [.tup (s.map .int), .int n, .int lo, .int hi] = ret (.bl (decide ((s.length : Int) = n) && s.all fun x => decide (lo ≤ x) && decide (x ≤ hi))) := by
  rw [e_is_tuple_of]
  have hm := comp_map (Φ := P2) (ρ := [some (D.tup (s.map .int), false), some (.int n, false), some (.int lo, false), some (.int hi, false), none]) (own := [4]) (tg := .nm 4) (it := .seq (.bor 0)) (elt := .call 2 [.var 4, .var 2, .var 3]) (i := D.int) (g := fun x => D.bl (decide (lo ≤ x) && decide (x ≤ hi))) (l := s)
    rfl rfl rfl (fun x _ => by simp [run_eq, ev_lit, ev_var, ev_bor, ev_tup, ev_tupS, ev_lst, ev_dsp, ev_bin, ev_neg, ev_cmp, ev_cmp2, ev_isN, ev_notN, ev_and, ev_or, ev_not, ev_ife, ev_sub, ev_slc, ev_att, ev_call, ev_blt, ev_mt, evs_nil, evs_cons, evSt_nil, evSt_cons, evT_nil, evT_one, evI_seq, evI_range, evI_enum, evI_zip, ex_expr, ex_asg, ex_new, ex_par, ex_app, ex_ret, ex_retN, ex_iff, ex_pass, ex_nev, ex_frz, exs_nil, exs_cons, setT_nm, setT_tp, setTs_nil, setTs_cons, getB, getV, setV, truth, iterOf, seqOf, okIt, itW, isTp, brI, lstAt, dctAt, isTapeAt, frzE, wipeE, isIns, okIs, isB, isC, cStep, r_is_between]) hz
  by_cases h : (s.length : Int) = n
  · simp [run_eq, ev_lit, ev_var, ev_bor, ev_tup, ev_tupS, ev_lst, ev_dsp, ev_bin, ev_neg, ev_cmp, ev_cmp2, ev_isN, ev_notN, ev_and, ev_or, ev_not, ev_ife, ev_sub, ev_slc, ev_att, ev_call, ev_blt, ev_mt, evs_nil, evs_cons, evSt_nil, evSt_cons, evT_nil, evT_one, evI_seq, evI_range, evI_enum, evI_zip, ex_expr, ex_asg, ex_new, ex_par, ex_app, ex_ret, ex_retN, ex_iff, ex_pass, ex_nev, ex_frz, exs_nil, exs_cons, setT_nm, setT_tp, setTs_nil, setTs_cons, getB, getV, setV, truth, iterOf, seqOf, okIt, itW, isTp, brI, lstAt, dctAt, isTapeAt, frzE, wipeE, isIns, okIs, isB, isC, b_is_tuple_of, hm, h, bltS, sizeOf?, cmpS, eqS, plain, pyEq, boolsOf_map]
  · simp [run_eq, ev_lit, ev_var, ev_bor, ev_tup, ev_tupS, ev_lst, ev_dsp, ev_bin, ev_neg, ev_cmp, ev_cmp2, ev_isN, ev_notN, ev_and, ev_or, ev_not, ev_ife, ev_sub, ev_slc, ev_att, ev_call, ev_blt, ev_mt, evs_nil, evs_cons, evSt_nil, evSt_cons, evT_nil, evT_one, evI_seq, evI_range, evI_enum, evI_zip, ex_expr, ex_asg, ex_new, ex_par, ex_app, ex_ret, ex_retN, ex_iff, ex_pass, ex_nev, ex_frz, exs_nil, exs_cons, setT_nm, setT_tp, setTs_nil, setTs_cons, getB, getV, setV, truth, iterOf, seqOf, okIt, itW, isTp, brI, lstAt, dctAt, isTapeAt, frzE, wipeE, isIns, okIs, isB, isC, b_is_tuple_of, hm, h, bltS, sizeOf?, cmpS, eqS, plain, pyEq, boolsOf_map]
end LW
end
section
set_option Elab.async false
set_option linter.all false
set_option maxRecDepth 100000
set_option maxHeartbeats 1000000
set_option autoImplicit false
namespace LW
open VS
theorem pow_lim {n : Nat} (h : n ≤ 6) : 2 ^ n ≤ lim := Nat.le_trans (Nat.pow_le_pow_right (by decide) h) (by decide)
theorem sts_next (n : Nat) : ((stsL n).flatMap fun s => [Sd (s ++ [0]), Sd (s ++ [1])]) = (stsL (n + 1)).map Sd := by
  show _ = ((stsL n).flatMap _).map Sd
  rw [List.map_flatMap]
  rfl
theorem sts_len (n : Nat) : ((stsL n).map Sd).length = 2 ^ n := by rw [List.length_map, stsL_size]
theorem range_n {n : Nat} (h : n ≤ 100) : rangeOf [.int n] = some (rangeL 0 n) := by
  show (if inR (n : Int) = true then some (rangeL 0 (n : Int).toNat) else none) = _
  rw [if_pos (by unfold inR; exact decide_eq_true (by omega))]
  simp [run_eq, ev_lit, ev_var, ev_bor, ev_tup, ev_tupS, ev_lst, ev_dsp, ev_bin, ev_neg, ev_cmp, ev_cmp2, ev_isN, ev_notN, ev_and, ev_or, ev_not, ev_ife, ev_sub, ev_slc, ev_att, ev_call, ev_blt, ev_mt, evs_nil, evs_cons, evSt_nil, evSt_cons, evT_nil, evT_one, evI_seq, evI_range, evI_enum, evI_zip, ex_expr, ex_asg, ex_new, ex_par, ex_app, ex_ret, ex_retN, ex_iff, ex_pass, ex_nev, ex_frz, exs_nil, exs_cons, setT_nm, setT_tp, setTs_nil, setTs_cons, getB, getV, setV, truth, iterOf, seqOf, okIt, itW, isTp, brI, lstAt, dctAt, isTapeAt, frzE, wipeE, isIns, okIs, isB, isC]
theorem r_all_states {n : Nat} (hn : n ≤ 5) : P1 5 [.int n] = ret (.lst ((stsL n).map Sd)) := by
  rw [e_all_states]
  refine run_wp0 [some (.int n, false), none, none, none, none] rfl fun t => ?_
  refine wp_p (ρ' := [some (.int n, false), some (.lst ((stsL 0).map Sd), false), none, none, none]) (by simp [run_eq, ev_lit, ev_var, ev_bor, ev_tup, ev_tupS, ev_lst, ev_dsp, ev_bin, ev_neg, ev_cmp, ev_cmp2, ev_isN, ev_notN, ev_and, ev_or, ev_not, ev_ife, ev_sub, ev_slc, ev_att, ev_call, ev_blt, ev_mt, evs_nil, evs_cons, evSt_nil, evSt_cons, evT_nil, evT_one, evI_seq, evI_range, evI_enum, evI_zip, ex_expr, ex_asg, ex_new, ex_par, ex_app, ex_ret, ex_retN, ex_iff, ex_pass, ex_nev, ex_frz, exs_nil, exs_cons, setT_nm, setT_tp, setTs_nil, setTs_cons, getB, getV, setV, truth, iterOf, seqOf, okIt, itW, isTp, brI, lstAt, dctAt, isTapeAt, frzE, wipeE, isIns, okIs, isB, isC, lim, stsL, Sd]) ?_
  refine wp_f (l := rangeL 0 n) (fun i ρ t' => i ≤ n ∧ t' = t ∧ ∃ x, ρ = [some (.int n, false), some (.lst ((stsL i).map Sd), false), x, none, none]) rfl rfl (by simp [run_eq, ev_lit, ev_var, ev_bor, ev_tup, ev_tupS, ev_lst, ev_dsp, ev_bin, ev_neg, ev_cmp, ev_cmp2, ev_isN, ev_notN, ev_and, ev_or, ev_not, ev_ife, ev_sub, ev_slc, ev_att, ev_call, ev_blt, ev_mt, evs_nil, evs_cons, evSt_nil, evSt_cons, evT_nil, evT_one, evI_seq, evI_range, evI_enum, evI_zip, ex_expr, ex_asg, ex_new, ex_par, ex_app, ex_ret, ex_retN, ex_iff, ex_pass, ex_nev, ex_frz, exs_nil, exs_cons, setT_nm, setT_tp, setTs_nil, setTs_cons, getB, getV, setV, truth, iterOf, seqOf, okIt, itW, isTp, brI, lstAt, dctAt, isTapeAt, frzE, wipeE, isIns, okIs, isB, isC, range_n (show n ≤ 100 by omega)]) ⟨Nat.zero_le _, rfl, _, rfl⟩ (fun i x ρ t' e h => ?_) fun ρ t' h => ?_
  · obtain ⟨hi, rfl, y, rfl⟩ := h
    obtain ⟨h1, rfl⟩ := rg0 n i x e
    refine wp_t (ρ' := [some (.int n, false), some (.lst ((stsL i).map Sd), false), some (.int i, false), none, none]) rfl ?_
    have hc := comp2_bind (Φ := Φ0) (ρ := [some (.int n, false), some (.lst ((stsL i).map Sd), false), some (.int i, false), none, none]) (own := [3, 4]) (own2 := [4]) (tg := .nm 3) (tg2 := .nm 4) (it := .seq (.bor 1)) (it2 := .seq (.tup [.lit (.int 0), .lit (.int 1)])) (ifs := []) (ifs2 := []) (elt := .tupS [true, false] [.bor 3, .var 4])
      (i := Sd) (g := fun s => [Sd (s ++ [0]), Sd (s ++ [1])]) (l := stsL i) rfl rfl rfl (fun s hs => by
        have := stsL_len i s hs
        have hl : s.length + 1 ≤ lim := by rw [this]; exact Nat.le_trans (show i + 1 ≤ 100 by omega) (by decide)
        simp [run_eq, ev_lit, ev_var, ev_bor, ev_tup, ev_tupS, ev_lst, ev_dsp, ev_bin, ev_neg, ev_cmp, ev_cmp2, ev_isN, ev_notN, ev_and, ev_or, ev_not, ev_ife, ev_sub, ev_slc, ev_att, ev_call, ev_blt, ev_mt, evs_nil, evs_cons, evSt_nil, evSt_cons, evT_nil, evT_one, evI_seq, evI_range, evI_enum, evI_zip, ex_expr, ex_asg, ex_new, ex_par, ex_app, ex_ret, ex_retN, ex_iff, ex_pass, ex_nev, ex_frz, exs_nil, exs_cons, setT_nm, setT_tp, setTs_nil, setTs_cons, getB, getV, setV, truth, iterOf, seqOf, okIt, itW, isTp, brI, lstAt, dctAt, isTapeAt, frzE, wipeE, isIns, okIs, isB, isC, cStep2, cStep, lim, flatM, Sd]
        simp [run_eq, ev_lit, ev_var, ev_bor, ev_tup, ev_tupS, ev_lst, ev_dsp, ev_bin, ev_neg, ev_cmp, ev_cmp2, ev_isN, ev_notN, ev_and, ev_or, ev_not, ev_ife, ev_sub, ev_slc, ev_att, ev_call, ev_blt, ev_mt, evs_nil, evs_cons, evSt_nil, evSt_cons, evT_nil, evT_one, evI_seq, evI_range, evI_enum, evI_zip, ex_expr, ex_asg, ex_new, ex_par, ex_app, ex_ret, ex_retN, ex_iff, ex_pass, ex_nev, ex_frz, exs_nil, exs_cons, setT_nm, setT_tp, setTs_nil, setTs_cons, getB, getV, setV, truth, iterOf, seqOf, okIt, itW, isTp, brI, lstAt, dctAt, isTapeAt, frzE, wipeE, isIns, okIs, isB, isC, lim] at hl
        simp [run_eq, ev_lit, ev_var, ev_bor, ev_tup, ev_tupS, ev_lst, ev_dsp, ev_bin, ev_neg, ev_cmp, ev_cmp2, ev_isN, ev_notN, ev_and, ev_or, ev_not, ev_ife, ev_sub, ev_slc, ev_att, ev_call, ev_blt, ev_mt, evs_nil, evs_cons, evSt_nil, evSt_cons, evT_nil, evT_one, evI_seq, evI_range, evI_enum, evI_zip, ex_expr, ex_asg, ex_new, ex_par, ex_app, ex_ret, ex_retN, ex_iff, ex_pass, ex_nev, ex_frz, exs_nil, exs_cons, setT_nm, setT_tp, setTs_nil, setTs_cons, getB, getV, setV, truth, iterOf, seqOf, okIt, itW, isTp, brI, lstAt, dctAt, isTapeAt, frzE, wipeE, isIns, okIs, isB, isC, hl]) (by rw [sts_next, sts_len]; exact pow_lim (by omega))
    refine wp_p (ρ' := [some (.int n, false), some (.lst ((stsL (i + 1)).map Sd), false), some (.int i, false), none, none]) (by rw [sts_next] at hc; simp [run_eq, ev_lit, ev_var, ev_bor, ev_tup, ev_tupS, ev_lst, ev_dsp, ev_bin, ev_neg, ev_cmp, ev_cmp2, ev_isN, ev_notN, ev_and, ev_or, ev_not, ev_ife, ev_sub, ev_slc, ev_att, ev_call, ev_blt, ev_mt, evs_nil, evs_cons, evSt_nil, evSt_cons, evT_nil, evT_one, evI_seq, evI_range, evI_enum, evI_zip, ex_expr, ex_asg, ex_new, ex_par, ex_app, ex_ret, ex_retN, ex_iff, ex_pass, ex_nev, ex_frz, exs_nil, exs_cons, setT_nm, setT_tp, setTs_nil, setTs_cons, getB, getV, setV, truth, iterOf, seqOf, okIt, itW, isTp, brI, lstAt, dctAt, isTapeAt, frzE, wipeE, isIns, okIs, isB, isC, hc]) ?_
    exact wp_n ⟨rfl, by omega, rfl, _, rfl⟩
  · obtain ⟨_, rfl, y, rfl⟩ := h
    rw [rg_len]
    exact wp_r (ρ' := [some (.int n, false), some (.lst ((stsL n).map Sd), false), y, none, none]) (by simp [run_eq, ev_lit, ev_var, ev_bor, ev_tup, ev_tupS, ev_lst, ev_dsp, ev_bin, ev_neg, ev_cmp, ev_cmp2, ev_isN, ev_notN, ev_and, ev_or, ev_not, ev_ife, ev_sub, ev_slc, ev_att, ev_call, ev_blt, ev_mt, evs_nil, evs_cons, evSt_nil, evSt_cons, evT_nil, evT_one, evI_seq, evI_range, evI_enum, evI_zip, ex_expr, ex_asg, ex_new, ex_par, ex_app, ex_ret, ex_retN, ex_iff, ex_pass, ex_nev, ex_frz, exs_nil, exs_cons, setT_nm, setT_tp, setTs_nil, setTs_cons, getB, getV, setV, truth, iterOf, seqOf, okIt, itW, isTp, brI, lstAt, dctAt, isTapeAt, frzE, wipeE, isIns, okIs, isB, isC]) ⟨rfl, rfl⟩
end LW
end
section
set_option Elab.async false
set_option linter.all false
set_option maxRecDepth 100000
set_option maxHeartbeats 1000000


set_option autoImplicit false
namespace LW
open VS
theorem r_states_many {n : Nat} (hn : n ≤ 5) : P2 6 [.int n] = ret (.int ((2 ^ n : Nat) : Int)) := by
  rw [e_states_many]
  have h : ∀ (x : Int) (z : List D), P1 5 [.int x] = ret (.lst z) → VS.run P1 100000 b_states_many [.int x] = ret (.int (z.length : Nat)) := fun x z h => by
    simp [run_eq, ev_lit, ev_var, ev_bor, ev_tup, ev_tupS, ev_lst, ev_dsp, ev_bin, ev_neg, ev_cmp, ev_cmp2, ev_isN, ev_notN, ev_and, ev_or, ev_not, ev_ife, ev_sub, ev_slc, ev_att, ev_call, ev_blt, ev_mt, evs_nil, evs_cons, evSt_nil, evSt_cons, evT_nil, evT_one, evI_seq, evI_range, evI_enum, evI_zip, ex_expr, ex_asg, ex_new, ex_par, ex_app, ex_ret, ex_retN, ex_iff, ex_pass, ex_nev, ex_frz, exs_nil, exs_cons, setT_nm, setT_tp, setTs_nil, setTs_cons, getB, getV, setV, truth, iterOf, seqOf, okIt, itW, isTp, brI, lstAt, dctAt, isTapeAt, frzE, wipeE, isIns, okIs, isB, isC, b_states_many, h, bltS, sizeOf?]
  rw [h n _ (r_all_states hn), sts_len]
theorem r_next_by {n : Nat} {f : List Int → List Int} {s : List Int} (h : s ∈ stsL n) : P1 12 [net n f, Sd s] = ret (Sd (f s)) := by
  rw [e_next_by]
  simp [run_eq, ev_lit, ev_var, ev_bor, ev_tup, ev_tupS, ev_lst, ev_dsp, ev_bin, ev_neg, ev_cmp, ev_cmp2, ev_isN, ev_notN, ev_and, ev_or, ev_not, ev_ife, ev_sub, ev_slc, ev_att, ev_call, ev_blt, ev_mt, evs_nil, evs_cons, evSt_nil, evSt_cons, evT_nil, evT_one, evI_seq, evI_range, evI_enum, evI_zip, ex_expr, ex_asg, ex_new, ex_par, ex_app, ex_ret, ex_retN, ex_iff, ex_pass, ex_nev, ex_frz, exs_nil, exs_cons, setT_nm, setT_tp, setTs_nil, setTs_cons, getB, getV, setV, truth, iterOf, seqOf, okIt, itW, isTp, brI, lstAt, dctAt, isTapeAt, frzE, wipeE, isIns, okIs, isB, isC, b_next_by, net, dn_sub h]
theorem e_sw (l m : List D) : P1 38 [.ins 0 (.tup l :: m)] = ret (.int (l.length : Nat)) := rfl
theorem r_switches {n : Nat} {f : List Int → List Int} : P1 38 [net n f] = ret (.int n) := by
  unfold net
  rw [e_sw, rl_len]
theorem r_need_net (l : List D) : P1 8 [.ins 0 l, .non] = ret .non := rfl
theorem r_is_state {n : Nat} {s : List Int} (hn : n ≤ 5) (h : s ∈ stsL n) : P4 9 [.int n, Sd s] = ret (.bl true) := by
  rw [e_is_state]
  have hl := stsL_len n s h
  have hz : s.length ≤ lim := by rw [hl]; exact Nat.le_trans hn (by decide)
  have hb : (s.all fun x => decide ((0 : Int) ≤ x) && decide (x ≤ 1)) = true := List.all_eq_true.mpr fun x m => by
    rcases stsL_bit n s h x m with e | e <;> rw [e] <;> rfl
  have := r_is_tuple_of s n 0 1 hz
  rw [hb, hl] at this
  have g : ∀ (z : Int) (x : D) (r : Bool), P3 4 [x, .int z, .int 0, .int 1] = ret (.bl r) → VS.run P3 100000 b_is_state [.int z, x] = ret (.bl r) := fun z x r h => by
    simp [run_eq, ev_lit, ev_var, ev_bor, ev_tup, ev_tupS, ev_lst, ev_dsp, ev_bin, ev_neg, ev_cmp, ev_cmp2, ev_isN, ev_notN, ev_and, ev_or, ev_not, ev_ife, ev_sub, ev_slc, ev_att, ev_call, ev_blt, ev_mt, evs_nil, evs_cons, evSt_nil, evSt_cons, evT_nil, evT_one, evI_seq, evI_range, evI_enum, evI_zip, ex_expr, ex_asg, ex_new, ex_par, ex_app, ex_ret, ex_retN, ex_iff, ex_pass, ex_nev, ex_frz, exs_nil, exs_cons, setT_nm, setT_tp, setTs_nil, setTs_cons, getB, getV, setV, truth, iterOf, seqOf, okIt, itW, isTp, brI, lstAt, dctAt, isTapeAt, frzE, wipeE, isIns, okIs, isB, isC, b_is_state, h]
  exact g n (Sd s) true (by rw [show Sd s = .tup (s.map .int) from rfl, this]; simp [run_eq, ev_lit, ev_var, ev_bor, ev_tup, ev_tupS, ev_lst, ev_dsp, ev_bin, ev_neg, ev_cmp, ev_cmp2, ev_isN, ev_notN, ev_and, ev_or, ev_not, ev_ife, ev_sub, ev_slc, ev_att, ev_call, ev_blt, ev_mt, evs_nil, evs_cons, evSt_nil, evSt_cons, evT_nil, evT_one, evI_seq, evI_range, evI_enum, evI_zip, ex_expr, ex_asg, ex_new, ex_par, ex_app, ex_ret, ex_retN, ex_iff, ex_pass, ex_nev, ex_frz, exs_nil, exs_cons, setT_nm, setT_tp, setTs_nil, setTs_cons, getB, getV, setV, truth, iterOf, seqOf, okIt, itW, isTp, brI, lstAt, dctAt, isTapeAt, frzE, wipeE, isIns, okIs, isB, isC])
theorem r_need_state {n : Nat} {f : List Int → List Int} {s : List Int} (hn : n ≤ 5) (h : s ∈ stsL n) : P5 10 [net n f, Sd s] = ret .non := by
  rw [e_need_state]
  have g : ∀ (z : Int) (x y : D), P4 38 [x] = ret (.int z) → P4 9 [.int z, y] = ret (.bl true) → VS.run P4 100000 b_need_state [x, y] = ret .non := fun z x y h1 h2 => by
    simp [run_eq, ev_lit, ev_var, ev_bor, ev_tup, ev_tupS, ev_lst, ev_dsp, ev_bin, ev_neg, ev_cmp, ev_cmp2, ev_isN, ev_notN, ev_and, ev_or, ev_not, ev_ife, ev_sub, ev_slc, ev_att, ev_call, ev_blt, ev_mt, evs_nil, evs_cons, evSt_nil, evSt_cons, evT_nil, evT_one, evI_seq, evI_range, evI_enum, evI_zip, ex_expr, ex_asg, ex_new, ex_par, ex_app, ex_ret, ex_retN, ex_iff, ex_pass, ex_nev, ex_frz, exs_nil, exs_cons, setT_nm, setT_tp, setTs_nil, setTs_cons, getB, getV, setV, truth, iterOf, seqOf, okIt, itW, isTp, brI, lstAt, dctAt, isTapeAt, frzE, wipeE, isIns, okIs, isB, isC, b_need_state, h1, h2]
  exact g n _ _ r_switches (r_is_state hn h)
theorem r_need_net_state {n : Nat} {f : List Int → List Int} {s : List Int} (hn : n ≤ 5) (h : s ∈ stsL n) : P6 11 [net n f, Sd s] = ret .non := by
  rw [e_need_net_state]
  have h1 : P5 8 [net n f, .non] = ret .non := r_need_net [.tup (rl n f), .dct (dn n f)]
  simp [run_eq, ev_lit, ev_var, ev_bor, ev_tup, ev_tupS, ev_lst, ev_dsp, ev_bin, ev_neg, ev_cmp, ev_cmp2, ev_isN, ev_notN, ev_and, ev_or, ev_not, ev_ife, ev_sub, ev_slc, ev_att, ev_call, ev_blt, ev_mt, evs_nil, evs_cons, evSt_nil, evSt_cons, evT_nil, evT_one, evI_seq, evI_range, evI_enum, evI_zip, ex_expr, ex_asg, ex_new, ex_par, ex_app, ex_ret, ex_retN, ex_iff, ex_pass, ex_nev, ex_frz, exs_nil, exs_cons, setT_nm, setT_tp, setTs_nil, setTs_cons, getB, getV, setV, truth, iterOf, seqOf, okIt, itW, isTp, brI, lstAt, dctAt, isTapeAt, frzE, wipeE, isIns, okIs, isB, isC, b_need_net_state, h1, r_need_state hn h]
theorem r_need_two_states {n : Nat} {f : List Int → List Int} {s u : List Int} (hn : n ≤ 5) (h : s ∈ stsL n) (hu : u ∈ stsL n) : P6 19 [net n f, Sd s, Sd u] = ret .non := by
  rw [e_need_two_states]
  have h1 : P5 8 [net n f, .non] = ret .non := r_need_net [.tup (rl n f), .dct (dn n f)]
  simp [run_eq, ev_lit, ev_var, ev_bor, ev_tup, ev_tupS, ev_lst, ev_dsp, ev_bin, ev_neg, ev_cmp, ev_cmp2, ev_isN, ev_notN, ev_and, ev_or, ev_not, ev_ife, ev_sub, ev_slc, ev_att, ev_call, ev_blt, ev_mt, evs_nil, evs_cons, evSt_nil, evSt_cons, evT_nil, evT_one, evI_seq, evI_range, evI_enum, evI_zip, ex_expr, ex_asg, ex_new, ex_par, ex_app, ex_ret, ex_retN, ex_iff, ex_pass, ex_nev, ex_frz, exs_nil, exs_cons, setT_nm, setT_tp, setTs_nil, setTs_cons, getB, getV, setV, truth, iterOf, seqOf, okIt, itW, isTp, brI, lstAt, dctAt, isTapeAt, frzE, wipeE, isIns, okIs, isB, isC, b_need_two_states, h1, r_need_state hn h, r_need_state hn hu]
theorem r_next_state {n : Nat} {f : List Int → List Int} {s : List Int} (hn : n ≤ 5) (h : s ∈ stsL n) : P7 13 [net n f, Sd s] = ret (Sd (f s)) := by
  rw [e_next_state]
  have h1 : P6 12 [net n f, Sd s] = ret (Sd (f s)) := r_next_by h
  simp [run_eq, ev_lit, ev_var, ev_bor, ev_tup, ev_tupS, ev_lst, ev_dsp, ev_bin, ev_neg, ev_cmp, ev_cmp2, ev_isN, ev_notN, ev_and, ev_or, ev_not, ev_ife, ev_sub, ev_slc, ev_att, ev_call, ev_blt, ev_mt, evs_nil, evs_cons, evSt_nil, evSt_cons, evT_nil, evT_one, evI_seq, evI_range, evI_enum, evI_zip, ex_expr, ex_asg, ex_new, ex_par, ex_app, ex_ret, ex_retN, ex_iff, ex_pass, ex_nev, ex_frz, exs_nil, exs_cons, setT_nm, setT_tp, setTs_nil, setTs_cons, getB, getV, setV, truth, iterOf, seqOf, okIt, itW, isTp, brI, lstAt, dctAt, isTapeAt, frzE, wipeE, isIns, okIs, isB, isC, b_next_state, r_need_net_state hn h, h1]
theorem cmp_nmem {line : List (List Int)} {s : List Int} : cmpS .nmem (Sd s) (.dct (kdA 0 line)) = some (!decide (s ∈ line)) := by
  show (if keyOk (kdA 0 line) (Sd s) then some (!(dget (kdA 0 line) (Sd s)).isSome) else none) = _
  rw [keyOk_Sd (kdA_tup line 0), if_pos rfl, kdA_get]
  by_cases h : s ∈ line <;> simp [run_eq, ev_lit, ev_var, ev_bor, ev_tup, ev_tupS, ev_lst, ev_dsp, ev_bin, ev_neg, ev_cmp, ev_cmp2, ev_isN, ev_notN, ev_and, ev_or, ev_not, ev_ife, ev_sub, ev_slc, ev_att, ev_call, ev_blt, ev_mt, evs_nil, evs_cons, evSt_nil, evSt_cons, evT_nil, evT_one, evI_seq, evI_range, evI_enum, evI_zip, ex_expr, ex_asg, ex_new, ex_par, ex_app, ex_ret, ex_retN, ex_iff, ex_pass, ex_nev, ex_frz, exs_nil, exs_cons, setT_nm, setT_tp, setTs_nil, setTs_cons, getB, getV, setV, truth, iterOf, seqOf, okIt, itW, isTp, brI, lstAt, dctAt, isTapeAt, frzE, wipeE, isIns, okIs, isB, isC, h]
theorem sub_kd {line : List (List Int)} {s : List Int} (h : s ∈ line) : subM (.dct (kdA 0 line)) (Sd s) = ret (.int (line.idxOf s : Nat)) := by
  show lft (if keyOk (kdA 0 line) (Sd s) then dget (kdA 0 line) (Sd s) else none) = _
  rw [keyOk_Sd (kdA_tup line 0), if_pos rfl, kdA_get, if_pos h, Nat.zero_add]
  rfl
theorem cut_take {α : Type} (l : List α) (i : Nat) (h : i ≤ l.length) : cutL l none (some (i : Int)) = l.take i := by
  unfold cutL cutOf
  have : ¬ (i : Int) < 0 := by omega
  simp only [this, if_false, List.drop_zero, Nat.sub_zero, Int.toNat_natCast, Nat.min_eq_left h]
theorem cut_drop {α : Type} (l : List α) (i : Nat) (h : i ≤ l.length) : cutL l (some (i : Int)) none = l.drop i := by
  unfold cutL cutOf
  have : ¬ (i : Int) < 0 := by omega
  simp only [this, if_false, Int.toNat_natCast, Nat.min_eq_left h]
  exact List.take_of_length_le (by rw [List.length_drop]; exact Nat.le_refl _)
theorem r_beat_track {n : Nat} {f : List Int → List Int} (v : Vn n f) {s : List Int} (h : s ∈ stsL n) : P2 14 [net n f, Sd s] = ret (trD n f s) := by
  rw [e_beat_track]
  have hlim : ∀ {line : List (List Int)} {k : Nat} {x : List Int}, Wk n k line x → line.length < lim := fun {line k x} w => Nat.lt_of_le_of_lt w.le (Nat.lt_of_le_of_lt (Nat.pow_le_pow_right (by decide) v.hi) (by decide))
  refine run_wp0 [some (net n f, false), some (Sd s, false), none, none] rfl fun t => ?_
  refine wp_p (ρ' := [some (net n f, false), some (Sd s, false), some (.dct (kdA 0 []), true), some (.lst (([] : List (List Int)).map Sd), true)]) (by simp [run_eq, ev_lit, ev_var, ev_bor, ev_tup, ev_tupS, ev_lst, ev_dsp, ev_bin, ev_neg, ev_cmp, ev_cmp2, ev_isN, ev_notN, ev_and, ev_or, ev_not, ev_ife, ev_sub, ev_slc, ev_att, ev_call, ev_blt, ev_mt, evs_nil, evs_cons, evSt_nil, evSt_cons, evT_nil, evT_one, evI_seq, evI_range, evI_enum, evI_zip, ex_expr, ex_asg, ex_new, ex_par, ex_app, ex_ret, ex_retN, ex_iff, ex_pass, ex_nev, ex_frz, exs_nil, exs_cons, setT_nm, setT_tp, setTs_nil, setTs_cons, getB, getV, setV, truth, iterOf, seqOf, okIt, itW, isTp, brI, lstAt, dctAt, isTapeAt, frzE, wipeE, isIns, okIs, isB, isC, frs, isMut, kdA, lim]) ?_
  refine wp_w (fun k ρ t' => t' = t ∧ ∃ line x, Wk n k line x ∧ walk f k line x = walk f (2 ^ n) [] s ∧ ρ = [some (net n f, false), some (Sd x, false), some (.dct (kdA 0 line), true), some (.lst (line.map Sd), true)]) (2 ^ n) (Nat.lt_of_le_of_lt (Nat.pow_le_pow_right (by decide) v.hi) (by decide)) ⟨rfl, [], s, .start h, rfl, rfl⟩ fun k ρ t' hi => ?_
  obtain ⟨rfl, line, x, w, e, rfl⟩ := hi
  by_cases hx : x ∈ line
  · refine .inl ⟨by simp [run_eq, ev_lit, ev_var, ev_bor, ev_tup, ev_tupS, ev_lst, ev_dsp, ev_bin, ev_neg, ev_cmp, ev_cmp2, ev_isN, ev_notN, ev_and, ev_or, ev_not, ev_ife, ev_sub, ev_slc, ev_att, ev_call, ev_blt, ev_mt, evs_nil, evs_cons, evSt_nil, evSt_cons, evT_nil, evT_one, evI_seq, evI_range, evI_enum, evI_zip, ex_expr, ex_asg, ex_new, ex_par, ex_app, ex_ret, ex_retN, ex_iff, ex_pass, ex_nev, ex_frz, exs_nil, exs_cons, setT_nm, setT_tp, setTs_nil, setTs_cons, getB, getV, setV, truth, iterOf, seqOf, okIt, itW, isTp, brI, lstAt, dctAt, isTapeAt, frzE, wipeE, isIns, okIs, isB, isC, cmp_nmem, hx], ?_⟩
    have e2 : wkL n f s = line ∧ wkI n f s = line.idxOf x := by
      unfold wkL wkI
      rw [← e, walk_stop hx]
      exact ⟨rfl, rfl⟩
    have hle : line.idxOf x ≤ line.length := Nat.le_of_lt (List.idxOf_lt_length_of_mem hx)
    refine wp_r (d := trD n f s) (ρ' := [some (net n f, false), some (Sd x, false), some (.dct (kdA 0 line), true), some (.lst (line.map Sd), true)]) ?_ ⟨rfl, rfl⟩
    have c1 := cut_take (line.map Sd) (line.idxOf x) (by rw [List.length_map]; exact hle)
    have c2 := cut_drop (line.map Sd) (line.idxOf x) (by rw [List.length_map]; exact hle)
    simp [run_eq, ev_lit, ev_var, ev_bor, ev_tup, ev_tupS, ev_lst, ev_dsp, ev_bin, ev_neg, ev_cmp, ev_cmp2, ev_isN, ev_notN, ev_and, ev_or, ev_not, ev_ife, ev_sub, ev_slc, ev_att, ev_call, ev_blt, ev_mt, evs_nil, evs_cons, evSt_nil, evSt_cons, evT_nil, evT_one, evI_seq, evI_range, evI_enum, evI_zip, ex_expr, ex_asg, ex_new, ex_par, ex_app, ex_ret, ex_retN, ex_iff, ex_pass, ex_nev, ex_frz, exs_nil, exs_cons, setT_nm, setT_tp, setTs_nil, setTs_cons, getB, getV, setV, truth, iterOf, seqOf, okIt, itW, isTp, brI, lstAt, dctAt, isTapeAt, frzE, wipeE, isIns, okIs, isB, isC, sub_kd hx, slcS, optI, bltS, lim, c1, c2, trD, tlL, rgL, e2.1, e2.2, List.map_take, List.map_drop]
  · have hk := w.pos hx
    obtain ⟨k, rfl⟩ : ∃ j, k = j + 1 := ⟨k - 1, by omega⟩
    refine .inr ⟨by simp [run_eq, ev_lit, ev_var, ev_bor, ev_tup, ev_tupS, ev_lst, ev_dsp, ev_bin, ev_neg, ev_cmp, ev_cmp2, ev_isN, ev_notN, ev_and, ev_or, ev_not, ev_ife, ev_sub, ev_slc, ev_att, ev_call, ev_blt, ev_mt, evs_nil, evs_cons, evSt_nil, evSt_cons, evT_nil, evT_one, evI_seq, evI_range, evI_enum, evI_zip, ex_expr, ex_asg, ex_new, ex_par, ex_app, ex_ret, ex_retN, ex_iff, ex_pass, ex_nev, ex_frz, exs_nil, exs_cons, setT_nm, setT_tp, setTs_nil, setTs_cons, getB, getV, setV, truth, iterOf, seqOf, okIt, itW, isTp, brI, lstAt, dctAt, isTapeAt, frzE, wipeE, isIns, okIs, isB, isC, cmp_nmem, hx], hk, ?_⟩
    have hp := kdA_put line 0 x hx
    rw [Nat.zero_add] at hp
    refine wp_p (ρ' := [some (net n f, false), some (Sd x, false), some (.dct (kdA 0 (line ++ [x])), true), some (.lst (line.map Sd), true)]) ?_ ?_
    · rw [ex_put]
      simp [run_eq, ev_lit, ev_var, ev_bor, ev_tup, ev_tupS, ev_lst, ev_dsp, ev_bin, ev_neg, ev_cmp, ev_cmp2, ev_isN, ev_notN, ev_and, ev_or, ev_not, ev_ife, ev_sub, ev_slc, ev_att, ev_call, ev_blt, ev_mt, evs_nil, evs_cons, evSt_nil, evSt_cons, evT_nil, evT_one, evI_seq, evI_range, evI_enum, evI_zip, ex_expr, ex_asg, ex_new, ex_par, ex_app, ex_ret, ex_retN, ex_iff, ex_pass, ex_nev, ex_frz, exs_nil, exs_cons, setT_nm, setT_tp, setTs_nil, setTs_cons, getB, getV, setV, truth, iterOf, seqOf, okIt, itW, isTp, brI, lstAt, dctAt, isTapeAt, frzE, wipeE, isIns, okIs, isB, isC, bltS, sizeOf?, keyOk_Sd (kdA_tup line 0), kdA_len, hlim w, hp]
    · refine wp_p (ρ' := [some (net n f, false), some (Sd x, false), some (.dct (kdA 0 (line ++ [x])), true), some (.lst ((line ++ [x]).map Sd), true)]) (by simp [run_eq, ev_lit, ev_var, ev_bor, ev_tup, ev_tupS, ev_lst, ev_dsp, ev_bin, ev_neg, ev_cmp, ev_cmp2, ev_isN, ev_notN, ev_and, ev_or, ev_not, ev_ife, ev_sub, ev_slc, ev_att, ev_call, ev_blt, ev_mt, evs_nil, evs_cons, evSt_nil, evSt_cons, evT_nil, evT_one, evI_seq, evI_range, evI_enum, evI_zip, ex_expr, ex_asg, ex_new, ex_par, ex_app, ex_ret, ex_retN, ex_iff, ex_pass, ex_nev, ex_frz, exs_nil, exs_cons, setT_nm, setT_tp, setTs_nil, setTs_cons, getB, getV, setV, truth, iterOf, seqOf, okIt, itW, isTp, brI, lstAt, dctAt, isTapeAt, frzE, wipeE, isIns, okIs, isB, isC, hlim w]) ?_
      refine wp_p (ρ' := [some (net n f, false), some (Sd (f x), false), some (.dct (kdA 0 (line ++ [x])), true), some (.lst ((line ++ [x]).map Sd), true)]) (by simp [run_eq, ev_lit, ev_var, ev_bor, ev_tup, ev_tupS, ev_lst, ev_dsp, ev_bin, ev_neg, ev_cmp, ev_cmp2, ev_isN, ev_notN, ev_and, ev_or, ev_not, ev_ife, ev_sub, ev_slc, ev_att, ev_call, ev_blt, ev_mt, evs_nil, evs_cons, evSt_nil, evSt_cons, evT_nil, evT_one, evI_seq, evI_range, evI_enum, evI_zip, ex_expr, ex_asg, ex_new, ex_par, ex_app, ex_ret, ex_retN, ex_iff, ex_pass, ex_nev, ex_frz, exs_nil, exs_cons, setT_nm, setT_tp, setTs_nil, setTs_cons, getB, getV, setV, truth, iterOf, seqOf, okIt, itW, isTp, brI, lstAt, dctAt, isTapeAt, frzE, wipeE, isIns, okIs, isB, isC, r_next_by w.mem]) ?_
      exact wp_n ⟨rfl, rfl, line ++ [x], f x, w.next v hx, by rw [← e, walk_go hx]; rfl, rfl⟩
end LW
end
section
set_option Elab.async false
set_option linter.all false
set_option maxRecDepth 100000
set_option maxHeartbeats 1000000
set_option autoImplicit false
namespace LW
open VS
theorem lt_int (a b : Int) : cmpS .lt (.int a) (.int b) = some (decide (a < b)) := rfl
theorem ge_int (a b : Int) : cmpS .ge (.int a) (.int b) = some (decide (b ≤ a)) := rfl
theorem r_beat_run {n : Nat} {f : List Int → List Int} (v : Vn n f) {s : List Int} (h : s ∈ stsL n) : P7 15 [net n f, Sd s] = ret (trD n f s) := by
  rw [e_beat_run]
  have g : ∀ (x y r : D), P6 11 [x, y] = ret .non → P6 14 [x, y] = ret r → VS.run P6 100000 b_beat_run [x, y] = ret r := fun x y r h1 h2 => by
    simp [run_eq, ev_lit, ev_var, ev_bor, ev_tup, ev_tupS, ev_lst, ev_dsp, ev_bin, ev_neg, ev_cmp, ev_cmp2, ev_isN, ev_notN, ev_and, ev_or, ev_not, ev_ife, ev_sub, ev_slc, ev_att, ev_call, ev_blt, ev_mt, evs_nil, evs_cons, evSt_nil, evSt_cons, evT_nil, evT_one, evI_seq, evI_range, evI_enum, evI_zip, ex_expr, ex_asg, ex_new, ex_par, ex_app, ex_ret, ex_retN, ex_iff, ex_pass, ex_nev, ex_frz, exs_nil, exs_cons, setT_nm, setT_tp, setTs_nil, setTs_cons, getB, getV, setV, truth, iterOf, seqOf, okIt, itW, isTp, brI, lstAt, dctAt, isTapeAt, frzE, wipeE, isIns, okIs, isB, isC, b_beat_run, h1, h2]
  exact g _ _ _ (r_need_net_state v.hi h) (r_beat_track v h)
/-- the state behind z beats -/
def dueD (tl rg : List D) (z : Int) : Option D := if z < (tl.length : Nat) then subS (.tup tl) (.int z) else subS (.tup rg) (.int ((z - (tl.length : Nat)).fmod (rg.length : Nat)))
theorem subM_tup (l : List D) (z : Int) : subM (.tup l) (.int z) = lft (subS (.tup l) (.int z)) := rfl
theorem len_tup (l : List D) : bltS .len [.tup l] = some (.int (l.length : Nat)) := rfl
theorem len_lst (l : List D) : bltS .len [.lst l] = some (.int (l.length : Nat)) := rfl
theorem mod_int (a b : Int) (h : b ≠ 0) : binS .mod (.int a) (.int b) = some (.int (a.fmod b)) := by
  show (if b ≠ 0 then some (D.int (a.fmod b)) else none) = _
  rw [if_pos h]
theorem sub_int (a b : Int) : binS .sub (.int a) (.int b) = some (.int (a - b)) := rfl
theorem add_int (a b : Int) : binS .add (.int a) (.int b) = some (.int (a + b)) := rfl
theorem wk_facts {n : Nat} {f : List Int → List Int} (v : Vn n f) {s : List Int} (h : s ∈ stsL n) : rgL n f s ≠ [] ∧ tlL n f s ++ rgL n f s = wkL n f s ∧ (wkL n f s).length ≤ 32 ∧ ∀ x ∈ wkL n f s, x ∈ stsL n := by
  obtain ⟨h1, h2, h3⟩ := walk_end v _ _ _ (Wk.start h)
  have hi := List.idxOf_lt_length_of_mem h1
  refine ⟨fun e => ?_, List.take_append_drop _ _, ?_, h3⟩
  · have := congrArg List.length e
    unfold rgL wkL wkI at this
    rw [List.length_drop, List.length_nil] at this
    omega
  · have := nodup_len _ _ h2 h3
    rw [stsL_size] at this
    exact Nat.le_trans this (Nat.pow_le_pow_right (by decide) v.hi)
theorem g_state_after (Φ : Nat → List D → M D) (x y : D) (z : Int) (tl rg : List D) (h : Φ 14 [x, y] = ret (.tup [.tup tl, .tup rg])) (hr : rg.length ≠ 0) : VS.run Φ 100000 b_state_after [x, y, .int z] = lft (dueD tl rg z) := by
  unfold dueD
  have hr' : ((rg.length : Nat) : Int) ≠ 0 := by omega
  by_cases hz : z < (tl.length : Nat)
  · rw [if_pos hz]
    simp [run_eq, ev_lit, ev_var, ev_bor, ev_tup, ev_tupS, ev_lst, ev_dsp, ev_bin, ev_neg, ev_cmp, ev_cmp2, ev_isN, ev_notN, ev_and, ev_or, ev_not, ev_ife, ev_sub, ev_slc, ev_att, ev_call, ev_blt, ev_mt, evs_nil, evs_cons, evSt_nil, evSt_cons, evT_nil, evT_one, evI_seq, evI_range, evI_enum, evI_zip, ex_expr, ex_asg, ex_new, ex_par, ex_app, ex_ret, ex_retN, ex_iff, ex_pass, ex_nev, ex_frz, exs_nil, exs_cons, setT_nm, setT_tp, setTs_nil, setTs_cons, getB, getV, setV, truth, iterOf, seqOf, okIt, itW, isTp, brI, lstAt, dctAt, isTapeAt, frzE, wipeE, isIns, okIs, isB, isC, b_state_after, h, len_tup, lt_int, hz, subM_tup]
    cases subS (.tup tl) (.int z) <;> rfl
  · rw [if_neg hz]
    simp [run_eq, ev_lit, ev_var, ev_bor, ev_tup, ev_tupS, ev_lst, ev_dsp, ev_bin, ev_neg, ev_cmp, ev_cmp2, ev_isN, ev_notN, ev_and, ev_or, ev_not, ev_ife, ev_sub, ev_slc, ev_att, ev_call, ev_blt, ev_mt, evs_nil, evs_cons, evSt_nil, evSt_cons, evT_nil, evT_one, evI_seq, evI_range, evI_enum, evI_zip, ex_expr, ex_asg, ex_new, ex_par, ex_app, ex_ret, ex_retN, ex_iff, ex_pass, ex_nev, ex_frz, exs_nil, exs_cons, setT_nm, setT_tp, setTs_nil, setTs_cons, getB, getV, setV, truth, iterOf, seqOf, okIt, itW, isTp, brI, lstAt, dctAt, isTapeAt, frzE, wipeE, isIns, okIs, isB, isC, b_state_after, h, len_tup, lt_int, hz, subM_tup, sub_int, mod_int _ _ hr']
    cases subS (.tup rg) (.int ((z - (tl.length : Nat)).fmod (rg.length : Nat))) <;> rfl
theorem r_state_after {n : Nat} {f : List Int → List Int} (v : Vn n f) {s : List Int} (h : s ∈ stsL n) (z : Int) : P3 16 [net n f, Sd s, .int z] = lft (dueD ((tlL n f s).map Sd) ((rgL n f s).map Sd) z) := by
  rw [e_state_after]
  exact g_state_after P2 _ _ z _ _ (r_beat_track v h) (by rw [List.length_map]; exact fun e => (wk_facts v h).1 (List.length_eq_zero_iff.mp e))
theorem r_need_times (z : Int) (h0 : 0 ≤ z) (h1 : z ≤ 1000000000000000000) : P3 17 [.int z] = ret .non := by
  rw [e_need_times]
  have e : P2 2 [.int z, .int 0, .int 1000000000000000000] = ret (.bl true) := by
    rw [r_is_between, decide_eq_true h0, decide_eq_true h1]
    rfl
  simp [run_eq, ev_lit, ev_var, ev_bor, ev_tup, ev_tupS, ev_lst, ev_dsp, ev_bin, ev_neg, ev_cmp, ev_cmp2, ev_isN, ev_notN, ev_and, ev_or, ev_not, ev_ife, ev_sub, ev_slc, ev_att, ev_call, ev_blt, ev_mt, evs_nil, evs_cons, evSt_nil, evSt_cons, evT_nil, evT_one, evI_seq, evI_range, evI_enum, evI_zip, ex_expr, ex_asg, ex_new, ex_par, ex_app, ex_ret, ex_retN, ex_iff, ex_pass, ex_nev, ex_frz, exs_nil, exs_cons, setT_nm, setT_tp, setTs_nil, setTs_cons, getB, getV, setV, truth, iterOf, seqOf, okIt, itW, isTp, brI, lstAt, dctAt, isTapeAt, frzE, wipeE, isIns, okIs, isB, isC, b_need_times, e]
theorem r_after {n : Nat} {f : List Int → List Int} (v : Vn n f) {s : List Int} (h : s ∈ stsL n) (z : Int) (h0 : 0 ≤ z) (h1 : z ≤ 1000000000000000000) : P7 18 [net n f, Sd s, .int z] = lft (dueD ((tlL n f s).map Sd) ((rgL n f s).map Sd) z) := by
  rw [e_after]
  have g : ∀ (x y u : D) (r : Option D), P6 11 [x, y] = ret .non → P6 17 [u] = ret .non → P6 16 [x, y, u] = lft r → VS.run P6 100000 b_after [x, y, u] = lft r := fun x y u r e1 e2 e3 => by
    simp [run_eq, ev_lit, ev_var, ev_bor, ev_tup, ev_tupS, ev_lst, ev_dsp, ev_bin, ev_neg, ev_cmp, ev_cmp2, ev_isN, ev_notN, ev_and, ev_or, ev_not, ev_ife, ev_sub, ev_slc, ev_att, ev_call, ev_blt, ev_mt, evs_nil, evs_cons, evSt_nil, evSt_cons, evT_nil, evT_one, evI_seq, evI_range, evI_enum, evI_zip, ex_expr, ex_asg, ex_new, ex_par, ex_app, ex_ret, ex_retN, ex_iff, ex_pass, ex_nev, ex_frz, exs_nil, exs_cons, setT_nm, setT_tp, setTs_nil, setTs_cons, getB, getV, setV, truth, iterOf, seqOf, okIt, itW, isTp, brI, lstAt, dctAt, isTapeAt, frzE, wipeE, isIns, okIs, isB, isC, b_after, e1, e2, e3]
    cases r <;> rfl
  exact g _ _ _ _ (r_need_net_state v.hi h) (r_need_times z h0 h1) (r_state_after v h z)
theorem isIns_Sd (s : List Int) : isIns (Sd s) = false := rfl
theorem g_time_by (x y : D) (u : List Int) (tl rg w : List (List Int)) (h : P2 14 [x, y] = ret (.tup [.tup (tl.map Sd), .tup (rg.map Sd)])) (hw : tl ++ rg = w) (hl : w.length ≤ lim) : VS.run P2 100000 b_time_by [x, y, Sd u] = ret (if u ∈ w then .int (w.idxOf u : Nat) else .non) := by
  have e : tl.map Sd ++ rg.map Sd = w.map Sd := by rw [← List.map_append, hw]
  have hl' : (tl.map Sd).length + (rg.map Sd).length ≤ lim := by rw [← List.length_append, e, List.length_map]; exact hl
  simp only [List.length_map] at hl'
  by_cases hu : u ∈ w
  · have hi := (blt_index w u hu).2
    simp [run_eq, ev_lit, ev_var, ev_bor, ev_tup, ev_tupS, ev_lst, ev_dsp, ev_bin, ev_neg, ev_cmp, ev_cmp2, ev_isN, ev_notN, ev_and, ev_or, ev_not, ev_ife, ev_sub, ev_slc, ev_att, ev_call, ev_blt, ev_mt, evs_nil, evs_cons, evSt_nil, evSt_cons, evT_nil, evT_one, evI_seq, evI_range, evI_enum, evI_zip, ex_expr, ex_asg, ex_new, ex_par, ex_app, ex_ret, ex_retN, ex_iff, ex_pass, ex_nev, ex_frz, exs_nil, exs_cons, setT_nm, setT_tp, setTs_nil, setTs_cons, getB, getV, setV, truth, iterOf, seqOf, okIt, itW, isTp, brI, lstAt, dctAt, isTapeAt, frzE, wipeE, isIns, okIs, isB, isC, b_time_by, h, e, hl', hl, memT_Sds, hu, mtOk, hi, isIns_Sd]
  · simp [run_eq, ev_lit, ev_var, ev_bor, ev_tup, ev_tupS, ev_lst, ev_dsp, ev_bin, ev_neg, ev_cmp, ev_cmp2, ev_isN, ev_notN, ev_and, ev_or, ev_not, ev_ife, ev_sub, ev_slc, ev_att, ev_call, ev_blt, ev_mt, evs_nil, evs_cons, evSt_nil, evSt_cons, evT_nil, evT_one, evI_seq, evI_range, evI_enum, evI_zip, ex_expr, ex_asg, ex_new, ex_par, ex_app, ex_ret, ex_retN, ex_iff, ex_pass, ex_nev, ex_frz, exs_nil, exs_cons, setT_nm, setT_tp, setTs_nil, setTs_cons, getB, getV, setV, truth, iterOf, seqOf, okIt, itW, isTp, brI, lstAt, dctAt, isTapeAt, frzE, wipeE, isIns, okIs, isB, isC, b_time_by, h, e, hl', hl, memT_Sds, hu]

theorem r_beat_time {n : Nat} {f : List Int → List Int} (v : Vn n f) {s u : List Int} (h : s ∈ stsL n) (hu : u ∈ stsL n) : P7 21 [net n f, Sd s, Sd u] = ret (if u ∈ wkL n f s then .int ((wkL n f s).idxOf u : Nat) else .non) := by
  rw [e_beat_time]
  have g : ∀ (x y z r : D), P6 19 [x, y, z] = ret .non → P6 20 [x, y, z] = ret r → VS.run P6 100000 b_beat_time [x, y, z] = ret r := fun x y z r h1 h2 => by
    simp [run_eq, ev_lit, ev_var, ev_bor, ev_tup, ev_tupS, ev_lst, ev_dsp, ev_bin, ev_neg, ev_cmp, ev_cmp2, ev_isN, ev_notN, ev_and, ev_or, ev_not, ev_ife, ev_sub, ev_slc, ev_att, ev_call, ev_blt, ev_mt, evs_nil, evs_cons, evSt_nil, evSt_cons, evT_nil, evT_one, evI_seq, evI_range, evI_enum, evI_zip, ex_expr, ex_asg, ex_new, ex_par, ex_app, ex_ret, ex_retN, ex_iff, ex_pass, ex_nev, ex_frz, exs_nil, exs_cons, setT_nm, setT_tp, setTs_nil, setTs_cons, getB, getV, setV, truth, iterOf, seqOf, okIt, itW, isTp, brI, lstAt, dctAt, isTapeAt, frzE, wipeE, isIns, okIs, isB, isC, b_beat_time, h1, h2]
  obtain ⟨w1, w2, w3, w4⟩ := wk_facts v h
  refine g _ _ _ _ (r_need_two_states v.hi h hu) ?_
  show P3 20 _ = _
  rw [e_time_by]
  exact g_time_by _ _ u _ _ _ (r_beat_track v h) w2 (Nat.le_trans w3 (by decide))
end LW
end
section
set_option Elab.async false
set_option linter.all false
set_option maxRecDepth 100000
set_option maxHeartbeats 1000000


set_option autoImplicit false
namespace LW
open VS
/-- the lengths of the tails, with their states -/
def LL (n : Nat) (f : List Int → List Int) : List D := (stsL n).map fun s => .tup [.int (0 - ((tlL n f s).length : Nat)), Sd s]
theorem minD_mem : ∀ (l : List D) (x : D), minD l = some x → x ∈ l := fun l x h => by
  cases l with
  | nil => cases h
  | cons a r =>
    have h := Option.some.inj (show some (r.foldl (fun m y => if ltD y m then y else m) a) = some x from h)
    rw [← h]
    clear h
    have : ∀ (r : List D) (a : D), r.foldl (fun m y => if ltD y m then y else m) a = a ∨ r.foldl (fun m y => if ltD y m then y else m) a ∈ r := by
      intro r
      induction r with
      | nil => exact fun a => .inl rfl
      | cons b r ih =>
        intro a
        rw [List.foldl_cons]
        rcases ih (if ltD b a then b else a) with e | e
        · rw [e]
          by_cases hb : ltD b a = true
          · rw [if_pos hb]; exact .inr (List.mem_cons_self ..)
          · rw [if_neg hb]; exact .inl rfl
        · exact .inr (List.mem_cons_of_mem _ e)
    rcases this r a with e | e
    · rw [e]; exact List.mem_cons_self ..
    · exact List.mem_cons_of_mem _ e
theorem alike_ints : ∀ a b : List Int, alikeL (a.map .int) (b.map .int) = true
  | [], _ => rfl
  | _ :: _, [] => rfl
  | x :: a, y :: b => by
    show (alikeD (.int x) (.int y) && alikeL (a.map .int) (b.map .int)) = true
    rw [alike_ints a b]
    rfl
theorem LL_sort (n : Nat) (f : List Int → List Int) : (sortable (LL n f) && (LL n f).all (fun d => decide (d ≠ .non))) = true := by
  have hm : ∀ d ∈ LL n f, ∃ (i : Int) (s : List Int), d = .tup [.int i, Sd s] := fun d m => by
    obtain ⟨s, _, rfl⟩ := List.mem_map.mp m
    exact ⟨_, s, rfl⟩
  have h1 : (LL n f).all (plain 60) = true := List.all_eq_true.mpr fun d m => by
    obtain ⟨i, s, rfl⟩ := hm d m
    show ([D.int i, Sd s].all (plain 59)) = true
    rw [List.all_cons, List.all_cons, plain_Sd]
    rfl
  have h2 : allAlike (LL n f) = true := List.all_eq_true.mpr fun d m => List.all_eq_true.mpr fun e m' => by
    obtain ⟨i, s, rfl⟩ := hm d m
    obtain ⟨j, r, rfl⟩ := hm e m'
    show (alikeD (.int i) (.int j) && (alikeL (s.map .int) (r.map .int) && true)) = true
    rw [alike_ints]
    rfl
  have h3 : ((LL n f).all fun d => match d with | .tup (_ :: _) => true | _ => false) = true := List.all_eq_true.mpr fun d m => by
    obtain ⟨i, s, rfl⟩ := hm d m
    rfl
  have h4 : (LL n f).all (fun d => decide (d ≠ .non)) = true := List.all_eq_true.mpr fun d m => by
    obtain ⟨i, s, rfl⟩ := hm d m
    exact decide_eq_true fun e => by cases e
  unfold sortable
  rw [Bool.and_eq_true, Bool.and_eq_true, Bool.and_eq_true, Bool.or_eq_true]
  exact ⟨⟨⟨h1, h2⟩, .inl h3⟩, h4⟩
theorem LL_min {n : Nat} (f : List Int → List Int) : ∃ (a : Int) (u : List Int), bltS .min [.lst (LL n f)] = some (.tup [.int a, Sd u]) := by
  have e : bltS .min [.lst (LL n f)] = minD (LL n f) := by
    show (if sortable (LL n f) && (LL n f).all (fun d => decide (d ≠ .non)) then minD (LL n f) else none) = _
    rw [LL_sort]
    rfl
  rw [e]
  have hne : LL n f ≠ [] := fun z => by
    have := congrArg List.length z
    unfold LL at this
    rw [List.length_map, stsL_size, List.length_nil] at this
    exact absurd this (Nat.ne_of_gt (Nat.pow_pos (by decide)))
  cases q : minD (LL n f) with
  | none => cases h : LL n f with
    | nil => exact absurd h hne
    | cons a l => rw [h] at q; cases q
  | some x =>
    obtain ⟨s, _, rfl⟩ := List.mem_map.mp (minD_mem _ _ q)
    exact ⟨_, s, rfl⟩
theorem subM_lst (l : List D) (z : Int) : subM (.lst l) (.int z) = lft (subS (.lst l) (.int z)) := rfl
theorem pair0 (a b : D) : subM (.tup [a, b]) (.int 0) = ret a := rfl
theorem pair1 (a b : D) : subM (.tup [a, b]) (.int 1) = ret b := rfl
theorem tr0 (n : Nat) (f : List Int → List Int) (s : List Int) : subM (trD n f s) (.int 0) = ret (.tup ((tlL n f s).map Sd)) := by
  unfold trD
  exact pair0 _ _
theorem g_longest (Φ : Nat → List D → M D) (x : D) (z a : Int) (u : List Int) (n : Nat) (f : List Int → List Int) (hb : ∀ s ∈ stsL n, Φ 14 [x, Sd s] = ret (trD n f s)) (h8 : Φ 8 [x, .non] = ret .non) (e1 : Φ 38 [x] = ret (.int z)) (e2 : Φ 5 [.int z] = ret (.lst ((stsL n).map Sd))) (hn : n ≤ 5)
    (hm : bltS .min [.lst (LL n f)] = some (.tup [.int a, Sd u])) : VS.run Φ 100000 b_longest_tail [x] = ret (.tup [.int (0 - a), Sd u]) := by
  have hc := comp_map (Φ := Φ) (ρ := [some (x, false), none, none]) (own := [2]) (tg := .nm 2) (it := .seq (.call 5 [.call 38 [.var 0]])) (elt := .tup [.bin .sub (.lit (.int 0)) (.blt .len [.sub (.call 14 [.var 0, .var 2]) (.lit (.int 0))]), .var 2]) (i := Sd)
    (g := fun s => .tup [.int (0 - ((tlL n f s).length : Nat)), Sd s]) (l := stsL n) rfl (by simp [run_eq, ev_lit, ev_var, ev_bor, ev_tup, ev_tupS, ev_lst, ev_dsp, ev_bin, ev_neg, ev_cmp, ev_cmp2, ev_isN, ev_notN, ev_and, ev_or, ev_not, ev_ife, ev_sub, ev_slc, ev_att, ev_call, ev_blt, ev_mt, evs_nil, evs_cons, evSt_nil, evSt_cons, evT_nil, evT_one, evI_seq, evI_range, evI_enum, evI_zip, ex_expr, ex_asg, ex_new, ex_par, ex_app, ex_ret, ex_retN, ex_iff, ex_pass, ex_nev, ex_frz, exs_nil, exs_cons, setT_nm, setT_tp, setTs_nil, setTs_cons, getB, getV, setV, truth, iterOf, seqOf, okIt, itW, isTp, brI, lstAt, dctAt, isTapeAt, frzE, wipeE, isIns, okIs, isB, isC, e1, e2]) rfl (fun s hs => by
      simp [run_eq, ev_lit, ev_var, ev_bor, ev_tup, ev_tupS, ev_lst, ev_dsp, ev_bin, ev_neg, ev_cmp, ev_cmp2, ev_isN, ev_notN, ev_and, ev_or, ev_not, ev_ife, ev_sub, ev_slc, ev_att, ev_call, ev_blt, ev_mt, evs_nil, evs_cons, evSt_nil, evSt_cons, evT_nil, evT_one, evI_seq, evI_range, evI_enum, evI_zip, ex_expr, ex_asg, ex_new, ex_par, ex_app, ex_ret, ex_retN, ex_iff, ex_pass, ex_nev, ex_frz, exs_nil, exs_cons, setT_nm, setT_tp, setTs_nil, setTs_cons, getB, getV, setV, truth, iterOf, seqOf, okIt, itW, isTp, brI, lstAt, dctAt, isTapeAt, frzE, wipeE, isIns, okIs, isB, isC, cStep, hb s hs, tr0, len_tup, sub_int, lim]) (by rw [stsL_size]; exact pow_lim (Nat.le_trans hn (by decide)))
  have hc : ev Φ (.comp [2] (.nm 2) (.seq (.call 5 [.call 38 [.var 0]])) [] (.tup [.bin .sub (.lit (.int 0)) (.blt .len [.sub (.call 14 [.var 0, .var 2]) (.lit (.int 0))]), .var 2])) [some (x, false), none, none] = ret (.lst (LL n f)) := hc
  simp [run_eq, ev_lit, ev_var, ev_bor, ev_tup, ev_tupS, ev_lst, ev_dsp, ev_bin, ev_neg, ev_cmp, ev_cmp2, ev_isN, ev_notN, ev_and, ev_or, ev_not, ev_ife, ev_sub, ev_slc, ev_att, ev_call, ev_blt, ev_mt, evs_nil, evs_cons, evSt_nil, evSt_cons, evT_nil, evT_one, evI_seq, evI_range, evI_enum, evI_zip, ex_expr, ex_asg, ex_new, ex_par, ex_app, ex_ret, ex_retN, ex_iff, ex_pass, ex_nev, ex_frz, exs_nil, exs_cons, setT_nm, setT_tp, setTs_nil, setTs_cons, getB, getV, setV, truth, iterOf, seqOf, okIt, itW, isTp, brI, lstAt, dctAt, isTapeAt, frzE, wipeE, isIns, okIs, isB, isC, b_longest_tail, h8, hc, hm, pair0, pair1, sub_int, lim]
theorem r_longest {n : Nat} {f : List Int → List Int} (v : Vn n f) {a : Int} {u : List Int} (hm : bltS .min [.lst (LL n f)] = some (.tup [.int a, Sd u])) : P3 22 [net n f] = ret (.tup [.int (0 - a), Sd u]) := by
  rw [e_longest_tail]
  refine g_longest P2 (net n f) n a u n f (fun s h => r_beat_track v h) ?_ ?_ ?_ v.hi hm
  · rw [u_2_8]; exact r_need_net [.tup (rl n f), .dct (dn n f)]
  · rw [u_2_38]; exact r_switches
  · rw [u_2_5]; exact r_all_states v.hi
end LW
end
section
set_option Elab.async false
set_option linter.all false
set_option maxRecDepth 100000
set_option maxHeartbeats 1000000
set_option autoImplicit false
namespace LW
open VS
theorem dn_len (n : Nat) (f : List Int → List Int) : (dn n f).length = 2 ^ n := by unfold dn; rw [List.length_map, stsL_size]
theorem tup_lst (l : List D) : bltS .tuple [.lst l] = some (.tup l) := rfl
theorem len_dct (l : List (D × D)) : bltS .len [.dct l] = some (.int (l.length : Nat)) := rfl
theorem pow_32 {n : Nat} (h : n ≤ 5) : 2 ^ n ≤ 32 := Nat.pow_le_pow_right (by decide) h
theorem g_law_run (Φ : Nat → List D → M D) {n : Nat} {f : List Int → List Int} (v : Vn n f) {s : List Int} (h : s ∈ stsL n) : VS.run Φ 100000 b__law_run [.dct (dn n f), Sd s] = ret (trD n f s) := by
  have hlim : ∀ {line : List (List Int)} {k : Nat} {x : List Int}, Wk n k line x → line.length < lim := fun {line k x} w => Nat.lt_of_le_of_lt w.le (Nat.lt_of_le_of_lt (pow_32 v.hi) (by decide))
  have hd := dn_len n f
  have hsub : ∀ x ∈ stsL n, subM (.dct (dn n f)) (Sd x) = ret (Sd (f x)) := fun x hx => dn_sub hx
  generalize dn n f = kvs at *
  refine run_wp0 [some (.dct kvs, false), some (Sd s, false), none, none, none] rfl fun t => ?_
  refine wp_p (ρ' := [some (.dct kvs, false), some (Sd s, false), some (.lst (([] : List (List Int)).map Sd), true), none, none]) (by simp [run_eq, ev_lit, ev_var, ev_bor, ev_tup, ev_tupS, ev_lst, ev_dsp, ev_bin, ev_neg, ev_cmp, ev_cmp2, ev_isN, ev_notN, ev_and, ev_or, ev_not, ev_ife, ev_sub, ev_slc, ev_att, ev_call, ev_blt, ev_mt, evs_nil, evs_cons, evSt_nil, evSt_cons, evT_nil, evT_one, evI_seq, evI_range, evI_enum, evI_zip, ex_expr, ex_asg, ex_new, ex_par, ex_app, ex_ret, ex_retN, ex_iff, ex_pass, ex_nev, ex_frz, exs_nil, exs_cons, setT_nm, setT_tp, setTs_nil, setTs_cons, getB, getV, setV, truth, iterOf, seqOf, okIt, itW, isTp, brI, lstAt, dctAt, isTapeAt, frzE, wipeE, isIns, okIs, isB, isC, frs, isMut, lim]) ?_
  refine wp_fR (l := rangeL 0 (2 ^ n + 1)) (fun i ρ t' => t' = t ∧ ∃ line x y, Wk n (2 ^ n - i) line x ∧ line.length = i ∧ walk f (2 ^ n - i) line x = walk f (2 ^ n) [] s ∧ ρ = [some (.dct kvs, false), some (Sd x, false), some (.lst (line.map Sd), true), y, none]) rfl rfl ?_ ⟨rfl, [], s, none, .start h, rfl, rfl, rfl⟩ (fun i y ρ t' e hi => ?_) fun ρ t' hi => ?_
  · have : rangeOf [.int (((kvs.length : Nat) : Int) + 1)] = some (rangeL 0 (2 ^ n + 1)) := by
      rw [hd]
      have := range_n (n := 2 ^ n + 1) (by have := pow_32 v.hi; omega)
      rw [← this]
      rfl
    simp [run_eq, ev_lit, ev_var, ev_bor, ev_tup, ev_tupS, ev_lst, ev_dsp, ev_bin, ev_neg, ev_cmp, ev_cmp2, ev_isN, ev_notN, ev_and, ev_or, ev_not, ev_ife, ev_sub, ev_slc, ev_att, ev_call, ev_blt, ev_mt, evs_nil, evs_cons, evSt_nil, evSt_cons, evT_nil, evT_one, evI_seq, evI_range, evI_enum, evI_zip, ex_expr, ex_asg, ex_new, ex_par, ex_app, ex_ret, ex_retN, ex_iff, ex_pass, ex_nev, ex_frz, exs_nil, exs_cons, setT_nm, setT_tp, setTs_nil, setTs_cons, getB, getV, setV, truth, iterOf, seqOf, okIt, itW, isTp, brI, lstAt, dctAt, isTapeAt, frzE, wipeE, isIns, okIs, isB, isC, len_dct, add_int, this]
  · obtain ⟨rfl, line, x, z, w, hl, e2, rfl⟩ := hi
    obtain ⟨h1, rfl⟩ := rg0 _ _ _ e
    refine wp_t (ρ' := [some (.dct kvs, false), some (Sd x, false), some (.lst (line.map Sd), true), some (.int i, false), none]) rfl ?_
    by_cases hx : x ∈ line
    · have e3 : wkL n f s = line ∧ wkI n f s = line.idxOf x := by
        unfold wkL wkI
        rw [← e2, walk_stop hx]
        exact ⟨rfl, rfl⟩
      have hle : line.idxOf x ≤ line.length := Nat.le_of_lt (List.idxOf_lt_length_of_mem hx)
      have c1 := cut_take (line.map Sd) (line.idxOf x) (by rw [List.length_map]; exact hle)
      have c2 := cut_drop (line.map Sd) (line.idxOf x) (by rw [List.length_map]; exact hle)
      refine wp_r (d := trD n f s) (ρ' := [some (.dct kvs, false), some (Sd x, false), some (.lst (line.map Sd), true), some (.int i, false), some (.int (line.idxOf x : Nat), false)]) ?_ (.inr ⟨_, rfl, rfl, rfl⟩)
      simp [run_eq, ev_lit, ev_var, ev_bor, ev_tup, ev_tupS, ev_lst, ev_dsp, ev_bin, ev_neg, ev_cmp, ev_cmp2, ev_isN, ev_notN, ev_and, ev_or, ev_not, ev_ife, ev_sub, ev_slc, ev_att, ev_call, ev_blt, ev_mt, evs_nil, evs_cons, evSt_nil, evSt_cons, evT_nil, evT_one, evI_seq, evI_range, evI_enum, evI_zip, ex_expr, ex_asg, ex_new, ex_par, ex_app, ex_ret, ex_retN, ex_iff, ex_pass, ex_nev, ex_frz, exs_nil, exs_cons, setT_nm, setT_tp, setTs_nil, setTs_cons, getB, getV, setV, truth, iterOf, seqOf, okIt, itW, isTp, brI, lstAt, dctAt, isTapeAt, frzE, wipeE, isIns, okIs, isB, isC, mem_Sds, hx, isIns_Sd, mtOk, (blt_index line x hx).1, slcS, optI, c1, c2, tup_lst, lim, trD, tlL, rgL, e3.1, e3.2, List.map_take, List.map_drop]
    · have hk := w.pos hx
      have hk' : 2 ^ n - i = (2 ^ n - (i + 1)) + 1 := by omega
      rw [hk'] at w e2
      refine wp_p (ρ' := [some (.dct kvs, false), some (Sd x, false), some (.lst (line.map Sd), true), some (.int i, false), none]) (by simp [run_eq, ev_lit, ev_var, ev_bor, ev_tup, ev_tupS, ev_lst, ev_dsp, ev_bin, ev_neg, ev_cmp, ev_cmp2, ev_isN, ev_notN, ev_and, ev_or, ev_not, ev_ife, ev_sub, ev_slc, ev_att, ev_call, ev_blt, ev_mt, evs_nil, evs_cons, evSt_nil, evSt_cons, evT_nil, evT_one, evI_seq, evI_range, evI_enum, evI_zip, ex_expr, ex_asg, ex_new, ex_par, ex_app, ex_ret, ex_retN, ex_iff, ex_pass, ex_nev, ex_frz, exs_nil, exs_cons, setT_nm, setT_tp, setTs_nil, setTs_cons, getB, getV, setV, truth, iterOf, seqOf, okIt, itW, isTp, brI, lstAt, dctAt, isTapeAt, frzE, wipeE, isIns, okIs, isB, isC, mem_Sds, hx, isIns_Sd]) ?_
      refine wp_p (ρ' := [some (.dct kvs, false), some (Sd x, false), some (.lst ((line ++ [x]).map Sd), true), some (.int i, false), none]) (by simp [run_eq, ev_lit, ev_var, ev_bor, ev_tup, ev_tupS, ev_lst, ev_dsp, ev_bin, ev_neg, ev_cmp, ev_cmp2, ev_isN, ev_notN, ev_and, ev_or, ev_not, ev_ife, ev_sub, ev_slc, ev_att, ev_call, ev_blt, ev_mt, evs_nil, evs_cons, evSt_nil, evSt_cons, evT_nil, evT_one, evI_seq, evI_range, evI_enum, evI_zip, ex_expr, ex_asg, ex_new, ex_par, ex_app, ex_ret, ex_retN, ex_iff, ex_pass, ex_nev, ex_frz, exs_nil, exs_cons, setT_nm, setT_tp, setTs_nil, setTs_cons, getB, getV, setV, truth, iterOf, seqOf, okIt, itW, isTp, brI, lstAt, dctAt, isTapeAt, frzE, wipeE, isIns, okIs, isB, isC, hlim w]) ?_
      refine wp_p (ρ' := [some (.dct kvs, false), some (Sd (f x), false), some (.lst ((line ++ [x]).map Sd), true), some (.int i, false), none]) (by simp [run_eq, ev_lit, ev_var, ev_bor, ev_tup, ev_tupS, ev_lst, ev_dsp, ev_bin, ev_neg, ev_cmp, ev_cmp2, ev_isN, ev_notN, ev_and, ev_or, ev_not, ev_ife, ev_sub, ev_slc, ev_att, ev_call, ev_blt, ev_mt, evs_nil, evs_cons, evSt_nil, evSt_cons, evT_nil, evT_one, evI_seq, evI_range, evI_enum, evI_zip, ex_expr, ex_asg, ex_new, ex_par, ex_app, ex_ret, ex_retN, ex_iff, ex_pass, ex_nev, ex_frz, exs_nil, exs_cons, setT_nm, setT_tp, setTs_nil, setTs_cons, getB, getV, setV, truth, iterOf, seqOf, okIt, itW, isTp, brI, lstAt, dctAt, isTapeAt, frzE, wipeE, isIns, okIs, isB, isC, hsub x w.mem]) ?_
      exact wp_n (.inl ⟨rfl, rfl, line ++ [x], f x, _, w.next v hx, by rw [List.length_append, hl]; rfl, by rw [← e2, walk_go hx], rfl⟩)
  · obtain ⟨rfl, line, x, z, w, hl, e2, rfl⟩ := hi
    rw [rg_len] at hl
    have := w.le
    omega
theorem r_law_run {n : Nat} {f : List Int → List Int} (v : Vn n f) {s : List Int} (h : s ∈ stsL n) : P1 33 [.dct (dn n f), Sd s] = ret (trD n f s) := by
  rw [e__law_run]
  exact g_law_run Φ0 v h
theorem g_law_states (Φ : Nat → List D → M D) {n : Nat} (hn : n ≤ 5) : VS.run Φ 100000 b__law_states [.int n] = ret (.lst ((stsL n).map Sd)) := by
  have hr := range_n (show n ≤ 100 by omega)
  generalize ((n : Nat) : Int) = z at *
  refine run_wp0 [some (.int z, false), none, none, none, none] rfl fun t => ?_
  refine wp_p (ρ' := [some (.int z, false), some (.lst ((stsL 0).map Sd), false), none, none, none]) (by simp [run_eq, ev_lit, ev_var, ev_bor, ev_tup, ev_tupS, ev_lst, ev_dsp, ev_bin, ev_neg, ev_cmp, ev_cmp2, ev_isN, ev_notN, ev_and, ev_or, ev_not, ev_ife, ev_sub, ev_slc, ev_att, ev_call, ev_blt, ev_mt, evs_nil, evs_cons, evSt_nil, evSt_cons, evT_nil, evT_one, evI_seq, evI_range, evI_enum, evI_zip, ex_expr, ex_asg, ex_new, ex_par, ex_app, ex_ret, ex_retN, ex_iff, ex_pass, ex_nev, ex_frz, exs_nil, exs_cons, setT_nm, setT_tp, setTs_nil, setTs_cons, getB, getV, setV, truth, iterOf, seqOf, okIt, itW, isTp, brI, lstAt, dctAt, isTapeAt, frzE, wipeE, isIns, okIs, isB, isC, lim, stsL, Sd]) ?_
  refine wp_f (l := rangeL 0 n) (fun i ρ t' => i ≤ n ∧ t' = t ∧ ∃ x y w, ρ = [some (.int z, false), some (.lst ((stsL i).map Sd), false), x, y, w]) rfl rfl (by simp [run_eq, ev_lit, ev_var, ev_bor, ev_tup, ev_tupS, ev_lst, ev_dsp, ev_bin, ev_neg, ev_cmp, ev_cmp2, ev_isN, ev_notN, ev_and, ev_or, ev_not, ev_ife, ev_sub, ev_slc, ev_att, ev_call, ev_blt, ev_mt, evs_nil, evs_cons, evSt_nil, evSt_cons, evT_nil, evT_one, evI_seq, evI_range, evI_enum, evI_zip, ex_expr, ex_asg, ex_new, ex_par, ex_app, ex_ret, ex_retN, ex_iff, ex_pass, ex_nev, ex_frz, exs_nil, exs_cons, setT_nm, setT_tp, setTs_nil, setTs_cons, getB, getV, setV, truth, iterOf, seqOf, okIt, itW, isTp, brI, lstAt, dctAt, isTapeAt, frzE, wipeE, isIns, okIs, isB, isC, hr]) ⟨Nat.zero_le _, rfl, _, _, _, rfl⟩ (fun i x ρ t' e h => ?_) fun ρ t' h => ?_
  · obtain ⟨hi, rfl, y, y2, y3, rfl⟩ := h
    obtain ⟨h1, rfl⟩ := rg0 n i x e
    generalize ((i : Nat) : Int) = zi at *
    refine wp_t (ρ' := [some (.int z, false), some (.lst ((stsL i).map Sd), false), some (.int zi, false), y2, y3]) rfl ?_
    refine wp_p (ρ' := [some (.int z, false), some (.lst ((stsL i).map Sd), false), some (.int zi, false), some (.lst ((((stsL i).take 0).flatMap fun s => [s ++ [0], s ++ [1]]).map Sd), false), y3]) (by simp [run_eq, ev_lit, ev_var, ev_bor, ev_tup, ev_tupS, ev_lst, ev_dsp, ev_bin, ev_neg, ev_cmp, ev_cmp2, ev_isN, ev_notN, ev_and, ev_or, ev_not, ev_ife, ev_sub, ev_slc, ev_att, ev_call, ev_blt, ev_mt, evs_nil, evs_cons, evSt_nil, evSt_cons, evT_nil, evT_one, evI_seq, evI_range, evI_enum, evI_zip, ex_expr, ex_asg, ex_new, ex_par, ex_app, ex_ret, ex_retN, ex_iff, ex_pass, ex_nev, ex_frz, exs_nil, exs_cons, setT_nm, setT_tp, setTs_nil, setTs_cons, getB, getV, setV, truth, iterOf, seqOf, okIt, itW, isTp, brI, lstAt, dctAt, isTapeAt, frzE, wipeE, isIns, okIs, isB, isC, lim]) ?_
    refine wp_f (l := (stsL i).map Sd) (fun j ρ t2 => t2 = t' ∧ ∃ w, ρ = [some (.int z, false), some (.lst ((stsL i).map Sd), false), some (.int zi, false), some (.lst ((((stsL i).take j).flatMap fun s => [s ++ [0], s ++ [1]]).map Sd), false), w]) rfl rfl (by simp [run_eq, ev_lit, ev_var, ev_bor, ev_tup, ev_tupS, ev_lst, ev_dsp, ev_bin, ev_neg, ev_cmp, ev_cmp2, ev_isN, ev_notN, ev_and, ev_or, ev_not, ev_ife, ev_sub, ev_slc, ev_att, ev_call, ev_blt, ev_mt, evs_nil, evs_cons, evSt_nil, evSt_cons, evT_nil, evT_one, evI_seq, evI_range, evI_enum, evI_zip, ex_expr, ex_asg, ex_new, ex_par, ex_app, ex_ret, ex_retN, ex_iff, ex_pass, ex_nev, ex_frz, exs_nil, exs_cons, setT_nm, setT_tp, setTs_nil, setTs_cons, getB, getV, setV, truth, iterOf, seqOf, okIt, itW, isTp, brI, lstAt, dctAt, isTapeAt, frzE, wipeE, isIns, okIs, isB, isC]) ⟨rfl, _, rfl⟩ (fun j x ρ t2 e h => ?_) fun ρ t2 h => ?_
    · obtain ⟨rfl, w, rfl⟩ := h
      rw [List.getElem?_map] at e
      obtain ⟨s, hs, rfl⟩ := Option.map_eq_some_iff.mp e
      obtain ⟨hj, hs'⟩ := List.getElem?_eq_some_iff.mp hs
      have hm : s ∈ stsL i := List.mem_of_getElem? hs
      have hl := stsL_len i s hm
      refine wp_t (ρ' := [some (.int z, false), some (.lst ((stsL i).map Sd), false), some (.int zi, false), some (.lst ((((stsL i).take j).flatMap fun s => [s ++ [0], s ++ [1]]).map Sd), false), some (Sd s, false)]) rfl ?_
      have hsz : (((stsL i).take j).flatMap fun s => [s ++ [0], s ++ [1]]).length + 2 ≤ lim := by
        rw [flat_pairs_len, List.length_take]
        have h1 : 2 ^ i ≤ 32 := pow_32 (by omega)
        have h2 := stsL_size i
        have h3 : min j (stsL i).length ≤ 32 := Nat.le_trans (Nat.min_le_right ..) (by omega)
        exact Nat.le_trans (show 2 * min j (stsL i).length + 2 ≤ 100 by omega) (by decide)
      have h0 : ∀ b : Int, binS .add (Sd s) (.tup [.int b]) = some (Sd (s ++ [b])) := fun b => by
        show (if (s.map D.int).length + 1 ≤ lim then some (D.tup (s.map D.int ++ [.int b])) else none) = _
        rw [if_pos (by rw [List.length_map, hl]; exact Nat.le_trans (show i + 1 ≤ 100 by omega) (by decide))]
        unfold Sd
        rw [List.map_append]
        rfl
      have h2 : ∀ a : List (List Int), a.length + 2 ≤ lim → binS .add (.lst (a.map Sd)) (.lst [Sd (s ++ [0]), Sd (s ++ [1])]) = some (.lst ((a ++ [s ++ [0], s ++ [1]]).map Sd)) := fun a ha => by
        show (if (a.map Sd).length + 2 ≤ lim then some (D.lst (a.map Sd ++ [Sd (s ++ [0]), Sd (s ++ [1])])) else none) = _
        rw [if_pos (by rw [List.length_map]; exact ha), List.map_append]
        rfl
      refine wp_p (ρ' := [some (.int z, false), some (.lst ((stsL i).map Sd), false), some (.int zi, false), some (.lst ((((stsL i).take (j + 1)).flatMap fun s => [s ++ [0], s ++ [1]]).map Sd), false), some (Sd s, false)]) ?_ (wp_n ⟨rfl, rfl, _, rfl⟩)
      have ht : ((stsL i).take (j + 1)).flatMap (fun s => [s ++ [0], s ++ [1]]) = ((stsL i).take j).flatMap (fun s => [s ++ [0], s ++ [1]]) ++ [s ++ [0], s ++ [1]] := by
        rw [List.take_succ, hs, List.flatMap_append]
        simp [run_eq, ev_lit, ev_var, ev_bor, ev_tup, ev_tupS, ev_lst, ev_dsp, ev_bin, ev_neg, ev_cmp, ev_cmp2, ev_isN, ev_notN, ev_and, ev_or, ev_not, ev_ife, ev_sub, ev_slc, ev_att, ev_call, ev_blt, ev_mt, evs_nil, evs_cons, evSt_nil, evSt_cons, evT_nil, evT_one, evI_seq, evI_range, evI_enum, evI_zip, ex_expr, ex_asg, ex_new, ex_par, ex_app, ex_ret, ex_retN, ex_iff, ex_pass, ex_nev, ex_frz, exs_nil, exs_cons, setT_nm, setT_tp, setTs_nil, setTs_cons, getB, getV, setV, truth, iterOf, seqOf, okIt, itW, isTp, brI, lstAt, dctAt, isTapeAt, frzE, wipeE, isIns, okIs, isB, isC]
      rw [ht]
      have h3 := h2 _ hsz
      generalize ((stsL i).take j).flatMap (fun s => [s ++ [0], s ++ [1]]) = a at *
      simp [run_eq, ev_lit, ev_var, ev_bor, ev_tup, ev_tupS, ev_lst, ev_dsp, ev_bin, ev_neg, ev_cmp, ev_cmp2, ev_isN, ev_notN, ev_and, ev_or, ev_not, ev_ife, ev_sub, ev_slc, ev_att, ev_call, ev_blt, ev_mt, evs_nil, evs_cons, evSt_nil, evSt_cons, evT_nil, evT_one, evI_seq, evI_range, evI_enum, evI_zip, ex_expr, ex_asg, ex_new, ex_par, ex_app, ex_ret, ex_retN, ex_iff, ex_pass, ex_nev, ex_frz, exs_nil, exs_cons, setT_nm, setT_tp, setTs_nil, setTs_cons, getB, getV, setV, truth, iterOf, seqOf, okIt, itW, isTp, brI, lstAt, dctAt, isTapeAt, frzE, wipeE, isIns, okIs, isB, isC, h0, h3, lim]
    · obtain ⟨rfl, w, rfl⟩ := h
      rw [List.length_map, List.take_length]
      refine wp_p (ρ' := [some (.int z, false), some (.lst ((stsL (i + 1)).map Sd), false), some (.int zi, false), some (.lst ((stsL (i + 1)).map Sd), false), w]) (by simp [run_eq, ev_lit, ev_var, ev_bor, ev_tup, ev_tupS, ev_lst, ev_dsp, ev_bin, ev_neg, ev_cmp, ev_cmp2, ev_isN, ev_notN, ev_and, ev_or, ev_not, ev_ife, ev_sub, ev_slc, ev_att, ev_call, ev_blt, ev_mt, evs_nil, evs_cons, evSt_nil, evSt_cons, evT_nil, evT_one, evI_seq, evI_range, evI_enum, evI_zip, ex_expr, ex_asg, ex_new, ex_par, ex_app, ex_ret, ex_retN, ex_iff, ex_pass, ex_nev, ex_frz, exs_nil, exs_cons, setT_nm, setT_tp, setTs_nil, setTs_cons, getB, getV, setV, truth, iterOf, seqOf, okIt, itW, isTp, brI, lstAt, dctAt, isTapeAt, frzE, wipeE, isIns, okIs, isB, isC, stsL]) (wp_n ⟨rfl, by omega, rfl, _, _, _, rfl⟩)
  · obtain ⟨_, rfl, y, y2, y3, rfl⟩ := h
    rw [rg_len]
    exact wp_r (ρ' := [some (.int z, false), some (.lst ((stsL n).map Sd), false), y, y2, y3]) (by simp [run_eq, ev_lit, ev_var, ev_bor, ev_tup, ev_tupS, ev_lst, ev_dsp, ev_bin, ev_neg, ev_cmp, ev_cmp2, ev_isN, ev_notN, ev_and, ev_or, ev_not, ev_ife, ev_sub, ev_slc, ev_att, ev_call, ev_blt, ev_mt, evs_nil, evs_cons, evSt_nil, evSt_cons, evT_nil, evT_one, evI_seq, evI_range, evI_enum, evI_zip, ex_expr, ex_asg, ex_new, ex_par, ex_app, ex_ret, ex_retN, ex_iff, ex_pass, ex_nev, ex_frz, exs_nil, exs_cons, setT_nm, setT_tp, setTs_nil, setTs_cons, getB, getV, setV, truth, iterOf, seqOf, okIt, itW, isTp, brI, lstAt, dctAt, isTapeAt, frzE, wipeE, isIns, okIs, isB, isC]) ⟨rfl, rfl⟩
theorem r_law_states {n : Nat} (hn : n ≤ 5) : P1 29 [.int n] = ret (.lst ((stsL n).map Sd)) := by
  rw [e__law_states]
  exact g_law_states Φ0 hn
end LW
end
section
set_option Elab.async false
set_option linter.all false
set_option maxRecDepth 100000
set_option maxHeartbeats 1000000
set_option autoImplicit false
namespace LW
open VS
theorem bit_of {d : D} (h : isBit d = true) : ∃ i : Int, d = .int i ∧ (i = 0 ∨ i = 1) := by
  cases d <;> first | (cases h; done) | skip
  rename_i i
  have h : (i == 0 || i == 1) = true := h
  rw [Bool.or_eq_true] at h
  exact ⟨i, rfl, h.imp beq_iff_eq.mp beq_iff_eq.mp⟩
theorem bits_of : ∀ {l : List D}, l.all isBit = true → ∃ s : List Int, l = s.map .int ∧ ∀ x ∈ s, x = 0 ∨ x = 1
  | [], _ => ⟨[], rfl, fun _ m => by cases m⟩
  | d :: l, h => by
    rw [List.all_cons, Bool.and_eq_true] at h
    obtain ⟨i, rfl, hi⟩ := bit_of h.1
    obtain ⟨s, rfl, hs⟩ := bits_of h.2
    exact ⟨i :: s, rfl, fun x m => (List.mem_cons.mp m).elim (fun e => e ▸ hi) (hs x)⟩
theorem rule_of {z : Nat} {d : D} (h : goodRule z d = true) : ∃ s : List Int, d = .tup (s.map .int) ∧ s.length = z ∧ ∀ x ∈ s, x = 0 ∨ x = 1 := by
  cases d <;> first | (cases h; done) | skip
  rename_i l
  obtain ⟨h1, h2⟩ := Bool.and_eq_true_iff.mp (show (l.length == z && l.all isBit) = true from h)
  obtain ⟨s, rfl, hs⟩ := bits_of h2
  exact ⟨s, rfl, by rw [List.length_map] at h1; exact beq_iff_eq.mp h1, hs⟩
theorem enumL_get : ∀ (L : List D) (k : Int) (i : Nat) (x : D), (enumL k L)[i]? = some x → ∃ y, L[i]? = some y ∧ x = .tup [.int (k + i), y]
  | [], _, _, _, h => by simp [run_eq, ev_lit, ev_var, ev_bor, ev_tup, ev_tupS, ev_lst, ev_dsp, ev_bin, ev_neg, ev_cmp, ev_cmp2, ev_isN, ev_notN, ev_and, ev_or, ev_not, ev_ife, ev_sub, ev_slc, ev_att, ev_call, ev_blt, ev_mt, evs_nil, evs_cons, evSt_nil, evSt_cons, evT_nil, evT_one, evI_seq, evI_range, evI_enum, evI_zip, ex_expr, ex_asg, ex_new, ex_par, ex_app, ex_ret, ex_retN, ex_iff, ex_pass, ex_nev, ex_frz, exs_nil, exs_cons, setT_nm, setT_tp, setTs_nil, setTs_cons, getB, getV, setV, truth, iterOf, seqOf, okIt, itW, isTp, brI, lstAt, dctAt, isTapeAt, frzE, wipeE, isIns, okIs, isB, isC, enumL] at h
  | a :: L, k, 0, x, h => by simp [run_eq, ev_lit, ev_var, ev_bor, ev_tup, ev_tupS, ev_lst, ev_dsp, ev_bin, ev_neg, ev_cmp, ev_cmp2, ev_isN, ev_notN, ev_and, ev_or, ev_not, ev_ife, ev_sub, ev_slc, ev_att, ev_call, ev_blt, ev_mt, evs_nil, evs_cons, evSt_nil, evSt_cons, evT_nil, evT_one, evI_seq, evI_range, evI_enum, evI_zip, ex_expr, ex_asg, ex_new, ex_par, ex_app, ex_ret, ex_retN, ex_iff, ex_pass, ex_nev, ex_frz, exs_nil, exs_cons, setT_nm, setT_tp, setTs_nil, setTs_cons, getB, getV, setV, truth, iterOf, seqOf, okIt, itW, isTp, brI, lstAt, dctAt, isTapeAt, frzE, wipeE, isIns, okIs, isB, isC, enumL] at h; exact ⟨a, rfl, by rw [← h]; simp [run_eq, ev_lit, ev_var, ev_bor, ev_tup, ev_tupS, ev_lst, ev_dsp, ev_bin, ev_neg, ev_cmp, ev_cmp2, ev_isN, ev_notN, ev_and, ev_or, ev_not, ev_ife, ev_sub, ev_slc, ev_att, ev_call, ev_blt, ev_mt, evs_nil, evs_cons, evSt_nil, evSt_cons, evT_nil, evT_one, evI_seq, evI_range, evI_enum, evI_zip, ex_expr, ex_asg, ex_new, ex_par, ex_app, ex_ret, ex_retN, ex_iff, ex_pass, ex_nev, ex_frz, exs_nil, exs_cons, setT_nm, setT_tp, setTs_nil, setTs_cons, getB, getV, setV, truth, iterOf, seqOf, okIt, itW, isTp, brI, lstAt, dctAt, isTapeAt, frzE, wipeE, isIns, okIs, isB, isC]⟩
  | a :: L, k, i + 1, x, h => by
    obtain ⟨y, h1, h2⟩ := enumL_get L (k + 1) i x (by simpa [run_eq, ev_lit, ev_var, ev_bor, ev_tup, ev_tupS, ev_lst, ev_dsp, ev_bin, ev_neg, ev_cmp, ev_cmp2, ev_isN, ev_notN, ev_and, ev_or, ev_not, ev_ife, ev_sub, ev_slc, ev_att, ev_call, ev_blt, ev_mt, evs_nil, evs_cons, evSt_nil, evSt_cons, evT_nil, evT_one, evI_seq, evI_range, evI_enum, evI_zip, ex_expr, ex_asg, ex_new, ex_par, ex_app, ex_ret, ex_retN, ex_iff, ex_pass, ex_nev, ex_frz, exs_nil, exs_cons, setT_nm, setT_tp, setTs_nil, setTs_cons, getB, getV, setV, truth, iterOf, seqOf, okIt, itW, isTp, brI, lstAt, dctAt, isTapeAt, frzE, wipeE, isIns, okIs, isB, isC, enumL] using h)
    exact ⟨y, by simpa [run_eq, ev_lit, ev_var, ev_bor, ev_tup, ev_tupS, ev_lst, ev_dsp, ev_bin, ev_neg, ev_cmp, ev_cmp2, ev_isN, ev_notN, ev_and, ev_or, ev_not, ev_ife, ev_sub, ev_slc, ev_att, ev_call, ev_blt, ev_mt, evs_nil, evs_cons, evSt_nil, evSt_cons, evT_nil, evT_one, evI_seq, evI_range, evI_enum, evI_zip, ex_expr, ex_asg, ex_new, ex_par, ex_app, ex_ret, ex_retN, ex_iff, ex_pass, ex_nev, ex_frz, exs_nil, exs_cons, setT_nm, setT_tp, setTs_nil, setTs_cons, getB, getV, setV, truth, iterOf, seqOf, okIt, itW, isTp, brI, lstAt, dctAt, isTapeAt, frzE, wipeE, isIns, okIs, isB, isC] using h1, by rw [h2]; congr 3; push_cast; omega⟩
theorem enumL_len : ∀ (L : List D) (k : Int), (enumL k L).length = L.length
  | [], _ => rfl
  | a :: L, k => by rw [enumL, List.length_cons, enumL_len L, List.length_cons]
theorem enum_lst (l : List D) : enumOf (.lst l) = some (enumL 0 l) := rfl
theorem le_int (a b : Int) : cmpS .le (.int a) (.int b) = some (decide (a ≤ b)) := rfl
theorem g_need_rules (Φ : Nat → List D → M D) (l : List D) (hg : goodRules l = true) (z : Int) (hz : ((l.length : Nat) : Int) = z) (p : Int) (h3 : Φ 3 [.lst l] = ret (.bl true)) (h6 : Φ 6 [.int z] = ret (.int p)) (h4 : ∀ d ∈ l, Φ 4 [d, .int p, .int 0, .int 1] = ret (.bl true)) : VS.run Φ 100000 b_need_rules [.lst l] = ret .non := by
  obtain ⟨g1, g2⟩ := Bool.and_eq_true_iff.mp hg
  obtain ⟨g2, g3⟩ := Bool.and_eq_true_iff.mp g2
  have g1 := of_decide_eq_true g1
  have g2 := of_decide_eq_true g2
  have z1 : (1 : Int) ≤ z := by omega
  have z2 : z ≤ 5 := by omega
  have hl := len_lst l
  rw [hz] at hl
  rw [run_eq]
  refine ret_of_wp fun t => wp_bnd ?_
  show wp (execs Φ 100000 b_need_rules.body [some (.lst l, false), none, none, none]) _ t
  refine wp_p (ρ' := [some (.lst l, false), none, none, none]) (by simp [run_eq, ev_lit, ev_var, ev_bor, ev_tup, ev_tupS, ev_lst, ev_dsp, ev_bin, ev_neg, ev_cmp, ev_cmp2, ev_isN, ev_notN, ev_and, ev_or, ev_not, ev_ife, ev_sub, ev_slc, ev_att, ev_call, ev_blt, ev_mt, evs_nil, evs_cons, evSt_nil, evSt_cons, evT_nil, evT_one, evI_seq, evI_range, evI_enum, evI_zip, ex_expr, ex_asg, ex_new, ex_par, ex_app, ex_ret, ex_retN, ex_iff, ex_pass, ex_nev, ex_frz, exs_nil, exs_cons, setT_nm, setT_tp, setTs_nil, setTs_cons, getB, getV, setV, truth, iterOf, seqOf, okIt, itW, isTp, brI, lstAt, dctAt, isTapeAt, frzE, wipeE, isIns, okIs, isB, isC, h3, hl, le_int, z1, z2]) ?_
  refine wp_p (ρ' := [some (.lst l, false), some (.int p, false), none, none]) (by simp [run_eq, ev_lit, ev_var, ev_bor, ev_tup, ev_tupS, ev_lst, ev_dsp, ev_bin, ev_neg, ev_cmp, ev_cmp2, ev_isN, ev_notN, ev_and, ev_or, ev_not, ev_ife, ev_sub, ev_slc, ev_att, ev_call, ev_blt, ev_mt, evs_nil, evs_cons, evSt_nil, evSt_cons, evT_nil, evT_one, evI_seq, evI_range, evI_enum, evI_zip, ex_expr, ex_asg, ex_new, ex_par, ex_app, ex_ret, ex_retN, ex_iff, ex_pass, ex_nev, ex_frz, exs_nil, exs_cons, setT_nm, setT_tp, setTs_nil, setTs_cons, getB, getV, setV, truth, iterOf, seqOf, okIt, itW, isTp, brI, lstAt, dctAt, isTapeAt, frzE, wipeE, isIns, okIs, isB, isC, h6, hl]) ?_
  refine wp_f (l := enumL 0 l) (fun i ρ t' => t' = t ∧ ∃ x y, ρ = [some (.lst l, false), some (.int p, false), x, y]) rfl rfl (by simp [run_eq, ev_lit, ev_var, ev_bor, ev_tup, ev_tupS, ev_lst, ev_dsp, ev_bin, ev_neg, ev_cmp, ev_cmp2, ev_isN, ev_notN, ev_and, ev_or, ev_not, ev_ife, ev_sub, ev_slc, ev_att, ev_call, ev_blt, ev_mt, evs_nil, evs_cons, evSt_nil, evSt_cons, evT_nil, evT_one, evI_seq, evI_range, evI_enum, evI_zip, ex_expr, ex_asg, ex_new, ex_par, ex_app, ex_ret, ex_retN, ex_iff, ex_pass, ex_nev, ex_frz, exs_nil, exs_cons, setT_nm, setT_tp, setTs_nil, setTs_cons, getB, getV, setV, truth, iterOf, seqOf, okIt, itW, isTp, brI, lstAt, dctAt, isTapeAt, frzE, wipeE, isIns, okIs, isB, isC, enum_lst]) ⟨rfl, _, _, rfl⟩ (fun i x ρ t2 e hi => ?_) fun ρ t2 hi => ?_
  · obtain ⟨rfl, x1, y1, rfl⟩ := hi
    obtain ⟨y, e1, rfl⟩ := enumL_get l 0 i x e
    refine wp_t (ρ' := [some (.lst l, false), some (.int p, false), some (.int (0 + i), false), some (y, false)]) rfl ?_
    refine wp_p (ρ' := [some (.lst l, false), some (.int p, false), some (.int (0 + i), false), some (y, false)]) ?_ (wp_n ⟨rfl, rfl, _, _, rfl⟩)
    generalize (0 + (i : Int)) = w
    simp [run_eq, ev_lit, ev_var, ev_bor, ev_tup, ev_tupS, ev_lst, ev_dsp, ev_bin, ev_neg, ev_cmp, ev_cmp2, ev_isN, ev_notN, ev_and, ev_or, ev_not, ev_ife, ev_sub, ev_slc, ev_att, ev_call, ev_blt, ev_mt, evs_nil, evs_cons, evSt_nil, evSt_cons, evT_nil, evT_one, evI_seq, evI_range, evI_enum, evI_zip, ex_expr, ex_asg, ex_new, ex_par, ex_app, ex_ret, ex_retN, ex_iff, ex_pass, ex_nev, ex_frz, exs_nil, exs_cons, setT_nm, setT_tp, setTs_nil, setTs_cons, getB, getV, setV, truth, iterOf, seqOf, okIt, itW, isTp, brI, lstAt, dctAt, isTapeAt, frzE, wipeE, isIns, okIs, isB, isC, h4 y (List.mem_of_getElem? e1)]
  · obtain ⟨rfl, x1, y1, rfl⟩ := hi
    exact wp_n (wp_ret ⟨rfl, rfl⟩)
theorem r_need_rules (l : List D) (hg : goodRules l = true) : P4 7 [.lst l] = ret .non := by
  obtain ⟨g1, g2⟩ := Bool.and_eq_true_iff.mp hg
  obtain ⟨g2, g3⟩ := Bool.and_eq_true_iff.mp g2
  have g2 := of_decide_eq_true g2
  rw [e_need_rules]
  refine g_need_rules P3 l hg _ rfl ((2 ^ l.length : Nat) : Int) ?_ ?_ fun d m => ?_
  · rw [u_3_3]; exact r_is_list l
  · rw [u_3_6]; exact r_states_many g2
  · obtain ⟨s, rfl, hs, hb⟩ := rule_of (List.all_eq_true.mp g3 d m)
    rw [r_is_tuple_of s _ 0 1 (by rw [hs]; exact pow_lim (by omega)), hs]
    have : (s.all fun x => decide ((0 : Int) ≤ x) && decide (x ≤ 1)) = true := List.all_eq_true.mpr fun x m => by
      rcases hb x m with e | e <;> rw [e] <;> rfl
    rw [this, decide_eq_true rfl]
    rfl
theorem dput_new : ∀ (kvs : List (D × D)) (k v : D), (∀ p ∈ kvs, p.1 ≠ k) → dput kvs k v = kvs ++ [(k, v)]
  | [], _, _, _ => rfl
  | (a, b) :: r, k, v, h => by
    show (if a = k then _ else (a, b) :: dput r k v) = _
    rw [if_neg (h (a, b) (List.mem_cons_self ..)), dput_new r k v fun p m => h p (List.mem_cons_of_mem _ m)]
    rfl
/-- the entries made so far -/
def kvI (l : List D) (L : List (List Int)) (k : Nat) : List (D × D) := (L.zipIdx k).map fun p => (Sd p.1, .tup (l.map (bitAt p.2)))
theorem kvI_snoc (l : List D) (L : List (List Int)) (s : List Int) (k : Nat) : kvI l (L ++ [s]) k = kvI l L k ++ [(Sd s, .tup (l.map (bitAt (k + L.length))))] := by
  unfold kvI
  rw [List.zipIdx_append, List.map_append]
  rfl
theorem wp_one {Φ : Nat → List D → M D} {fu : Nat} {s : Stm} {ρ : Env} {P : Fl × Env → VS.Tape → Prop} {t : VS.Tape} (h : wp (execs Φ fu [s] ρ) P t) : wp (exec Φ fu s ρ) P t := by
  obtain ⟨a, t', e, p⟩ := h
  rw [exs_cons] at e
  rcases bnd_cases e with ⟨⟨fl, ρ'⟩, t1, e1, e2⟩ | ⟨n, l, e1, e2⟩
  · refine ⟨(fl, ρ'), t1, e1, ?_⟩
    cases fl <;> (cases e2; exact p)
  · cases e2
theorem g_init (Φ : Nat → List D → M D) (x : Nat) (l : List D) (hg : goodRules l = true) (h7 : Φ 7 [.lst l] = ret .non) (z : Int) (hz : ((l.length : Nat) : Int) = z) (h5 : Φ 5 [.int z] = ret (.lst ((stsL l.length).map Sd))) : initM Φ 100000 6 iniE1 iniE2 iniB3 iniB4 2 x (.lst l) = ret (netD l) := by
  obtain ⟨g1, g2⟩ := Bool.and_eq_true_iff.mp hg
  obtain ⟨g2, g3⟩ := Bool.and_eq_true_iff.mp g2
  have g2 := of_decide_eq_true g2
  have hl := len_lst l
  rw [hz] at hl
  have hll : l.length ≤ lim := Nat.le_trans g2 (by decide)
  have h1 : ev Φ iniE1 (env0 6 [.exc x [], .lst l]) = ret .non := by simp [run_eq, ev_lit, ev_var, ev_bor, ev_tup, ev_tupS, ev_lst, ev_dsp, ev_bin, ev_neg, ev_cmp, ev_cmp2, ev_isN, ev_notN, ev_and, ev_or, ev_not, ev_ife, ev_sub, ev_slc, ev_att, ev_call, ev_blt, ev_mt, evs_nil, evs_cons, evSt_nil, evSt_cons, evT_nil, evT_one, evI_seq, evI_range, evI_enum, evI_zip, ex_expr, ex_asg, ex_new, ex_par, ex_app, ex_ret, ex_retN, ex_iff, ex_pass, ex_nev, ex_frz, exs_nil, exs_cons, setT_nm, setT_tp, setTs_nil, setTs_cons, getB, getV, setV, truth, iterOf, seqOf, okIt, itW, isTp, brI, lstAt, dctAt, isTapeAt, frzE, wipeE, isIns, okIs, isB, isC, iniE1, env0, h7]
  have h2 : ev Φ iniE2 (env0 6 [.exc x [], .lst l]) = ret (.tup l) := by simp [run_eq, ev_lit, ev_var, ev_bor, ev_tup, ev_tupS, ev_lst, ev_dsp, ev_bin, ev_neg, ev_cmp, ev_cmp2, ev_isN, ev_notN, ev_and, ev_or, ev_not, ev_ife, ev_sub, ev_slc, ev_att, ev_call, ev_blt, ev_mt, evs_nil, evs_cons, evSt_nil, evSt_cons, evT_nil, evT_one, evI_seq, evI_range, evI_enum, evI_zip, ex_expr, ex_asg, ex_new, ex_par, ex_app, ex_ret, ex_retN, ex_iff, ex_pass, ex_nev, ex_frz, exs_nil, exs_cons, setT_nm, setT_tp, setTs_nil, setTs_cons, getB, getV, setV, truth, iterOf, seqOf, okIt, itW, isTp, brI, lstAt, dctAt, isTapeAt, frzE, wipeE, isIns, okIs, isB, isC, iniE2, env0, tup_lst]
  have h3 : exec Φ 100000 iniB3 (env0 6 [.exc x [], .lst l]) = ret (.nx, [some (.exc x [], false), some (.lst l, false), some (.dct (kvI l [] 0), true), none, none, none]) := by simp [run_eq, ev_lit, ev_var, ev_bor, ev_tup, ev_tupS, ev_lst, ev_dsp, ev_bin, ev_neg, ev_cmp, ev_cmp2, ev_isN, ev_notN, ev_and, ev_or, ev_not, ev_ife, ev_sub, ev_slc, ev_att, ev_call, ev_blt, ev_mt, evs_nil, evs_cons, evSt_nil, evSt_cons, evT_nil, evT_one, evI_seq, evI_range, evI_enum, evI_zip, ex_expr, ex_asg, ex_new, ex_par, ex_app, ex_ret, ex_retN, ex_iff, ex_pass, ex_nev, ex_frz, exs_nil, exs_cons, setT_nm, setT_tp, setTs_nil, setTs_cons, getB, getV, setV, truth, iterOf, seqOf, okIt, itW, isTp, brI, lstAt, dctAt, isTapeAt, frzE, wipeE, isIns, okIs, isB, isC, iniB3, env0, frs, isMut, kvI]
  have h4 : ∀ t, wp (execs Φ 100000 [iniB4] [some (.exc x [], false), some (.lst l, false), some (.dct (kvI l [] 0), true), none, none, none]) (fun r t' => t' = t ∧ r.1 = .nx ∧ ∃ a b c, r.2 = [some (.exc x [], false), some (.lst l, false), some (.dct (kvI l (stsL l.length) 0), true), a, b, c]) t := fun t => by
    refine wp_f (l := enumL 0 ((stsL l.length).map Sd)) (fun i ρ t' => t' = t ∧ ∃ a b, ρ = [some (.exc x [], false), some (.lst l, false), some (.dct (kvI l ((stsL l.length).take i) 0), true), a, b, none]) rfl rfl (by simp [run_eq, ev_lit, ev_var, ev_bor, ev_tup, ev_tupS, ev_lst, ev_dsp, ev_bin, ev_neg, ev_cmp, ev_cmp2, ev_isN, ev_notN, ev_and, ev_or, ev_not, ev_ife, ev_sub, ev_slc, ev_att, ev_call, ev_blt, ev_mt, evs_nil, evs_cons, evSt_nil, evSt_cons, evT_nil, evT_one, evI_seq, evI_range, evI_enum, evI_zip, ex_expr, ex_asg, ex_new, ex_par, ex_app, ex_ret, ex_retN, ex_iff, ex_pass, ex_nev, ex_frz, exs_nil, exs_cons, setT_nm, setT_tp, setTs_nil, setTs_cons, getB, getV, setV, truth, iterOf, seqOf, okIt, itW, isTp, brI, lstAt, dctAt, isTapeAt, frzE, wipeE, isIns, okIs, isB, isC, hl, h5, enum_lst]) ⟨rfl, _, _, rfl⟩ (fun i y ρ t2 e hi => ?_) fun ρ t2 hi => ?_
    · obtain ⟨rfl, a, b, rfl⟩ := hi
      obtain ⟨y', e1, rfl⟩ := enumL_get _ 0 i y e
      rw [List.getElem?_map] at e1
      obtain ⟨s, hs, rfl⟩ := Option.map_eq_some_iff.mp e1
      obtain ⟨hi1, hi2⟩ := List.getElem?_eq_some_iff.mp hs
      refine wp_t (ρ' := [some (.exc x [], false), some (.lst l, false), some (.dct (kvI l ((stsL l.length).take i) 0), true), some (.int (0 + i), false), some (Sd s, false), none]) rfl ?_
      rw [show (0 : Int) + i = (i : Nat) by omega]
      have hit : i < 2 ^ l.length := by rw [← stsL_size]; exact hi1
      have hr : ∀ d ∈ l, subM d (.int (i : Nat)) = ret (bitAt i d) := fun d m => by
        obtain ⟨q, rfl, hq, _⟩ := rule_of (List.all_eq_true.mp g3 d m)
        have hi' : i < q.length := by omega
        show lft ((ixOf (q.map D.int).length (i : Int)).bind ((q.map D.int)[·]?)) = _
        have e3 : ixOf (q.map D.int).length (i : Int) = some i := by
          unfold ixOf
          rw [if_pos (by omega), if_pos (by rw [List.length_map]; simpa [run_eq, ev_lit, ev_var, ev_bor, ev_tup, ev_tupS, ev_lst, ev_dsp, ev_bin, ev_neg, ev_cmp, ev_cmp2, ev_isN, ev_notN, ev_and, ev_or, ev_not, ev_ife, ev_sub, ev_slc, ev_att, ev_call, ev_blt, ev_mt, evs_nil, evs_cons, evSt_nil, evSt_cons, evT_nil, evT_one, evI_seq, evI_range, evI_enum, evI_zip, ex_expr, ex_asg, ex_new, ex_par, ex_app, ex_ret, ex_retN, ex_iff, ex_pass, ex_nev, ex_frz, exs_nil, exs_cons, setT_nm, setT_tp, setTs_nil, setTs_cons, getB, getV, setV, truth, iterOf, seqOf, okIt, itW, isTp, brI, lstAt, dctAt, isTapeAt, frzE, wipeE, isIns, okIs, isB, isC] using hi')]
          simp [run_eq, ev_lit, ev_var, ev_bor, ev_tup, ev_tupS, ev_lst, ev_dsp, ev_bin, ev_neg, ev_cmp, ev_cmp2, ev_isN, ev_notN, ev_and, ev_or, ev_not, ev_ife, ev_sub, ev_slc, ev_att, ev_call, ev_blt, ev_mt, evs_nil, evs_cons, evSt_nil, evSt_cons, evT_nil, evT_one, evI_seq, evI_range, evI_enum, evI_zip, ex_expr, ex_asg, ex_new, ex_par, ex_app, ex_ret, ex_retN, ex_iff, ex_pass, ex_nev, ex_frz, exs_nil, exs_cons, setT_nm, setT_tp, setTs_nil, setTs_cons, getB, getV, setV, truth, iterOf, seqOf, okIt, itW, isTp, brI, lstAt, dctAt, isTapeAt, frzE, wipeE, isIns, okIs, isB, isC]
        rw [e3]
        show lft ((q.map D.int)[i]?) = ret ((q.map D.int).getD i .non)
        rw [List.getD_eq_getElem?_getD, List.getElem?_map, List.getElem?_eq_getElem hi']
        rfl
      have hnew : ∀ p ∈ kvI l ((stsL l.length).take i) 0, p.1 ≠ Sd s := fun p m => by
        unfold kvI at m
        obtain ⟨⟨r, j⟩, hm, rfl⟩ := List.mem_map.mp m
        obtain ⟨_, hj, hr'⟩ := List.mem_zipIdx hm
        intro e
        have e := Sd_inj e
        have hmem : r ∈ (stsL l.length).take i := by rw [hr']; exact List.getElem_mem _
        have hnd := stsL_nodup l.length
        rw [← List.take_append_drop i (stsL l.length)] at hnd
        have hdis := (List.nodup_append.mp hnd).2.2
        have hsd : s ∈ (stsL l.length).drop i := by
          rw [List.drop_eq_getElem_cons hi1, hi2]
          exact List.mem_cons_self ..
        exact hdis r hmem s hsd e
      have hput := dput_new _ (Sd s) (.tup (l.map (bitAt i))) hnew
      have hsn := kvI_snoc l ((stsL l.length).take i) s 0
      rw [List.length_take, Nat.min_eq_left (Nat.le_of_lt hi1), Nat.zero_add] at hsn
      have htk : (stsL l.length).take (i + 1) = (stsL l.length).take i ++ [s] := by rw [List.take_succ, hs]; rfl
      have hkl : (kvI l ((stsL l.length).take i) 0).length < lim := by
        unfold kvI
        rw [List.length_map, List.length_zipIdx, List.length_take]
        exact Nat.lt_of_le_of_lt (Nat.min_le_left ..) (Nat.lt_of_lt_of_le hit (pow_lim (by omega)))
      have hok : keyOk (kvI l ((stsL l.length).take i) 0) (Sd s) = true := keyOk_Sd (fun p m => by
        obtain ⟨q, _, rfl⟩ := List.mem_map.mp m
        rfl) s
      refine wp_p (ρ' := [some (.exc x [], false), some (.lst l, false), some (.dct (kvI l ((stsL l.length).take (i + 1)) 0), true), some (.int (i : Nat), false), some (Sd s, false), none]) ?_ (wp_n ⟨rfl, rfl, _, _, rfl⟩)
      rw [htk, hsn, ← hput]
      generalize kvI l ((stsL l.length).take i) 0 = kv at *
      have hc := comp_map (Φ := Φ) (ρ := [some (.exc x [], false), some (.lst l, false), some (.dct kv, true), some (.int (i : Nat), false), some (Sd s, false), none]) (own := [5]) (tg := .nm 5) (it := .seq (.bor 1)) (elt := .sub (.bor 5) (.var 3)) (i := id) (g := bitAt i) (l := l) rfl (by simp [run_eq, ev_lit, ev_var, ev_bor, ev_tup, ev_tupS, ev_lst, ev_dsp, ev_bin, ev_neg, ev_cmp, ev_cmp2, ev_isN, ev_notN, ev_and, ev_or, ev_not, ev_ife, ev_sub, ev_slc, ev_att, ev_call, ev_blt, ev_mt, evs_nil, evs_cons, evSt_nil, evSt_cons, evT_nil, evT_one, evI_seq, evI_range, evI_enum, evI_zip, ex_expr, ex_asg, ex_new, ex_par, ex_app, ex_ret, ex_retN, ex_iff, ex_pass, ex_nev, ex_frz, exs_nil, exs_cons, setT_nm, setT_tp, setTs_nil, setTs_cons, getB, getV, setV, truth, iterOf, seqOf, okIt, itW, isTp, brI, lstAt, dctAt, isTapeAt, frzE, wipeE, isIns, okIs, isB, isC]) rfl (fun d m => by simp [run_eq, ev_lit, ev_var, ev_bor, ev_tup, ev_tupS, ev_lst, ev_dsp, ev_bin, ev_neg, ev_cmp, ev_cmp2, ev_isN, ev_notN, ev_and, ev_or, ev_not, ev_ife, ev_sub, ev_slc, ev_att, ev_call, ev_blt, ev_mt, evs_nil, evs_cons, evSt_nil, evSt_cons, evT_nil, evT_one, evI_seq, evI_range, evI_enum, evI_zip, ex_expr, ex_asg, ex_new, ex_par, ex_app, ex_ret, ex_retN, ex_iff, ex_pass, ex_nev, ex_frz, exs_nil, exs_cons, setT_nm, setT_tp, setTs_nil, setTs_cons, getB, getV, setV, truth, iterOf, seqOf, okIt, itW, isTp, brI, lstAt, dctAt, isTapeAt, frzE, wipeE, isIns, okIs, isB, isC, cStep, hr d m]) hll
      rw [ex_put]
      simp [run_eq, ev_lit, ev_var, ev_bor, ev_tup, ev_tupS, ev_lst, ev_dsp, ev_bin, ev_neg, ev_cmp, ev_cmp2, ev_isN, ev_notN, ev_and, ev_or, ev_not, ev_ife, ev_sub, ev_slc, ev_att, ev_call, ev_blt, ev_mt, evs_nil, evs_cons, evSt_nil, evSt_cons, evT_nil, evT_one, evI_seq, evI_range, evI_enum, evI_zip, ex_expr, ex_asg, ex_new, ex_par, ex_app, ex_ret, ex_retN, ex_iff, ex_pass, ex_nev, ex_frz, exs_nil, exs_cons, setT_nm, setT_tp, setTs_nil, setTs_cons, getB, getV, setV, truth, iterOf, seqOf, okIt, itW, isTp, brI, lstAt, dctAt, isTapeAt, frzE, wipeE, isIns, okIs, isB, isC, hc, tup_lst, hok, hkl]
    · obtain ⟨rfl, a, b, rfl⟩ := hi
      rw [enumL_len, List.length_map, List.take_length]
      exact wp_n ⟨rfl, rfl, _, _, _, rfl⟩
  unfold initM
  rw [h1, bnd_ret, h2, bnd_ret, h3, bnd_ret]
  refine ret_of_wp fun t => wp_bnd (wp_mono (wp_one (h4 t)) fun r t' q => ?_)
  obtain ⟨fl, ρ⟩ := r
  obtain ⟨rfl, e1, a, b, c, e2⟩ := q
  cases (show fl = .nx from e1)
  cases (show ρ = _ from e2)
  show wp (if (some (some (D.exc x [], false)) : Option (Option (D × Bool))) = some (some (D.exc x [], false)) then ret (netD l) else stuck) _ _
  rw [if_pos rfl]
  exact wp_ret ⟨rfl, rfl⟩
theorem sp_Net_init : ∀ (x : PySem.Addr) d t r t', Phi 37 [d] t = some (r, t') → initM P4 100000 6 iniE1 iniE2 iniB3 iniB4 2 x d t = some (r, t') := fun x d t r t' h => by
  replace h : mkNet [d] t = some (r, t') := h
  cases d <;> first | (cases h; done) | skip
  rename_i l
  replace h : (if goodRules l = true then ret (netD l) else stuck) t = some (r, t') := h
  by_cases hg : goodRules l = true
  · rw [if_pos hg] at h
    obtain ⟨g1, g2⟩ := Bool.and_eq_true_iff.mp hg
    obtain ⟨g2, g3⟩ := Bool.and_eq_true_iff.mp g2
    rw [g_init P4 x l hg (r_need_rules l hg) _ rfl (by rw [u_4_5]; exact r_all_states (of_decide_eq_true g2))]
    exact h
  · rw [if_neg hg] at h
    cases h
end LW
end
section
set_option Elab.async false
set_option linter.all false
set_option maxRecDepth 100000
set_option maxHeartbeats 1000000
set_option autoImplicit false
namespace LW
open VS
theorem rangeL_map : ∀ (n : Nat) (lo : Int), rangeL lo n = (List.range n).map fun i => D.int (lo + (i : Nat))
  | 0, _ => rfl
  | n + 1, lo => by
    rw [rangeL, rangeL_map n (lo + 1), List.range_succ_eq_map, List.map_cons, List.map_map]
    congr 1
    · simp [run_eq, ev_lit, ev_var, ev_bor, ev_tup, ev_tupS, ev_lst, ev_dsp, ev_bin, ev_neg, ev_cmp, ev_cmp2, ev_isN, ev_notN, ev_and, ev_or, ev_not, ev_ife, ev_sub, ev_slc, ev_att, ev_call, ev_blt, ev_mt, evs_nil, evs_cons, evSt_nil, evSt_cons, evT_nil, evT_one, evI_seq, evI_range, evI_enum, evI_zip, ex_expr, ex_asg, ex_new, ex_par, ex_app, ex_ret, ex_retN, ex_iff, ex_pass, ex_nev, ex_frz, exs_nil, exs_cons, setT_nm, setT_tp, setTs_nil, setTs_cons, getB, getV, setV, truth, iterOf, seqOf, okIt, itW, isTp, brI, lstAt, dctAt, isTapeAt, frzE, wipeE, isIns, okIs, isB, isC]
    · apply List.map_congr_left
      intro i _
      show D.int (lo + 1 + (i : Nat)) = D.int (lo + ((i + 1 : Nat) : Int))
      congr 1
      omega
theorem srt_1 : ((stsL 1).map Sd).Pairwise (fun a b => leD a b = true) := by decide +kernel
theorem srt_2 : ((stsL 2).map Sd).Pairwise (fun a b => leD a b = true) := by decide +kernel
theorem srt_3 : ((stsL 3).map Sd).Pairwise (fun a b => leD a b = true) := by decide +kernel
theorem srt_4 : ((stsL 4).map Sd).Pairwise (fun a b => leD a b = true) := by decide +kernel
theorem srt_5 : ((stsL 5).map Sd).Pairwise (fun a b => leD a b = true) := by decide +kernel
theorem srt : ∀ n, 1 ≤ n → n ≤ 5 → ((stsL n).map Sd).Pairwise (fun a b => leD a b = true)
  | 1, _, _ => srt_1
  | 2, _, _ => srt_2
  | 3, _, _ => srt_3
  | 4, _, _ => srt_4
  | 5, _, _ => srt_5
  | 0, h, _ => absurd h (by decide)
  | n + 6, _, h => absurd h (by omega)
theorem sortable_sts {n : Nat} (h : 1 ≤ n) : sortable ((stsL n).map Sd) = true := by
  have h1 : ((stsL n).map Sd).all (plain 60) = true := plain_Sds 59 _
  have h2 : allAlike ((stsL n).map Sd) = true := List.all_eq_true.mpr fun d m => List.all_eq_true.mpr fun e m' => by
    obtain ⟨s, _, rfl⟩ := List.mem_map.mp m
    obtain ⟨r, _, rfl⟩ := List.mem_map.mp m'
    exact alike_ints s r
  have h3 : (((stsL n).map Sd).all fun d => match d with | .tup (_ :: _) => true | _ => false) = true := List.all_eq_true.mpr fun d m => by
    obtain ⟨s, hs, rfl⟩ := List.mem_map.mp m
    have hl := stsL_len n s hs
    cases s with
    | nil => simp [run_eq, ev_lit, ev_var, ev_bor, ev_tup, ev_tupS, ev_lst, ev_dsp, ev_bin, ev_neg, ev_cmp, ev_cmp2, ev_isN, ev_notN, ev_and, ev_or, ev_not, ev_ife, ev_sub, ev_slc, ev_att, ev_call, ev_blt, ev_mt, evs_nil, evs_cons, evSt_nil, evSt_cons, evT_nil, evT_one, evI_seq, evI_range, evI_enum, evI_zip, ex_expr, ex_asg, ex_new, ex_par, ex_app, ex_ret, ex_retN, ex_iff, ex_pass, ex_nev, ex_frz, exs_nil, exs_cons, setT_nm, setT_tp, setTs_nil, setTs_cons, getB, getV, setV, truth, iterOf, seqOf, okIt, itW, isTp, brI, lstAt, dctAt, isTapeAt, frzE, wipeE, isIns, okIs, isB, isC] at hl; omega
    | cons a r => rfl
  unfold sortable
  rw [Bool.and_eq_true, Bool.and_eq_true, Bool.or_eq_true]
  exact ⟨⟨h1, h2⟩, .inl h3⟩
theorem sort_sts {n : Nat} (h : 1 ≤ n) (h5 : n ≤ 5) : sortD ((stsL n).map Sd) = (stsL n).map Sd := by
  unfold sortD
  exact List.mergeSort_of_pairwise (srt n h h5)
theorem dn_keys (n : Nat) (f : List Int → List Int) : (dn n f).map (·.1) = (stsL n).map Sd := by
  unfold dn
  rw [List.map_map]
  rfl
theorem sorted_dn {n : Nat} {f : List Int → List Int} (v : Vn n f) : bltS .sorted [.dct (dn n f)] = some (.lst ((stsL n).map Sd)) := by
  show (if sortable ((dn n f).map (·.1)) then some (D.lst (sortD ((dn n f).map (·.1)))) else none) = _
  rw [dn_keys, sortable_sts v.lo, if_pos rfl, sort_sts v.lo v.hi]
theorem sub_Sd (q : List Int) (i : Nat) (h : i < q.length) : subM (Sd q) (.int (i : Nat)) = ret (.int (q.getD i 0)) := by
  show lft ((ixOf (q.map D.int).length (i : Int)).bind ((q.map D.int)[·]?)) = _
  have e3 : ixOf (q.map D.int).length (i : Int) = some i := by
    unfold ixOf
    rw [if_pos (by omega), if_pos (by rw [List.length_map]; simpa [run_eq, ev_lit, ev_var, ev_bor, ev_tup, ev_tupS, ev_lst, ev_dsp, ev_bin, ev_neg, ev_cmp, ev_cmp2, ev_isN, ev_notN, ev_and, ev_or, ev_not, ev_ife, ev_sub, ev_slc, ev_att, ev_call, ev_blt, ev_mt, evs_nil, evs_cons, evSt_nil, evSt_cons, evT_nil, evT_one, evI_seq, evI_range, evI_enum, evI_zip, ex_expr, ex_asg, ex_new, ex_par, ex_app, ex_ret, ex_retN, ex_iff, ex_pass, ex_nev, ex_frz, exs_nil, exs_cons, setT_nm, setT_tp, setTs_nil, setTs_cons, getB, getV, setV, truth, iterOf, seqOf, okIt, itW, isTp, brI, lstAt, dctAt, isTapeAt, frzE, wipeE, isIns, okIs, isB, isC] using h)]
    simp [run_eq, ev_lit, ev_var, ev_bor, ev_tup, ev_tupS, ev_lst, ev_dsp, ev_bin, ev_neg, ev_cmp, ev_cmp2, ev_isN, ev_notN, ev_and, ev_or, ev_not, ev_ife, ev_sub, ev_slc, ev_att, ev_call, ev_blt, ev_mt, evs_nil, evs_cons, evSt_nil, evSt_cons, evT_nil, evT_one, evI_seq, evI_range, evI_enum, evI_zip, ex_expr, ex_asg, ex_new, ex_par, ex_app, ex_ret, ex_retN, ex_iff, ex_pass, ex_nev, ex_frz, exs_nil, exs_cons, setT_nm, setT_tp, setTs_nil, setTs_cons, getB, getV, setV, truth, iterOf, seqOf, okIt, itW, isTp, brI, lstAt, dctAt, isTapeAt, frzE, wipeE, isIns, okIs, isB, isC]
  rw [e3]
  show lft ((q.map D.int)[i]?) = _
  rw [List.getElem?_map, List.getElem?_eq_getElem h, List.getD_eq_getElem?_getD, List.getElem?_eq_getElem h]
  rfl
theorem rl_good {n : Nat} {f : List Int → List Int} (v : Vn n f) : goodRules (rl n f) = true := by
  unfold goodRules
  rw [rl_len, decide_eq_true v.lo, decide_eq_true v.hi, Bool.true_and, Bool.true_and]
  refine List.all_eq_true.mpr fun d m => ?_
  obtain ⟨i, _, rfl⟩ := List.mem_map.mp m
  show (((stsL n).map fun s => D.int ((f s).getD i 0)).length == 2 ^ n && ((stsL n).map fun s => D.int ((f s).getD i 0)).all isBit) = true
  rw [List.length_map, stsL_size, beq_self_eq_true, Bool.true_and]
  refine List.all_eq_true.mpr fun d m => ?_
  obtain ⟨s, hs, rfl⟩ := List.mem_map.mp m
  have hb := stsL_bit n (f s) (v.cl s hs)
  show ((f s).getD i 0 == 0 || (f s).getD i 0 == 1) = true
  rw [List.getD_eq_getElem?_getD]
  cases e : (f s)[i]? with
  | none => rfl
  | some x =>
    rcases hb x (List.mem_of_getElem? e) with q | q <;> rw [q] <;> rfl
theorem netD_rl {n : Nat} {f : List Int → List Int} (v : Vn n f) : netD (rl n f) = net n f := by
  unfold netD net
  rw [rl_len]
  congr 4
  unfold dn
  apply List.ext_getElem?
  intro i
  rw [List.getElem?_map, List.getElem?_map, List.getElem?_zipIdx]
  cases e : (stsL n)[i]? with
  | none => rfl
  | some s =>
    have hs := List.mem_of_getElem? e
    have hl := stsL_len n (f s) (v.cl s hs)
    show some (Sd s, D.tup ((rl n f).map (bitAt (0 + i)))) = some (Sd s, Sd (f s))
    rw [Nat.zero_add]
    congr 3
    unfold rl
    rw [List.map_map]
    apply List.ext_getElem?
    intro j
    rw [List.getElem?_map, List.getElem?_map]
    by_cases hj : j < n
    · rw [List.getElem?_range hj, List.getElem?_eq_getElem (by rw [hl]; exact hj)]
      show some (((stsL n).map fun s => D.int ((f s).getD j 0)).getD i .non) = some (D.int (f s)[j])
      rw [List.getD_eq_getElem?_getD, List.getElem?_map, e]
      show some (D.int ((f s).getD j 0)) = _
      rw [List.getD_eq_getElem?_getD, List.getElem?_eq_getElem (by rw [hl]; exact hj)]
      rfl
    · rw [List.getElem?_eq_none (by rw [List.length_range]; omega), List.getElem?_eq_none (by rw [hl]; omega)]
      rfl
theorem g_made (Φ : Nat → List D → M D) {n : Nat} {f : List Int → List Int} (v : Vn n f) (h37 : Φ 37 [.lst (rl n f)] = ret (net n f)) : VS.run Φ 100000 b__law_made [.dct (dn n f)] = ret (net n f) := by
  have hso := sorted_dn v
  have hsub : ∀ x ∈ stsL n, subM (.dct (dn n f)) (Sd x) = ret (Sd (f x)) := fun x hx => dn_sub hx
  have hr := range_n (show n ≤ 100 by have := v.hi; omega)
  have hne : ∃ s0 r, stsL n = s0 :: r := by
    cases e : stsL n with
    | nil =>
      have := stsL_size n
      rw [e] at this
      exact absurd this (Nat.ne_of_lt (Nat.pow_pos (by decide)))
    | cons a r => exact ⟨a, r, rfl⟩
  obtain ⟨s0, r0, hs0⟩ := hne
  have hs0l : s0.length = n := stsL_len n s0 (by rw [hs0]; exact List.mem_cons_self ..)
  have h0 : subM (.lst ((stsL n).map Sd)) (.int 0) = ret (Sd s0) := by rw [hs0]; rfl
  have hlen : bltS .len [Sd s0] = some (.int (n : Nat)) := by
    show some (D.int (((s0.map D.int).length : Nat) : Int)) = _
    rw [List.length_map, hs0l]
  have hin : ∀ i ∈ List.range n, cStep Φ [some (.dct (dn n f), false), some (.lst ((stsL n).map Sd), false), none, none] (.nm 2) [] (.blt .tuple [.comp [3] (.nm 3) (.seq (.bor 1)) [] (.sub (.sub (.bor 0) (.var 3)) (.var 2))]) (D.int (0 + (i : Nat))) = ret [D.tup ((stsL n).map fun s => .int ((f s).getD i 0))] := fun i hi => by
    have hin : i < n := List.mem_range.mp hi
    rw [show (0 : Int) + (i : Nat) = (i : Nat) by omega]
    have hc := comp_map (Φ := Φ) (ρ := [some (.dct (dn n f), false), some (.lst ((stsL n).map Sd), false), some (.int (i : Nat), false), none]) (own := [3]) (tg := .nm 3) (it := .seq (.bor 1)) (elt := .sub (.sub (.bor 0) (.var 3)) (.var 2)) (i := Sd)
      (g := fun s => .int ((f s).getD i 0)) (l := stsL n) rfl (by simp [run_eq, ev_lit, ev_var, ev_bor, ev_tup, ev_tupS, ev_lst, ev_dsp, ev_bin, ev_neg, ev_cmp, ev_cmp2, ev_isN, ev_notN, ev_and, ev_or, ev_not, ev_ife, ev_sub, ev_slc, ev_att, ev_call, ev_blt, ev_mt, evs_nil, evs_cons, evSt_nil, evSt_cons, evT_nil, evT_one, evI_seq, evI_range, evI_enum, evI_zip, ex_expr, ex_asg, ex_new, ex_par, ex_app, ex_ret, ex_retN, ex_iff, ex_pass, ex_nev, ex_frz, exs_nil, exs_cons, setT_nm, setT_tp, setTs_nil, setTs_cons, getB, getV, setV, truth, iterOf, seqOf, okIt, itW, isTp, brI, lstAt, dctAt, isTapeAt, frzE, wipeE, isIns, okIs, isB, isC]) rfl (fun s hs => by
        have h2 := sub_Sd (f s) i (by rw [stsL_len n _ (v.cl s hs)]; exact hin)
        simp [run_eq, ev_lit, ev_var, ev_bor, ev_tup, ev_tupS, ev_lst, ev_dsp, ev_bin, ev_neg, ev_cmp, ev_cmp2, ev_isN, ev_notN, ev_and, ev_or, ev_not, ev_ife, ev_sub, ev_slc, ev_att, ev_call, ev_blt, ev_mt, evs_nil, evs_cons, evSt_nil, evSt_cons, evT_nil, evT_one, evI_seq, evI_range, evI_enum, evI_zip, ex_expr, ex_asg, ex_new, ex_par, ex_app, ex_ret, ex_retN, ex_iff, ex_pass, ex_nev, ex_frz, exs_nil, exs_cons, setT_nm, setT_tp, setTs_nil, setTs_cons, getB, getV, setV, truth, iterOf, seqOf, okIt, itW, isTp, brI, lstAt, dctAt, isTapeAt, frzE, wipeE, isIns, okIs, isB, isC, cStep, hsub s hs, h2]) (by rw [stsL_size]; exact pow_lim (Nat.le_trans v.hi (by decide)))
    simp [run_eq, ev_lit, ev_var, ev_bor, ev_tup, ev_tupS, ev_lst, ev_dsp, ev_bin, ev_neg, ev_cmp, ev_cmp2, ev_isN, ev_notN, ev_and, ev_or, ev_not, ev_ife, ev_sub, ev_slc, ev_att, ev_call, ev_blt, ev_mt, evs_nil, evs_cons, evSt_nil, evSt_cons, evT_nil, evT_one, evI_seq, evI_range, evI_enum, evI_zip, ex_expr, ex_asg, ex_new, ex_par, ex_app, ex_ret, ex_retN, ex_iff, ex_pass, ex_nev, ex_frz, exs_nil, exs_cons, setT_nm, setT_tp, setTs_nil, setTs_cons, getB, getV, setV, truth, iterOf, seqOf, okIt, itW, isTp, brI, lstAt, dctAt, isTapeAt, frzE, wipeE, isIns, okIs, isB, isC, cStep, hc, tup_lst]
  have hco := comp_map (Φ := Φ) (ρ := [some (.dct (dn n f), false), some (.lst ((stsL n).map Sd), false), none, none]) (own := [2]) (tg := .nm 2) (it := .range [.blt .len [.sub (.bor 1) (.lit (.int 0))]]) (elt := .blt .tuple [.comp [3] (.nm 3) (.seq (.bor 1)) [] (.sub (.sub (.bor 0) (.var 3)) (.var 2))])
    (i := fun i => D.int (0 + (i : Nat))) (g := fun i => D.tup ((stsL n).map fun s => .int ((f s).getD i 0))) (l := List.range n) rfl (by rw [← rangeL_map]; simp [run_eq, ev_lit, ev_var, ev_bor, ev_tup, ev_tupS, ev_lst, ev_dsp, ev_bin, ev_neg, ev_cmp, ev_cmp2, ev_isN, ev_notN, ev_and, ev_or, ev_not, ev_ife, ev_sub, ev_slc, ev_att, ev_call, ev_blt, ev_mt, evs_nil, evs_cons, evSt_nil, evSt_cons, evT_nil, evT_one, evI_seq, evI_range, evI_enum, evI_zip, ex_expr, ex_asg, ex_new, ex_par, ex_app, ex_ret, ex_retN, ex_iff, ex_pass, ex_nev, ex_frz, exs_nil, exs_cons, setT_nm, setT_tp, setTs_nil, setTs_cons, getB, getV, setV, truth, iterOf, seqOf, okIt, itW, isTp, brI, lstAt, dctAt, isTapeAt, frzE, wipeE, isIns, okIs, isB, isC, h0, hlen, hr]) rfl hin (by rw [List.length_range]; exact Nat.le_trans v.hi (by decide))
  have hco : ev Φ (.comp [2] (.nm 2) (.range [.blt .len [.sub (.bor 1) (.lit (.int 0))]]) [] (.blt .tuple [.comp [3] (.nm 3) (.seq (.bor 1)) [] (.sub (.sub (.bor 0) (.var 3)) (.var 2))])) [some (.dct (dn n f), false), some (.lst ((stsL n).map Sd), false), none, none] = ret (.lst (rl n f)) := hco
  generalize dn n f = kvs at *
  generalize rl n f = rs at *
  generalize net n f = nt at *
  simp [run_eq, ev_lit, ev_var, ev_bor, ev_tup, ev_tupS, ev_lst, ev_dsp, ev_bin, ev_neg, ev_cmp, ev_cmp2, ev_isN, ev_notN, ev_and, ev_or, ev_not, ev_ife, ev_sub, ev_slc, ev_att, ev_call, ev_blt, ev_mt, evs_nil, evs_cons, evSt_nil, evSt_cons, evT_nil, evT_one, evI_seq, evI_range, evI_enum, evI_zip, ex_expr, ex_asg, ex_new, ex_par, ex_app, ex_ret, ex_retN, ex_iff, ex_pass, ex_nev, ex_frz, exs_nil, exs_cons, setT_nm, setT_tp, setTs_nil, setTs_cons, getB, getV, setV, truth, iterOf, seqOf, okIt, itW, isTp, brI, lstAt, dctAt, isTapeAt, frzE, wipeE, isIns, okIs, isB, isC, b__law_made, hso, hco, h37]
theorem r_made {n : Nat} {f : List Int → List Int} (v : Vn n f) : P7 31 [.dct (dn n f)] = ret (net n f) := by
  rw [e__law_made]
  refine g_made P6 v ?_
  rw [u_6_37]
  show (if goodRules (rl n f) = true then ret (netD (rl n f)) else stuck) = _
  rw [rl_good v, if_pos rfl, netD_rl v]
end LW
end
section
set_option Elab.async false
set_option linter.all false
set_option maxRecDepth 100000
set_option maxHeartbeats 1000000
set_option autoImplicit false
namespace LW
open VS
abbrev tE : Option (D × Bool) := some (.tape, false)
theorem sub_turn (t : VS.Tape) : subM .tape (.str "turn") t = some (.ok (.int t.turn), t) := rfl
theorem sub_rest (t : VS.Tape) : subM .tape (.str "rest") t = some (.ok (.int t.rest), t) := rfl
theorem sub_cells (t : VS.Tape) : subM .tape (.str "cells") t = some (.ok (.lst (t.cells.map .int)), t) := rfl
theorem ex_turn (Φ : Nat → List D → M D) (fu : Nat) (ρ : Env) (t : VS.Tape) : exec Φ fu (.put 0 (.lit (.str "turn")) (.bin .add (.sub (.bor 0) (.lit (.str "turn"))) (.lit (.int 1)))) (tE :: ρ) t = some (.ok (.nx, tE :: ρ), { t with turn := t.turn + 1 }) := rfl
theorem mul_r (a b : Int) (h : small64 b = true) : binS .mul (.int a) (.int b) = some (.int (a * b)) := by
  show (if (small64 a || small64 b) = true then some (D.int (a * b)) else none) = _
  rw [h, Bool.or_true]
  rfl
theorem fdiv_int (a b : Int) (h : b ≠ 0 ∧ b.natAbs < 1073741824) : binS .fdiv (.int a) (.int b) = some (.int (a.fdiv b)) := by
  show (if b ≠ 0 ∧ b.natAbs < 1073741824 then some (D.int (a.fdiv b)) else none) = _
  rw [if_pos h]
theorem pow_int (a b : Int) (h : 0 ≤ b ∧ b ≤ 1000000 ∧ a.natAbs < 2 ^ 64) : binS .pow (.int a) (.int b) = some (.int (a ^ b.toNat)) := by
  show (if 0 ≤ b ∧ b ≤ 1000000 ∧ a.natAbs < 2 ^ 64 then some (D.int (a ^ b.toNat)) else none) = _
  rw [if_pos h]
theorem int_int (a : Int) : bltS .int [.int a] = some (.int a) := rfl
theorem fmod_lt {a b : Int} (h : 0 < b) : 0 ≤ a.fmod b ∧ a.fmod b < b := ⟨Int.fmod_nonneg_of_pos a h, Int.fmod_lt_of_pos a h⟩
theorem wp_ft {Φ : Nat → List D → M D} {fu : Nat} {ρ : Env} {P : Fl × Env → VS.Tape → Prop} {t t' : VS.Tape} {ss b : List Stm} {tg : Tg} {it : It} {l : List D} (I : Nat → Env → VS.Tape → Prop) (h1 : okIt it tg = true) (h2 : (brI it).all (notOwn ρ) = true) (h3 : evI Φ it ρ t = some (.ok l, t')) (h0 : I 0 ρ t')
    (hs : ∀ i x ρ t, l[i]? = some x → I i ρ t → wp (fStep Φ fu tg b x ρ) (fun r t' => r.1 = .nx ∧ I (i + 1) r.2 t') t) (hP : ∀ ρ t, I l.length ρ t → wp (execs Φ fu ss ρ) P t) : wp (execs Φ fu (.for tg it b :: ss) ρ) P t := by
  rw [exs_cons, ex_for, h1, h2]
  refine wp_bnd (wp_bnd ⟨_, _, h3, wp_for I l 0 h0 (fun i x ρ t e h => ?_) fun ρ t h => ?_⟩)
  · have := hs i x ρ t e (by simpa [run_eq, ev_lit, ev_var, ev_bor, ev_tup, ev_tupS, ev_lst, ev_dsp, ev_bin, ev_neg, ev_cmp, ev_cmp2, ev_isN, ev_notN, ev_and, ev_or, ev_not, ev_ife, ev_sub, ev_slc, ev_att, ev_call, ev_blt, ev_mt, evs_nil, evs_cons, evSt_nil, evSt_cons, evT_nil, evT_one, evI_seq, evI_range, evI_enum, evI_zip, ex_expr, ex_asg, ex_new, ex_par, ex_app, ex_ret, ex_retN, ex_iff, ex_pass, ex_nev, ex_frz, exs_nil, exs_cons, setT_nm, setT_tp, setTs_nil, setTs_cons, getB, getV, setV, truth, iterOf, seqOf, okIt, itW, isTp, brI, lstAt, dctAt, isTapeAt, frzE, wipeE, isIns, okIs, isB, isC] using h)
    simpa [run_eq, ev_lit, ev_var, ev_bor, ev_tup, ev_tupS, ev_lst, ev_dsp, ev_bin, ev_neg, ev_cmp, ev_cmp2, ev_isN, ev_notN, ev_and, ev_or, ev_not, ev_ife, ev_sub, ev_slc, ev_att, ev_call, ev_blt, ev_mt, evs_nil, evs_cons, evSt_nil, evSt_cons, evT_nil, evT_one, evI_seq, evI_range, evI_enum, evI_zip, ex_expr, ex_asg, ex_new, ex_par, ex_app, ex_ret, ex_retN, ex_iff, ex_pass, ex_nev, ex_frz, exs_nil, exs_cons, setT_nm, setT_tp, setTs_nil, setTs_cons, getB, getV, setV, truth, iterOf, seqOf, okIt, itW, isTp, brI, lstAt, dctAt, isTapeAt, frzE, wipeE, isIns, okIs, isB, isC] using this
  · exact hP ρ t (by simpa [run_eq, ev_lit, ev_var, ev_bor, ev_tup, ev_tupS, ev_lst, ev_dsp, ev_bin, ev_neg, ev_cmp, ev_cmp2, ev_isN, ev_notN, ev_and, ev_or, ev_not, ev_ife, ev_sub, ev_slc, ev_att, ev_call, ev_blt, ev_mt, evs_nil, evs_cons, evSt_nil, evSt_cons, evT_nil, evT_one, evI_seq, evI_range, evI_enum, evI_zip, ex_expr, ex_asg, ex_new, ex_par, ex_app, ex_ret, ex_retN, ex_iff, ex_pass, ex_nev, ex_frz, exs_nil, exs_cons, setT_nm, setT_tp, setTs_nil, setTs_cons, getB, getV, setV, truth, iterOf, seqOf, okIt, itW, isTp, brI, lstAt, dctAt, isTapeAt, frzE, wipeE, isIns, okIs, isB, isC] using h)
theorem W_blend (Φ : Nat → List D → M D) (t : VS.Tape) : wp (VS.run Φ 100000 b__law_blend [.tape]) (fun d _ => ∃ x, d = .int x) t := by
  rw [run_eq]
  refine wp_bnd ?_
  show wp (execs Φ 100000 b__law_blend.body [tE, none, none, none, none, none]) _ t
  refine wp_s (ex_turn Φ _ _ t) ?_
  generalize ({ t with turn := t.turn + 1 } : VS.Tape) = t1
  refine wp_s (ρ' := [tE, none, some (.int t1.turn, false), some (.int 0, false), none, none]) (t' := t1) rfl ?_
  generalize t1.turn = tu
  refine wp_f (l := [.int 2147483629, .int 2147483587, .int 2147483579]) (fun i ρ t' => ∃ g fo b c, ρ = [tE, g, some (.int tu, false), some (.int fo, false), b, c]) rfl rfl rfl ⟨_, _, _, _, rfl⟩ (fun i x ρ t2 e hi => ?_) fun ρ t2 hi => ?_
  · obtain ⟨g0, fo, b0, c0, rfl⟩ := hi
    have hx : ∃ g : Int, x = .int g ∧ 7 < g ∧ g < 2147483648 := by
      match i, e with
      | 0, e => cases e; exact ⟨_, rfl, by decide, by decide⟩
      | 1, e => cases e; exact ⟨_, rfl, by decide, by decide⟩
      | 2, e => cases e; exact ⟨_, rfl, by decide, by decide⟩
      | i + 3, e => simp [run_eq, ev_lit, ev_var, ev_bor, ev_tup, ev_tupS, ev_lst, ev_dsp, ev_bin, ev_neg, ev_cmp, ev_cmp2, ev_isN, ev_notN, ev_and, ev_or, ev_not, ev_ife, ev_sub, ev_slc, ev_att, ev_call, ev_blt, ev_mt, evs_nil, evs_cons, evSt_nil, evSt_cons, evT_nil, evT_one, evI_seq, evI_range, evI_enum, evI_zip, ex_expr, ex_asg, ex_new, ex_par, ex_app, ex_ret, ex_retN, ex_iff, ex_pass, ex_nev, ex_frz, exs_nil, exs_cons, setT_nm, setT_tp, setTs_nil, setTs_cons, getB, getV, setV, truth, iterOf, seqOf, okIt, itW, isTp, brI, lstAt, dctAt, isTapeAt, frzE, wipeE, isIns, okIs, isB, isC] at e
    obtain ⟨g, rfl, g1, g2⟩ := hx
    have gne : g ≠ 0 := by omega
    refine wp_t (ρ' := [tE, some (.int g, false), some (.int tu, false), some (.int fo, false), b0, c0]) rfl ?_
    obtain ⟨q1, q2⟩ := fmod_lt (a := tu * 69621 + g.fdiv 7) (b := g) (by omega)
    refine wp_p (ρ' := [tE, some (.int g, false), some (.int tu, false), some (.int fo, false), some (.int ((tu * 69621 + g.fdiv 7).fmod g), false), c0]) (by simp [run_eq, ev_lit, ev_var, ev_bor, ev_tup, ev_tupS, ev_lst, ev_dsp, ev_bin, ev_neg, ev_cmp, ev_cmp2, ev_isN, ev_notN, ev_and, ev_or, ev_not, ev_ife, ev_sub, ev_slc, ev_att, ev_call, ev_blt, ev_mt, evs_nil, evs_cons, evSt_nil, evSt_cons, evT_nil, evT_one, evI_seq, evI_range, evI_enum, evI_zip, ex_expr, ex_asg, ex_new, ex_par, ex_app, ex_ret, ex_retN, ex_iff, ex_pass, ex_nev, ex_frz, exs_nil, exs_cons, setT_nm, setT_tp, setTs_nil, setTs_cons, getB, getV, setV, truth, iterOf, seqOf, okIt, itW, isTp, brI, lstAt, dctAt, isTapeAt, frzE, wipeE, isIns, okIs, isB, isC, mul_r _ 69621 rfl, fdiv_int _ 7 (by decide), add_int, mod_int _ _ gne]) ?_
    generalize (tu * 69621 + g.fdiv 7).fmod g = bl at *
    have hcells : ∀ t3 : VS.Tape, evI Φ (.seq (.sub (.bor 0) (.lit (.str "cells")))) [tE, some (.int g, false), some (.int tu, false), some (.int fo, false), some (.int bl, false), c0] t3 = some (.ok (t3.cells.map .int), t3) := fun t3 => rfl
    refine wp_ft (fun j ρ t' => ∃ b c, 0 ≤ b ∧ b < g ∧ ρ = [tE, some (.int g, false), some (.int tu, false), some (.int fo, false), some (.int b, false), c]) rfl rfl (hcells t2) ⟨bl, c0, q1, q2, rfl⟩ (fun j y ρ t4 e4 hj => ?_) fun ρ t4 hj => ?_
    · obtain ⟨b, c, b1, b2, rfl⟩ := hj
      rw [List.getElem?_map] at e4
      obtain ⟨gr, _, rfl⟩ := Option.map_eq_some_iff.mp e4
      refine wp_t (ρ' := [tE, some (.int g, false), some (.int tu, false), some (.int fo, false), some (.int b, false), some (.int gr, false)]) rfl ?_
      obtain ⟨q3, q4⟩ := fmod_lt (a := b * 48271 + gr) (b := g) (by omega)
      exact wp_p (ρ' := [tE, some (.int g, false), some (.int tu, false), some (.int fo, false), some (.int ((b * 48271 + gr).fmod g), false), some (.int gr, false)]) (by simp [run_eq, ev_lit, ev_var, ev_bor, ev_tup, ev_tupS, ev_lst, ev_dsp, ev_bin, ev_neg, ev_cmp, ev_cmp2, ev_isN, ev_notN, ev_and, ev_or, ev_not, ev_ife, ev_sub, ev_slc, ev_att, ev_call, ev_blt, ev_mt, evs_nil, evs_cons, evSt_nil, evSt_cons, evT_nil, evT_one, evI_seq, evI_range, evI_enum, evI_zip, ex_expr, ex_asg, ex_new, ex_par, ex_app, ex_ret, ex_retN, ex_iff, ex_pass, ex_nev, ex_frz, exs_nil, exs_cons, setT_nm, setT_tp, setTs_nil, setTs_cons, getB, getV, setV, truth, iterOf, seqOf, okIt, itW, isTp, brI, lstAt, dctAt, isTapeAt, frzE, wipeE, isIns, okIs, isB, isC, mul_r _ 48271 rfl, int_int, add_int, mod_int _ _ gne]) (wp_n ⟨rfl, _, _, q3, q4, rfl⟩)
    · obtain ⟨b, c, b1, b2, rfl⟩ := hj
      have hp := pow_int b 5 ⟨by decide, by decide, by omega⟩
      exact wp_p (ρ' := [tE, some (.int g, false), some (.int tu, false), some (.int (fo * 2147483647 + (b ^ (5 : Int).toNat).fmod g), false), some (.int b, false), c]) (by simp [run_eq, ev_lit, ev_var, ev_bor, ev_tup, ev_tupS, ev_lst, ev_dsp, ev_bin, ev_neg, ev_cmp, ev_cmp2, ev_isN, ev_notN, ev_and, ev_or, ev_not, ev_ife, ev_sub, ev_slc, ev_att, ev_call, ev_blt, ev_mt, evs_nil, evs_cons, evSt_nil, evSt_cons, evT_nil, evT_one, evI_seq, evI_range, evI_enum, evI_zip, ex_expr, ex_asg, ex_new, ex_par, ex_app, ex_ret, ex_retN, ex_iff, ex_pass, ex_nev, ex_frz, exs_nil, exs_cons, setT_nm, setT_tp, setTs_nil, setTs_cons, getB, getV, setV, truth, iterOf, seqOf, okIt, itW, isTp, brI, lstAt, dctAt, isTapeAt, frzE, wipeE, isIns, okIs, isB, isC, mul_r _ 2147483647 rfl, hp, add_int, mod_int _ _ gne]) (wp_n ⟨rfl, _, _, _, _, rfl⟩)
  · obtain ⟨g, fo, b, c, rfl⟩ := hi
    exact wp_r (d := .int fo) (ρ' := [tE, g, some (.int tu, false), some (.int fo, false), b, c]) (by simp [run_eq, ev_lit, ev_var, ev_bor, ev_tup, ev_tupS, ev_lst, ev_dsp, ev_bin, ev_neg, ev_cmp, ev_cmp2, ev_isN, ev_notN, ev_and, ev_or, ev_not, ev_ife, ev_sub, ev_slc, ev_att, ev_call, ev_blt, ev_mt, evs_nil, evs_cons, evSt_nil, evSt_cons, evT_nil, evT_one, evI_seq, evI_range, evI_enum, evI_zip, ex_expr, ex_asg, ex_new, ex_par, ex_app, ex_ret, ex_retN, ex_iff, ex_pass, ex_nev, ex_frz, exs_nil, exs_cons, setT_nm, setT_tp, setTs_nil, setTs_cons, getB, getV, setV, truth, iterOf, seqOf, okIt, itW, isTp, brI, lstAt, dctAt, isTapeAt, frzE, wipeE, isIns, okIs, isB, isC]) (wp_ret ⟨fo, rfl⟩)
theorem tnx_c {m : M D} {t : VS.Tape} {x : Int} {r : List Int} (h : t.large = x :: r) : tnxM m t = some (.ok (.int x), { t with large := r }) := by
  obtain ⟨la, re, ce, tu⟩ := t
  cases h
  rfl
theorem tnx_n {m : M D} {t t' : VS.Tape} {x : Int} (h : t.large = []) (hm : m t = some (.ok (.int x), t')) : tnxM m t = some (.ok (.int x), t') := by
  obtain ⟨la, re, ce, tu⟩ := t
  cases h
  show (match m ⟨[], re, ce, tu⟩ with
    | some (Res.ok (D.int n), t') => some (Res.ok (D.int n), t')
    | _ => none) = _
  rw [hm]
theorem eq_int (a b : Int) : cmpS .eq (.int a) (.int b) = some (a == b) := rfl
theorem W_draw (Φ : Nat → List D → M D) (hb : ∀ t, wp (Φ 24 [.tape]) (fun d _ => ∃ x, d = .int x) t) (n : Int) (h0 : 0 < n) (h1 : n < 1073741824) (t : VS.Tape) : wp (VS.run Φ 100000 b__law_draw [.tape, .int n]) (fun d _ => ∃ x, d = .int x ∧ 0 ≤ x ∧ x < n) t := by
  rw [run_eq]
  refine wp_bnd ?_
  show wp (execs Φ 100000 b__law_draw.body [tE, some (.int n, false), none]) _ t
  have nne : n ≠ 0 := by omega
  have tail : ∀ t : VS.Tape, wp (execs Φ 100000 (b__law_draw.body.drop 1) [tE, some (.int n, false), none]) (fun r t' => wp (match r.1 with
      | .nx => ret D.non
      | .rt d => ret d
      | _ => stuck) (fun d _ => ∃ x, d = .int x ∧ 0 ≤ x ∧ x < n) t') t := fun t => by
    obtain ⟨q1, q2⟩ := fmod_lt (a := t.rest) h0
    have hm : ∀ a : Int, lft (binS .mod (.int a) (.int n)) = ret (.int (a.fmod n)) := fun a => by rw [mod_int _ _ nne]; rfl
    have hd : ∀ a : Int, lft (binS .fdiv (.int a) (.int n)) = ret (.int (a.fdiv n)) := fun a => by rw [fdiv_int _ _ ⟨nne, by omega⟩]; rfl
    refine wp_s (ρ' := [tE, some (.int n, false), some (.int (t.rest.fmod n), false)]) (t' := t) ?_ ?_
    · show bnd (lft (binS .mod (.int t.rest) (.int n))) (fun d => ret (Fl.nx, [tE, some (.int n, false), some (d, false)])) t = _
      rw [hm]
      rfl
    · refine wp_s (ρ' := [tE, some (.int n, false), some (.int (t.rest.fmod n), false)]) (t' := { t with rest := t.rest.fdiv n }) ?_ ?_
      · show bnd (lft (binS .fdiv (.int t.rest) (.int n))) (fun y => tputM [tE, some (.int n, false), some (.int (t.rest.fmod n), false)] (.str "rest") y) t = _
        rw [hd]
        rfl
      · exact wp_r (d := .int (t.rest.fmod n)) (ρ' := [tE, some (.int n, false), some (.int (t.rest.fmod n), false)]) rfl (wp_ret ⟨_, rfl, q1, q2⟩)
  by_cases hz : t.rest = 0
  · have hx : wp (exec Φ 100000 (.iff (.cmp .eq (.sub (.bor 0) (.lit (.str "rest"))) (.lit (.int 0))) [.frz [0] (.put 0 (.lit (.str "rest")) (.tnx 0 24))] []) [tE, some (.int n, false), none]) (fun r _ => r = (.nx, [tE, some (.int n, false), none])) t := by
      have hc : ev Φ (.cmp .eq (.sub (.bor 0) (.lit (.str "rest"))) (.lit (.int 0))) [tE, some (.int n, false), none] t = some (.ok (.bl true), t) := by
        show lft ((cmpS .eq (.int t.rest) (.int 0)).map D.bl) t = _
        rw [eq_int, hz]
        rfl
      rw [ex_iff]
      refine wp_bnd ⟨_, _, hc, ?_⟩
      show wp (execs Φ 100000 [.frz [0] (.put 0 (.lit (.str "rest")) (.tnx 0 24))] [tE, some (.int n, false), none]) _ t
      have hn : wp (tnxM (Φ 24 [.tape])) (fun d _ => ∃ x, d = .int x) t := by
        cases hl : t.large with
        | cons x r => exact ⟨.int x, _, tnx_c hl, x, rfl⟩
        | nil =>
          obtain ⟨d, t', e, x, rfl⟩ := hb t
          exact ⟨.int x, t', tnx_n hl e, x, rfl⟩
      obtain ⟨d, t', e, x, rfl⟩ := hn
      refine wp_s (ρ' := [tE, some (.int n, false), none]) (t' := { t' with rest := x }) ?_ (wp_n rfl)
      show bnd (tnxM (Φ 24 [.tape])) (fun y => tputM [tE, some (.int n, false), none] (.str "rest") y) t = _
      rw [bnd_ok e]
      rfl
    obtain ⟨r, t', e, rfl⟩ := hx
    exact wp_s e (tail t')
  · refine wp_s (ρ' := [tE, some (.int n, false), none]) (t' := t) ?_ (tail t)
    have hc : ev Φ (.cmp .eq (.sub (.bor 0) (.lit (.str "rest"))) (.lit (.int 0))) [tE, some (.int n, false), none] t = some (.ok (.bl false), t) := by
      show lft ((cmpS .eq (.int t.rest) (.int 0)).map D.bl) t = _
      rw [eq_int, show (t.rest == 0) = false from beq_eq_false_iff_ne.mpr hz]
      rfl
    rw [ex_iff, bnd_ok hc]
    rfl
end LW
end
section
set_option Elab.async false
set_option linter.all false
set_option maxRecDepth 100000
set_option maxHeartbeats 1000000
set_option autoImplicit false
namespace LW
open VS
/-- what a draw promises -/
def Drw (Φ : Nat → List D → M D) (f : Nat) : Prop := ∀ n : Int, 0 < n → n < 1073741824 → ∀ t, wp (Φ f [.tape, .int n]) (fun d _ => ∃ x, d = .int x ∧ 0 ≤ x ∧ x < n) t
theorem ix_pos {n : Nat} {x : Int} (h0 : 0 ≤ x) (h1 : x < n) : ixOf n x = some x.toNat ∧ x.toNat < n := by
  unfold ixOf
  rw [if_pos h0, if_pos (by omega)]
  exact ⟨rfl, by omega⟩
theorem sub_at {l : List D} {x : Int} (h0 : 0 ≤ x) (h1 : x < (l.length : Nat)) : ∃ d ∈ l, subM (.lst l) (.int x) = ret d := by
  obtain ⟨e, hl⟩ := ix_pos h0 h1
  refine ⟨l[x.toNat], List.getElem_mem hl, ?_⟩
  show lft ((ixOf l.length x).bind (l[·]?)) = _
  rw [e]
  show lft (l[x.toNat]?) = _
  rw [List.getElem?_eq_getElem hl]
  rfl
theorem W_pick (Φ : Nat → List D → M D) (hd : Drw Φ 25) (l : List D) (h0 : l ≠ []) (h1 : l.length < 1073741824) (t : VS.Tape) : wp (VS.run Φ 100000 b__law_pick [.tape, .lst l]) (fun d _ => d ∈ l) t := by
  have hp : 0 < l.length := List.length_pos_iff.mpr h0
  rw [run_eq]
  refine wp_bnd ?_
  show wp (execs Φ 100000 b__law_pick.body [tE, some (.lst l, false)]) _ t
  obtain ⟨d, t', e, x, rfl, h2, h3⟩ := hd (l.length : Nat) (by omega) (by omega) t
  obtain ⟨y, hy, hs⟩ := sub_at h2 h3
  refine ⟨(.rt y, [tE, some (.lst l, false)]), t', ?_, wp_ret hy⟩
  show bnd (bnd (bnd (Φ 25 [.tape, .int (l.length : Nat)]) fun z => subM (.lst l) z) fun d => ret (Fl.rt d, [tE, some (.lst l, false)])) (fun r => match r.1 with
    | .nx => execs Φ 100000 [] r.2
    | f => ret (f, r.2)) t = _
  rw [bnd_bnd, bnd_bnd, bnd_ok e, hs]
  rfl
theorem ne_nil (l : List (List Int)) : cmpS .ne (.lst (l.map Sd)) (.lst []) = some (!decide (l = [])) := by
  show (eqS (.lst (l.map Sd)) (.lst [])).map (!·) = _
  unfold eqS
  have h1 : plain 60 (.lst (l.map Sd)) = true := plain_Sds 58 l
  have h2 : plain 60 (.lst []) = true := rfl
  rw [h1, h2]
  show some (!(pyEqL (l.map Sd) (([] : List (List Int)).map Sd))) = _
  rw [pyEqL_Sds]
theorem er_map {α β : Type} (f : α → β) (l : List α) (n : Nat) : (l.map f).eraseIdx n = (l.eraseIdx n).map f := by
  rw [List.eraseIdx_eq_take_drop_succ, List.eraseIdx_eq_take_drop_succ, List.map_append, List.map_take, List.map_drop]
theorem W_shuf (Φ : Nat → List D → M D) (hd : Drw Φ 25) (l : List (List Int)) (h1 : l.length ≤ 32) (t : VS.Tape) : wp (VS.run Φ 100000 b__law_shuffled [.tape, .lst (l.map Sd)]) (fun d _ => ∃ m : List (List Int), d = .lst (m.map Sd) ∧ m.length = l.length ∧ ∀ x ∈ m, x ∈ l) t := by
  rw [run_eq]
  refine wp_bnd ?_
  show wp (execs Φ 100000 b__law_shuffled.body [tE, some (.lst (l.map Sd), false), none, none]) _ t
  refine wp_p (ρ' := [tE, some (.lst (l.map Sd), false), some (.lst (l.map Sd), true), some (.lst (([] : List (List Int)).map Sd), true)]) (by
    have : bltS .list [.lst (l.map Sd)] = some (.lst (l.map Sd)) := rfl
    simp [run_eq, ev_lit, ev_var, ev_bor, ev_tup, ev_tupS, ev_lst, ev_dsp, ev_bin, ev_neg, ev_cmp, ev_cmp2, ev_isN, ev_notN, ev_and, ev_or, ev_not, ev_ife, ev_sub, ev_slc, ev_att, ev_call, ev_blt, ev_mt, evs_nil, evs_cons, evSt_nil, evSt_cons, evT_nil, evT_one, evI_seq, evI_range, evI_enum, evI_zip, ex_expr, ex_asg, ex_new, ex_par, ex_app, ex_ret, ex_retN, ex_iff, ex_pass, ex_nev, ex_frz, exs_nil, exs_cons, setT_nm, setT_tp, setTs_nil, setTs_cons, getB, getV, setV, truth, iterOf, seqOf, okIt, itW, isTp, brI, lstAt, dctAt, isTapeAt, frzE, wipeE, isIns, okIs, isB, isC, frs, isMut, lim, this]) ?_
  refine wp_w (fun k ρ _ => ∃ a b : List (List Int), ρ = [tE, some (.lst (l.map Sd), false), some (.lst (a.map Sd), true), some (.lst (b.map Sd), true)] ∧ a.length = k ∧ a.length + b.length = l.length ∧ (∀ x ∈ a, x ∈ l) ∧ ∀ x ∈ b, x ∈ l) l.length (by omega) ⟨l, [], rfl, rfl, rfl, fun _ h => h, fun x m => by cases m⟩ fun k ρ t hi => ?_
  obtain ⟨a, b, rfl, ha, hab, ha1, hb1⟩ := hi
  have hc : ev Φ (.cmp .ne (.bor 2) (.lst [])) [tE, some (.lst (l.map Sd), false), some (.lst (a.map Sd), true), some (.lst (b.map Sd), true)] = ret (.bl (!decide (a = []))) := by
    simp [run_eq, ev_lit, ev_var, ev_bor, ev_tup, ev_tupS, ev_lst, ev_dsp, ev_bin, ev_neg, ev_cmp, ev_cmp2, ev_isN, ev_notN, ev_and, ev_or, ev_not, ev_ife, ev_sub, ev_slc, ev_att, ev_call, ev_blt, ev_mt, evs_nil, evs_cons, evSt_nil, evSt_cons, evT_nil, evT_one, evI_seq, evI_range, evI_enum, evI_zip, ex_expr, ex_asg, ex_new, ex_par, ex_app, ex_ret, ex_retN, ex_iff, ex_pass, ex_nev, ex_frz, exs_nil, exs_cons, setT_nm, setT_tp, setTs_nil, setTs_cons, getB, getV, setV, truth, iterOf, seqOf, okIt, itW, isTp, brI, lstAt, dctAt, isTapeAt, frzE, wipeE, isIns, okIs, isB, isC, ne_nil, lim]
  by_cases hz : a = []
  · refine .inl ⟨by rw [hc, decide_eq_true hz]; rfl, ?_⟩
    refine wp_r (d := .lst (b.map Sd)) (ρ' := [tE, some (.lst (l.map Sd), false), some (.lst (a.map Sd), true), some (.lst (b.map Sd), false)]) (by simp [run_eq, ev_lit, ev_var, ev_bor, ev_tup, ev_tupS, ev_lst, ev_dsp, ev_bin, ev_neg, ev_cmp, ev_cmp2, ev_isN, ev_notN, ev_and, ev_or, ev_not, ev_ife, ev_sub, ev_slc, ev_att, ev_call, ev_blt, ev_mt, evs_nil, evs_cons, evSt_nil, evSt_cons, evT_nil, evT_one, evI_seq, evI_range, evI_enum, evI_zip, ex_expr, ex_asg, ex_new, ex_par, ex_app, ex_ret, ex_retN, ex_iff, ex_pass, ex_nev, ex_frz, exs_nil, exs_cons, setT_nm, setT_tp, setTs_nil, setTs_cons, getB, getV, setV, truth, iterOf, seqOf, okIt, itW, isTp, brI, lstAt, dctAt, isTapeAt, frzE, wipeE, isIns, okIs, isB, isC]) (wp_ret ⟨b, rfl, ?_, hb1⟩)
    rw [hz] at hab
    simpa [run_eq, ev_lit, ev_var, ev_bor, ev_tup, ev_tupS, ev_lst, ev_dsp, ev_bin, ev_neg, ev_cmp, ev_cmp2, ev_isN, ev_notN, ev_and, ev_or, ev_not, ev_ife, ev_sub, ev_slc, ev_att, ev_call, ev_blt, ev_mt, evs_nil, evs_cons, evSt_nil, evSt_cons, evT_nil, evT_one, evI_seq, evI_range, evI_enum, evI_zip, ex_expr, ex_asg, ex_new, ex_par, ex_app, ex_ret, ex_retN, ex_iff, ex_pass, ex_nev, ex_frz, exs_nil, exs_cons, setT_nm, setT_tp, setTs_nil, setTs_cons, getB, getV, setV, truth, iterOf, seqOf, okIt, itW, isTp, brI, lstAt, dctAt, isTapeAt, frzE, wipeE, isIns, okIs, isB, isC] using hab
  · refine .inr ⟨by rw [hc, decide_eq_false hz]; rfl, ?_, ?_⟩
    · have := List.length_pos_iff.mpr hz
      omega
    · have hp : 0 < a.length := List.length_pos_iff.mpr hz
      obtain ⟨d, t', e, x, rfl, h2, h3⟩ := hd (a.length : Nat) (by omega) (by omega) t
      obtain ⟨ei, hlt⟩ := ix_pos h2 h3
      refine wp_s (ρ' := [tE, some (.lst (l.map Sd), false), some (.lst ((a.eraseIdx x.toNat).map Sd), true), some (.lst ((b ++ [a[x.toNat]]).map Sd), true)]) (t' := t') ?_ (wp_n ⟨rfl, _, _, rfl, ?_, ?_, ?_, ?_⟩)
      · show bnd (bnd (ret [.tape, .int ((a.map Sd).length : Nat)]) fun ds => Φ 25 ds) (fun d => lft (popL (b.map Sd) (a.map Sd) d [tE, some (.lst (l.map Sd), false), some (.lst (a.map Sd), true), some (.lst (b.map Sd), true)] 3 2)) t = _
        rw [bnd_ret, List.length_map, bnd_ok e]
        show ((if (inR x && decide ((b.map Sd).length < lim)) = true then (ixOf (a.map Sd).length x).bind fun q => (a.map Sd)[q]?.map fun y => (Fl.nx, _) else none).map fun r => (Res.ok r, t')) = _
        have hin : (inR x && decide ((b.map Sd).length < lim)) = true := by
          rw [Bool.and_eq_true]
          exact ⟨decide_eq_true (by omega), decide_eq_true (by rw [List.length_map]; exact Nat.lt_of_le_of_lt (show b.length ≤ 100 by omega) (by decide))⟩
        rw [if_pos hin, List.length_map, ei]
        show (((a.map Sd)[x.toNat]?.map fun y => _).map _) = _
        rw [List.getElem?_map, List.getElem?_eq_getElem hlt]
        simp [run_eq, ev_lit, ev_var, ev_bor, ev_tup, ev_tupS, ev_lst, ev_dsp, ev_bin, ev_neg, ev_cmp, ev_cmp2, ev_isN, ev_notN, ev_and, ev_or, ev_not, ev_ife, ev_sub, ev_slc, ev_att, ev_call, ev_blt, ev_mt, evs_nil, evs_cons, evSt_nil, evSt_cons, evT_nil, evT_one, evI_seq, evI_range, evI_enum, evI_zip, ex_expr, ex_asg, ex_new, ex_par, ex_app, ex_ret, ex_retN, ex_iff, ex_pass, ex_nev, ex_frz, exs_nil, exs_cons, setT_nm, setT_tp, setTs_nil, setTs_cons, getB, getV, setV, truth, iterOf, seqOf, okIt, itW, isTp, brI, lstAt, dctAt, isTapeAt, frzE, wipeE, isIns, okIs, isB, isC, List.map_append, er_map]
      · rw [List.length_eraseIdx, if_pos hlt]; omega
      · rw [List.length_eraseIdx, if_pos hlt, List.length_append, List.length_singleton]; omega
      · exact fun y m => ha1 y (List.mem_of_mem_eraseIdx m)
      · exact fun y m => (List.mem_append.mp m).elim (hb1 y) fun m => by rw [List.mem_singleton.mp m]; exact ha1 _ (List.getElem_mem hlt)
theorem r_pow2 : P1 28 [.int 2, .int 2] = ret (.int 4) := rfl
theorem r_pow4 : P1 28 [.int 4, .int 4] = ret (.int 256) := rfl
def f4 (s : List Int) : List Int := if s = [0, 0] then [1, 0] else if s = [0, 1] then [0, 0] else if s = [1, 0] then [1, 1] else [0, 1]
theorem dn_f4 : dn 2 f4 = [(Sd [0, 0], Sd [1, 0]), (Sd [0, 1], Sd [0, 0]), (Sd [1, 0], Sd [1, 1]), (Sd [1, 1], Sd [0, 1])] := rfl
theorem r_four : P1 34 [] = ret (.dct (dn 2 f4)) := by
  rw [dn_f4]
  rfl
theorem v_f4 : Vn 2 f4 := ⟨by decide, by decide, by decide⟩
end LW
end
section
set_option Elab.async false
set_option linter.all false
set_option maxRecDepth 100000
set_option maxHeartbeats 1000000
set_option autoImplicit false
namespace LW
open VS
def zd (xs ys : List (List Int)) : List (D × D) := (xs.zip ys).map fun p => (Sd p.1, Sd p.2)
theorem zd_put : ∀ (xs ys : List (List Int)) (s y : List Int), xs.Nodup → xs[ys.length]? = some s → dput (zd xs ys) (Sd s) (Sd y) = zd xs (ys ++ [y])
  | [], _, _, _, _, h => by simp [run_eq, ev_lit, ev_var, ev_bor, ev_tup, ev_tupS, ev_lst, ev_dsp, ev_bin, ev_neg, ev_cmp, ev_cmp2, ev_isN, ev_notN, ev_and, ev_or, ev_not, ev_ife, ev_sub, ev_slc, ev_att, ev_call, ev_blt, ev_mt, evs_nil, evs_cons, evSt_nil, evSt_cons, evT_nil, evT_one, evI_seq, evI_range, evI_enum, evI_zip, ex_expr, ex_asg, ex_new, ex_par, ex_app, ex_ret, ex_retN, ex_iff, ex_pass, ex_nev, ex_frz, exs_nil, exs_cons, setT_nm, setT_tp, setTs_nil, setTs_cons, getB, getV, setV, truth, iterOf, seqOf, okIt, itW, isTp, brI, lstAt, dctAt, isTapeAt, frzE, wipeE, isIns, okIs, isB, isC] at h
  | x :: xs, [], s, y, _, h => by
    have h : some x = some s := h
    cases h
    unfold zd
    simp [run_eq, ev_lit, ev_var, ev_bor, ev_tup, ev_tupS, ev_lst, ev_dsp, ev_bin, ev_neg, ev_cmp, ev_cmp2, ev_isN, ev_notN, ev_and, ev_or, ev_not, ev_ife, ev_sub, ev_slc, ev_att, ev_call, ev_blt, ev_mt, evs_nil, evs_cons, evSt_nil, evSt_cons, evT_nil, evT_one, evI_seq, evI_range, evI_enum, evI_zip, ex_expr, ex_asg, ex_new, ex_par, ex_app, ex_ret, ex_retN, ex_iff, ex_pass, ex_nev, ex_frz, exs_nil, exs_cons, setT_nm, setT_tp, setTs_nil, setTs_cons, getB, getV, setV, truth, iterOf, seqOf, okIt, itW, isTp, brI, lstAt, dctAt, isTapeAt, frzE, wipeE, isIns, okIs, isB, isC, dput]
  | x :: xs, z :: ys, s, y, hn, h => by
    obtain ⟨h1, h2⟩ := List.nodup_cons.mp hn
    have h : xs[ys.length]? = some s := by simpa [run_eq, ev_lit, ev_var, ev_bor, ev_tup, ev_tupS, ev_lst, ev_dsp, ev_bin, ev_neg, ev_cmp, ev_cmp2, ev_isN, ev_notN, ev_and, ev_or, ev_not, ev_ife, ev_sub, ev_slc, ev_att, ev_call, ev_blt, ev_mt, evs_nil, evs_cons, evSt_nil, evSt_cons, evT_nil, evT_one, evI_seq, evI_range, evI_enum, evI_zip, ex_expr, ex_asg, ex_new, ex_par, ex_app, ex_ret, ex_retN, ex_iff, ex_pass, ex_nev, ex_frz, exs_nil, exs_cons, setT_nm, setT_tp, setTs_nil, setTs_cons, getB, getV, setV, truth, iterOf, seqOf, okIt, itW, isTp, brI, lstAt, dctAt, isTapeAt, frzE, wipeE, isIns, okIs, isB, isC] using h
    show (if Sd x = Sd s then _ else (Sd x, Sd z) :: dput (zd xs ys) (Sd s) (Sd y)) = (Sd x, Sd z) :: zd xs (ys ++ [y])
    rw [if_neg fun e => h1 (by rw [Sd_inj e]; exact List.mem_of_getElem? h), zd_put xs ys s y h2 h]
theorem zd_len (xs ys : List (List Int)) : (zd xs ys).length ≤ xs.length := by
  unfold zd
  rw [List.length_map, List.length_zip]
  exact Nat.min_le_left ..
theorem zd_key (xs ys : List (List Int)) (s : List Int) : keyOk (zd xs ys) (Sd s) = true := keyOk_Sd (fun p m => by
  obtain ⟨q, _, rfl⟩ := List.mem_map.mp m
  rfl) s
theorem zd_map (f : List Int → List Int) : ∀ xs : List (List Int), zd xs (xs.map f) = xs.map fun s => (Sd s, Sd (f s))
  | [] => rfl
  | x :: xs => by
    show (Sd x, Sd (f x)) :: zd xs (xs.map f) = _
    rw [zd_map f xs]
    rfl
theorem fn_of : ∀ (xs ys : List (List Int)), xs.Nodup → ys.length = xs.length → ∃ f : List Int → List Int, xs.map f = ys
  | [], ys, _, h => ⟨id, by rw [List.length_eq_zero_iff.mp h]; rfl⟩
  | x :: xs, [], _, h => by simp [run_eq, ev_lit, ev_var, ev_bor, ev_tup, ev_tupS, ev_lst, ev_dsp, ev_bin, ev_neg, ev_cmp, ev_cmp2, ev_isN, ev_notN, ev_and, ev_or, ev_not, ev_ife, ev_sub, ev_slc, ev_att, ev_call, ev_blt, ev_mt, evs_nil, evs_cons, evSt_nil, evSt_cons, evT_nil, evT_one, evI_seq, evI_range, evI_enum, evI_zip, ex_expr, ex_asg, ex_new, ex_par, ex_app, ex_ret, ex_retN, ex_iff, ex_pass, ex_nev, ex_frz, exs_nil, exs_cons, setT_nm, setT_tp, setTs_nil, setTs_cons, getB, getV, setV, truth, iterOf, seqOf, okIt, itW, isTp, brI, lstAt, dctAt, isTapeAt, frzE, wipeE, isIns, okIs, isB, isC] at h
  | x :: xs, y :: ys, hn, h => by
    obtain ⟨h1, h2⟩ := List.nodup_cons.mp hn
    obtain ⟨f, hf⟩ := fn_of xs ys h2 (by simpa [run_eq, ev_lit, ev_var, ev_bor, ev_tup, ev_tupS, ev_lst, ev_dsp, ev_bin, ev_neg, ev_cmp, ev_cmp2, ev_isN, ev_notN, ev_and, ev_or, ev_not, ev_ife, ev_sub, ev_slc, ev_att, ev_call, ev_blt, ev_mt, evs_nil, evs_cons, evSt_nil, evSt_cons, evT_nil, evT_one, evI_seq, evI_range, evI_enum, evI_zip, ex_expr, ex_asg, ex_new, ex_par, ex_app, ex_ret, ex_retN, ex_iff, ex_pass, ex_nev, ex_frz, exs_nil, exs_cons, setT_nm, setT_tp, setTs_nil, setTs_cons, getB, getV, setV, truth, iterOf, seqOf, okIt, itW, isTp, brI, lstAt, dctAt, isTapeAt, frzE, wipeE, isIns, okIs, isB, isC] using h)
    refine ⟨fun s => if s = x then y else f s, ?_⟩
    rw [List.map_cons, if_pos rfl, ← hf]
    congr 1
    exact List.map_congr_left fun s m => if_neg fun (e : s = x) => h1 (by rw [← e]; exact m)
/-- a net in its dict -/
def IsNet (d : D) : Prop := ∃ n f, Vn n f ∧ d = .dct (dn n f)
theorem zd_net {n : Nat} (h1 : 1 ≤ n) (h5 : n ≤ 5) {ys : List (List Int)} (hl : ys.length = 2 ^ n) (hy : ∀ y ∈ ys, y ∈ stsL n) : IsNet (.dct (zd (stsL n) ys)) := by
  obtain ⟨f, hf⟩ := fn_of (stsL n) ys (stsL_nodup n) (by rw [hl, stsL_size])
  refine ⟨n, f, ⟨h1, h5, fun s hs => hy _ (by rw [← hf]; exact List.mem_map.mpr ⟨s, hs, rfl⟩)⟩, ?_⟩
  rw [← hf, zd_map]
  rfl
theorem rangeS_int : ∀ (n : Nat) (lo s : Int), ∀ x ∈ rangeS lo s n, ∃ z, x = .int z
  | n + 1, lo, s, x, m => (List.mem_cons.mp m).elim (fun e => ⟨_, e⟩) fun m => rangeS_int n (lo + s) s x m
theorem rangeS_ln : ∀ (n : Nat) (lo s : Int), (rangeS lo s n).length = n
  | 0, _, _ => rfl
  | n + 1, lo, s => by rw [rangeS, List.length_cons, rangeS_ln n]
theorem sub_sts {l : List (List Int)} {x : Int} (h0 : 0 ≤ x) (h1 : x < (l.length : Nat)) : ∃ s ∈ l, subM (.lst (l.map Sd)) (.int x) = ret (Sd s) := by
  obtain ⟨d, hd, e⟩ := sub_at (l := l.map Sd) h0 (by rw [List.length_map]; exact h1)
  obtain ⟨s, hs, rfl⟩ := List.mem_map.mp hd
  exact ⟨s, hs, e⟩
abbrev sE (d : D) : Option (D × Bool) := some (d, false)
abbrev oE (d : D) : Option (D × Bool) := some (d, true)
abbrev smallB : List Stm := [.par 9 10 true false (.dsp []) (.var 5), .for (.nm 8) (.seq (.bor 6)) [.put 9 (.var 8) (.sub (.bor 6) (.bin .mod (.blt .int [.bor 10]) (.blt .len [.bor 6]))), .asg (.nm 10) (.bin .fdiv (.bor 10) (.blt .len [.bor 6]))], .frz [9] (.app 2 (.var 9))]
theorem small_turn (Φ : Nat → List D → M D) (n : Nat) (h1 : 1 ≤ n) (h2 : n ≤ 5) (l : List D) (hl : l.length < lim) (z : Int) (a3 a4 a7 a8 a9 a10 : Option (D × Bool)) (t : VS.Tape) :
    wp (execs Φ 100000 smallB [tE, sE (.int 4), oE (.lst l), a3, a4, sE (.int z), sE (.lst ((stsL n).map Sd)), a7, a8, a9, a10]) (fun r t' => t' = t ∧ r.1 = .nx ∧ ∃ (d : D) (b8 b9 b10 : Option (D × Bool)), IsNet d ∧ r.2 = [tE, sE (.int 4), oE (.lst (l ++ [d])), a3, a4, sE (.int z), sE (.lst ((stsL n).map Sd)), a7, b8, b9, b10]) t := by
  have hlen : bltS .len [.lst ((stsL n).map Sd)] = some (.int ((2 ^ n : Nat) : Int)) := by rw [len_lst, sts_len]
  have hpos : (0 : Int) < ((2 ^ n : Nat) : Int) := by have := Nat.pow_pos (n := n) (show 0 < 2 by decide); omega
  have hsm : ((2 ^ n : Nat) : Int) ≤ 32 := by have := pow_32 h2; omega
  have hnl : (stsL n).length = 2 ^ n := stsL_size n
  generalize ((2 ^ n : Nat) : Int) = p at hlen hpos hsm
  have hp' : ((stsL n).length : Nat) = p → True := fun _ => trivial
  have hpl : p = ((stsL n).length : Nat) := by
    have := hlen
    rw [len_lst, List.length_map] at this
    simpa [run_eq, ev_lit, ev_var, ev_bor, ev_tup, ev_tupS, ev_lst, ev_dsp, ev_bin, ev_neg, ev_cmp, ev_cmp2, ev_isN, ev_notN, ev_and, ev_or, ev_not, ev_ife, ev_sub, ev_slc, ev_att, ev_call, ev_blt, ev_mt, evs_nil, evs_cons, evSt_nil, evSt_cons, evT_nil, evT_one, evI_seq, evI_range, evI_enum, evI_zip, ex_expr, ex_asg, ex_new, ex_par, ex_app, ex_ret, ex_retN, ex_iff, ex_pass, ex_nev, ex_frz, exs_nil, exs_cons, setT_nm, setT_tp, setTs_nil, setTs_cons, getB, getV, setV, truth, iterOf, seqOf, okIt, itW, isTp, brI, lstAt, dctAt, isTapeAt, frzE, wipeE, isIns, okIs, isB, isC] using this.symm
  refine wp_p (ρ' := [tE, sE (.int 4), oE (.lst l), a3, a4, sE (.int z), sE (.lst ((stsL n).map Sd)), a7, a8, oE (.dct (zd (stsL n) [])), sE (.int z)]) (by simp [run_eq, ev_lit, ev_var, ev_bor, ev_tup, ev_tupS, ev_lst, ev_dsp, ev_bin, ev_neg, ev_cmp, ev_cmp2, ev_isN, ev_notN, ev_and, ev_or, ev_not, ev_ife, ev_sub, ev_slc, ev_att, ev_call, ev_blt, ev_mt, evs_nil, evs_cons, evSt_nil, evSt_cons, evT_nil, evT_one, evI_seq, evI_range, evI_enum, evI_zip, ex_expr, ex_asg, ex_new, ex_par, ex_app, ex_ret, ex_retN, ex_iff, ex_pass, ex_nev, ex_frz, exs_nil, exs_cons, setT_nm, setT_tp, setTs_nil, setTs_cons, getB, getV, setV, truth, iterOf, seqOf, okIt, itW, isTp, brI, lstAt, dctAt, isTapeAt, frzE, wipeE, isIns, okIs, isB, isC, frs, isMut, zd]) ?_
  refine wp_f (l := (stsL n).map Sd) (fun i ρ t' => t' = t ∧ ∃ (ys : List (List Int)) (w : Int) (b8 : Option (D × Bool)), ys.length = i ∧ (∀ y ∈ ys, y ∈ stsL n) ∧ ρ = [tE, sE (.int 4), oE (.lst l), a3, a4, sE (.int z), sE (.lst ((stsL n).map Sd)), a7, b8, oE (.dct (zd (stsL n) ys)), sE (.int w)]) rfl rfl (by simp [run_eq, ev_lit, ev_var, ev_bor, ev_tup, ev_tupS, ev_lst, ev_dsp, ev_bin, ev_neg, ev_cmp, ev_cmp2, ev_isN, ev_notN, ev_and, ev_or, ev_not, ev_ife, ev_sub, ev_slc, ev_att, ev_call, ev_blt, ev_mt, evs_nil, evs_cons, evSt_nil, evSt_cons, evT_nil, evT_one, evI_seq, evI_range, evI_enum, evI_zip, ex_expr, ex_asg, ex_new, ex_par, ex_app, ex_ret, ex_retN, ex_iff, ex_pass, ex_nev, ex_frz, exs_nil, exs_cons, setT_nm, setT_tp, setTs_nil, setTs_cons, getB, getV, setV, truth, iterOf, seqOf, okIt, itW, isTp, brI, lstAt, dctAt, isTapeAt, frzE, wipeE, isIns, okIs, isB, isC]) ⟨rfl, [], z, a8, rfl, (fun y m => by cases m), rfl⟩ (fun i x ρ t2 e hi => ?_) fun ρ t2 hi => ?_
  · obtain ⟨rfl, ys, w, b8, hy1, hy2, rfl⟩ := hi
    rw [List.getElem?_map] at e
    obtain ⟨s, hs, rfl⟩ := Option.map_eq_some_iff.mp e
    obtain ⟨q1, q2⟩ := fmod_lt (a := w) hpos
    obtain ⟨u, hu, hsub⟩ := sub_sts (l := stsL n) q1 (by rw [← hpl]; exact q2)
    refine wp_t (ρ' := [tE, sE (.int 4), oE (.lst l), a3, a4, sE (.int z), sE (.lst ((stsL n).map Sd)), a7, sE (Sd s), oE (.dct (zd (stsL n) ys)), sE (.int w)]) rfl ?_
    have hput := zd_put (stsL n) ys s u (stsL_nodup n) (by rw [hy1]; exact hs)
    have hk := zd_key (stsL n) ys s
    have hlt : (zd (stsL n) ys).length < lim := Nat.lt_of_le_of_lt (zd_len _ _) (by rw [hnl]; exact Nat.lt_of_le_of_lt (pow_32 h2) (by decide))
    refine wp_p (ρ' := [tE, sE (.int 4), oE (.lst l), a3, a4, sE (.int z), sE (.lst ((stsL n).map Sd)), a7, sE (Sd s), oE (.dct (zd (stsL n) (ys ++ [u]))), sE (.int w)]) ?_ ?_
    · rw [ex_put]
      simp [run_eq, ev_lit, ev_var, ev_bor, ev_tup, ev_tupS, ev_lst, ev_dsp, ev_bin, ev_neg, ev_cmp, ev_cmp2, ev_isN, ev_notN, ev_and, ev_or, ev_not, ev_ife, ev_sub, ev_slc, ev_att, ev_call, ev_blt, ev_mt, evs_nil, evs_cons, evSt_nil, evSt_cons, evT_nil, evT_one, evI_seq, evI_range, evI_enum, evI_zip, ex_expr, ex_asg, ex_new, ex_par, ex_app, ex_ret, ex_retN, ex_iff, ex_pass, ex_nev, ex_frz, exs_nil, exs_cons, setT_nm, setT_tp, setTs_nil, setTs_cons, getB, getV, setV, truth, iterOf, seqOf, okIt, itW, isTp, brI, lstAt, dctAt, isTapeAt, frzE, wipeE, isIns, okIs, isB, isC, int_int, hlen, mod_int _ _ (show p ≠ 0 by omega), hsub, hk, hlt, hput]
    · exact wp_p (ρ' := [tE, sE (.int 4), oE (.lst l), a3, a4, sE (.int z), sE (.lst ((stsL n).map Sd)), a7, sE (Sd s), oE (.dct (zd (stsL n) (ys ++ [u]))), sE (.int (w.fdiv p))]) (by simp [run_eq, ev_lit, ev_var, ev_bor, ev_tup, ev_tupS, ev_lst, ev_dsp, ev_bin, ev_neg, ev_cmp, ev_cmp2, ev_isN, ev_notN, ev_and, ev_or, ev_not, ev_ife, ev_sub, ev_slc, ev_att, ev_call, ev_blt, ev_mt, evs_nil, evs_cons, evSt_nil, evSt_cons, evT_nil, evT_one, evI_seq, evI_range, evI_enum, evI_zip, ex_expr, ex_asg, ex_new, ex_par, ex_app, ex_ret, ex_retN, ex_iff, ex_pass, ex_nev, ex_frz, exs_nil, exs_cons, setT_nm, setT_tp, setTs_nil, setTs_cons, getB, getV, setV, truth, iterOf, seqOf, okIt, itW, isTp, brI, lstAt, dctAt, isTapeAt, frzE, wipeE, isIns, okIs, isB, isC, hlen, fdiv_int _ _ (show p ≠ 0 ∧ p.natAbs < 1073741824 by omega)])
        (wp_n ⟨rfl, rfl, _, _, _, by rw [List.length_append, hy1]; rfl, fun y m => (List.mem_append.mp m).elim (hy2 y) (fun m => by rw [List.mem_singleton.mp m]; exact hu), rfl⟩)
  · obtain ⟨rfl, ys, w, b8, hy1, hy2, rfl⟩ := hi
    rw [List.length_map, hnl] at hy1
    refine wp_p (ρ' := [tE, sE (.int 4), oE (.lst (l ++ [.dct (zd (stsL n) ys)])), a3, a4, sE (.int z), sE (.lst ((stsL n).map Sd)), a7, b8, sE (.dct (zd (stsL n) ys)), sE (.int w)]) (by simp [run_eq, ev_lit, ev_var, ev_bor, ev_tup, ev_tupS, ev_lst, ev_dsp, ev_bin, ev_neg, ev_cmp, ev_cmp2, ev_isN, ev_notN, ev_and, ev_or, ev_not, ev_ife, ev_sub, ev_slc, ev_att, ev_call, ev_blt, ev_mt, evs_nil, evs_cons, evSt_nil, evSt_cons, evT_nil, evT_one, evI_seq, evI_range, evI_enum, evI_zip, ex_expr, ex_asg, ex_new, ex_par, ex_app, ex_ret, ex_retN, ex_iff, ex_pass, ex_nev, ex_frz, exs_nil, exs_cons, setT_nm, setT_tp, setTs_nil, setTs_cons, getB, getV, setV, truth, iterOf, seqOf, okIt, itW, isTp, brI, lstAt, dctAt, isTapeAt, frzE, wipeE, isIns, okIs, isB, isC, hl]) (wp_n ⟨rfl, rfl, _, _, _, _, zd_net h1 h2 hy1 hy2, rfl⟩)
abbrev smallO : List Stm := [.par 6 7 false false (.call 29 [.var 3]) (.call 25 [.var 0, .var 1]), .asg (.nm 4) (.call 28 [.blt .len [.bor 6], .blt .len [.bor 6]]), .for (.nm 5) (.seq (.ife (.cmp .eq (.bor 3) (.lit (.int 1))) (.blt .listRange [.var 4]) (.blt .listRange [.var 7, .var 4, .var 1]))) smallB]
theorem small_outer (Φ : Nat → List D → M D) (hd : Drw Φ 25) (n : Nat) (h1 : 1 ≤ n) (h2 : n ≤ 5) (zn : Int) (tot : Int) (h29 : Φ 29 [.int zn] = ret (.lst ((stsL n).map Sd))) (h28 : Φ 28 [.int (((stsL n).map Sd).length : Nat), .int (((stsL n).map Sd).length : Nat)] = ret (.int tot)) (ht : zn = 1 ∧ tot = 4 ∨ zn = 2 ∧ tot = 256)
    (l : List D) (hl : l.length ≤ 300) (hg : ∀ d ∈ l, IsNet d) (a4 a5 a6 a7 a8 a9 a10 : Option (D × Bool)) (t : VS.Tape) :
    wp (execs Φ 100000 smallO [tE, sE (.int 4), oE (.lst l), sE (.int zn), a4, a5, a6, a7, a8, a9, a10]) (fun r _ => r.1 = .nx ∧ ∃ (m : List D) (b3 b4 b5 b6 b7 b8 b9 b10 : Option (D × Bool)), m.length ≤ l.length + 100 ∧ (∀ d ∈ m, IsNet d) ∧ r.2 = [tE, sE (.int 4), oE (.lst m), b3, b4, b5, b6, b7, b8, b9, b10]) t := by
  obtain ⟨d, t1, e, x, rfl, x0, x1⟩ := hd 4 (by decide) (by decide) t
  refine wp_s (ρ' := [tE, sE (.int 4), oE (.lst l), sE (.int zn), a4, a5, sE (.lst ((stsL n).map Sd)), sE (.int x), a8, a9, a10]) (t' := t1) ?_ ?_
  · show bnd (Φ 29 [.int zn]) (fun y => bnd (Φ 25 [.tape, .int 4]) fun w => ret (Fl.nx, [tE, sE (.int 4), oE (.lst l), sE (.int zn), a4, a5, sE y, sE w, a8, a9, a10])) t = _
    rw [h29, bnd_ret, bnd_ok e]
    rfl
  refine wp_p (ρ' := [tE, sE (.int 4), oE (.lst l), sE (.int zn), sE (.int tot), a5, sE (.lst ((stsL n).map Sd)), sE (.int x), a8, a9, a10]) ?_ ?_
  · show bnd (Φ 28 [.int (((stsL n).map Sd).length : Nat), .int (((stsL n).map Sd).length : Nat)]) (fun y => ret (Fl.nx, [tE, sE (.int 4), oE (.lst l), sE (.int zn), sE y, a5, sE (.lst ((stsL n).map Sd)), sE (.int x), a8, a9, a10])) = _
    rw [h28]
    rfl
  have hit : ∃ items : List D, evI Φ (.seq (.ife (.cmp .eq (.bor 3) (.lit (.int 1))) (.blt .listRange [.var 4]) (.blt .listRange [.var 7, .var 4, .var 1]))) [tE, sE (.int 4), oE (.lst l), sE (.int zn), sE (.int tot), a5, sE (.lst ((stsL n).map Sd)), sE (.int x), a8, a9, a10] = ret items ∧ (∀ y ∈ items, ∃ z, y = .int z) ∧ items.length ≤ 100 := by
    rcases ht with ⟨rfl, rfl⟩ | ⟨rfl, rfl⟩
    · exact ⟨[.int 0, .int 1, .int 2, .int 3], rfl, fun y m => by
        simp only [List.mem_cons, List.not_mem_nil, or_false] at m
        rcases m with e | e | e | e <;> exact ⟨_, e⟩, by decide⟩
    · have hx : rangeOf [.int x, .int 256, .int 4] = some (rangeS x 4 ((256 - x + 4 - 1) / 4).toNat) := by
        show (if (inR x && inR 256 && decide ((0 : Int) < 4 ∧ (4 : Int) < 2 ^ 30)) = true then some (rangeS x 4 ((256 - x + 4 - 1) / 4).toNat) else none) = _
        rw [if_pos (by rw [Bool.and_eq_true, Bool.and_eq_true]; exact ⟨⟨decide_eq_true (by omega), by decide⟩, by decide⟩)]
      have hln : (rangeS x 4 ((256 - x + 4 - 1) / 4).toNat).length ≤ 100 := by rw [rangeS_ln]; omega
      refine ⟨_, ?_, rangeS_int _ x 4, hln⟩
      have hb : bltS .listRange [.int x, .int 256, .int 4] = some (.lst (rangeS x 4 ((256 - x + 4 - 1) / 4).toNat)) := by
        show (rangeOf [.int x, .int 256, .int 4]).bind (fun r => if r.length ≤ lim then some (D.lst r) else none) = _
        rw [hx]
        exact if_pos (Nat.le_trans hln (by decide))
      show bnd (bnd (ret (.bl false)) fun y => bnd (lft (truth y)) fun k => if k then lft (bltS .listRange [.int 256]) else lft (bltS .listRange [.int x, .int 256, .int 4])) (fun y => lft (iterOf y)) = _
      rw [hb]
      rfl
  obtain ⟨items, hi1, hi2, hi3⟩ := hit
  refine wp_f (l := items) (fun i ρ _ => ∃ (m : List D) (b5 b8 b9 b10 : Option (D × Bool)), m.length = l.length + i ∧ (∀ d ∈ m, IsNet d) ∧ ρ = [tE, sE (.int 4), oE (.lst m), sE (.int zn), sE (.int tot), b5, sE (.lst ((stsL n).map Sd)), sE (.int x), b8, b9, b10]) rfl rfl hi1 ⟨l, _, _, _, _, rfl, hg, rfl⟩ (fun i y ρ t2 e2 hi => ?_) fun ρ t2 hi => ?_
  · obtain ⟨m, b5, b8, b9, b10, hm1, hm2, rfl⟩ := hi
    obtain ⟨z, rfl⟩ := hi2 y (List.mem_of_getElem? e2)
    have hlt := (List.getElem?_eq_some_iff.mp e2).1
    refine wp_t (ρ' := [tE, sE (.int 4), oE (.lst m), sE (.int zn), sE (.int tot), sE (.int z), sE (.lst ((stsL n).map Sd)), sE (.int x), b8, b9, b10]) rfl ?_
    refine wp_mono (small_turn Φ n h1 h2 m (Nat.lt_of_le_of_lt (show m.length ≤ 1000 by omega) (by decide)) z (sE (.int zn)) (sE (.int tot)) (sE (.int x)) b8 b9 b10 t2) fun r t' q => ?_
    obtain ⟨rfl, q1, d, c8, c9, c10, hd', q2⟩ := q
    exact ⟨q1, m ++ [d], _, _, _, _, by rw [List.length_append, hm1]; rfl, fun y hy => (List.mem_append.mp hy).elim (hm2 y) (fun hy => by rw [List.mem_singleton.mp hy]; exact hd'), q2⟩
  · obtain ⟨m, b5, b8, b9, b10, hm1, hm2, rfl⟩ := hi
    exact wp_n ⟨rfl, m, _, _, _, _, _, _, _, _, by omega, hm2, rfl⟩
theorem W_small (Φ : Nat → List D → M D) (hd : Drw Φ 25) (h29a : Φ 29 [.int 1] = ret (.lst ((stsL 1).map Sd))) (h29b : Φ 29 [.int 2] = ret (.lst ((stsL 2).map Sd))) (h28a : Φ 28 [.int 2, .int 2] = ret (.int 4)) (h28b : Φ 28 [.int 4, .int 4] = ret (.int 256)) (t : VS.Tape) :
    wp (VS.run Φ 100000 b__law_small_nets [.tape, .int 4]) (fun d _ => ∃ l, d = .lst l ∧ ∀ x ∈ l, IsNet x) t := by
  rw [run_eq]
  refine wp_bnd ?_
  show wp (execs Φ 100000 [.new 2 (.lst []), .for (.nm 3) (.seq (.lst [.lit (.int 1), .lit (.int 2)])) smallO, .frz [2] (.ret (.var 2))] [tE, sE (.int 4), none, none, none, none, none, none, none, none, none]) _ t
  refine wp_p (ρ' := [tE, sE (.int 4), oE (.lst []), none, none, none, none, none, none, none, none]) rfl ?_
  refine wp_f (l := [.int 1, .int 2]) (fun i ρ _ => ∃ (m : List D) (b3 b4 b5 b6 b7 b8 b9 b10 : Option (D × Bool)), m.length ≤ 100 * i ∧ (∀ d ∈ m, IsNet d) ∧ ρ = [tE, sE (.int 4), oE (.lst m), b3, b4, b5, b6, b7, b8, b9, b10]) rfl rfl rfl ⟨[], _, _, _, _, _, _, _, _, Nat.zero_le _, (fun d m => by cases m), rfl⟩ (fun i y ρ t2 e2 hi => ?_) fun ρ t2 hi => ?_
  · obtain ⟨m, b3, b4, b5, b6, b7, b8, b9, b10, hm1, hm2, rfl⟩ := hi
    have hlt := (List.getElem?_eq_some_iff.mp e2).1
    have hlt : i < 2 := hlt
    match i, e2, hm1, hlt with
    | 0, e2, hm1, _ =>
      cases e2
      refine wp_t (ρ' := [tE, sE (.int 4), oE (.lst m), sE (.int 1), b4, b5, b6, b7, b8, b9, b10]) rfl ?_
      refine wp_mono (small_outer Φ hd 1 (by decide) (by decide) 1 4 h29a h28a (.inl ⟨rfl, rfl⟩) m (by omega) hm2 b4 b5 b6 b7 b8 b9 b10 t2) fun r t' q => ?_
      obtain ⟨q1, m', c3, c4, c5, c6, c7, c8, c9, c10, q2, q3, q4⟩ := q
      exact ⟨q1, m', _, _, _, _, _, _, _, _, by omega, q3, q4⟩
    | 1, e2, hm1, _ =>
      cases e2
      refine wp_t (ρ' := [tE, sE (.int 4), oE (.lst m), sE (.int 2), b4, b5, b6, b7, b8, b9, b10]) rfl ?_
      refine wp_mono (small_outer Φ hd 2 (by decide) (by decide) 2 256 h29b h28b (.inr ⟨rfl, rfl⟩) m (by omega) hm2 b4 b5 b6 b7 b8 b9 b10 t2) fun r t' q => ?_
      obtain ⟨q1, m', c3, c4, c5, c6, c7, c8, c9, c10, q2, q3, q4⟩ := q
      exact ⟨q1, m', _, _, _, _, _, _, _, _, by omega, q3, q4⟩
  · obtain ⟨m, b3, b4, b5, b6, b7, b8, b9, b10, hm1, hm2, rfl⟩ := hi
    exact wp_r (d := .lst m) (ρ' := [tE, sE (.int 4), sE (.lst m), b3, b4, b5, b6, b7, b8, b9, b10]) rfl (wp_ret ⟨m, rfl, hm2⟩)
end LW
end
section
set_option Elab.async false
set_option linter.all false
set_option maxRecDepth 100000
set_option maxHeartbeats 1000000
set_option autoImplicit false
namespace LW
open VS
section
variable {Φ : Nat → List D → M D} {fu : Nat} {ρ ρ' : Env} {P : Fl × Env → VS.Tape → Prop} {t : VS.Tape} {ss : List Stm} {e k v : Ex} {tg : Tg} {i : Nat}
theorem wp_asg (h : wp (ev Φ e ρ) (fun d t' => ∃ ρ', setT tg d ρ = some ρ' ∧ wp (execs Φ fu ss ρ') P t') t) : wp (execs Φ fu (.asg tg e :: ss) ρ) P t := by
  obtain ⟨d, t', e1, ρ', e2, w⟩ := h
  exact wp_s (ρ' := ρ') (t' := t') (by rw [ex_asg, bnd_ok e1, e2]; rfl) w
theorem wp_ife {a b : Ex} {c : Ex} {x : Bool} {Q : D → VS.Tape → Prop} (hc : ev Φ c ρ = ret (.bl x)) (h : wp (if x then ev Φ a ρ else ev Φ b ρ) Q t) : wp (ev Φ (.ife c a b) ρ) Q t := by
  rw [ev_ife, hc]
  exact h
theorem wp_iff {a b : List Stm} {c : Ex} {x : Bool} (hc : ev Φ c ρ = ret (.bl x)) (h1 : x = true → wp (execs Φ fu (a ++ ss) ρ) P t) (h2 : x = false → wp (execs Φ fu (b ++ ss) ρ) P t) : wp (execs Φ fu (.iff c a b :: ss) ρ) P t := by
  have app : ∀ (a : List Stm) (ρ : Env), execs Φ fu (a ++ ss) ρ = bnd (execs Φ fu a ρ) fun r => match r.1 with
      | .nx => execs Φ fu ss r.2
      | f => ret (f, r.2) := by
    intro a
    induction a with
    | nil => intro ρ; rfl
    | cons s a ih =>
      intro ρ
      rw [List.cons_append, exs_cons, exs_cons, bnd_bnd]
      congr 1
      funext r
      obtain ⟨f, ρ1⟩ := r
      cases f with
      | nx => exact ih ρ1
      | _ => rfl
  rw [exs_cons, ex_iff, hc]
  cases x with
  | true => have := h1 rfl; rw [app] at this; exact this
  | false => have := h2 rfl; rw [app] at this; exact this
theorem wp_put {kvs : List (D × D)} (hd : dctAt ρ i = some kvs) (hl : kvs.length < lim) (h : wp (ev Φ v ρ) (fun y t' => ∃ x, ev Φ k ρ = ret x ∧ keyOk kvs x = true ∧ wp (execs Φ fu ss (setV ρ i (.dct (dput kvs x y)) true)) P t') t) : wp (execs Φ fu (.put i k v :: ss) ρ) P t := by
  obtain ⟨y, t', e1, x, e2, e3, w⟩ := h
  refine wp_s (t' := t') ?_ w
  rw [ex_put, hd]
  show bnd (ev Φ v ρ) (fun y => bnd (ev Φ k ρ) fun x => if keyOk kvs x && decide (kvs.length < lim) then ret (Fl.nx, setV ρ i (.dct (dput kvs x y)) true) else stuck) t = _
  rw [bnd_ok e1, e2, bnd_ret, e3, decide_eq_true hl]
  rfl
theorem wp_app {l : List D} (hd : lstAt ρ i = some l) (hl : l.length < lim) (h : wp (ev Φ e ρ) (fun y t' => wp (execs Φ fu ss (setV ρ i (.lst (l ++ [y])) true)) P t') t) : wp (execs Φ fu (.app i e :: ss) ρ) P t := by
  obtain ⟨y, t', e1, w⟩ := h
  refine wp_s (t' := t') ?_ w
  rw [ex_app, hd]
  show bnd (ev Φ e ρ) (fun d => if l.length < lim then ret (Fl.nx, setV ρ i (.lst (l ++ [d])) true) else stuck) t = _
  rw [bnd_ok e1, if_pos hl]
  rfl
theorem wp_comp {ρ₀ : Env} {own : List Nat} {it : It} {elt : Ex} {items : List D} (Q : D → Prop) (h1 : okIt it tg = true) (h2 : wp (evI Φ it ρ) (fun a _ => a = items) t) (h3 : wipeE ρ own = some ρ₀) (hs : ∀ x ∈ items, ∀ t, wp (cStep Φ ρ₀ tg [] elt x) (fun r _ => ∃ y, r = [y] ∧ Q y) t) (hl : items.length ≤ lim) :
    wp (ev Φ (.comp own tg it [] elt) ρ) (fun d _ => ∃ l, d = .lst l ∧ l.length = items.length ∧ ∀ y ∈ l, Q y) t := by
  rw [ev_comp, if_pos h1]
  refine wp_bnd (wp_mono h2 fun a t1 ea => ?_)
  subst ea
  rw [h3]
  show wp (bnd (sealM (flatM (cStep Φ ρ₀ tg [] elt) a)) _) _ _
  have w := wp_flatM (f := cStep Φ ρ₀ tg [] elt) (fun i acc _ => acc.length = i ∧ ∀ y ∈ acc, Q y) a 0 [] (t := t1) (P := fun r _ => r.length = a.length ∧ ∀ y ∈ r, Q y) ⟨rfl, fun y m => by cases m⟩ (fun i x acc t2 ex hi => wp_mono (hs x (List.mem_of_getElem? ex) t2) fun r t3 q => by
    obtain ⟨y, rfl, hy⟩ := q
    exact ⟨by rw [List.length_append, hi.1]; rfl, fun z m => (List.mem_append.mp m).elim (hi.2 z) fun m => by rw [List.mem_singleton.mp m]; exact hy⟩) fun r t2 q => by simpa [run_eq, ev_lit, ev_var, ev_bor, ev_tup, ev_tupS, ev_lst, ev_dsp, ev_bin, ev_neg, ev_cmp, ev_cmp2, ev_isN, ev_notN, ev_and, ev_or, ev_not, ev_ife, ev_sub, ev_slc, ev_att, ev_call, ev_blt, ev_mt, evs_nil, evs_cons, evSt_nil, evSt_cons, evT_nil, evT_one, evI_seq, evI_range, evI_enum, evI_zip, ex_expr, ex_asg, ex_new, ex_par, ex_app, ex_ret, ex_retN, ex_iff, ex_pass, ex_nev, ex_frz, exs_nil, exs_cons, setT_nm, setT_tp, setTs_nil, setTs_cons, getB, getV, setV, truth, iterOf, seqOf, okIt, itW, isTp, brI, lstAt, dctAt, isTapeAt, frzE, wipeE, isIns, okIs, isB, isC] using q
  obtain ⟨r, t', e1, q1, q2⟩ := w
  refine wp_bnd ⟨r, t', ?_, ?_⟩
  · unfold sealM
    rw [e1]
  · show wp (if r.length ≤ lim then ret (D.lst r) else stuck) _ _
    rw [if_pos (by rw [q1]; exact hl)]
    exact wp_ret ⟨r, rfl, q1, q2⟩
end
theorem ints_of {p : Int → Prop} : ∀ {l : List D}, (∀ y ∈ l, ∃ z, y = .int z ∧ p z) → ∃ s : List Int, l = s.map .int ∧ ∀ z ∈ s, p z
  | [], _ => ⟨[], rfl, fun _ m => by cases m⟩
  | d :: l, h => by
    obtain ⟨z, rfl, hz⟩ := h d (List.mem_cons_self ..)
    obtain ⟨s, rfl, hs⟩ := ints_of fun y m => h y (List.mem_cons_of_mem _ m)
    exact ⟨z :: s, rfl, fun x m => (List.mem_cons.mp m).elim (fun e => e ▸ hz) (hs x)⟩
/-- a rule: the switches asked, the table -/
def IsRule (n : Nat) (d : D) : Prop := ∃ as tb : List Int, d = .tup [.lst (as.map .int), .lst (tb.map .int)] ∧ as ≠ [] ∧ (∀ a ∈ as, 0 ≤ a ∧ a < n) ∧ tb.length = 4 ∧ ∀ b ∈ tb, b = 0 ∨ b = 1
theorem lst_at (as : List Int) {x : Int} (h0 : 0 ≤ x) (h1 : x < (as.length : Nat)) : ∃ a ∈ as, subM (.lst (as.map .int)) (.int x) = ret (.int a) := by
  obtain ⟨d, hd, e⟩ := sub_at (l := as.map D.int) h0 (by rw [List.length_map]; exact h1)
  obtain ⟨a, ha, rfl⟩ := List.mem_map.mp hd
  exact ⟨a, ha, e⟩
theorem lst_last (as : List Int) (h : as ≠ []) : ∃ a ∈ as, subM (.lst (as.map .int)) (.int (-1)) = ret (.int a) := by
  have hp : 0 < as.length := List.length_pos_iff.mpr h
  have hlt : as.length - 1 < as.length := by omega
  refine ⟨as[as.length - 1], List.getElem_mem hlt, ?_⟩
  show lft ((ixOf (as.map D.int).length (-1)).bind ((as.map D.int)[·]?)) = _
  have e3 : ixOf (as.map D.int).length (-1) = some (as.length - 1) := by
    rw [List.length_map]
    unfold ixOf
    rw [if_neg (by decide), if_pos (by omega)]
    congr 1
    omega
  rw [e3]
  show lft ((as.map D.int)[as.length - 1]?) = _
  rw [List.getElem?_map, List.getElem?_eq_getElem hlt]
  rfl
theorem sd_at (s : List Int) {x : Int} (h0 : 0 ≤ x) (h1 : x < (s.length : Nat)) : ∃ a ∈ s, subM (Sd s) (.int x) = ret (.int a) := by
  obtain ⟨e, hl⟩ := ix_pos h0 h1
  refine ⟨s[x.toNat], List.getElem_mem hl, ?_⟩
  show lft ((ixOf (s.map D.int).length x).bind ((s.map D.int)[·]?)) = _
  rw [List.length_map, e]
  show lft ((s.map D.int)[x.toNat]?) = _
  rw [List.getElem?_map, List.getElem?_eq_getElem hl]
  rfl
abbrev eltR : Ex := .sub (.bor 11) (.bin .add (.bin .mul (.sub (.bor 4) (.sub (.bor 9) (.lit (.int 0)))) (.lit (.int 2))) (.sub (.bor 4) (.sub (.bor 9) (.neg (.lit (.int 1))))))
theorem rule_val (Φ : Nat → List D → M D) {n : Nat} {s : List Int} (hs : s ∈ stsL n) {d : D} (hr : IsRule n d) (a0 a1 a2 a3 a5 a6 a7 a8 a10 : Option (D × Bool)) (t : VS.Tape) : wp (cStep Φ [a0, a1, a2, a3, sE (Sd s), a5, a6, a7, a8, none, a10, none] (.tp [.nm 9, .nm 11]) [] eltR d) (fun r _ => ∃ y, r = [y] ∧ ∃ z, y = .int z ∧ (z = 0 ∨ z = 1)) t := by
  obtain ⟨as, tb, rfl, h1, h2, h3, h4⟩ := hr
  have hsl := stsL_len n s hs
  have hsb := stsL_bit n s hs
  obtain ⟨x, hx, e1⟩ := lst_at as (x := 0) (by decide) (by have := List.length_pos_iff.mpr h1; omega)
  obtain ⟨y, hy, e2⟩ := lst_last as h1
  obtain ⟨b, hb, e3⟩ := sd_at s (h2 x hx).1 (by rw [hsl]; exact (h2 x hx).2)
  obtain ⟨c, hc, e4⟩ := sd_at s (h2 y hy).1 (by rw [hsl]; exact (h2 y hy).2)
  have r1 := hsb b hb
  have r2 := hsb c hc
  obtain ⟨z, hz, e5⟩ := lst_at tb (x := b * 2 + c) (by omega) (by rw [h3]; omega)
  refine ⟨[.int z], t, ?_, .int z, rfl, z, rfl, h4 z hz⟩
  have : cStep Φ [a0, a1, a2, a3, sE (Sd s), a5, a6, a7, a8, none, a10, none] (.tp [.nm 9, .nm 11]) [] eltR (.tup [.lst (as.map .int), .lst (tb.map .int)]) = ret [.int z] := by
    simp [run_eq, ev_lit, ev_var, ev_bor, ev_tup, ev_tupS, ev_lst, ev_dsp, ev_bin, ev_neg, ev_cmp, ev_cmp2, ev_isN, ev_notN, ev_and, ev_or, ev_not, ev_ife, ev_sub, ev_slc, ev_att, ev_call, ev_blt, ev_mt, evs_nil, evs_cons, evSt_nil, evSt_cons, evT_nil, evT_one, evI_seq, evI_range, evI_enum, evI_zip, ex_expr, ex_asg, ex_new, ex_par, ex_app, ex_ret, ex_retN, ex_iff, ex_pass, ex_nev, ex_frz, exs_nil, exs_cons, setT_nm, setT_tp, setTs_nil, setTs_cons, getB, getV, setV, truth, iterOf, seqOf, okIt, itW, isTp, brI, lstAt, dctAt, isTapeAt, frzE, wipeE, isIns, okIs, isB, isC, cStep, e1, e2, e3, e4, e5, mul_r _ 2 rfl, add_int]
  rw [this]
  rfl
end LW
end
section
set_option Elab.async false
set_option linter.all false
set_option maxRecDepth 100000
set_option maxHeartbeats 1000000
set_option autoImplicit false
namespace LW
open VS
theorem ev_tup2 {Φ : Nat → List D → M D} {ρ : Env} {a b : Ex} {x y : D} {t t1 t2 : VS.Tape} (h1 : ev Φ a ρ t = some (.ok x, t1)) (h2 : ev Φ b ρ t1 = some (.ok y, t2)) : ev Φ (.tup [a, b]) ρ t = some (.ok (.tup [x, y]), t2) := by
  rw [ev_tup, evs_cons, evs_cons, evs_nil]
  simp only [bnd_bnd]
  rw [bnd_ok h1, bnd_ok h2]
  rfl
theorem zd_nil (xs : List (List Int)) : zd xs [] = [] := by
  unfold zd
  rw [List.zip_nil_right]
  rfl
theorem net_loop (Φ : Nat → List D → M D) (n : Nat) (h1 : 1 ≤ n) (h5 : n ≤ 5) (v : Ex) (a1 a2 a3 a5 a6 a9 a10 a11 : Option (D × Bool)) (hv : ∀ s ∈ stsL n, ∀ kvs t, wp (ev Φ v [tE, a1, a2, a3, sE (Sd s), a5, a6, sE (.lst ((stsL n).map Sd)), oE (.dct kvs), a9, a10, a11]) (fun y _ => ∃ u ∈ stsL n, y = Sd u) t)
    (a4 : Option (D × Bool)) (ss : List Stm) (t : VS.Tape) : wp (execs Φ 100000 (.for (.nm 4) (.seq (.bor 7)) [.put 8 (.var 4) v] :: .frz [8] (.ret (.var 8)) :: ss) [tE, a1, a2, a3, a4, a5, a6, sE (.lst ((stsL n).map Sd)), oE (.dct []), a9, a10, a11]) (fun r _ => ∃ d, r.1 = .rt d ∧ IsNet d) t := by
  have hnl : (stsL n).length = 2 ^ n := stsL_size n
  refine wp_f (l := (stsL n).map Sd) (fun i ρ _ => ∃ (ys : List (List Int)) (b4 : Option (D × Bool)), ys.length = i ∧ (∀ y ∈ ys, y ∈ stsL n) ∧ ρ = [tE, a1, a2, a3, b4, a5, a6, sE (.lst ((stsL n).map Sd)), oE (.dct (zd (stsL n) ys)), a9, a10, a11]) rfl rfl (by simp [run_eq, ev_lit, ev_var, ev_bor, ev_tup, ev_tupS, ev_lst, ev_dsp, ev_bin, ev_neg, ev_cmp, ev_cmp2, ev_isN, ev_notN, ev_and, ev_or, ev_not, ev_ife, ev_sub, ev_slc, ev_att, ev_call, ev_blt, ev_mt, evs_nil, evs_cons, evSt_nil, evSt_cons, evT_nil, evT_one, evI_seq, evI_range, evI_enum, evI_zip, ex_expr, ex_asg, ex_new, ex_par, ex_app, ex_ret, ex_retN, ex_iff, ex_pass, ex_nev, ex_frz, exs_nil, exs_cons, setT_nm, setT_tp, setTs_nil, setTs_cons, getB, getV, setV, truth, iterOf, seqOf, okIt, itW, isTp, brI, lstAt, dctAt, isTapeAt, frzE, wipeE, isIns, okIs, isB, isC]) ⟨[], a4, rfl, (fun y m => by cases m), by rw [zd_nil]⟩ (fun i x ρ t2 e hi => ?_) fun ρ t2 hi => ?_
  · obtain ⟨ys, b4, hy1, hy2, rfl⟩ := hi
    rw [List.getElem?_map] at e
    obtain ⟨s, hs, rfl⟩ := Option.map_eq_some_iff.mp e
    refine wp_t (ρ' := [tE, a1, a2, a3, sE (Sd s), a5, a6, sE (.lst ((stsL n).map Sd)), oE (.dct (zd (stsL n) ys)), a9, a10, a11]) rfl ?_
    refine wp_put rfl (Nat.lt_of_le_of_lt (zd_len _ _) (by rw [hnl]; exact Nat.lt_of_le_of_lt (pow_32 h5) (by decide))) (wp_mono (hv s (List.mem_of_getElem? hs) _ t2) fun y t3 q => ?_)
    obtain ⟨u, hu, rfl⟩ := q
    refine ⟨Sd s, rfl, zd_key _ _ s, ?_⟩
    rw [zd_put (stsL n) ys s u (stsL_nodup n) (by rw [hy1]; exact hs)]
    exact wp_n ⟨rfl, _, _, by rw [List.length_append, hy1]; rfl, fun y m => (List.mem_append.mp m).elim (hy2 y) (fun m => by rw [List.mem_singleton.mp m]; exact hu), rfl⟩
  · obtain ⟨ys, b4, hy1, hy2, rfl⟩ := hi
    rw [List.length_map, hnl] at hy1
    exact wp_r (d := .dct (zd (stsL n) ys)) (ρ' := [tE, a1, a2, a3, b4, a5, a6, sE (.lst ((stsL n).map Sd)), sE (.dct (zd (stsL n) ys)), a9, a10, a11]) rfl ⟨_, rfl, zd_net h1 h5 hy1 hy2⟩
theorem pairs_zip : ∀ xs ys : List (List Int), pairsOf (zipL (xs.map Sd) (ys.map Sd)) = some (zd xs ys)
  | [], _ => rfl
  | _ :: _, [] => rfl
  | x :: xs, y :: ys => by
    show (pairsOf (zipL (xs.map Sd) (ys.map Sd))).map ((Sd x, Sd y) :: ·) = _
    rw [pairs_zip xs ys]
    rfl
theorem dputs_new : ∀ (ps kvs : List (D × D)), (∀ p ∈ kvs, isTup p.1 = true) → (∀ p ∈ ps, ∃ s, p.1 = Sd s) → (ps.map (·.1)).Nodup → (∀ p ∈ ps, ∀ q ∈ kvs, q.1 ≠ p.1) → dputs kvs ps = some (kvs ++ ps)
  | [], kvs, _, _, _, _ => by rw [List.append_nil]; rfl
  | (k, v) :: ps, kvs, h1, h2, h3, h4 => by
    obtain ⟨s, hs⟩ := h2 (k, v) (List.mem_cons_self ..)
    cases (show k = Sd s from hs)
    rw [List.map_cons] at h3
    obtain ⟨n1, n2⟩ := List.nodup_cons.mp h3
    show (if keyOk kvs (Sd s) then dputs (dput kvs (Sd s) v) ps else none) = _
    rw [keyOk_Sd h1, if_pos rfl, dput_new kvs (Sd s) v (h4 _ (List.mem_cons_self ..)), dputs_new ps _ (fun p m => ?_) (fun p m => h2 p (List.mem_cons_of_mem _ m)) n2 fun p m q mq => ?_, List.append_assoc]
    · rfl
    · rcases List.mem_append.mp m with m | m
      · exact h1 p m
      · rw [List.mem_singleton.mp m]; rfl
    · rcases List.mem_append.mp mq with mq | mq
      · exact h4 p (List.mem_cons_of_mem _ m) q mq
      · rw [List.mem_singleton.mp mq]
        exact fun e => n1 (by rw [show Sd s = p.1 from e]; exact List.mem_map.mpr ⟨p, m, rfl⟩)
theorem zd_keys : ∀ xs ys : List (List Int), xs.length = ys.length → (zd xs ys).map (·.1) = xs.map Sd
  | [], _, _ => rfl
  | x :: xs, y :: ys, h => by
    show Sd x :: (zd xs ys).map (·.1) = _
    rw [zd_keys xs ys (by simpa [run_eq, ev_lit, ev_var, ev_bor, ev_tup, ev_tupS, ev_lst, ev_dsp, ev_bin, ev_neg, ev_cmp, ev_cmp2, ev_isN, ev_notN, ev_and, ev_or, ev_not, ev_ife, ev_sub, ev_slc, ev_att, ev_call, ev_blt, ev_mt, evs_nil, evs_cons, evSt_nil, evSt_cons, evT_nil, evT_one, evI_seq, evI_range, evI_enum, evI_zip, ex_expr, ex_asg, ex_new, ex_par, ex_app, ex_ret, ex_retN, ex_iff, ex_pass, ex_nev, ex_frz, exs_nil, exs_cons, setT_nm, setT_tp, setTs_nil, setTs_cons, getB, getV, setV, truth, iterOf, seqOf, okIt, itW, isTp, brI, lstAt, dctAt, isTapeAt, frzE, wipeE, isIns, okIs, isB, isC] using h)]
    rfl
theorem dict_zip {n : Nat} (m : List (List Int)) (hm : m.length = 2 ^ n) : bltS .dictL [.lst (zipL ((stsL n).map Sd) (m.map Sd))] = some (.dct (zd (stsL n) m)) := by
  show ((pairsOf (zipL ((stsL n).map Sd) (m.map Sd))).bind fun ps => (dputs [] ps).map D.dct) = _
  rw [pairs_zip]
  show (dputs [] (zd (stsL n) m)).map D.dct = _
  have h2 : ∀ p ∈ zd (stsL n) m, ∃ s, p.1 = Sd s := fun p h => by
    obtain ⟨q, _, rfl⟩ := List.mem_map.mp h
    exact ⟨_, rfl⟩
  have h3 : ((zd (stsL n) m).map (·.1)).Nodup := by
    rw [zd_keys _ _ (by rw [stsL_size, hm])]
    rw [List.nodup_iff_pairwise_ne, List.pairwise_map]
    exact (List.nodup_iff_pairwise_ne.mp (stsL_nodup n)).imp fun ne e => ne (Sd_inj e)
  rw [dputs_new (zd (stsL n) m) [] (fun p h => by cases h) h2 h3 (fun p _ q h => by cases h)]
  rfl
abbrev nB6 : List Stm := [.asg (.nm 9) (.ife (.cmp .lt (.bor 6) (.lit (.int 5))) (.comp [10] (.nm 10) (.range [.bin .add (.lit (.int 1)) (.call 25 [.var 0, .lit (.int 2)])]) [] (.call 25 [.var 0, .var 5])) (.lst [.bin .mod (.blt .int [.bin .sub (.bin .add (.bor 3) (.bor 5)) (.lit (.int 1))]) (.bor 5)])), .app 2 (.tup [.var 9, .comp [10] (.nm 10) (.range [.lit (.int 4)]) [] (.call 25 [.var 0, .lit (.int 2)])])]
abbrev vR : Ex := .blt .tuple [.comp [9, 11] (.tp [.nm 9, .nm 11]) (.seq (.bor 2)) [] eltR]
theorem net_rules (Φ : Nat → List D → M D) (hd : Drw Φ 25) (n : Nat) (z : Int) (hz : z = (n : Nat)) (h1 : 1 ≤ n) (h5 : n ≤ 5) (y : Int) (l : List D) (hl : l.length ≤ 5) (sw : Int) (a1 a4 a7 a8 a9 : Option (D × Bool)) (t : VS.Tape) :
    wp (execs Φ 100000 nB6 [tE, a1, oE (.lst l), sE (.int sw), a4, sE (.int z), sE (.int y), a7, a8, a9, none, none]) (fun r _ => r.1 = .nx ∧ ∃ d dd, IsRule n d ∧ r.2 = [tE, a1, oE (.lst (l ++ [d])), sE (.int sw), a4, sE (.int z), sE (.int y), a7, a8, sE dd, none, none]) t := by
  have hn : z ≠ 0 := by omega
  have asked : wp (ev Φ (.ife (.cmp .lt (.bor 6) (.lit (.int 5))) (.comp [10] (.nm 10) (.range [.bin .add (.lit (.int 1)) (.call 25 [.var 0, .lit (.int 2)])]) [] (.call 25 [.var 0, .var 5])) (.lst [.bin .mod (.blt .int [.bin .sub (.bin .add (.bor 3) (.bor 5)) (.lit (.int 1))]) (.bor 5)])) [tE, a1, oE (.lst l), sE (.int sw), a4, sE (.int z), sE (.int y), a7, a8, a9, none, none])
      (fun d _ => ∃ as : List Int, d = .lst (as.map .int) ∧ as ≠ [] ∧ ∀ a ∈ as, 0 ≤ a ∧ a < n) t := by
    refine wp_ife (x := decide (y < 5)) (by simp [run_eq, ev_lit, ev_var, ev_bor, ev_tup, ev_tupS, ev_lst, ev_dsp, ev_bin, ev_neg, ev_cmp, ev_cmp2, ev_isN, ev_notN, ev_and, ev_or, ev_not, ev_ife, ev_sub, ev_slc, ev_att, ev_call, ev_blt, ev_mt, evs_nil, evs_cons, evSt_nil, evSt_cons, evT_nil, evT_one, evI_seq, evI_range, evI_enum, evI_zip, ex_expr, ex_asg, ex_new, ex_par, ex_app, ex_ret, ex_retN, ex_iff, ex_pass, ex_nev, ex_frz, exs_nil, exs_cons, setT_nm, setT_tp, setTs_nil, setTs_cons, getB, getV, setV, truth, iterOf, seqOf, okIt, itW, isTp, brI, lstAt, dctAt, isTapeAt, frzE, wipeE, isIns, okIs, isB, isC, lt_int]) ?_
    by_cases hy : y < 5
    · rw [decide_eq_true hy, if_pos rfl]
      obtain ⟨d, t1, e, q, rfl, q0, q1⟩ := hd 2 (by decide) (by decide) t
      have hit : ∃ k : Nat, 1 ≤ k ∧ k ≤ 2 ∧ 1 + q = (k : Nat) := ⟨(1 + q).toNat, by omega, by omega, by omega⟩
      obtain ⟨k, k1, k2, hk⟩ := hit
      have hI : evI Φ (.range [.bin .add (.lit (.int 1)) (.call 25 [.var 0, .lit (.int 2)])]) [tE, a1, oE (.lst l), sE (.int sw), a4, sE (.int z), sE (.int y), a7, a8, a9, none, none] t = some (.ok (rangeL 0 k), t1) := by
        show bnd (bnd (bnd (Φ 25 [.tape, .int 2]) fun w => lft (binS .add (.int 1) w)) fun d => bnd (ret []) fun ds => ret (d :: ds)) (fun ds => lft (rangeOf ds)) t = _
        simp only [bnd_bnd]
        rw [bnd_ok e]
        show lft (rangeOf [.int (1 + q)]) t1 = _
        rw [hk, range_n (by omega)]
        rfl
      refine wp_mono (wp_comp (fun d => ∃ a, d = .int a ∧ (0 ≤ a ∧ a < n)) (items := rangeL 0 k) (ρ₀ := [tE, a1, oE (.lst l), sE (.int sw), a4, sE (.int z), sE (.int y), a7, a8, a9, none, none]) rfl ⟨_, _, hI, rfl⟩ rfl (fun x _ t2 => ?_) (by rw [rg_len]; exact Nat.le_trans k2 (by decide))) fun d t2 q => ?_
      · obtain ⟨d, t3, e3, q, rfl, q0, q1⟩ := hd z (by omega) (by omega) t2
        refine ⟨[.int q], t3, ?_, .int q, rfl, q, rfl, q0, by omega⟩
        show bnd (Φ 25 [.tape, .int z]) (fun y => ret [y]) t2 = _
        rw [bnd_ok e3]
        rfl
      · obtain ⟨m, rfl, m1, m2⟩ := q
        obtain ⟨as, rfl, m3⟩ := ints_of m2
        refine ⟨as, rfl, fun e => ?_, m3⟩
        rw [e, rg_len] at m1
        simp [run_eq, ev_lit, ev_var, ev_bor, ev_tup, ev_tupS, ev_lst, ev_dsp, ev_bin, ev_neg, ev_cmp, ev_cmp2, ev_isN, ev_notN, ev_and, ev_or, ev_not, ev_ife, ev_sub, ev_slc, ev_att, ev_call, ev_blt, ev_mt, evs_nil, evs_cons, evSt_nil, evSt_cons, evT_nil, evT_one, evI_seq, evI_range, evI_enum, evI_zip, ex_expr, ex_asg, ex_new, ex_par, ex_app, ex_ret, ex_retN, ex_iff, ex_pass, ex_nev, ex_frz, exs_nil, exs_cons, setT_nm, setT_tp, setTs_nil, setTs_cons, getB, getV, setV, truth, iterOf, seqOf, okIt, itW, isTp, brI, lstAt, dctAt, isTapeAt, frzE, wipeE, isIns, okIs, isB, isC] at m1
        omega
    · rw [decide_eq_false hy, if_neg Bool.false_ne_true]
      obtain ⟨q1, q2⟩ := fmod_lt (a := sw + z - 1) (b := z) (by omega)
      refine wp_of (a := .lst ([(sw + z - 1).fmod z].map .int)) (by simp [run_eq, ev_lit, ev_var, ev_bor, ev_tup, ev_tupS, ev_lst, ev_dsp, ev_bin, ev_neg, ev_cmp, ev_cmp2, ev_isN, ev_notN, ev_and, ev_or, ev_not, ev_ife, ev_sub, ev_slc, ev_att, ev_call, ev_blt, ev_mt, evs_nil, evs_cons, evSt_nil, evSt_cons, evT_nil, evT_one, evI_seq, evI_range, evI_enum, evI_zip, ex_expr, ex_asg, ex_new, ex_par, ex_app, ex_ret, ex_retN, ex_iff, ex_pass, ex_nev, ex_frz, exs_nil, exs_cons, setT_nm, setT_tp, setTs_nil, setTs_cons, getB, getV, setV, truth, iterOf, seqOf, okIt, itW, isTp, brI, lstAt, dctAt, isTapeAt, frzE, wipeE, isIns, okIs, isB, isC, add_int, sub_int, int_int, mod_int _ _ hn, lim]) ⟨[(sw + z - 1).fmod z], rfl, by simp [run_eq, ev_lit, ev_var, ev_bor, ev_tup, ev_tupS, ev_lst, ev_dsp, ev_bin, ev_neg, ev_cmp, ev_cmp2, ev_isN, ev_notN, ev_and, ev_or, ev_not, ev_ife, ev_sub, ev_slc, ev_att, ev_call, ev_blt, ev_mt, evs_nil, evs_cons, evSt_nil, evSt_cons, evT_nil, evT_one, evI_seq, evI_range, evI_enum, evI_zip, ex_expr, ex_asg, ex_new, ex_par, ex_app, ex_ret, ex_retN, ex_iff, ex_pass, ex_nev, ex_frz, exs_nil, exs_cons, setT_nm, setT_tp, setTs_nil, setTs_cons, getB, getV, setV, truth, iterOf, seqOf, okIt, itW, isTp, brI, lstAt, dctAt, isTapeAt, frzE, wipeE, isIns, okIs, isB, isC], fun a m => by rw [List.mem_singleton.mp m]; omega⟩
  refine wp_asg (wp_mono asked fun d t1 q => ?_)
  obtain ⟨as, rfl, as1, as2⟩ := q
  refine ⟨[tE, a1, oE (.lst l), sE (.int sw), a4, sE (.int z), sE (.int y), a7, a8, sE (.lst (as.map .int)), none, none], rfl, ?_⟩
  have tbl : wp (ev Φ (.comp [10] (.nm 10) (.range [.lit (.int 4)]) [] (.call 25 [.var 0, .lit (.int 2)])) [tE, a1, oE (.lst l), sE (.int sw), a4, sE (.int z), sE (.int y), a7, a8, sE (.lst (as.map .int)), none, none]) (fun d _ => ∃ l, d = .lst l ∧ l.length = 4 ∧ ∀ y ∈ l, ∃ a, y = D.int a ∧ (a = 0 ∨ a = 1)) t1 := by
    refine wp_comp _ (items := [.int 0, .int 1, .int 2, .int 3]) (ρ₀ := [tE, a1, oE (.lst l), sE (.int sw), a4, sE (.int z), sE (.int y), a7, a8, sE (.lst (as.map .int)), none, none]) rfl ⟨_, _, rfl, rfl⟩ rfl (fun x _ t2 => ?_) (by decide)
    obtain ⟨d, t3, e3, q, rfl, q0, q1⟩ := hd 2 (by decide) (by decide) t2
    refine ⟨[.int q], t3, ?_, .int q, rfl, q, rfl, by omega⟩
    show bnd (Φ 25 [.tape, .int 2]) (fun y => ret [y]) t2 = _
    rw [bnd_ok e3]
    rfl
  obtain ⟨d, t2, e, m, rfl, m1, m2⟩ := tbl
  obtain ⟨tb, rfl, tb2⟩ := ints_of m2
  rw [List.length_map] at m1
  refine wp_app (l := l) rfl (Nat.lt_of_le_of_lt hl (by decide)) ⟨.tup [.lst (as.map .int), .lst (tb.map .int)], t2, ev_tup2 rfl e, wp_n ⟨rfl, _, _, ⟨as, tb, rfl, as1, as2, m1, tb2⟩, rfl⟩⟩
theorem W_net (Φ : Nat → List D → M D) (hd : Drw Φ 25) (h29 : ∀ n : Nat, n ≤ 5 → Φ 29 [.int n] = ret (.lst ((stsL n).map Sd))) (h26 : ∀ l : List D, l ≠ [] → l.length < 1073741824 → ∀ t, wp (Φ 26 [.tape, .lst l]) (fun d _ => d ∈ l) t)
    (h27 : ∀ l : List (List Int), l.length ≤ 32 → ∀ t, wp (Φ 27 [.tape, .lst (l.map Sd)]) (fun d _ => ∃ m : List (List Int), d = .lst (m.map Sd) ∧ m.length = l.length ∧ ∀ x ∈ m, x ∈ l) t) (t : VS.Tape) : wp (VS.run Φ 100000 b__law_net [.tape, .int 5]) (fun d _ => IsNet d) t := by
  rw [run_eq]
  refine wp_bnd ?_
  have fin : ∀ {ρ : Env} {t : VS.Tape} {ss : List Stm}, wp (execs Φ 100000 ss ρ) (fun r _ => ∃ d, r.1 = .rt d ∧ IsNet d) t → wp (execs Φ 100000 ss ρ) (fun r t' => wp (match r.1 with
    | .nx => ret .non
    | .rt d => ret d
    | _ => (stuck : M D)) (fun d _ => IsNet d) t') t := fun h => wp_mono h fun r t' q => by
      obtain ⟨fl, ρ⟩ := r
      obtain ⟨d, e, hn⟩ := q
      cases (show fl = .rt d from e)
      exact wp_ret hn
  refine fin ?_
  show wp (execs Φ 100000 b__law_net.body [tE, sE (.int 5), none, none, none, none, none, none, none, none, none, none]) _ t
  obtain ⟨d, t1, e1, x, rfl, x0, x1⟩ := hd 5 (by decide) (by decide) t
  obtain ⟨d, t2, e2, y, rfl, y0, y1⟩ := hd 6 (by decide) (by decide) t1
  obtain ⟨n, hn⟩ : ∃ n : Nat, 1 + x = (n : Nat) := ⟨(1 + x).toNat, by omega⟩
  have n1 : 1 ≤ n := by omega
  have n5 : n ≤ 5 := by omega
  have hn29 := h29 n n5
  rw [← hn] at hn29
  generalize hz : 1 + x = z at hn hn29
  refine wp_asg ⟨.tup [.int z, .int y], t2, ev_tup2 (t1 := t1) ?_ ?_, [tE, sE (.int 5), none, none, none, sE (.int z), sE (.int y), none, none, none, none, none], rfl, ?_⟩
  · show bnd (Φ 25 [.tape, .int 5]) (fun w => lft (binS .add (.int 1) w)) t = _
    rw [bnd_ok e1, ← hz]
    rfl
  · exact e2
  refine wp_p (ρ' := [tE, sE (.int 5), none, none, none, sE (.int z), sE (.int y), sE (.lst ((stsL n).map Sd)), oE (.dct []), none, none, none]) ?_ ?_
  · show bnd (Φ 29 [.int z]) (fun w => ret (Fl.nx, [tE, sE (.int 5), none, none, none, sE (.int z), sE (.int y), sE w, oE (.dct []), none, none, none])) = _
    rw [hn29]
    rfl
  have hsl : ((stsL n).map Sd).length = 2 ^ n := sts_len n
  have hne : (stsL n).map Sd ≠ [] := fun e => by
    rw [e] at hsl
    exact absurd hsl (Nat.ne_of_lt (Nat.pow_pos (by decide)))
  refine wp_iff (x := decide (y < 2)) (by simp [run_eq, ev_lit, ev_var, ev_bor, ev_tup, ev_tupS, ev_lst, ev_dsp, ev_bin, ev_neg, ev_cmp, ev_cmp2, ev_isN, ev_notN, ev_and, ev_or, ev_not, ev_ife, ev_sub, ev_slc, ev_att, ev_call, ev_blt, ev_mt, evs_nil, evs_cons, evSt_nil, evSt_cons, evT_nil, evT_one, evI_seq, evI_range, evI_enum, evI_zip, ex_expr, ex_asg, ex_new, ex_par, ex_app, ex_ret, ex_retN, ex_iff, ex_pass, ex_nev, ex_frz, exs_nil, exs_cons, setT_nm, setT_tp, setTs_nil, setTs_cons, getB, getV, setV, truth, iterOf, seqOf, okIt, itW, isTp, brI, lstAt, dctAt, isTapeAt, frzE, wipeE, isIns, okIs, isB, isC, lt_int]) (fun _ => ?_) fun _ => ?_
  · refine net_loop Φ n n1 n5 (.call 26 [.var 0, .var 7]) _ _ _ _ _ _ _ _ (fun s _ kvs t3 => ?_) _ _ t2
    obtain ⟨d, t4, e4, q⟩ := h26 _ hne (by rw [hsl]; have := pow_32 n5; omega) t3
    obtain ⟨u, hu, rfl⟩ := List.mem_map.mp q
    exact ⟨_, t4, e4, u, hu, rfl⟩
  · refine wp_iff (x := y == 2) (by simp [run_eq, ev_lit, ev_var, ev_bor, ev_tup, ev_tupS, ev_lst, ev_dsp, ev_bin, ev_neg, ev_cmp, ev_cmp2, ev_isN, ev_notN, ev_and, ev_or, ev_not, ev_ife, ev_sub, ev_slc, ev_att, ev_call, ev_blt, ev_mt, evs_nil, evs_cons, evSt_nil, evSt_cons, evT_nil, evT_one, evI_seq, evI_range, evI_enum, evI_zip, ex_expr, ex_asg, ex_new, ex_par, ex_app, ex_ret, ex_retN, ex_iff, ex_pass, ex_nev, ex_frz, exs_nil, exs_cons, setT_nm, setT_tp, setTs_nil, setTs_cons, getB, getV, setV, truth, iterOf, seqOf, okIt, itW, isTp, brI, lstAt, dctAt, isTapeAt, frzE, wipeE, isIns, okIs, isB, isC, eq_int]) (fun _ => ?_) fun _ => ?_
    · obtain ⟨d, t4, e4, m, rfl, m1, m2⟩ := h27 (stsL n) (by rw [stsL_size]; exact pow_32 n5) t2
      rw [stsL_size] at m1
      refine ⟨(.rt (.dct (zd (stsL n) m)), [tE, sE (.int 5), none, none, none, sE (.int z), sE (.int y), sE (.lst ((stsL n).map Sd)), oE (.dct []), none, none, none]), t4, ?_, _, rfl, zd_net n1 n5 m1 m2⟩
      rw [List.singleton_append, exs_cons, ex_ret, ev_blt, evs_cons, ev_blt, evs_cons, evs_cons, ev_call, evs_cons, evs_cons]
      simp only [bnd_bnd]
      show bnd (Φ 27 [.tape, .lst ((stsL n).map Sd)]) (fun d => bnd (lft (bltS .listZip [.lst ((stsL n).map Sd), d])) fun d => bnd (lft (bltS .dictL [d])) fun d => ret (Fl.rt d, [tE, sE (.int 5), none, none, none, sE (.int z), sE (.int y), sE (.lst ((stsL n).map Sd)), oE (.dct []), none, none, none])) t2 = _
      rw [bnd_ok e4]
      show bnd (lft (bltS .dictL [.lst (zipL ((stsL n).map Sd) (m.map Sd))])) _ t4 = _
      rw [dict_zip m m1]
      rfl
    · refine wp_p (ρ' := [tE, sE (.int 5), oE (.lst []), none, none, sE (.int z), sE (.int y), sE (.lst ((stsL n).map Sd)), oE (.dct []), none, none, none]) rfl ?_
      refine wp_f (l := rangeL 0 n) (fun i ρ _ => ∃ (l : List D) (b3 b9 : Option (D × Bool)), l.length = i ∧ (∀ d ∈ l, IsRule n d) ∧ (b9 = none ∨ ∃ dd, b9 = sE dd) ∧ ρ = [tE, sE (.int 5), oE (.lst l), b3, none, sE (.int z), sE (.int y), sE (.lst ((stsL n).map Sd)), oE (.dct []), b9, none, none]) rfl rfl (by
        have := range_n (show n ≤ 100 by omega)
        rw [← hn] at this
        simp [run_eq, ev_lit, ev_var, ev_bor, ev_tup, ev_tupS, ev_lst, ev_dsp, ev_bin, ev_neg, ev_cmp, ev_cmp2, ev_isN, ev_notN, ev_and, ev_or, ev_not, ev_ife, ev_sub, ev_slc, ev_att, ev_call, ev_blt, ev_mt, evs_nil, evs_cons, evSt_nil, evSt_cons, evT_nil, evT_one, evI_seq, evI_range, evI_enum, evI_zip, ex_expr, ex_asg, ex_new, ex_par, ex_app, ex_ret, ex_retN, ex_iff, ex_pass, ex_nev, ex_frz, exs_nil, exs_cons, setT_nm, setT_tp, setTs_nil, setTs_cons, getB, getV, setV, truth, iterOf, seqOf, okIt, itW, isTp, brI, lstAt, dctAt, isTapeAt, frzE, wipeE, isIns, okIs, isB, isC, this]) ⟨[], _, _, rfl, (fun d m => by cases m), .inl rfl, rfl⟩ (fun i w ρ t3 e3 hi => ?_) fun ρ t3 hi => ?_
      · obtain ⟨l, b3, b9, l1, l2, l3, rfl⟩ := hi
        obtain ⟨hi1, rfl⟩ := rg0 n i w e3
        refine wp_t (ρ' := [tE, sE (.int 5), oE (.lst l), sE (.int i), none, sE (.int z), sE (.int y), sE (.lst ((stsL n).map Sd)), oE (.dct []), b9, none, none]) rfl ?_
        refine wp_mono (net_rules Φ hd n z hn n1 n5 y l (by omega) i _ _ _ _ b9 t3) fun r t4 q => ?_
        obtain ⟨q1, d, c9, q2, q3⟩ := q
        exact ⟨q1, l ++ [d], _, _, by rw [List.length_append, l1]; rfl, fun x m => (List.mem_append.mp m).elim (l2 x) (fun m => by rw [List.mem_singleton.mp m]; exact q2), .inr ⟨_, rfl⟩, q3⟩
      · obtain ⟨l, b3, b9, l1, l2, l3, rfl⟩ := hi
        rw [rg_len] at l1
        refine net_loop Φ n n1 n5 vR _ _ _ _ _ _ _ _ (fun s hs kvs t4 => ?_) _ _ t3
        have w := wp_comp (Φ := Φ) (ρ := [tE, sE (.int 5), oE (.lst l), b3, sE (Sd s), sE (.int z), sE (.int y), sE (.lst ((stsL n).map Sd)), oE (.dct kvs), b9, none, none]) (own := [9, 11]) (tg := .tp [.nm 9, .nm 11]) (it := .seq (.bor 2)) (elt := eltR) (items := l) (t := t4)
          (ρ₀ := [tE, sE (.int 5), oE (.lst l), b3, sE (Sd s), sE (.int z), sE (.int y), sE (.lst ((stsL n).map Sd)), oE (.dct kvs), none, none, none]) (fun y => ∃ z, y = .int z ∧ (z = 0 ∨ z = 1)) rfl ⟨_, _, rfl, rfl⟩ (by rcases l3 with rfl | ⟨dd, rfl⟩ <;> rfl) (fun x hx t5 => rule_val Φ hs (l2 x hx) _ _ _ _ _ _ _ _ _ t5) (Nat.le_trans (by omega : l.length ≤ 5) (by decide))
        obtain ⟨d, t5, e5, m, rfl, m1, m2⟩ := w
        obtain ⟨u, rfl, u2⟩ := ints_of m2
        rw [List.length_map, l1] at m1
        refine ⟨.tup (u.map .int), t5, ?_, u, stsL_all n u m1 u2, rfl⟩
        show bnd (bnd (ev Φ (.comp [9, 11] (.tp [.nm 9, .nm 11]) (.seq (.bor 2)) [] eltR) _) fun d => bnd (ret []) fun ds => ret (d :: ds)) (fun ds => lft (bltS .tuple ds)) t4 = _
        rw [bnd_bnd, bnd_ok e5]
        rfl
end LW
end
section
set_option Elab.async false
set_option linter.all false
set_option maxRecDepth 100000
set_option maxHeartbeats 1000000
set_option autoImplicit false
namespace LW
open VS
theorem ne_self {x : D} (hp : plain 60 x = true) (he : pyEq x x = true) : cmpS .ne x x = some false := by
  show (eqS x x).map (!·) = _
  unfold eqS
  rw [hp, he]
  rfl
theorem ne_Sd (a : List Int) : cmpS .ne (Sd a) (Sd a) = some false := ne_self (plain_Sd 59 a) (by rw [pyEq_Sd]; exact decide_eq_true rfl)
theorem pyEqL_Sds' (a : List (List Int)) : pyEqL (a.map Sd) (a.map Sd) = true := by rw [pyEqL_Sds]; exact decide_eq_true rfl
theorem ne_tr (tl rg : List (List Int)) : cmpS .ne (.tup [.tup (tl.map Sd), .tup (rg.map Sd)]) (.tup [.tup (tl.map Sd), .tup (rg.map Sd)]) = some false := by
  refine ne_self ?_ ?_
  · show ((tl.map Sd).all (plain 58) && ((rg.map Sd).all (plain 58) && true)) = true
    rw [plain_Sds, plain_Sds]
    rfl
  · show (pyEqL (tl.map Sd) (tl.map Sd) && (pyEqL (rg.map Sd) (rg.map Sd) && true)) = true
    rw [pyEqL_Sds', pyEqL_Sds']
    rfl
theorem ne_lt (a : Int) (u : List Int) : cmpS .ne (.tup [.int a, Sd u]) (.tup [.int a, Sd u]) = some false := by
  refine ne_self ?_ ?_
  · show (true && (plain 59 (Sd u) && true)) = true
    rw [plain_Sd]
    rfl
  · show ((a == a) && (pyEq (Sd u) (Sd u) && true)) = true
    rw [pyEq_Sd, beq_self_eq_true, decide_eq_true rfl]
    rfl
theorem ne_int (a : Int) : cmpS .ne (.int a) (.int a) = some false := ne_self rfl (by show (a == a) = true; exact beq_self_eq_true a)
theorem ne_non : cmpS .ne .non .non = some false := rfl
theorem evs_pure {Φ : Nat → List D → M D} {ρ : Env} {e : Ex} {es : List Ex} {d : D} {ds : List D} {t t' : VS.Tape} (h1 : ev Φ e ρ = ret d) (h2 : evs Φ es ρ t = some (.ok ds, t')) : evs Φ (e :: es) ρ t = some (.ok (d :: ds), t') := by
  rw [evs_cons, h1, bnd_ret, bnd_ok h2]
  rfl
theorem evs_tp {Φ : Nat → List D → M D} {ρ : Env} {e : Ex} {es : List Ex} {d : D} {ds : List D} {t t1 t' : VS.Tape} (h1 : ev Φ e ρ t = some (.ok d, t1)) (h2 : evs Φ es ρ t1 = some (.ok ds, t')) : evs Φ (e :: es) ρ t = some (.ok (d :: ds), t') := by
  rw [evs_cons, bnd_ok h1, bnd_ok h2]
  rfl
theorem tup_at (l : List (List Int)) {x : Int} (h0 : 0 ≤ x) (h1 : x < (l.length : Nat)) : ∃ a, subS (.tup (l.map Sd)) (.int x) = some (Sd a) := by
  obtain ⟨e, hl⟩ := ix_pos h0 h1
  refine ⟨l[x.toNat], ?_⟩
  show (ixOf (l.map Sd).length x).bind ((l.map Sd)[·]?) = _
  rw [List.length_map, e]
  show (l.map Sd)[x.toNat]? = _
  rw [List.getElem?_map, List.getElem?_eq_getElem hl]
  rfl
theorem due_some (tl rg : List (List Int)) (hr : rg ≠ []) {z : Int} (h0 : 0 ≤ z) : ∃ a, dueD (tl.map Sd) (rg.map Sd) z = some (Sd a) := by
  unfold dueD
  rw [List.length_map, List.length_map]
  have hp : 0 < rg.length := List.length_pos_iff.mpr hr
  by_cases hz : z < (tl.length : Nat)
  · rw [if_pos hz]
    exact tup_at tl h0 hz
  · rw [if_neg hz]
    obtain ⟨q1, q2⟩ := fmod_lt (a := z - (tl.length : Nat)) (b := (rg.length : Nat)) (by omega)
    exact tup_at rg q1 q2
abbrev dueE : Ex := .ife (.cmp .lt (.bor 6) (.blt .len [.bor 9])) (.sub (.bor 9) (.var 6)) (.sub (.bor 10) (.bin .mod (.blt .int [.bin .sub (.bor 6) (.blt .len [.bor 9])]) (.blt .len [.bor 10])))
theorem due_ev (Φ : Nat → List D → M D) (tl rg : List D) (hr : rg.length ≠ 0) (z : Int) (b0 b1 b2 b3 b4 b5 b7 b8 b11 : Option (D × Bool)) : ev Φ dueE [b0, b1, b2, b3, b4, b5, sE (.int z), b7, b8, sE (.tup tl), sE (.tup rg), b11] = lft (dueD tl rg z) := by
  unfold dueD
  have hr' : ((rg.length : Nat) : Int) ≠ 0 := by omega
  by_cases hz : z < (tl.length : Nat)
  · rw [if_pos hz]
    simp [run_eq, ev_lit, ev_var, ev_bor, ev_tup, ev_tupS, ev_lst, ev_dsp, ev_bin, ev_neg, ev_cmp, ev_cmp2, ev_isN, ev_notN, ev_and, ev_or, ev_not, ev_ife, ev_sub, ev_slc, ev_att, ev_call, ev_blt, ev_mt, evs_nil, evs_cons, evSt_nil, evSt_cons, evT_nil, evT_one, evI_seq, evI_range, evI_enum, evI_zip, ex_expr, ex_asg, ex_new, ex_par, ex_app, ex_ret, ex_retN, ex_iff, ex_pass, ex_nev, ex_frz, exs_nil, exs_cons, setT_nm, setT_tp, setTs_nil, setTs_cons, getB, getV, setV, truth, iterOf, seqOf, okIt, itW, isTp, brI, lstAt, dctAt, isTapeAt, frzE, wipeE, isIns, okIs, isB, isC, len_tup, lt_int, hz, subM_tup]
  · rw [if_neg hz]
    simp [run_eq, ev_lit, ev_var, ev_bor, ev_tup, ev_tupS, ev_lst, ev_dsp, ev_bin, ev_neg, ev_cmp, ev_cmp2, ev_isN, ev_notN, ev_and, ev_or, ev_not, ev_ife, ev_sub, ev_slc, ev_att, ev_call, ev_blt, ev_mt, evs_nil, evs_cons, evSt_nil, evSt_cons, evT_nil, evT_one, evI_seq, evI_range, evI_enum, evI_zip, ex_expr, ex_asg, ex_new, ex_par, ex_app, ex_ret, ex_retN, ex_iff, ex_pass, ex_nev, ex_frz, exs_nil, exs_cons, setT_nm, setT_tp, setTs_nil, setTs_cons, getB, getV, setV, truth, iterOf, seqOf, okIt, itW, isTp, brI, lstAt, dctAt, isTapeAt, frzE, wipeE, isIns, okIs, isB, isC, len_tup, lt_int, hz, subM_tup, sub_int, int_int, mod_int _ _ hr']
abbrev timesE : List Ex := [.lit (.int 0), .lit (.int 1), .lit (.int 2), .lit (.int 3), .blt .len [.bor 9], .bin .add (.blt .len [.bor 9]) (.blt .len [.bor 10]), .call 25 [.var 0, .lit (.int 100)], .bin .sub (.bin .pow (.lit (.int 10)) (.lit (.int 18))) (.call 25 [.var 0, .lit (.int 50)])]
theorem times_ev (Φ : Nat → List D → M D) (hd : Drw Φ 25) (tl rg : List D) (h1 : tl.length ≤ 1000) (h2 : rg.length ≤ 1000) (b1 b2 b3 b4 b5 b6 b7 b8 b11 : Option (D × Bool)) (t : VS.Tape) : ∃ items t', evI Φ (.seq (.lst timesE)) [tE, b1, b2, b3, b4, b5, b6, b7, b8, sE (.tup tl), sE (.tup rg), b11] t = some (.ok items, t') ∧ ∀ d ∈ items, ∃ z : Int, d = .int z ∧ 0 ≤ z ∧ z ≤ 1000000000000000000 := by
  obtain ⟨d, t1, e1, x, rfl, x0, x1⟩ := hd 100 (by decide) (by decide) t
  obtain ⟨d, t2, e2, y, rfl, y0, y1⟩ := hd 50 (by decide) (by decide) t1
  have hp := pow_int 10 18 ⟨by decide, by decide, by decide⟩
  have hB : ev Φ (.bin .sub (.bin .pow (.lit (.int 10)) (.lit (.int 18))) (.call 25 [.var 0, .lit (.int 50)])) [tE, b1, b2, b3, b4, b5, b6, b7, b8, sE (.tup tl), sE (.tup rg), b11] t1 = some (.ok (.int (1000000000000000000 - y)), t2) := by
    show bnd (lft (binS .pow (.int 10) (.int 18))) (fun p => bnd (Φ 25 [.tape, .int 50]) fun w => lft (binS .sub p w)) t1 = _
    rw [hp]
    show bnd (Φ 25 [.tape, .int 50]) (fun w => lft (binS .sub (.int ((10 : Int) ^ (18 : Int).toNat)) w)) t1 = _
    rw [bnd_ok e2]
    rfl
  have hv : evs Φ timesE [tE, b1, b2, b3, b4, b5, b6, b7, b8, sE (.tup tl), sE (.tup rg), b11] t = some (.ok [.int 0, .int 1, .int 2, .int 3, .int (tl.length : Nat), .int ((tl.length : Nat) + (rg.length : Nat)), .int x, .int (1000000000000000000 - y)], t2) :=
    evs_pure rfl (evs_pure rfl (evs_pure rfl (evs_pure rfl (evs_pure rfl (evs_pure rfl (evs_tp e1 (evs_tp hB rfl)))))))
  refine ⟨[.int 0, .int 1, .int 2, .int 3, .int (tl.length : Nat), .int ((tl.length : Nat) + (rg.length : Nat)), .int x, .int (1000000000000000000 - y)], t2, ?_, ?_⟩
  · rw [evI_seq, ev_lst]
    show bnd (bnd (evs Φ timesE _) fun ds => if ds.length ≤ lim then ret (D.lst ds) else stuck) (fun x => lft (iterOf x)) t = _
    rw [bnd_bnd, bnd_ok hv]
    rfl
  · intro d m
    simp only [List.mem_cons, List.not_mem_nil, or_false] at m
    rcases m with e | e | e | e | e | e | e | e
    all_goals exact ⟨_, e, by omega, by omega⟩
theorem W_right (Φ : Nat → List D → M D) {n : Nat} {f : List Int → List Int} (v : Vn n f) (kv : List (D × D)) (nt : D) (hd : Drw Φ 25) (h31 : Φ 31 [.dct kv] = ret nt) (h33 : ∀ s ∈ stsL n, Φ 33 [.dct kv, Sd s] = ret (trD n f s)) (h22 : ∀ a u, bltS .min [.lst (LL n f)] = some (.tup [.int a, Sd u]) → Φ 22 [nt] = ret (.tup [.int (0 - a), Sd u]))
    (h15 : ∀ s ∈ stsL n, Φ 15 [nt, Sd s] = ret (trD n f s)) (h13 : ∀ s ∈ stsL n, Φ 13 [nt, Sd s] = ret (Sd (f s))) (h18 : ∀ s ∈ stsL n, ∀ z : Int, 0 ≤ z → z ≤ 1000000000000000000 → Φ 18 [nt, Sd s, .int z] = lft (dueD ((tlL n f s).map Sd) ((rgL n f s).map Sd) z))
    (h21 : ∀ s ∈ stsL n, ∀ u ∈ stsL n, Φ 21 [nt, Sd s, Sd u] = ret (if u ∈ wkL n f s then .int ((wkL n f s).idxOf u : Nat) else .non)) (hso : bltS .sorted [.dct kv] = some (.lst ((stsL n).map Sd))) (hsub : ∀ s ∈ stsL n, subM (.dct kv) (Sd s) = ret (Sd (f s)))
    (l : List (List Int)) (hl : ∀ s ∈ l, s ∈ stsL n) (t : VS.Tape) : wp (VS.run Φ 100000 b__law_net_right [.tape, .dct kv, .lst (l.map Sd)]) (fun d _ => d = .bl true) t := by
  rw [run_eq]
  refine wp_bnd ?_
  show wp (execs Φ 100000 b__law_net_right.body [tE, sE (.dct kv), sE (.lst (l.map Sd)), none, none, none, none, none, none, none, none, none]) _ t
  refine wp_p (ρ' := [tE, sE (.dct kv), sE (.lst (l.map Sd)), none, sE nt, oE (.lst ((LL n f).take 0)), none, none, none, none, none, none]) ?_ ?_
  · show bnd (Φ 31 [.dct kv]) (fun x => ret (Fl.nx, [tE, sE (.dct kv), sE (.lst (l.map Sd)), none, sE x, oE (.lst []), none, none, none, none, none, none])) = _
    rw [h31]
    rfl
  have hLl : (LL n f).length = 2 ^ n := by unfold LL; rw [List.length_map, stsL_size]
  refine wp_f (l := (stsL n).map Sd) (fun i ρ _ => ∃ b3, ρ = [tE, sE (.dct kv), sE (.lst (l.map Sd)), b3, sE nt, oE (.lst ((LL n f).take i)), none, none, none, none, none, none]) rfl rfl (by simp [run_eq, ev_lit, ev_var, ev_bor, ev_tup, ev_tupS, ev_lst, ev_dsp, ev_bin, ev_neg, ev_cmp, ev_cmp2, ev_isN, ev_notN, ev_and, ev_or, ev_not, ev_ife, ev_sub, ev_slc, ev_att, ev_call, ev_blt, ev_mt, evs_nil, evs_cons, evSt_nil, evSt_cons, evT_nil, evT_one, evI_seq, evI_range, evI_enum, evI_zip, ex_expr, ex_asg, ex_new, ex_par, ex_app, ex_ret, ex_retN, ex_iff, ex_pass, ex_nev, ex_frz, exs_nil, exs_cons, setT_nm, setT_tp, setTs_nil, setTs_cons, getB, getV, setV, truth, iterOf, seqOf, okIt, itW, isTp, brI, lstAt, dctAt, isTapeAt, frzE, wipeE, isIns, okIs, isB, isC, hso]) ⟨_, rfl⟩ (fun i x ρ t2 e hi => ?_) fun ρ t2 hi => ?_
  · obtain ⟨b3, rfl⟩ := hi
    rw [List.getElem?_map] at e
    obtain ⟨s, hs, rfl⟩ := Option.map_eq_some_iff.mp e
    have hm := List.mem_of_getElem? hs
    have hLi : (LL n f)[i]? = some (.tup [.int (0 - ((tlL n f s).length : Nat)), Sd s]) := by
      unfold LL
      rw [List.getElem?_map, hs]
      rfl
    have hLt : (LL n f).take (i + 1) = (LL n f).take i ++ [.tup [.int (0 - ((tlL n f s).length : Nat)), Sd s]] := by rw [List.take_succ, hLi]; rfl
    refine wp_t (ρ' := [tE, sE (.dct kv), sE (.lst (l.map Sd)), sE (Sd s), sE nt, oE (.lst ((LL n f).take i)), none, none, none, none, none, none]) rfl ?_
    refine wp_app (l := (LL n f).take i) rfl (by rw [List.length_take, hLl]; exact Nat.lt_of_le_of_lt (Nat.min_le_right ..) (Nat.lt_of_le_of_lt (pow_32 v.hi) (by decide))) (wp_of (a := .tup [.int (0 - ((tlL n f s).length : Nat)), Sd s]) ?_ (wp_n ⟨rfl, _, by rw [hLt]; rfl⟩))
    simp [run_eq, ev_lit, ev_var, ev_bor, ev_tup, ev_tupS, ev_lst, ev_dsp, ev_bin, ev_neg, ev_cmp, ev_cmp2, ev_isN, ev_notN, ev_and, ev_or, ev_not, ev_ife, ev_sub, ev_slc, ev_att, ev_call, ev_blt, ev_mt, evs_nil, evs_cons, evSt_nil, evSt_cons, evT_nil, evT_one, evI_seq, evI_range, evI_enum, evI_zip, ex_expr, ex_asg, ex_new, ex_par, ex_app, ex_ret, ex_retN, ex_iff, ex_pass, ex_nev, ex_frz, exs_nil, exs_cons, setT_nm, setT_tp, setTs_nil, setTs_cons, getB, getV, setV, truth, iterOf, seqOf, okIt, itW, isTp, brI, lstAt, dctAt, isTapeAt, frzE, wipeE, isIns, okIs, isB, isC, h33 s hm, tr0, len_tup, sub_int, lim]
  · obtain ⟨b3, rfl⟩ := hi
    rw [List.length_map, stsL_size, ← hLl, List.take_length]
    obtain ⟨a, u, hm⟩ := LL_min (n := n) f
    have h22' := h22 a u hm
    have hne := ne_lt (0 - a) u
    refine wp_iff (x := false) ?_ (fun h => by cases h) fun _ => ?_
    · simp [run_eq, ev_lit, ev_var, ev_bor, ev_tup, ev_tupS, ev_lst, ev_dsp, ev_bin, ev_neg, ev_cmp, ev_cmp2, ev_isN, ev_notN, ev_and, ev_or, ev_not, ev_ife, ev_sub, ev_slc, ev_att, ev_call, ev_blt, ev_mt, evs_nil, evs_cons, evSt_nil, evSt_cons, evT_nil, evT_one, evI_seq, evI_range, evI_enum, evI_zip, ex_expr, ex_asg, ex_new, ex_par, ex_app, ex_ret, ex_retN, ex_iff, ex_pass, ex_nev, ex_frz, exs_nil, exs_cons, setT_nm, setT_tp, setTs_nil, setTs_cons, getB, getV, setV, truth, iterOf, seqOf, okIt, itW, isTp, brI, lstAt, dctAt, isTapeAt, frzE, wipeE, isIns, okIs, isB, isC, h22', hm, pair0, pair1, sub_int, lim, ne_lt]
    · refine wp_f (l := l.map Sd) (fun i ρ _ => ∃ b3 b6 b7 b8 b9 b10 b11, ρ = [tE, sE (.dct kv), sE (.lst (l.map Sd)), b3, sE nt, oE (.lst (LL n f)), b6, b7, b8, b9, b10, b11]) rfl rfl (by simp [run_eq, ev_lit, ev_var, ev_bor, ev_tup, ev_tupS, ev_lst, ev_dsp, ev_bin, ev_neg, ev_cmp, ev_cmp2, ev_isN, ev_notN, ev_and, ev_or, ev_not, ev_ife, ev_sub, ev_slc, ev_att, ev_call, ev_blt, ev_mt, evs_nil, evs_cons, evSt_nil, evSt_cons, evT_nil, evT_one, evI_seq, evI_range, evI_enum, evI_zip, ex_expr, ex_asg, ex_new, ex_par, ex_app, ex_ret, ex_retN, ex_iff, ex_pass, ex_nev, ex_frz, exs_nil, exs_cons, setT_nm, setT_tp, setTs_nil, setTs_cons, getB, getV, setV, truth, iterOf, seqOf, okIt, itW, isTp, brI, lstAt, dctAt, isTapeAt, frzE, wipeE, isIns, okIs, isB, isC]) ⟨_, _, _, _, _, _, _, rfl⟩ (fun i x ρ t3 e hi => ?_) fun ρ t3 hi => ?_
      · obtain ⟨c3, c6, c7, c8, c9, c10, c11, rfl⟩ := hi
        rw [List.getElem?_map] at e
        obtain ⟨s, hs, rfl⟩ := Option.map_eq_some_iff.mp e
        have hm' := hl s (List.mem_of_getElem? hs)
        obtain ⟨w1, w2, w3, w4⟩ := wk_facts v hm'
        have q33 := h33 s hm'
        have q15 := h15 s hm'
        have q13 := h13 s hm'
        have q18 := h18 s hm'
        have q21 := h21 s hm'
        have qs := hsub s hm'
        unfold trD at q33 q15
        generalize hT : tlL n f s = tl at *
        generalize hR : rgL n f s = rg at *
        generalize hW : wkL n f s = w at *
        have htr := ne_tr tl rg
        have hlen : tl.length ≤ 1000 ∧ rg.length ≤ 1000 := by
          have := congrArg List.length w2
          rw [List.length_append] at this
          omega
        refine wp_t (ρ' := [tE, sE (.dct kv), sE (.lst (l.map Sd)), sE (Sd s), sE nt, oE (.lst (LL n f)), c6, c7, c8, c9, c10, c11]) rfl ?_
        refine wp_p (ρ' := [tE, sE (.dct kv), sE (.lst (l.map Sd)), sE (Sd s), sE nt, oE (.lst (LL n f)), c6, c7, c8, sE (.tup (tl.map Sd)), sE (.tup (rg.map Sd)), c11]) (by simp [run_eq, ev_lit, ev_var, ev_bor, ev_tup, ev_tupS, ev_lst, ev_dsp, ev_bin, ev_neg, ev_cmp, ev_cmp2, ev_isN, ev_notN, ev_and, ev_or, ev_not, ev_ife, ev_sub, ev_slc, ev_att, ev_call, ev_blt, ev_mt, evs_nil, evs_cons, evSt_nil, evSt_cons, evT_nil, evT_one, evI_seq, evI_range, evI_enum, evI_zip, ex_expr, ex_asg, ex_new, ex_par, ex_app, ex_ret, ex_retN, ex_iff, ex_pass, ex_nev, ex_frz, exs_nil, exs_cons, setT_nm, setT_tp, setTs_nil, setTs_cons, getB, getV, setV, truth, iterOf, seqOf, okIt, itW, isTp, brI, lstAt, dctAt, isTapeAt, frzE, wipeE, isIns, okIs, isB, isC, q33]) ?_
        refine wp_iff (x := false) (by simp [run_eq, ev_lit, ev_var, ev_bor, ev_tup, ev_tupS, ev_lst, ev_dsp, ev_bin, ev_neg, ev_cmp, ev_cmp2, ev_isN, ev_notN, ev_and, ev_or, ev_not, ev_ife, ev_sub, ev_slc, ev_att, ev_call, ev_blt, ev_mt, evs_nil, evs_cons, evSt_nil, evSt_cons, evT_nil, evT_one, evI_seq, evI_range, evI_enum, evI_zip, ex_expr, ex_asg, ex_new, ex_par, ex_app, ex_ret, ex_retN, ex_iff, ex_pass, ex_nev, ex_frz, exs_nil, exs_cons, setT_nm, setT_tp, setTs_nil, setTs_cons, getB, getV, setV, truth, iterOf, seqOf, okIt, itW, isTp, brI, lstAt, dctAt, isTapeAt, frzE, wipeE, isIns, okIs, isB, isC, q15, q13, htr, qs, ne_Sd, lim]; exact fun h => absurd (show false = true from h) (by decide)) (fun h => by cases h) fun _ => ?_
        obtain ⟨items, t4, e4, hit⟩ := times_ev Φ hd (tl.map Sd) (rg.map Sd) (by rw [List.length_map]; exact hlen.1) (by rw [List.length_map]; exact hlen.2) (sE (.dct kv)) (sE (.lst (l.map Sd))) (sE (Sd s)) (sE nt) (oE (.lst (LL n f))) c6 c7 c8 c11 t3
        have hrl : (rg.map Sd).length ≠ 0 := by rw [List.length_map]; exact fun z => w1 (List.length_eq_zero_iff.mp z)
        refine wp_ft (fun i ρ _ => ∃ b6 b11, ρ = [tE, sE (.dct kv), sE (.lst (l.map Sd)), sE (Sd s), sE nt, oE (.lst (LL n f)), b6, c7, c8, sE (.tup (tl.map Sd)), sE (.tup (rg.map Sd)), b11]) rfl rfl e4 ⟨_, _, rfl⟩ (fun j y ρ t5 e5 hj => ?_) fun ρ t5 hj => ?_
        · obtain ⟨d6, d11, rfl⟩ := hj
          obtain ⟨z, rfl, z0, z1⟩ := hit y (List.mem_of_getElem? e5)
          obtain ⟨q, hq⟩ := due_some tl rg w1 z0
          have hev := due_ev Φ (tl.map Sd) (rg.map Sd) hrl z tE (sE (.dct kv)) (sE (.lst (l.map Sd))) (sE (Sd s)) (sE nt) (oE (.lst (LL n f))) c7 c8 d11
          have q18' := q18 z z0 z1
          rw [hq] at hev q18'
          refine wp_t (ρ' := [tE, sE (.dct kv), sE (.lst (l.map Sd)), sE (Sd s), sE nt, oE (.lst (LL n f)), sE (.int z), c7, c8, sE (.tup (tl.map Sd)), sE (.tup (rg.map Sd)), d11]) rfl ?_
          refine wp_p (ρ' := [tE, sE (.dct kv), sE (.lst (l.map Sd)), sE (Sd s), sE nt, oE (.lst (LL n f)), sE (.int z), c7, c8, sE (.tup (tl.map Sd)), sE (.tup (rg.map Sd)), sE (Sd q)]) ?_ ?_
          · rw [ex_asg, hev]
            rfl
          · refine wp_iff (x := false) (by simp [run_eq, ev_lit, ev_var, ev_bor, ev_tup, ev_tupS, ev_lst, ev_dsp, ev_bin, ev_neg, ev_cmp, ev_cmp2, ev_isN, ev_notN, ev_and, ev_or, ev_not, ev_ife, ev_sub, ev_slc, ev_att, ev_call, ev_blt, ev_mt, evs_nil, evs_cons, evSt_nil, evSt_cons, evT_nil, evT_one, evI_seq, evI_range, evI_enum, evI_zip, ex_expr, ex_asg, ex_new, ex_par, ex_app, ex_ret, ex_retN, ex_iff, ex_pass, ex_nev, ex_frz, exs_nil, exs_cons, setT_nm, setT_tp, setTs_nil, setTs_cons, getB, getV, setV, truth, iterOf, seqOf, okIt, itW, isTp, brI, lstAt, dctAt, isTapeAt, frzE, wipeE, isIns, okIs, isB, isC, q18', ne_Sd]; exact fun h => absurd (show false = true from h) (by decide)) (fun h => by cases h) fun _ => wp_n ⟨rfl, _, _, rfl⟩
        · obtain ⟨d6, d11, rfl⟩ := hj
          have hadd : binS .add (.tup (tl.map Sd)) (.tup (rg.map Sd)) = some (.tup (w.map Sd)) := by
            show (if (tl.map Sd).length + (rg.map Sd).length ≤ lim then some (D.tup (tl.map Sd ++ rg.map Sd)) else none) = _
            rw [if_pos (by rw [List.length_map, List.length_map]; exact Nat.le_trans (show tl.length + rg.length ≤ 2000 by omega) (by decide)), ← List.map_append, w2]
          refine wp_p (ρ' := [tE, sE (.dct kv), sE (.lst (l.map Sd)), sE (Sd s), sE nt, oE (.lst (LL n f)), d6, sE (.tup (w.map Sd)), c8, sE (.tup (tl.map Sd)), sE (.tup (rg.map Sd)), d11]) (by simp [run_eq, ev_lit, ev_var, ev_bor, ev_tup, ev_tupS, ev_lst, ev_dsp, ev_bin, ev_neg, ev_cmp, ev_cmp2, ev_isN, ev_notN, ev_and, ev_or, ev_not, ev_ife, ev_sub, ev_slc, ev_att, ev_call, ev_blt, ev_mt, evs_nil, evs_cons, evSt_nil, evSt_cons, evT_nil, evT_one, evI_seq, evI_range, evI_enum, evI_zip, ex_expr, ex_asg, ex_new, ex_par, ex_app, ex_ret, ex_retN, ex_iff, ex_pass, ex_nev, ex_frz, exs_nil, exs_cons, setT_nm, setT_tp, setTs_nil, setTs_cons, getB, getV, setV, truth, iterOf, seqOf, okIt, itW, isTp, brI, lstAt, dctAt, isTapeAt, frzE, wipeE, isIns, okIs, isB, isC, hadd]) ?_
          refine wp_f (l := (stsL n).map Sd) (fun i ρ _ => ∃ b8, ρ = [tE, sE (.dct kv), sE (.lst (l.map Sd)), sE (Sd s), sE nt, oE (.lst (LL n f)), d6, sE (.tup (w.map Sd)), b8, sE (.tup (tl.map Sd)), sE (.tup (rg.map Sd)), d11]) rfl rfl (by simp [run_eq, ev_lit, ev_var, ev_bor, ev_tup, ev_tupS, ev_lst, ev_dsp, ev_bin, ev_neg, ev_cmp, ev_cmp2, ev_isN, ev_notN, ev_and, ev_or, ev_not, ev_ife, ev_sub, ev_slc, ev_att, ev_call, ev_blt, ev_mt, evs_nil, evs_cons, evSt_nil, evSt_cons, evT_nil, evT_one, evI_seq, evI_range, evI_enum, evI_zip, ex_expr, ex_asg, ex_new, ex_par, ex_app, ex_ret, ex_retN, ex_iff, ex_pass, ex_nev, ex_frz, exs_nil, exs_cons, setT_nm, setT_tp, setTs_nil, setTs_cons, getB, getV, setV, truth, iterOf, seqOf, okIt, itW, isTp, brI, lstAt, dctAt, isTapeAt, frzE, wipeE, isIns, okIs, isB, isC, hso]) ⟨_, rfl⟩ (fun j y ρ t6 e6 hj => ?_) fun ρ t6 hj => ?_
          · obtain ⟨f8, rfl⟩ := hj
            rw [List.getElem?_map] at e6
            obtain ⟨o, ho, rfl⟩ := Option.map_eq_some_iff.mp e6
            have q21' := q21 o (List.mem_of_getElem? ho)
            refine wp_t (ρ' := [tE, sE (.dct kv), sE (.lst (l.map Sd)), sE (Sd s), sE nt, oE (.lst (LL n f)), d6, sE (.tup (w.map Sd)), sE (Sd o), sE (.tup (tl.map Sd)), sE (.tup (rg.map Sd)), d11]) rfl ?_
            refine wp_iff (x := false) ?_ (fun h => by cases h) fun _ => wp_n ⟨rfl, _, rfl⟩
            by_cases how : o ∈ w
            · rw [if_pos how] at q21'
              have hi := (blt_index w o how).2
              generalize ((w.idxOf o : Nat) : Int) = ix at *
              simp [run_eq, ev_lit, ev_var, ev_bor, ev_tup, ev_tupS, ev_lst, ev_dsp, ev_bin, ev_neg, ev_cmp, ev_cmp2, ev_isN, ev_notN, ev_and, ev_or, ev_not, ev_ife, ev_sub, ev_slc, ev_att, ev_call, ev_blt, ev_mt, evs_nil, evs_cons, evSt_nil, evSt_cons, evT_nil, evT_one, evI_seq, evI_range, evI_enum, evI_zip, ex_expr, ex_asg, ex_new, ex_par, ex_app, ex_ret, ex_retN, ex_iff, ex_pass, ex_nev, ex_frz, exs_nil, exs_cons, setT_nm, setT_tp, setTs_nil, setTs_cons, getB, getV, setV, truth, iterOf, seqOf, okIt, itW, isTp, brI, lstAt, dctAt, isTapeAt, frzE, wipeE, isIns, okIs, isB, isC, q21', memT_Sds, how, isIns_Sd, mtOk, hi, ne_int]
            · rw [if_neg how] at q21'
              simp [run_eq, ev_lit, ev_var, ev_bor, ev_tup, ev_tupS, ev_lst, ev_dsp, ev_bin, ev_neg, ev_cmp, ev_cmp2, ev_isN, ev_notN, ev_and, ev_or, ev_not, ev_ife, ev_sub, ev_slc, ev_att, ev_call, ev_blt, ev_mt, evs_nil, evs_cons, evSt_nil, evSt_cons, evT_nil, evT_one, evI_seq, evI_range, evI_enum, evI_zip, ex_expr, ex_asg, ex_new, ex_par, ex_app, ex_ret, ex_retN, ex_iff, ex_pass, ex_nev, ex_frz, exs_nil, exs_cons, setT_nm, setT_tp, setTs_nil, setTs_cons, getB, getV, setV, truth, iterOf, seqOf, okIt, itW, isTp, brI, lstAt, dctAt, isTapeAt, frzE, wipeE, isIns, okIs, isB, isC, q21', memT_Sds, how, isIns_Sd, ne_non]
          · obtain ⟨f8, rfl⟩ := hj
            exact wp_n ⟨rfl, _, _, _, _, _, _, _, rfl⟩
      · obtain ⟨c3, c6, c7, c8, c9, c10, c11, rfl⟩ := hi
        exact wp_r (d := .bl true) (ρ' := [tE, sE (.dct kv), sE (.lst (l.map Sd)), c3, sE nt, oE (.lst (LL n f)), c6, c7, c8, c9, c10, c11]) rfl (wp_ret rfl)
end LW
end
section
set_option Elab.async false
set_option linter.all false
set_option maxRecDepth 100000
set_option maxHeartbeats 1000000
set_option autoImplicit false
namespace LW
open VS
def Lf (ns : List Int) : List Int := (ns.filter fun n => decide (10 ^ 18 ≤ (n.natAbs : Int))).map fun n => (n.natAbs : Int) - 10 ^ 18
def Cf (ns : List Int) : List Int := ns.map fun n => (n.natAbs : Int)
theorem abs_int (i : Int) : bltS .abs [.int i] = some (.int (i.natAbs : Nat)) := by
  show some (D.int (if i < 0 then -i else i)) = _
  congr 2
  split <;> omega
theorem Lf_flat : ∀ ns : List Int, (ns.flatMap fun n => if decide ((1000000000000000000 : Int) ≤ (n.natAbs : Nat)) = true then [D.int ((n.natAbs : Nat) - 1000000000000000000)] else []) = (Lf ns).map .int
  | [] => rfl
  | n :: ns => by
    have ih := Lf_flat ns
    unfold Lf at ih ⊢
    rw [List.flatMap_cons, List.filter_cons, ih]
    by_cases h : (1000000000000000000 : Int) ≤ (n.natAbs : Nat)
    · have h' : (10 : Int) ^ 18 ≤ (n.natAbs : Nat) := h
      rw [if_pos (decide_eq_true h), if_pos (decide_eq_true h')]
      rfl
    · have h' : ¬ (10 : Int) ^ 18 ≤ (n.natAbs : Nat) := h
      rw [if_neg (fun z => h (of_decide_eq_true z)), if_neg (fun z => h' (of_decide_eq_true z))]
      rfl
theorem Lf_len (ns : List Int) : (Lf ns).length ≤ ns.length := by
  unfold Lf
  rw [List.length_map]
  exact List.length_filter_le _ _
theorem begL : ∀ (ns : List Int) t, ns.length ≤ 63 → ev Φ0 begE1 (env0 3 [.lst (ns.map .int)]) t = some (.ok (.lst ((Lf ns).map .int)), t) := fun ns t h => by
  have hp := pow_int 10 18 ⟨by decide, by decide, by decide⟩
  have hc := comp_bind (Φ := Φ0) (ρ := [sE (.lst (ns.map .int)), none, none]) (own := [2]) (tg := .nm 2) (it := .seq (.bor 0)) (ifs := [.cmp .ge (.blt .abs [.bor 2]) (.bin .pow (.lit (.int 10)) (.lit (.int 18)))]) (elt := .bin .sub (.blt .abs [.bor 2]) (.bin .pow (.lit (.int 10)) (.lit (.int 18)))) (i := D.int)
    (g := fun n => if decide ((1000000000000000000 : Int) ≤ (n.natAbs : Nat)) = true then [D.int ((n.natAbs : Nat) - 1000000000000000000)] else []) (l := ns) rfl (by simp [run_eq, ev_lit, ev_var, ev_bor, ev_tup, ev_tupS, ev_lst, ev_dsp, ev_bin, ev_neg, ev_cmp, ev_cmp2, ev_isN, ev_notN, ev_and, ev_or, ev_not, ev_ife, ev_sub, ev_slc, ev_att, ev_call, ev_blt, ev_mt, evs_nil, evs_cons, evSt_nil, evSt_cons, evT_nil, evT_one, evI_seq, evI_range, evI_enum, evI_zip, ex_expr, ex_asg, ex_new, ex_par, ex_app, ex_ret, ex_retN, ex_iff, ex_pass, ex_nev, ex_frz, exs_nil, exs_cons, setT_nm, setT_tp, setTs_nil, setTs_cons, getB, getV, setV, truth, iterOf, seqOf, okIt, itW, isTp, brI, lstAt, dctAt, isTapeAt, frzE, wipeE, isIns, okIs, isB, isC]) rfl (fun n _ => by
      have a1 := abs_int n
      generalize ((n.natAbs : Nat) : Int) = z at *
      by_cases hz : (1000000000000000000 : Int) ≤ z
      · simp [run_eq, ev_lit, ev_var, ev_bor, ev_tup, ev_tupS, ev_lst, ev_dsp, ev_bin, ev_neg, ev_cmp, ev_cmp2, ev_isN, ev_notN, ev_and, ev_or, ev_not, ev_ife, ev_sub, ev_slc, ev_att, ev_call, ev_blt, ev_mt, evs_nil, evs_cons, evSt_nil, evSt_cons, evT_nil, evT_one, evI_seq, evI_range, evI_enum, evI_zip, ex_expr, ex_asg, ex_new, ex_par, ex_app, ex_ret, ex_retN, ex_iff, ex_pass, ex_nev, ex_frz, exs_nil, exs_cons, setT_nm, setT_tp, setTs_nil, setTs_cons, getB, getV, setV, truth, iterOf, seqOf, okIt, itW, isTp, brI, lstAt, dctAt, isTapeAt, frzE, wipeE, isIns, okIs, isB, isC, cStep, a1, hp, ge_int, sub_int, hz]
      · simp [run_eq, ev_lit, ev_var, ev_bor, ev_tup, ev_tupS, ev_lst, ev_dsp, ev_bin, ev_neg, ev_cmp, ev_cmp2, ev_isN, ev_notN, ev_and, ev_or, ev_not, ev_ife, ev_sub, ev_slc, ev_att, ev_call, ev_blt, ev_mt, evs_nil, evs_cons, evSt_nil, evSt_cons, evT_nil, evT_one, evI_seq, evI_range, evI_enum, evI_zip, ex_expr, ex_asg, ex_new, ex_par, ex_app, ex_ret, ex_retN, ex_iff, ex_pass, ex_nev, ex_frz, exs_nil, exs_cons, setT_nm, setT_tp, setTs_nil, setTs_cons, getB, getV, setV, truth, iterOf, seqOf, okIt, itW, isTp, brI, lstAt, dctAt, isTapeAt, frzE, wipeE, isIns, okIs, isB, isC, cStep, a1, hp, ge_int, sub_int, hz]) (by rw [Lf_flat, List.length_map]; exact Nat.le_trans (Lf_len ns) (Nat.le_trans h (by decide)))
  rw [Lf_flat] at hc
  exact congrFun hc t
theorem begC : ∀ (ns : List Int) t, ns.length ≤ 63 → ev Φ0 begE3 (setV (env0 3 [.lst (ns.map .int)]) 1 (.lst ((Lf ns).map .int)) true) t = some (.ok (.lst ((Cf ns).map .int)), t) := fun ns t h => by
  have hc := comp_map (Φ := Φ0) (ρ := [sE (.lst (ns.map .int)), oE (.lst ((Lf ns).map .int)), none]) (own := [2]) (tg := .nm 2) (it := .seq (.bor 0)) (elt := .blt .abs [.bor 2]) (i := D.int) (g := fun n => D.int (n.natAbs : Nat)) (l := ns) rfl (by simp [run_eq, ev_lit, ev_var, ev_bor, ev_tup, ev_tupS, ev_lst, ev_dsp, ev_bin, ev_neg, ev_cmp, ev_cmp2, ev_isN, ev_notN, ev_and, ev_or, ev_not, ev_ife, ev_sub, ev_slc, ev_att, ev_call, ev_blt, ev_mt, evs_nil, evs_cons, evSt_nil, evSt_cons, evT_nil, evT_one, evI_seq, evI_range, evI_enum, evI_zip, ex_expr, ex_asg, ex_new, ex_par, ex_app, ex_ret, ex_retN, ex_iff, ex_pass, ex_nev, ex_frz, exs_nil, exs_cons, setT_nm, setT_tp, setTs_nil, setTs_cons, getB, getV, setV, truth, iterOf, seqOf, okIt, itW, isTp, brI, lstAt, dctAt, isTapeAt, frzE, wipeE, isIns, okIs, isB, isC]) rfl (fun n _ => by
    have a1 := abs_int n
    generalize ((n.natAbs : Nat) : Int) = z at *
    simp [run_eq, ev_lit, ev_var, ev_bor, ev_tup, ev_tupS, ev_lst, ev_dsp, ev_bin, ev_neg, ev_cmp, ev_cmp2, ev_isN, ev_notN, ev_and, ev_or, ev_not, ev_ife, ev_sub, ev_slc, ev_att, ev_call, ev_blt, ev_mt, evs_nil, evs_cons, evSt_nil, evSt_cons, evT_nil, evT_one, evI_seq, evI_range, evI_enum, evI_zip, ex_expr, ex_asg, ex_new, ex_par, ex_app, ex_ret, ex_retN, ex_iff, ex_pass, ex_nev, ex_frz, exs_nil, exs_cons, setT_nm, setT_tp, setTs_nil, setTs_cons, getB, getV, setV, truth, iterOf, seqOf, okIt, itW, isTp, brI, lstAt, dctAt, isTapeAt, frzE, wipeE, isIns, okIs, isB, isC, cStep, a1]) (Nat.le_trans h (by decide))
  have e : (ns.map fun n => D.int (n.natAbs : Nat)) = (Cf ns).map .int := by unfold Cf; rw [List.map_map]; rfl
  rw [e] at hc
  exact congrFun hc t
theorem hI_eq : ∀ ds t r t', Phi 0 ds t = some (r, t') → ∃ l m, ds = [.ins 0 l, .ins 0 m] := fun ds t r t' h => by
  replace h : in2 ds (VS.run Φ0 100000 b_Net_eq ds) t = some (r, t') := h
  unfold in2 at h
  split at h
  · exact ⟨_, _, rfl⟩
  · cases h
theorem hI_Net_switches : ∀ ds t r t', Phi 38 ds t = some (r, t') → (∃ l, ds = [.ins 0 l]) ∧ ∃ d, r = .ok d := fun ds t r t' h => by
  replace h : in1 ds (VS.run Φ0 100000 b_Net_switches ds) t = some (r, t') := h
  unfold in1 at h
  split at h
  · rename_i l
    refine ⟨⟨l, rfl⟩, ?_⟩
    match l, h with
    | [], h => cases h
    | d :: m, h =>
      have e : VS.run Φ0 100000 b_Net_switches [.ins 0 (d :: m)] = lft (bltS .len [d]) := by
        simp [run_eq, ev_lit, ev_var, ev_bor, ev_tup, ev_tupS, ev_lst, ev_dsp, ev_bin, ev_neg, ev_cmp, ev_cmp2, ev_isN, ev_notN, ev_and, ev_or, ev_not, ev_ife, ev_sub, ev_slc, ev_att, ev_call, ev_blt, ev_mt, evs_nil, evs_cons, evSt_nil, evSt_cons, evT_nil, evT_one, evI_seq, evI_range, evI_enum, evI_zip, ex_expr, ex_asg, ex_new, ex_par, ex_app, ex_ret, ex_retN, ex_iff, ex_pass, ex_nev, ex_frz, exs_nil, exs_cons, setT_nm, setT_tp, setTs_nil, setTs_cons, getB, getV, setV, truth, iterOf, seqOf, okIt, itW, isTp, brI, lstAt, dctAt, isTapeAt, frzE, wipeE, isIns, okIs, isB, isC, b_Net_switches]
        cases bltS .len [d] <;> rfl
      rw [e] at h
      obtain ⟨d', _, rfl, _⟩ := lft_some' h
      exact ⟨_, rfl⟩
  · cases h
theorem hI_Net_rules : ∀ ds t r t', Phi 39 ds t = some (r, t') → (∃ l, ds = [.ins 0 l]) ∧ ∃ d, r = .ok d := fun ds t r t' h => by
  replace h : in1 ds (VS.run Φ0 100000 b_Net_rules ds) t = some (r, t') := h
  unfold in1 at h
  split at h
  · rename_i l
    refine ⟨⟨l, rfl⟩, ?_⟩
    match l, h with
    | [], h => cases h
    | d :: m, h =>
      have e : VS.run Φ0 100000 b_Net_rules [.ins 0 (d :: m)] = ret d := by simp [run_eq, ev_lit, ev_var, ev_bor, ev_tup, ev_tupS, ev_lst, ev_dsp, ev_bin, ev_neg, ev_cmp, ev_cmp2, ev_isN, ev_notN, ev_and, ev_or, ev_not, ev_ife, ev_sub, ev_slc, ev_att, ev_call, ev_blt, ev_mt, evs_nil, evs_cons, evSt_nil, evSt_cons, evT_nil, evT_one, evI_seq, evI_range, evI_enum, evI_zip, ex_expr, ex_asg, ex_new, ex_par, ex_app, ex_ret, ex_retN, ex_iff, ex_pass, ex_nev, ex_frz, exs_nil, exs_cons, setT_nm, setT_tp, setTs_nil, setTs_cons, getB, getV, setV, truth, iterOf, seqOf, okIt, itW, isTp, brI, lstAt, dctAt, isTapeAt, frzE, wipeE, isIns, okIs, isB, isC, b_Net_rules]
      rw [e] at h
      cases h
      exact ⟨_, rfl⟩
  · cases h
theorem sp_Net_eq : ∀ ds t r t', ds.length = 2 → Phi 0 ds t = some (r, t') → VS.run Φ0 100000 b_Net_eq ds t = some (r, t') := fun ds t r t' _ h => by
  replace h : in2 ds (VS.run Φ0 100000 b_Net_eq ds) t = some (r, t') := h
  unfold in2 at h
  split at h
  · exact h
  · cases h
theorem sp_Net_switches : ∀ ds t r t', ds.length = 1 → Phi 38 ds t = some (r, t') → VS.run Φ0 100000 b_Net_switches ds t = some (r, t') := fun ds t r t' _ h => by
  replace h : in1 ds (VS.run Φ0 100000 b_Net_switches ds) t = some (r, t') := h
  unfold in1 at h
  split at h
  · exact h
  · cases h
theorem sp_Net_rules : ∀ ds t r t', ds.length = 1 → Phi 39 ds t = some (r, t') → VS.run Φ0 100000 b_Net_rules ds t = some (r, t') := fun ds t r t' _ h => by
  replace h : in1 ds (VS.run Φ0 100000 b_Net_rules ds) t = some (r, t') := h
  unfold in1 at h
  split at h
  · exact h
  · cases h
/-! the drawing -/
theorem d2 : Drw P2 25 := fun n h0 h1 t => by
  rw [e__law_draw]
  exact W_draw P1 (fun t => by rw [e__law_blend]; exact W_blend Φ0 t) n h0 h1 t
theorem d3 : Drw P3 25 := fun n h0 h1 t => by rw [u_3_25]; exact d2 n h0 h1 t
theorem w_pick (l : List D) (h0 : l ≠ []) (h1 : l.length < 1073741824) (t : VS.Tape) : wp (P3 26 [.tape, .lst l]) (fun d _ => d ∈ l) t := by
  rw [e__law_pick]
  exact W_pick P2 d2 l h0 h1 t
theorem w_shuf (l : List (List Int)) (h1 : l.length ≤ 32) (t : VS.Tape) : wp (P3 27 [.tape, .lst (l.map Sd)]) (fun d _ => ∃ m : List (List Int), d = .lst (m.map Sd) ∧ m.length = l.length ∧ ∀ x ∈ m, x ∈ l) t := by
  rw [e__law_shuffled]
  exact W_shuf P2 d2 l h1 t
theorem w_small (t : VS.Tape) : wp (P3 32 [.tape, .int 4]) (fun d _ => ∃ l, d = .lst l ∧ ∀ x ∈ l, IsNet x) t := by
  rw [e__law_small_nets]
  refine W_small P2 d2 ?_ ?_ ?_ ?_ t
  · rw [u_2_29]; exact r_law_states (n := 1) (by decide)
  · rw [u_2_29]; exact r_law_states (n := 2) (by decide)
  · rw [u_2_28]; exact r_pow2
  · rw [u_2_28]; exact r_pow4
theorem w_net (t : VS.Tape) : wp (P4 30 [.tape, .int 5]) (fun d _ => IsNet d) t := by
  rw [e__law_net]
  exact W_net P3 d3 (fun n h => by rw [u_3_29]; exact r_law_states h) w_pick w_shuf t
theorem d7 : Drw P7 25 := fun n h0 h1 t => by rw [u_7_25]; exact d2 n h0 h1 t
theorem w_right {n : Nat} {f : List Int → List Int} (v : Vn n f) (l : List (List Int)) (hl : ∀ s ∈ l, s ∈ stsL n) (t : VS.Tape) : wp (P8 35 [.tape, .dct (dn n f), .lst (l.map Sd)]) (fun d _ => d = .bl true) t := by
  rw [e__law_net_right]
  refine W_right P7 v (dn n f) (net n f) d7 (r_made v) (fun s h => ?_) (fun a u h => ?_) (fun s h => r_beat_run v h) (fun s h => r_next_state v.hi h) (fun s h z h0 h1 => r_after v h z h0 h1) (fun s h u hu => r_beat_time v h hu) (sorted_dn v) (fun s h => dn_sub h) l hl t
  · rw [u_7_33]; exact r_law_run v h
  · rw [u_7_22]; exact r_longest v h
end LW
end
section
set_option Elab.async false
set_option linter.all false
set_option maxRecDepth 100000
set_option maxHeartbeats 1000000
set_option autoImplicit false
namespace LW
open VS
theorem sts_of {L : List (List Int)} : ∀ {l : List D}, (∀ y ∈ l, ∃ s ∈ L, y = Sd s) → ∃ m : List (List Int), l = m.map Sd ∧ ∀ s ∈ m, s ∈ L
  | [], _ => ⟨[], rfl, fun _ m => by cases m⟩
  | d :: l, h => by
    obtain ⟨s, hs, rfl⟩ := h d (List.mem_cons_self ..)
    obtain ⟨m, rfl, hm⟩ := sts_of fun y k => h y (List.mem_cons_of_mem _ k)
    exact ⟨s :: m, rfl, fun x k => (List.mem_cons.mp k).elim (fun e => e ▸ hs) (hm x)⟩
theorem wp_iffF {Φ : Nat → List D → M D} {fu : Nat} {ρ : Env} {P : Fl × Env → VS.Tape → Prop} {t t1 : VS.Tape} {ss a : List Stm} {c : Ex} (h : ev Φ c ρ t = some (.ok (.bl true), t1)) (h2 : wp (execs Φ fu ss ρ) P t1) : wp (execs Φ fu (.iff (.not c) a [] :: ss) ρ) P t := by
  refine wp_s (ρ' := ρ) (t' := t1) ?_ h2
  rw [ex_iff, ev_not, bnd_bnd, bnd_ok h]
  rfl
def f2 (s : List Int) : List Int := if s = [0, 0] then [1, 1] else if s = [0, 1] then [0, 1] else if s = [1, 0] then [1, 0] else [0, 0]
theorem v_f2 : Vn 2 f2 := ⟨by decide, by decide, by decide⟩
def f1 (_ : List Int) : List Int := [1]
theorem v_f1 : Vn 1 f1 := ⟨by decide, by decide, by decide⟩
/-- rules, as the program writes them -/
def tI (l : List Int) : D := .tup (l.map .int)
theorem n_two : netD [tI [1, 0, 1, 0], tI [1, 1, 0, 0]] = net 2 f2 := by
  have e : [tI [1, 0, 1, 0], tI [1, 1, 0, 0]] = rl 2 f2 := rfl
  rw [e, netD_rl v_f2]
theorem n_four : netD [tI [1, 0, 1, 0], tI [0, 0, 1, 1]] = net 2 f4 := by
  have e : [tI [1, 0, 1, 0], tI [0, 0, 1, 1]] = rl 2 f4 := rfl
  rw [e, netD_rl v_f4]
theorem n_one : netD [tI [1, 1]] = net 1 f1 := by
  have e : [tI [1, 1]] = rl 1 f1 := rfl
  rw [e, netD_rl v_f1]
theorem min_seven (n : Nat) : ∃ m : Nat, m ≤ 7 ∧ bltS .min [.int (n : Nat), .int 7] = some (.int (m : Nat)) := by
  by_cases h : (7 : Int) < (n : Nat)
  · exact ⟨7, by decide, by show some (D.int (if (7 : Int) < (n : Nat) then 7 else n)) = _; rw [if_pos h]; rfl⟩
  · exact ⟨n, by omega, by show some (D.int (if (7 : Int) < (n : Nat) then 7 else n)) = _; rw [if_neg h]⟩
theorem W_law (Φ : Nat → List D → M D) (N1 N2 N4 : D) (kv : List (D × D)) (l : List D)
    (h32 : ∀ t, wp (Φ 32 [.tape, .int 4]) (fun d _ => ∃ l, d = .lst l ∧ ∀ x ∈ l, IsNet x) t)
    (h30 : ∀ t, wp (Φ 30 [.tape, .int 5]) (fun d _ => IsNet d) t)
    (h26 : ∀ (l : List D), l ≠ [] → l.length < 1073741824 → ∀ t, wp (Φ 26 [.tape, .lst l]) (fun d _ => d ∈ l) t)
    (h35 : ∀ {n : Nat} {f : List Int → List Int}, Vn n f → ∀ l : List (List Int), (∀ s ∈ l, s ∈ stsL n) → ∀ t, wp (Φ 35 [.tape, .dct (dn n f), .lst (l.map Sd)]) (fun d _ => d = .bl true) t)
    (h34 : Φ 34 [] = ret (.dct kv)) (h31 : Φ 31 [.dct kv] = ret N4)
    (k2 : Φ 37 [.lst [tI [1, 0, 1, 0], tI [1, 1, 0, 0]]] = ret N2) (k4 : Φ 37 [.lst [tI [1, 0, 1, 0], tI [0, 0, 1, 1]]] = ret N4) (k1 : Φ 37 [.lst [tI [1, 1]]] = ret N1)
    (a15 : Φ 15 [N2, tI [0, 0]] = ret (.tup [.tup [], .tup [tI [0, 0], tI [1, 1]]])) (a18 : Φ 18 [N4, tI [0, 0], .int 999999999999999999] = ret (tI [0, 1])) (a21 : Φ 21 [N4, tI [0, 1], tI [1, 1]] = ret (.int 3))
    (b21 : Φ 21 [N2, tI [0, 1], tI [1, 0]] = ret .non) (a22 : Φ 22 [N1] = ret (.tup [.int 1, tI [0]])) (hi : isIns N4 = true) (h0 : Φ 0 [N4, N4] = ret (.bl true)) (t : VS.Tape) :
    wp (execs Φ 100000 (b_law.body.drop 1) [sE (.lst l), tE, none, none, none, none, none]) (fun r _ => r.1 = .rt (.bl true)) t := by
  obtain ⟨d, t0, e0, ln, rfl, hn⟩ := h32 t
  have e1 : evI Φ (.seq (.call 32 [.var 1, .lit (.int 4)])) [sE (.lst l), tE, none, none, none, none, none] t = some (.ok ln, t0) := by
    show bnd (bnd (ret [.tape, .int 4]) fun ds => Φ 32 ds) (fun x => lft (iterOf x)) t = _
    rw [bnd_ret, bnd_ok e0]
    rfl
  refine wp_ft (fun i ρ _ => ∃ b2, ρ = [sE (.lst l), tE, b2, none, none, none, none]) rfl rfl e1 ⟨_, rfl⟩ (fun i x ρ t1 e hp => ?_) fun ρ t1 hp => ?_
  · obtain ⟨b2, rfl⟩ := hp
    obtain ⟨n, f, v, rfl⟩ := hn x (List.mem_of_getElem? e)
    refine wp_t (ρ' := [sE (.lst l), tE, sE (.dct (dn n f)), none, none, none, none]) rfl ?_
    obtain ⟨d, t2, e2, rfl⟩ := h35 v (stsL n) (fun _ h => h) t1
    refine wp_iffF (t1 := t2) ?_ (wp_n ⟨rfl, _, rfl⟩)
    show bnd (evs Φ [.var 1, .var 2, .blt .sorted [.bor 2]] _) (fun ds => Φ 35 ds) t1 = _
    have hs : ev Φ (.blt .sorted [.bor 2]) [sE (.lst l), tE, sE (.dct (dn n f)), none, none, none, none] = ret (.lst ((stsL n).map Sd)) := by simp [run_eq, ev_lit, ev_var, ev_bor, ev_tup, ev_tupS, ev_lst, ev_dsp, ev_bin, ev_neg, ev_cmp, ev_cmp2, ev_isN, ev_notN, ev_and, ev_or, ev_not, ev_ife, ev_sub, ev_slc, ev_att, ev_call, ev_blt, ev_mt, evs_nil, evs_cons, evSt_nil, evSt_cons, evT_nil, evT_one, evI_seq, evI_range, evI_enum, evI_zip, ex_expr, ex_asg, ex_new, ex_par, ex_app, ex_ret, ex_retN, ex_iff, ex_pass, ex_nev, ex_frz, exs_nil, exs_cons, setT_nm, setT_tp, setTs_nil, setTs_cons, getB, getV, setV, truth, iterOf, seqOf, okIt, itW, isTp, brI, lstAt, dctAt, isTapeAt, frzE, wipeE, isIns, okIs, isB, isC, sorted_dn v]
    rw [bnd_ok (evs_pure rfl (evs_pure rfl (evs_pure hs rfl))), e2]
  · obtain ⟨b2, rfl⟩ := hp
    obtain ⟨m, hm, emin⟩ := min_seven l.length
    have e2 : evI Φ (.range [.bin .add (.lit (.int 3)) (.blt .min [.blt .len [.bor 0], .lit (.int 7)])]) [sE (.lst l), tE, b2, none, none, none, none] = ret (rangeL 0 (3 + m)) := by
      have e3 : ev Φ (.bin .add (.lit (.int 3)) (.blt .min [.blt .len [.bor 0], .lit (.int 7)])) [sE (.lst l), tE, b2, none, none, none, none] = ret (.int ((3 + m : Nat) : Int)) := by
        have e4 : binS .add (.int 3) (.int (m : Nat)) = some (.int ((3 + m : Nat) : Int)) := by rw [add_int, Int.natCast_add]; rfl
        generalize ((3 + m : Nat) : Int) = w at *
        simp [run_eq, ev_lit, ev_var, ev_bor, ev_tup, ev_tupS, ev_lst, ev_dsp, ev_bin, ev_neg, ev_cmp, ev_cmp2, ev_isN, ev_notN, ev_and, ev_or, ev_not, ev_ife, ev_sub, ev_slc, ev_att, ev_call, ev_blt, ev_mt, evs_nil, evs_cons, evSt_nil, evSt_cons, evT_nil, evT_one, evI_seq, evI_range, evI_enum, evI_zip, ex_expr, ex_asg, ex_new, ex_par, ex_app, ex_ret, ex_retN, ex_iff, ex_pass, ex_nev, ex_frz, exs_nil, exs_cons, setT_nm, setT_tp, setTs_nil, setTs_cons, getB, getV, setV, truth, iterOf, seqOf, okIt, itW, isTp, brI, lstAt, dctAt, isTapeAt, frzE, wipeE, isIns, okIs, isB, isC, len_lst, emin, e4]
      rw [evI_range, evs_cons, e3]
      show lft (rangeOf [.int ((3 + m : Nat) : Int)]) = _
      rw [range_n (by omega)]
      rfl
    refine wp_f (fun i ρ _ => ∃ b2 b3, ρ = [sE (.lst l), tE, b2, b3, none, none, none]) rfl rfl e2 ⟨_, _, rfl⟩ (fun i x ρ t2 _ hp => ?_) fun ρ t2 hp => ?_
    · obtain ⟨b2, b3, rfl⟩ := hp
      refine wp_t (ρ' := [sE (.lst l), tE, b2, sE x, none, none, none]) rfl ?_
      obtain ⟨d, t3, e3, n, f, v, rfl⟩ := h30 t2
      refine wp_s (ρ' := [sE (.lst l), tE, sE (.dct (dn n f)), sE x, none, none, none]) (t' := t3) ?_ ?_
      · show bnd (bnd (ret [.tape, .int 5]) fun ds => Φ 30 ds) (fun d => bnd (lft (setT (.nm 2) d _)) fun ρ' => ret (Fl.nx, ρ')) t2 = _
        rw [bnd_ret, bnd_ok e3]
        rfl
      · have hs : ev Φ (.blt .sorted [.bor 2]) [sE (.lst l), tE, sE (.dct (dn n f)), sE x, none, none, none] = ret (.lst ((stsL n).map Sd)) := by simp [run_eq, ev_lit, ev_var, ev_bor, ev_tup, ev_tupS, ev_lst, ev_dsp, ev_bin, ev_neg, ev_cmp, ev_cmp2, ev_isN, ev_notN, ev_and, ev_or, ev_not, ev_ife, ev_sub, ev_slc, ev_att, ev_call, ev_blt, ev_mt, evs_nil, evs_cons, evSt_nil, evSt_cons, evT_nil, evT_one, evI_seq, evI_range, evI_enum, evI_zip, ex_expr, ex_asg, ex_new, ex_par, ex_app, ex_ret, ex_retN, ex_iff, ex_pass, ex_nev, ex_frz, exs_nil, exs_cons, setT_nm, setT_tp, setTs_nil, setTs_cons, getB, getV, setV, truth, iterOf, seqOf, okIt, itW, isTp, brI, lstAt, dctAt, isTapeAt, frzE, wipeE, isIns, okIs, isB, isC, sorted_dn v]
        have w := wp_comp (Φ := Φ) (ρ := [sE (.lst l), tE, sE (.dct (dn n f)), sE x, none, none, none]) (own := [6]) (tg := .nm 6) (it := .range [.lit (.int 4)]) (elt := .call 26 [.var 1, .blt .sorted [.bor 2]]) (items := rangeL 0 4) (ρ₀ := [sE (.lst l), tE, sE (.dct (dn n f)), sE x, none, none, none]) (t := t3) (fun y => ∃ s ∈ stsL n, y = Sd s) rfl ⟨_, t3, rfl, rfl⟩ rfl (fun y _ t4 => by
          have hne : (stsL n).map Sd ≠ [] := fun z => by
            have := congrArg List.length z
            rw [sts_len] at this
            exact absurd this (Nat.ne_of_gt (Nat.pow_pos (by decide)))
          obtain ⟨d, t5, e5, hd⟩ := h26 ((stsL n).map Sd) hne (by rw [sts_len]; exact Nat.lt_of_le_of_lt (pow_32 v.hi) (by decide)) t4
          obtain ⟨s, hs', rfl⟩ := List.mem_map.mp hd
          refine ⟨[Sd s], t5, ?_, _, rfl, s, hs', rfl⟩
          have hs2 : ev Φ (.blt .sorted [.bor 2]) [sE (.lst l), tE, sE (.dct (dn n f)), sE x, none, none, sE y] = ret (.lst ((stsL n).map Sd)) := by simp [run_eq, ev_lit, ev_var, ev_bor, ev_tup, ev_tupS, ev_lst, ev_dsp, ev_bin, ev_neg, ev_cmp, ev_cmp2, ev_isN, ev_notN, ev_and, ev_or, ev_not, ev_ife, ev_sub, ev_slc, ev_att, ev_call, ev_blt, ev_mt, evs_nil, evs_cons, evSt_nil, evSt_cons, evT_nil, evT_one, evI_seq, evI_range, evI_enum, evI_zip, ex_expr, ex_asg, ex_new, ex_par, ex_app, ex_ret, ex_retN, ex_iff, ex_pass, ex_nev, ex_frz, exs_nil, exs_cons, setT_nm, setT_tp, setTs_nil, setTs_cons, getB, getV, setV, truth, iterOf, seqOf, okIt, itW, isTp, brI, lstAt, dctAt, isTapeAt, frzE, wipeE, isIns, okIs, isB, isC, sorted_dn v]
          show bnd (bnd (evs Φ [.var 1, .blt .sorted [.bor 2]] [sE (.lst l), tE, sE (.dct (dn n f)), sE x, none, none, sE y]) fun ds => Φ 26 ds) (fun y => ret [y]) t4 = _
          rw [bnd_bnd, bnd_ok (evs_pure rfl (evs_pure hs2 rfl)), bnd_ok e5]
          rfl) (by decide)
        obtain ⟨d, t6, e6, l6, rfl, _, hl6⟩ := w
        obtain ⟨m6, rfl, hm6⟩ := sts_of hl6
        obtain ⟨d, t7, e7, rfl⟩ := h35 v m6 hm6 t6
        refine wp_iffF (t1 := t7) ?_ (wp_n ⟨rfl, _, _, rfl⟩)
        rw [ev_call, bnd_ok (evs_pure (d := .tape) rfl (evs_pure (d := .dct (dn n f)) rfl (evs_tp e6 rfl))), e7]
    · obtain ⟨b2, b3, rfl⟩ := hp
      refine wp_p (ρ' := [sE (.lst l), tE, b2, b3, sE N4, sE N2, none]) ?_ ?_
      · have q : ev Φ (.call 37 [.lst [.tup [.lit (.int 1), .lit (.int 0), .lit (.int 1), .lit (.int 0)], .tup [.lit (.int 1), .lit (.int 1), .lit (.int 0), .lit (.int 0)]]]) [sE (.lst l), tE, b2, b3, none, none, none] = ret N2 := k2
        have q4 : ev Φ (.call 31 [.call 34 []]) [sE (.lst l), tE, b2, b3, none, none, none] = ret N4 := by
          show bnd (bnd (Φ 34 []) fun d => ret [d]) (fun ds => Φ 31 ds) = _
          rw [h34]
          exact h31
        rw [ex_par, q, q4]
        rfl
      · refine wp_iff (x := false) ?_ (fun h => by cases h) fun _ => ?_
        · have q1 : ev Φ (.cmp .ne (.call 15 [.var 5, .tup [.lit (.int 0), .lit (.int 0)]]) (.tup [.tup [], .tup [.tup [.lit (.int 0), .lit (.int 0)], .tup [.lit (.int 1), .lit (.int 1)]]])) [sE (.lst l), tE, b2, b3, sE N4, sE N2, none] = ret (.bl false) := by
            rw [ev_cmp]
            show bnd (Φ 15 [N2, tI [0, 0]]) _ = _
            rw [a15]
            rfl
          have q2 : ev Φ (.cmp .ne (.call 18 [.var 4, .tup [.lit (.int 0), .lit (.int 0)], .bin .sub (.bin .pow (.lit (.int 10)) (.lit (.int 18))) (.lit (.int 1))]) (.tup [.lit (.int 0), .lit (.int 1)])) [sE (.lst l), tE, b2, b3, sE N4, sE N2, none] = ret (.bl false) := by
            rw [ev_cmp]
            show bnd (Φ 18 [N4, tI [0, 0], .int 999999999999999999]) _ = _
            rw [a18]
            rfl
          have q3 : ev Φ (.cmp .ne (.call 21 [.var 4, .tup [.lit (.int 0), .lit (.int 1)], .tup [.lit (.int 1), .lit (.int 1)]]) (.lit (.int 3))) [sE (.lst l), tE, b2, b3, sE N4, sE N2, none] = ret (.bl false) := by
            rw [ev_cmp]
            show bnd (Φ 21 [N4, tI [0, 1], tI [1, 1]]) _ = _
            rw [a21]
            rfl
          rw [ev_or, q1, ev_or, q2, q3]
          rfl
        · refine wp_r (d := .bl true) (ρ' := [sE (.lst l), tE, b2, b3, sE N4, sE N2, none]) ?_ rfl
          have q1 : ev Φ (.isN (.call 21 [.var 5, .tup [.lit (.int 0), .lit (.int 1)], .tup [.lit (.int 1), .lit (.int 0)]])) [sE (.lst l), tE, b2, b3, sE N4, sE N2, none] = ret (.bl true) := by
            rw [ev_isN]
            show bnd (Φ 21 [N2, tI [0, 1], tI [1, 0]]) _ = _
            rw [b21]
            rfl
          have q2 : ev Φ (.cmp .eq (.call 22 [.call 37 [.lst [.tup [.lit (.int 1), .lit (.int 1)]]]]) (.tup [.lit (.int 1), .tup [.lit (.int 0)]])) [sE (.lst l), tE, b2, b3, sE N4, sE N2, none] = ret (.bl true) := by
            rw [ev_cmp]
            show bnd (bnd (bnd (Φ 37 [.lst [tI [1, 1]]]) fun d => ret [d]) fun ds => Φ 22 ds) _ = _
            rw [k1, bnd_ret, bnd_ret, a22]
            rfl
          have q3 : ev Φ (.cmp .eq (.bor 4) (.call 37 [.lst [.tup [.lit (.int 1), .lit (.int 0), .lit (.int 1), .lit (.int 0)], .tup [.lit (.int 0), .lit (.int 0), .lit (.int 1), .lit (.int 1)]]])) [sE (.lst l), tE, b2, b3, sE N4, sE N2, none] = ret (.bl true) := by
            rw [ev_cmp]
            show bnd (Φ 37 [.lst [tI [1, 0, 1, 0], tI [0, 0, 1, 1]]]) (fun y => if isIns N4 && isIns y then Φ 0 [N4, y] else lft ((cmpS .eq N4 y).map .bl)) = _
            rw [k4, bnd_ret, hi]
            exact h0
          rw [ex_ret, ev_and, q1, ev_and, q2]
          show bnd (ev Φ _ _) _ = _
          rw [q3]
          rfl
theorem r_mk (l : List D) (h : goodRules l = true) : P8 37 [.lst l] = ret (netD l) := by
  rw [u_8_37]
  show (if goodRules l then ret (netD l) else stuck) = _
  rw [h]
  rfl
theorem r_eq4 : P8 0 [net 2 f4, net 2 f4] = ret (.bl true) := by
  show VS.run Φ0 100000 b_Net_eq [net 2 f4, net 2 f4] = _
  rfl
theorem run_law : ∀ (ns : List Int) , ns.length ≤ 63 → ∃ ρ' t', execs Phi 100000 (b_law.body.drop 1) (setV (env0 7 [.lst (ns.map .int)]) 1 .tape false) ⟨Lf ns, 0, Cf ns, 0⟩ = some (.ok (.rt (.bl true), ρ'), t') := fun ns h => by
  have m00 : [0, 0] ∈ stsL 2 := by decide
  have m01 : [0, 1] ∈ stsL 2 := by decide
  have m10 : [1, 0] ∈ stsL 2 := by decide
  have m11 : [1, 1] ∈ stsL 2 := by decide
  have w := W_law P8 (net 1 f1) (net 2 f2) (net 2 f4) (dn 2 f4) (ns.map .int) (fun t => by rw [u_8_32]; exact w_small t) (fun t => by rw [u_8_30]; exact w_net t) (fun l h0 h1 t => by rw [u_8_26]; exact w_pick l h0 h1 t) (fun v l hl t => w_right v l hl t)
    (by rw [u_8_34]; exact r_four) (by rw [u_8_31]; exact r_made v_f4)
    (by rw [r_mk _ rfl, n_two]) (by rw [r_mk _ rfl, n_four]) (by rw [r_mk _ rfl, n_one])
    (by rw [u_8_15]; exact r_beat_run v_f2 m00)
    (by rw [u_8_18]; exact (r_after v_f4 m00 999999999999999999 (by decide) (by decide)).trans rfl)
    (by rw [u_8_21]; exact (r_beat_time v_f4 m01 m11).trans rfl)
    (by rw [u_8_21]; exact (r_beat_time v_f2 m01 m10).trans rfl)
    (by rw [u_8_22]; exact r_longest v_f1 (a := -1) (u := [0]) rfl)
    rfl r_eq4 ⟨Lf ns, 0, Cf ns, 0⟩
  obtain ⟨⟨fl, ρ'⟩, t', e, hr⟩ := w
  cases (show fl = .rt (.bl true) from hr)
  exact ⟨ρ', t', e⟩
end LW
end
section
set_option linter.all false
set_option maxRecDepth 100000
set_option autoImplicit false
namespace LW
open PySem VS
theorem sp_is_number : ∀ ds t r t', ds.length = 1 → Phi 1 ds t = some (r, t') → VS.run Φ0 100000 b_is_number ds t = some (r, t') := fun ds t r t' _ h => h
theorem sp_is_list : ∀ ds t r t', ds.length = 1 → Phi 3 ds t = some (r, t') → VS.run Φ0 100000 b_is_list ds t = some (r, t') := fun ds t r t' _ h => h
theorem sp_all_states : ∀ ds t r t', ds.length = 1 → Phi 5 ds t = some (r, t') → VS.run Φ0 100000 b_all_states ds t = some (r, t') := fun ds t r t' _ h => h
theorem sp_need_net : ∀ ds t r t', ds.length = 2 → Phi 8 ds t = some (r, t') → VS.run Φ0 100000 b_need_net ds t = some (r, t') := fun ds t r t' _ h => h
theorem sp_next_by : ∀ ds t r t', ds.length = 2 → Phi 12 ds t = some (r, t') → VS.run Φ0 100000 b_next_by ds t = some (r, t') := fun ds t r t' _ h => h
theorem sp__law_blend : ∀ ds t r t', ds.length = 1 → Phi 24 ds t = some (r, t') → VS.run Φ0 100000 b__law_blend ds t = some (r, t') := fun ds t r t' _ h => h
theorem sp__law_power : ∀ ds t r t', ds.length = 2 → Phi 28 ds t = some (r, t') → VS.run Φ0 100000 b__law_power ds t = some (r, t') := fun ds t r t' _ h => h
theorem sp__law_states : ∀ ds t r t', ds.length = 1 → Phi 29 ds t = some (r, t') → VS.run Φ0 100000 b__law_states ds t = some (r, t') := fun ds t r t' _ h => h
theorem sp__law_run : ∀ ds t r t', ds.length = 2 → Phi 33 ds t = some (r, t') → VS.run Φ0 100000 b__law_run ds t = some (r, t') := fun ds t r t' _ h => h
theorem sp__law_four : ∀ ds t r t', ds.length = 0 → Phi 34 ds t = some (r, t') → VS.run Φ0 100000 b__law_four ds t = some (r, t') := fun ds t r t' _ h => h
theorem sp_is_between : ∀ ds t r t', ds.length = 3 → Phi 2 ds t = some (r, t') → VS.run P1 100000 b_is_between ds t = some (r, t') := fun ds t r t' _ h => h
theorem sp_states_many : ∀ ds t r t', ds.length = 1 → Phi 6 ds t = some (r, t') → VS.run P1 100000 b_states_many ds t = some (r, t') := fun ds t r t' _ h => h
theorem sp_beat_track : ∀ ds t r t', ds.length = 2 → Phi 14 ds t = some (r, t') → VS.run P1 100000 b_beat_track ds t = some (r, t') := fun ds t r t' _ h => h
theorem sp__law_draw : ∀ ds t r t', ds.length = 2 → Phi 25 ds t = some (r, t') → VS.run P1 100000 b__law_draw ds t = some (r, t') := fun ds t r t' _ h => h
theorem sp_is_tuple_of : ∀ ds t r t', ds.length = 4 → Phi 4 ds t = some (r, t') → VS.run P2 100000 b_is_tuple_of ds t = some (r, t') := fun ds t r t' _ h => h
theorem sp_state_after : ∀ ds t r t', ds.length = 3 → Phi 16 ds t = some (r, t') → VS.run P2 100000 b_state_after ds t = some (r, t') := fun ds t r t' _ h => h
theorem sp_need_times : ∀ ds t r t', ds.length = 1 → Phi 17 ds t = some (r, t') → VS.run P2 100000 b_need_times ds t = some (r, t') := fun ds t r t' _ h => h
theorem sp_time_by : ∀ ds t r t', ds.length = 3 → Phi 20 ds t = some (r, t') → VS.run P2 100000 b_time_by ds t = some (r, t') := fun ds t r t' _ h => h
theorem sp_longest_tail : ∀ ds t r t', ds.length = 1 → Phi 22 ds t = some (r, t') → VS.run P2 100000 b_longest_tail ds t = some (r, t') := fun ds t r t' _ h => h
theorem sp__law_pick : ∀ ds t r t', ds.length = 2 → Phi 26 ds t = some (r, t') → VS.run P2 100000 b__law_pick ds t = some (r, t') := fun ds t r t' _ h => h
theorem sp__law_shuffled : ∀ ds t r t', ds.length = 2 → Phi 27 ds t = some (r, t') → VS.run P2 100000 b__law_shuffled ds t = some (r, t') := fun ds t r t' _ h => h
theorem sp__law_small_nets : ∀ ds t r t', ds.length = 2 → Phi 32 ds t = some (r, t') → VS.run P2 100000 b__law_small_nets ds t = some (r, t') := fun ds t r t' _ h => h
theorem sp_need_rules : ∀ ds t r t', ds.length = 1 → Phi 7 ds t = some (r, t') → VS.run P3 100000 b_need_rules ds t = some (r, t') := fun ds t r t' _ h => h
theorem sp_is_state : ∀ ds t r t', ds.length = 2 → Phi 9 ds t = some (r, t') → VS.run P3 100000 b_is_state ds t = some (r, t') := fun ds t r t' _ h => h
theorem sp__law_net : ∀ ds t r t', ds.length = 2 → Phi 30 ds t = some (r, t') → VS.run P3 100000 b__law_net ds t = some (r, t') := fun ds t r t' _ h => h
theorem sp_need_state : ∀ ds t r t', ds.length = 2 → Phi 10 ds t = some (r, t') → VS.run P4 100000 b_need_state ds t = some (r, t') := fun ds t r t' _ h => h
theorem sp_need_net_state : ∀ ds t r t', ds.length = 2 → Phi 11 ds t = some (r, t') → VS.run P5 100000 b_need_net_state ds t = some (r, t') := fun ds t r t' _ h => h
theorem sp_need_two_states : ∀ ds t r t', ds.length = 3 → Phi 19 ds t = some (r, t') → VS.run P5 100000 b_need_two_states ds t = some (r, t') := fun ds t r t' _ h => h
theorem sp_next_state : ∀ ds t r t', ds.length = 2 → Phi 13 ds t = some (r, t') → VS.run P6 100000 b_next_state ds t = some (r, t') := fun ds t r t' _ h => h
theorem sp_beat_run : ∀ ds t r t', ds.length = 2 → Phi 15 ds t = some (r, t') → VS.run P6 100000 b_beat_run ds t = some (r, t') := fun ds t r t' _ h => h
theorem sp_after : ∀ ds t r t', ds.length = 3 → Phi 18 ds t = some (r, t') → VS.run P6 100000 b_after ds t = some (r, t') := fun ds t r t' _ h => h
theorem sp_beat_time : ∀ ds t r t', ds.length = 3 → Phi 21 ds t = some (r, t') → VS.run P6 100000 b_beat_time ds t = some (r, t') := fun ds t r t' _ h => h
theorem sp__law_made : ∀ ds t r t', ds.length = 1 → Phi 31 ds t = some (r, t') → VS.run P6 100000 b__law_made ds t = some (r, t') := fun ds t r t' _ h => h
theorem sp__law_net_right : ∀ ds t r t', ds.length = 3 → Phi 35 ds t = some (r, t') → VS.run P7 100000 b__law_net_right ds t = some (r, t') := fun ds t r t' _ h => h
end LW
end
section
set_option Elab.async false
set_option linter.all false
set_option maxRecDepth 100000
set_option maxHeartbeats 0
namespace LW
open PySem PySem.Spec PyProof.Rows L2 VS
abbrev kk (w : World) (K : PySem.W.Frag) : Kx := ⟨PySem.Challenge.pw_ringrests_k50_whole_beats_followed_far, w, K, 0, 0, 0, fun _ => He.ga K "Net", fun _ => 0, false⟩
abbrev kx (w : World) (K : PySem.W.Frag) (tp lp cp : Addr) : Kx := kxT (kk w K) tp lp cp
structure Md (K : PySem.W.Frag) (mg : Str → Option Value) (h : Heap) : Prop where
  KX : K.In h
  G : h.Ns mainGlobals mg
  c : obsY fa fn gs ex K = valY fn gs
section
variable {w : World} {K : PySem.W.Frag} {mg : Str → Option Value} {base h : Heap} (tp lp cp : Addr)
theorem fact (M : Md K mg h) (i : Nat) {f : He.Fa} (e : fa[i]? = some f) : f.ok K = true := (saysY M.c).1.fact i e
theorem exs (M : Md K mg h) : noLst K = true ∧ clsB K (He.ga K "Net") = true ∧ propB K (He.ga K "Net") "switches" = true ∧ propB K (He.ga K "Net") "rules" = true := by
  have h := (saysY M.c).2.1
  obtain ⟨h1, h⟩ := Bool.and_eq_true_iff.mp h
  obtain ⟨h2, h⟩ := Bool.and_eq_true_iff.mp h
  simp only [List.all_cons, List.all_nil, Bool.and_true, Bool.and_eq_true, id] at h
  exact ⟨h1, h2, h⟩
theorem free (M : Md K mg h) : ∀ x, bltNames.contains x = true → mg x = none := free_all fun x hx => by
  unfold bltNames at hx
  simp only [List.mem_cons, List.not_mem_nil, or_false] at hx
  rcases hx with e | e | e | e | e | e | e | e | e | e | e | e | e | e | e | e | e | e
  · rw [e]; exact He.free_ok M.KX M.G (fact M 37 rfl)
  · rw [e]; exact He.free_ok M.KX M.G (fact M 38 rfl)
  · rw [e]; exact He.free_ok M.KX M.G (fact M 39 rfl)
  · rw [e]; exact He.free_ok M.KX M.G (fact M 40 rfl)
  · rw [e]; exact He.free_ok M.KX M.G (fact M 41 rfl)
  · rw [e]; exact He.free_ok M.KX M.G (fact M 42 rfl)
  · rw [e]; exact He.free_ok M.KX M.G (fact M 43 rfl)
  · rw [e]; exact He.free_ok M.KX M.G (fact M 44 rfl)
  · rw [e]; exact He.free_ok M.KX M.G (fact M 45 rfl)
  · rw [e]; exact He.free_ok M.KX M.G (fact M 46 rfl)
  · rw [e]; exact He.free_ok M.KX M.G (fact M 47 rfl)
  · rw [e]; exact He.free_ok M.KX M.G (fact M 48 rfl)
  · rw [e]; exact He.free_ok M.KX M.G (fact M 49 rfl)
  · rw [e]; exact He.free_ok M.KX M.G (fact M 50 rfl)
  · rw [e]; exact He.free_ok M.KX M.G (fact M 51 rfl)
  · rw [e]; exact He.free_ok M.KX M.G (fact M 52 rfl)
  · rw [e]; exact He.free_ok M.KX M.G (fact M 53 rfl)
  · rw [e]; exact He.free_ok M.KX M.G (fact M 54 rfl)
theorem clsN (M : Md K mg h) : Cls K (He.ga K "Net") := He.cls_ok (fact M 57 rfl)
theorem na_own_rules (M : Md K mg h) : NoAttr K (He.ga K "Net") "own_rules" := He.noat_ok (fact M 58 rfl)
theorem na_own_nexts (M : Md K mg h) : NoAttr K (He.ga K "Net") "own_nexts" := He.noat_ok (fact M 59 rfl)
theorem mkN (M : Md K mg h) : Mk K (He.ga K "Net") (He.ma K (He.ga K "Net") "__init__") := He.mkr_ok (fact M 60 rfl)
theorem eqN (M : Md K mg h) : Meth K (He.ga K "Net") "__eq__" (He.ma K (He.ga K "Net") "__eq__") := He.meth_ok (fact M 61 rfl)
theorem gloN (M : Md K mg h) : mg "Net" = some (.ref (He.ga K "Net")) := He.glo_ok M.KX M.G (fact M 36 rfl)
theorem F_Net_eq (M : Md K mg h) : ∃ fd, FunD K "__eq__" "Net.__eq__" (defArgs (inn 18 3)) (defBody (inn 18 3)) (defScope (inn 18 3)) [] [] (He.ma K (He.ga K "Net") "__eq__") fd := (saysY M.c).1.def_ 0 (d := d_Net_eq) rfl
theorem kp_Net_eq (M : Md K mg h) : PySem.W.keepIn K (.ref (He.ma K (He.ga K "Net") "__eq__")) = true := let ⟨_, F⟩ := F_Net_eq M; F.kp
theorem ok_Net_eq (M : Md K mg h) : ∃ fd, FunD K "__eq__" "Net.__eq__" (defArgs (inn 18 3)) (defBody (inn 18 3)) (defScope (inn 18 3)) [] [] (He.ma K (He.ga K "Net") "__eq__") fd ∧ FnOk (kx w K tp lp cp).P w K mg base (CX (kx w K tp lp cp).P w) 1 (He.ma K (He.ga K "Net") "__eq__") fd [("self" : Str), ("other" : Str)] (spF Phi (kx w K tp lp cp) 0 2) := by
  obtain ⟨fd, F⟩ := F_Net_eq M
  exact ⟨fd, F, def_ok (k := kx w K tp lp cp) (lv := 0) (n := 100) (fu := 100000) (Φ := Phi) (Φb := Φ0) (se := se_Net_eq) (b := b_Net_eq.body) bo_all (gs_of (k := kx w K tp lp cp) (lv := 0) (se := se_Net_eq) trivial ⟨⟨rfl, by decide, clsN M, na_own_rules M⟩, trivial⟩ ⟨⟨gloN M, clsB_ok (k := kx w K tp lp cp) (c := 0) (exs M).2.1 (clsN M)⟩, trivial⟩ (free M) (eq_none fun _ => rfl)) F sc_Net_eq rfl (by kernel_rfl) sp_Net_eq⟩
theorem call_Net_eq_0 (M : Md K mg h) : CallsTo Phi (kx w K tp lp cp) mg base 1 (He.ma K (He.ga K "Net") "__eq__") 0 2 [] [] := by
  obtain ⟨fd, F, O⟩ := ok_Net_eq (w := w) (base := base) tp lp cp M
  exact calls_of O (kbn_none F fun _ _ _ _ _ _ us ws l1 l2 => match us, ws, l1, l2 with | [_, _], [], _, _ => rfl) (fun _ => rfl) rfl
theorem eq_all (M : Md K mg h) {lv : Nat} (hl : 1 ≤ lv) : ∀ X E, XC (kx w K tp lp cp) mg base lv X E → ∀ o, OpR X (compareOp (cpOf o)) (rCmpI Phi (kx w K tp lp cp) E o) := fun X E S => eq_own (k := kx w K tp lp cp) (lv := 1) (eqN M).at_ (eqN M).fn (call_Net_eq_0 tp lp cp M) hI_eq X E (S.mono hl)
theorem F_is_number (M : Md K mg h) : ∃ fd, FunD K "is_number" "is_number" (defArgs (top 9)) (defBody (top 9)) (defScope (top 9)) [] [] (He.ga K "is_number") fd := (saysY M.c).1.def_ 1 (d := d_is_number) rfl
theorem glo_is_number (M : Md K mg h) : mg "is_number" = some (.ref (He.ga K "is_number")) := He.glo_ok M.KX M.G (fact M 0 rfl)
theorem kp_is_number (M : Md K mg h) : PySem.W.keepIn K (.ref (He.ga K "is_number")) = true := let ⟨_, F⟩ := F_is_number M; F.kp
theorem ok_is_number (M : Md K mg h) : ∃ fd, FunD K "is_number" "is_number" (defArgs (top 9)) (defBody (top 9)) (defScope (top 9)) [] [] (He.ga K "is_number") fd ∧ FnOk (kx w K tp lp cp).P w K mg base (CX (kx w K tp lp cp).P w) 1 (He.ga K "is_number") fd [("thing" : Str)] (spF Phi (kx w K tp lp cp) 1 1) := by
  obtain ⟨fd, F⟩ := F_is_number M
  exact ⟨fd, F, def_ok (k := kx w K tp lp cp) (lv := 0) (n := 100) (fu := 100000) (Φ := Phi) (Φb := Φ0) (se := se_is_number) (b := b_is_number.body) bo_all (gs_of (k := kx w K tp lp cp) (lv := 0) (se := se_is_number) trivial trivial trivial (free M) (eq_none fun _ => rfl)) F sc_is_number rfl (by kernel_rfl) sp_is_number⟩
theorem call_is_number_0 (M : Md K mg h) : CallsTo Phi (kx w K tp lp cp) mg base 1 (He.ga K "is_number") 1 1 [] [] := by
  obtain ⟨fd, F, O⟩ := ok_is_number (w := w) (base := base) tp lp cp M
  exact calls_of O (kbn_none F fun _ _ _ _ _ _ us ws l1 l2 => match us, ws, l1, l2 with | [_], [], _, _ => rfl) (fun _ => rfl) rfl
theorem F_is_list (M : Md K mg h) : ∃ fd, FunD K "is_list" "is_list" (defArgs (top 11)) (defBody (top 11)) (defScope (top 11)) [] [] (He.ga K "is_list") fd := (saysY M.c).1.def_ 2 (d := d_is_list) rfl
theorem glo_is_list (M : Md K mg h) : mg "is_list" = some (.ref (He.ga K "is_list")) := He.glo_ok M.KX M.G (fact M 2 rfl)
theorem kp_is_list (M : Md K mg h) : PySem.W.keepIn K (.ref (He.ga K "is_list")) = true := let ⟨_, F⟩ := F_is_list M; F.kp
theorem ok_is_list (M : Md K mg h) : ∃ fd, FunD K "is_list" "is_list" (defArgs (top 11)) (defBody (top 11)) (defScope (top 11)) [] [] (He.ga K "is_list") fd ∧ FnOk (kx w K tp lp cp).P w K mg base (CX (kx w K tp lp cp).P w) 1 (He.ga K "is_list") fd [("thing" : Str)] (spF Phi (kx w K tp lp cp) 3 1) := by
  obtain ⟨fd, F⟩ := F_is_list M
  exact ⟨fd, F, def_ok (k := kx w K tp lp cp) (lv := 0) (n := 100) (fu := 100000) (Φ := Phi) (Φb := Φ0) (se := se_is_list) (b := b_is_list.body) bo_all (gs_of (k := kx w K tp lp cp) (lv := 0) (se := se_is_list) trivial trivial trivial (free M) (eq_none fun _ => rfl)) F sc_is_list rfl (by kernel_rfl) sp_is_list⟩
theorem call_is_list_0 (M : Md K mg h) : CallsTo Phi (kx w K tp lp cp) mg base 1 (He.ga K "is_list") 3 1 [] [] := by
  obtain ⟨fd, F, O⟩ := ok_is_list (w := w) (base := base) tp lp cp M
  exact calls_of O (kbn_none F fun _ _ _ _ _ _ us ws l1 l2 => match us, ws, l1, l2 with | [_], [], _, _ => rfl) (fun _ => rfl) rfl
theorem F_all_states (M : Md K mg h) : ∃ fd, FunD K "all_states" "all_states" (defArgs (top 15)) (defBody (top 15)) (defScope (top 15)) [] [] (He.ga K "all_states") fd := (saysY M.c).1.def_ 3 (d := d_all_states) rfl
theorem glo_all_states (M : Md K mg h) : mg "all_states" = some (.ref (He.ga K "all_states")) := He.glo_ok M.KX M.G (fact M 4 rfl)
theorem kp_all_states (M : Md K mg h) : PySem.W.keepIn K (.ref (He.ga K "all_states")) = true := let ⟨_, F⟩ := F_all_states M; F.kp
theorem ok_all_states (M : Md K mg h) : ∃ fd, FunD K "all_states" "all_states" (defArgs (top 15)) (defBody (top 15)) (defScope (top 15)) [] [] (He.ga K "all_states") fd ∧ FnOk (kx w K tp lp cp).P w K mg base (CX (kx w K tp lp cp).P w) 1 (He.ga K "all_states") fd [("many" : Str)] (spF Phi (kx w K tp lp cp) 5 1) := by
  obtain ⟨fd, F⟩ := F_all_states M
  exact ⟨fd, F, def_ok (k := kx w K tp lp cp) (lv := 0) (n := 100) (fu := 100000) (Φ := Phi) (Φb := Φ0) (se := se_all_states) (b := b_all_states.body) bo_all (gs_of (k := kx w K tp lp cp) (lv := 0) (se := se_all_states) trivial trivial trivial (free M) (eq_none fun _ => rfl)) F sc_all_states rfl (by kernel_rfl) sp_all_states⟩
theorem call_all_states_0 (M : Md K mg h) : CallsTo Phi (kx w K tp lp cp) mg base 1 (He.ga K "all_states") 5 1 [] [] := by
  obtain ⟨fd, F, O⟩ := ok_all_states (w := w) (base := base) tp lp cp M
  exact calls_of O (kbn_none F fun _ _ _ _ _ _ us ws l1 l2 => match us, ws, l1, l2 with | [_], [], _, _ => rfl) (fun _ => rfl) rfl
theorem F_need_net (M : Md K mg h) : ∃ fd, FunD K "need_net" "need_net" (defArgs (top 19)) (defBody (top 19)) (defScope (top 19)) [V.non] [] (He.ga K "need_net") fd := (saysY M.c).1.def_ 4 (d := d_need_net) rfl
theorem glo_need_net (M : Md K mg h) : mg "need_net" = some (.ref (He.ga K "need_net")) := He.glo_ok M.KX M.G (fact M 7 rfl)
theorem kp_need_net (M : Md K mg h) : PySem.W.keepIn K (.ref (He.ga K "need_net")) = true := let ⟨_, F⟩ := F_need_net M; F.kp
theorem ok_need_net (M : Md K mg h) : ∃ fd, FunD K "need_net" "need_net" (defArgs (top 19)) (defBody (top 19)) (defScope (top 19)) [V.non] [] (He.ga K "need_net") fd ∧ FnOk (kx w K tp lp cp).P w K mg base (CX (kx w K tp lp cp).P w) 1 (He.ga K "need_net") fd [("net" : Str), ("part" : Str)] (spF Phi (kx w K tp lp cp) 8 2) := by
  obtain ⟨fd, F⟩ := F_need_net M
  exact ⟨fd, F, def_ok (k := kx w K tp lp cp) (lv := 0) (n := 100) (fu := 100000) (Φ := Phi) (Φb := Φ0) (se := se_need_net) (b := b_need_net.body) bo_all (gs_of (k := kx w K tp lp cp) (lv := 0) (se := se_need_net) trivial trivial ⟨⟨gloN M, clsB_ok (k := kx w K tp lp cp) (c := 0) (exs M).2.1 (clsN M)⟩, trivial⟩ (free M) (eq_none fun _ => rfl)) F sc_need_net rfl (by kernel_rfl) sp_need_net⟩
theorem call_need_net_0 (M : Md K mg h) : CallsTo Phi (kx w K tp lp cp) mg base 1 (He.ga K "need_net") 8 1 [] [.non] := by
  obtain ⟨fd, F, O⟩ := ok_need_net (w := w) (base := base) tp lp cp M
  obtain ⟨its, hb⟩ := kbn_dfl (ps := [("net" : Str), ("part" : Str)]) (ks := []) (n := 1) (j := 0) F (by simp) fun _ _ _ _ _ _ _ us ws its l1 l2 l3 => match us, ws, its, l1, l2, l3 with | [_], [], [_], _, _, _ => ⟨_, rfl, rfl⟩
  exact calls_of O hb (fun _ => by exact ⟨_, _, rfl, rfl, rfl⟩) rfl
theorem F_next_by (M : Md K mg h) : ∃ fd, FunD K "next_by" "next_by" (defArgs (top 23)) (defBody (top 23)) (defScope (top 23)) [] [] (He.ga K "next_by") fd := (saysY M.c).1.def_ 5 (d := d_next_by) rfl
theorem glo_next_by (M : Md K mg h) : mg "next_by" = some (.ref (He.ga K "next_by")) := He.glo_ok M.KX M.G (fact M 11 rfl)
theorem kp_next_by (M : Md K mg h) : PySem.W.keepIn K (.ref (He.ga K "next_by")) = true := let ⟨_, F⟩ := F_next_by M; F.kp
theorem ok_next_by (M : Md K mg h) : ∃ fd, FunD K "next_by" "next_by" (defArgs (top 23)) (defBody (top 23)) (defScope (top 23)) [] [] (He.ga K "next_by") fd ∧ FnOk (kx w K tp lp cp).P w K mg base (CX (kx w K tp lp cp).P w) 1 (He.ga K "next_by") fd [("net" : Str), ("state" : Str)] (spF Phi (kx w K tp lp cp) 12 2) := by
  obtain ⟨fd, F⟩ := F_next_by M
  exact ⟨fd, F, def_ok (k := kx w K tp lp cp) (lv := 0) (n := 100) (fu := 100000) (Φ := Phi) (Φb := Φ0) (se := se_next_by) (b := b_next_by.body) bo_all (gs_of (k := kx w K tp lp cp) (lv := 0) (se := se_next_by) trivial ⟨⟨rfl, by decide, clsN M, na_own_nexts M⟩, trivial⟩ trivial (free M) (eq_none fun _ => rfl)) F sc_next_by rfl (by kernel_rfl) sp_next_by⟩
theorem call_next_by_0 (M : Md K mg h) : CallsTo Phi (kx w K tp lp cp) mg base 1 (He.ga K "next_by") 12 2 [] [] := by
  obtain ⟨fd, F, O⟩ := ok_next_by (w := w) (base := base) tp lp cp M
  exact calls_of O (kbn_none F fun _ _ _ _ _ _ us ws l1 l2 => match us, ws, l1, l2 with | [_, _], [], _, _ => rfl) (fun _ => rfl) rfl
theorem F__law_begun (M : Md K mg h) : ∃ fd, FunD K "_law_begun" "_law_begun" (defArgs (top 37)) (defBody (top 37)) (defScope (top 37)) [] [] (He.ga K "_law_begun") fd := (saysY M.c).1.def_ 6 (d := d__law_begun) rfl
theorem glo__law_begun (M : Md K mg h) : mg "_law_begun" = some (.ref (He.ga K "_law_begun")) := He.glo_ok M.KX M.G (fact M 22 rfl)
theorem kp__law_begun (M : Md K mg h) : PySem.W.keepIn K (.ref (He.ga K "_law_begun")) = true := let ⟨_, F⟩ := F__law_begun M; F.kp
theorem ok__law_begun (M : Md K mg h) : ∃ fd, FunD K "_law_begun" "_law_begun" (defArgs (top 37)) (defBody (top 37)) (defScope (top 37)) [] [] (He.ga K "_law_begun") fd ∧ FnOk (kk w K).P w K mg base (CX (kk w K).P w) 1 (He.ga K "_law_begun") fd [("script" : Str)] (begunSp Lf Cf) := by
  obtain ⟨fd, F⟩ := F__law_begun M
  exact ⟨fd, F, begun_ok (k := kk w K) (n := 100) (se := se__law_begun) bo_all rfl (gs_of trivial trivial trivial (free M) (eq_none fun _ => rfl)) (e1 := begE1) (e3 := begE3) rfl F sc__law_begun (by kernel_rfl) (by kernel_rfl) (by kernel_rfl) rfl rfl (by decide) begL begC⟩
theorem F__law_blend (M : Md K mg h) : ∃ fd, FunD K "_law_blend" "_law_blend" (defArgs (top 38)) (defBody (top 38)) (defScope (top 38)) [] [] (He.ga K "_law_blend") fd := (saysY M.c).1.def_ 7 (d := d__law_blend) rfl
theorem glo__law_blend (M : Md K mg h) : mg "_law_blend" = some (.ref (He.ga K "_law_blend")) := He.glo_ok M.KX M.G (fact M 23 rfl)
theorem kp__law_blend (M : Md K mg h) : PySem.W.keepIn K (.ref (He.ga K "_law_blend")) = true := let ⟨_, F⟩ := F__law_blend M; F.kp
theorem ok__law_blend (M : Md K mg h) : ∃ fd, FunD K "_law_blend" "_law_blend" (defArgs (top 38)) (defBody (top 38)) (defScope (top 38)) [] [] (He.ga K "_law_blend") fd ∧ FnOk (kx w K tp lp cp).P w K mg base (CX (kx w K tp lp cp).P w) 1 (He.ga K "_law_blend") fd [("tape" : Str)] (spF Phi (kx w K tp lp cp) 24 1) := by
  obtain ⟨fd, F⟩ := F__law_blend M
  exact ⟨fd, F, def_ok (k := kx w K tp lp cp) (lv := 0) (n := 100) (fu := 100000) (Φ := Phi) (Φb := Φ0) (se := se__law_blend) (b := b__law_blend.body) bo_all (gs_of (k := kx w K tp lp cp) (lv := 0) (se := se__law_blend) trivial trivial trivial (free M) (eq_none fun _ => rfl)) F sc__law_blend rfl (by kernel_rfl) sp__law_blend⟩
theorem call__law_blend_0 (M : Md K mg h) : CallsTo Phi (kx w K tp lp cp) mg base 1 (He.ga K "_law_blend") 24 1 [] [] := by
  obtain ⟨fd, F, O⟩ := ok__law_blend (w := w) (base := base) tp lp cp M
  exact calls_of O (kbn_none F fun _ _ _ _ _ _ us ws l1 l2 => match us, ws, l1, l2 with | [_], [], _, _ => rfl) (fun _ => rfl) rfl
theorem F__law_power (M : Md K mg h) : ∃ fd, FunD K "_law_power" "_law_power" (defArgs (top 42)) (defBody (top 42)) (defScope (top 42)) [] [] (He.ga K "_law_power") fd := (saysY M.c).1.def_ 8 (d := d__law_power) rfl
theorem glo__law_power (M : Md K mg h) : mg "_law_power" = some (.ref (He.ga K "_law_power")) := He.glo_ok M.KX M.G (fact M 27 rfl)
theorem kp__law_power (M : Md K mg h) : PySem.W.keepIn K (.ref (He.ga K "_law_power")) = true := let ⟨_, F⟩ := F__law_power M; F.kp
theorem ok__law_power (M : Md K mg h) : ∃ fd, FunD K "_law_power" "_law_power" (defArgs (top 42)) (defBody (top 42)) (defScope (top 42)) [] [] (He.ga K "_law_power") fd ∧ FnOk (kx w K tp lp cp).P w K mg base (CX (kx w K tp lp cp).P w) 1 (He.ga K "_law_power") fd [("base" : Str), ("times" : Str)] (spF Phi (kx w K tp lp cp) 28 2) := by
  obtain ⟨fd, F⟩ := F__law_power M
  exact ⟨fd, F, def_ok (k := kx w K tp lp cp) (lv := 0) (n := 100) (fu := 100000) (Φ := Phi) (Φb := Φ0) (se := se__law_power) (b := b__law_power.body) bo_all (gs_of (k := kx w K tp lp cp) (lv := 0) (se := se__law_power) trivial trivial trivial (free M) (eq_none fun _ => rfl)) F sc__law_power rfl (by kernel_rfl) sp__law_power⟩
theorem call__law_power_0 (M : Md K mg h) : CallsTo Phi (kx w K tp lp cp) mg base 1 (He.ga K "_law_power") 28 2 [] [] := by
  obtain ⟨fd, F, O⟩ := ok__law_power (w := w) (base := base) tp lp cp M
  exact calls_of O (kbn_none F fun _ _ _ _ _ _ us ws l1 l2 => match us, ws, l1, l2 with | [_, _], [], _, _ => rfl) (fun _ => rfl) rfl
theorem F__law_states (M : Md K mg h) : ∃ fd, FunD K "_law_states" "_law_states" (defArgs (top 43)) (defBody (top 43)) (defScope (top 43)) [] [] (He.ga K "_law_states") fd := (saysY M.c).1.def_ 9 (d := d__law_states) rfl
theorem glo__law_states (M : Md K mg h) : mg "_law_states" = some (.ref (He.ga K "_law_states")) := He.glo_ok M.KX M.G (fact M 28 rfl)
theorem kp__law_states (M : Md K mg h) : PySem.W.keepIn K (.ref (He.ga K "_law_states")) = true := let ⟨_, F⟩ := F__law_states M; F.kp
theorem ok__law_states (M : Md K mg h) : ∃ fd, FunD K "_law_states" "_law_states" (defArgs (top 43)) (defBody (top 43)) (defScope (top 43)) [] [] (He.ga K "_law_states") fd ∧ FnOk (kx w K tp lp cp).P w K mg base (CX (kx w K tp lp cp).P w) 1 (He.ga K "_law_states") fd [("many" : Str)] (spF Phi (kx w K tp lp cp) 29 1) := by
  obtain ⟨fd, F⟩ := F__law_states M
  exact ⟨fd, F, def_ok (k := kx w K tp lp cp) (lv := 0) (n := 100) (fu := 100000) (Φ := Phi) (Φb := Φ0) (se := se__law_states) (b := b__law_states.body) bo_all (gs_of (k := kx w K tp lp cp) (lv := 0) (se := se__law_states) trivial trivial trivial (free M) (eq_none fun _ => rfl)) F sc__law_states rfl (by kernel_rfl) sp__law_states⟩
theorem call__law_states_0 (M : Md K mg h) : CallsTo Phi (kx w K tp lp cp) mg base 1 (He.ga K "_law_states") 29 1 [] [] := by
  obtain ⟨fd, F, O⟩ := ok__law_states (w := w) (base := base) tp lp cp M
  exact calls_of O (kbn_none F fun _ _ _ _ _ _ us ws l1 l2 => match us, ws, l1, l2 with | [_], [], _, _ => rfl) (fun _ => rfl) rfl
theorem F__law_run (M : Md K mg h) : ∃ fd, FunD K "_law_run" "_law_run" (defArgs (top 47)) (defBody (top 47)) (defScope (top 47)) [] [] (He.ga K "_law_run") fd := (saysY M.c).1.def_ 10 (d := d__law_run) rfl
theorem glo__law_run (M : Md K mg h) : mg "_law_run" = some (.ref (He.ga K "_law_run")) := He.glo_ok M.KX M.G (fact M 32 rfl)
theorem kp__law_run (M : Md K mg h) : PySem.W.keepIn K (.ref (He.ga K "_law_run")) = true := let ⟨_, F⟩ := F__law_run M; F.kp
theorem ok__law_run (M : Md K mg h) : ∃ fd, FunD K "_law_run" "_law_run" (defArgs (top 47)) (defBody (top 47)) (defScope (top 47)) [] [] (He.ga K "_law_run") fd ∧ FnOk (kx w K tp lp cp).P w K mg base (CX (kx w K tp lp cp).P w) 1 (He.ga K "_law_run") fd [("nexts" : Str), ("state" : Str)] (spF Phi (kx w K tp lp cp) 33 2) := by
  obtain ⟨fd, F⟩ := F__law_run M
  exact ⟨fd, F, def_ok (k := kx w K tp lp cp) (lv := 0) (n := 100) (fu := 100000) (Φ := Phi) (Φb := Φ0) (se := se__law_run) (b := b__law_run.body) bo_all (gs_of (k := kx w K tp lp cp) (lv := 0) (se := se__law_run) trivial trivial trivial (free M) (eq_none fun _ => rfl)) F sc__law_run rfl (by kernel_rfl) sp__law_run⟩
theorem call__law_run_0 (M : Md K mg h) : CallsTo Phi (kx w K tp lp cp) mg base 1 (He.ga K "_law_run") 33 2 [] [] := by
  obtain ⟨fd, F, O⟩ := ok__law_run (w := w) (base := base) tp lp cp M
  exact calls_of O (kbn_none F fun _ _ _ _ _ _ us ws l1 l2 => match us, ws, l1, l2 with | [_, _], [], _, _ => rfl) (fun _ => rfl) rfl
theorem F__law_four (M : Md K mg h) : ∃ fd, FunD K "_law_four" "_law_four" (defArgs (top 48)) (defBody (top 48)) (defScope (top 48)) [] [] (He.ga K "_law_four") fd := (saysY M.c).1.def_ 11 (d := d__law_four) rfl
theorem glo__law_four (M : Md K mg h) : mg "_law_four" = some (.ref (He.ga K "_law_four")) := He.glo_ok M.KX M.G (fact M 33 rfl)
theorem kp__law_four (M : Md K mg h) : PySem.W.keepIn K (.ref (He.ga K "_law_four")) = true := let ⟨_, F⟩ := F__law_four M; F.kp
theorem ok__law_four (M : Md K mg h) : ∃ fd, FunD K "_law_four" "_law_four" (defArgs (top 48)) (defBody (top 48)) (defScope (top 48)) [] [] (He.ga K "_law_four") fd ∧ FnOk (kx w K tp lp cp).P w K mg base (CX (kx w K tp lp cp).P w) 1 (He.ga K "_law_four") fd [] (spF Phi (kx w K tp lp cp) 34 0) := by
  obtain ⟨fd, F⟩ := F__law_four M
  exact ⟨fd, F, def_ok (k := kx w K tp lp cp) (lv := 0) (n := 100) (fu := 100000) (Φ := Phi) (Φb := Φ0) (se := se__law_four) (b := b__law_four.body) bo_all (gs_of (k := kx w K tp lp cp) (lv := 0) (se := se__law_four) trivial trivial trivial (free M) (eq_none fun _ => rfl)) F sc__law_four rfl (by kernel_rfl) sp__law_four⟩
theorem call__law_four_0 (M : Md K mg h) : CallsTo Phi (kx w K tp lp cp) mg base 1 (He.ga K "_law_four") 34 0 [] [] := by
  obtain ⟨fd, F, O⟩ := ok__law_four (w := w) (base := base) tp lp cp M
  exact calls_of O (kbn_none F fun _ _ _ _ _ _ us ws l1 l2 => match us, ws, l1, l2 with | [], [], _, _ => rfl) (fun _ => rfl) rfl
theorem F_Net_switches (M : Md K mg h) : ∃ fd, FunD K "switches" "Net.switches" (defArgs (inn 18 1)) (defBody (inn 18 1)) (defScope (inn 18 1)) [] [] (gtA K (He.ga K "Net") "switches") fd := (saysY M.c).2.2 0 d_Net_switches rfl
theorem kp_Net_switches (M : Md K mg h) : PySem.W.keepIn K (.ref (gtA K (He.ga K "Net") "switches")) = true := let ⟨_, F⟩ := F_Net_switches M; F.kp
theorem ok_Net_switches (M : Md K mg h) : ∃ fd, FunD K "switches" "Net.switches" (defArgs (inn 18 1)) (defBody (inn 18 1)) (defScope (inn 18 1)) [] [] (gtA K (He.ga K "Net") "switches") fd ∧ FnOk (kx w K tp lp cp).P w K mg base (CX (kx w K tp lp cp).P w) 1 (gtA K (He.ga K "Net") "switches") fd [("self" : Str)] (spF Phi (kx w K tp lp cp) 38 1) := by
  obtain ⟨fd, F⟩ := F_Net_switches M
  exact ⟨fd, F, def_ok (k := kx w K tp lp cp) (lv := 0) (n := 100) (fu := 100000) (Φ := Phi) (Φb := Φ0) (se := se_Net_switches) (b := b_Net_switches.body) bo_all (gs_of (k := kx w K tp lp cp) (lv := 0) (se := se_Net_switches) trivial ⟨⟨rfl, by decide, clsN M, na_own_rules M⟩, trivial⟩ trivial (free M) (eq_none fun _ => rfl)) F sc_Net_switches rfl (by kernel_rfl) sp_Net_switches⟩
theorem prop_switches (M : Md K mg h) : PropTo Phi (kx w K tp lp cp) mg base 2 "switches" 38 := by
  obtain ⟨fd, F, O⟩ := ok_Net_switches (w := w) (base := base) tp lp cp M
  exact prop_to (k := kx w K tp lp cp) (clsN M) (propB_ok (exs M).2.2.1) O (F.bindsN fun _ _ _ _ _ _ us hl => match us, hl with | [_], _ => rfl) hI_Net_switches
theorem F_Net_rules (M : Md K mg h) : ∃ fd, FunD K "rules" "Net.rules" (defArgs (inn 18 2)) (defBody (inn 18 2)) (defScope (inn 18 2)) [] [] (gtA K (He.ga K "Net") "rules") fd := (saysY M.c).2.2 1 d_Net_rules rfl
theorem kp_Net_rules (M : Md K mg h) : PySem.W.keepIn K (.ref (gtA K (He.ga K "Net") "rules")) = true := let ⟨_, F⟩ := F_Net_rules M; F.kp
theorem ok_Net_rules (M : Md K mg h) : ∃ fd, FunD K "rules" "Net.rules" (defArgs (inn 18 2)) (defBody (inn 18 2)) (defScope (inn 18 2)) [] [] (gtA K (He.ga K "Net") "rules") fd ∧ FnOk (kx w K tp lp cp).P w K mg base (CX (kx w K tp lp cp).P w) 1 (gtA K (He.ga K "Net") "rules") fd [("self" : Str)] (spF Phi (kx w K tp lp cp) 39 1) := by
  obtain ⟨fd, F⟩ := F_Net_rules M
  exact ⟨fd, F, def_ok (k := kx w K tp lp cp) (lv := 0) (n := 100) (fu := 100000) (Φ := Phi) (Φb := Φ0) (se := se_Net_rules) (b := b_Net_rules.body) bo_all (gs_of (k := kx w K tp lp cp) (lv := 0) (se := se_Net_rules) trivial ⟨⟨rfl, by decide, clsN M, na_own_rules M⟩, trivial⟩ trivial (free M) (eq_none fun _ => rfl)) F sc_Net_rules rfl (by kernel_rfl) sp_Net_rules⟩
theorem prop_rules (M : Md K mg h) : PropTo Phi (kx w K tp lp cp) mg base 2 "rules" 39 := by
  obtain ⟨fd, F, O⟩ := ok_Net_rules (w := w) (base := base) tp lp cp M
  exact prop_to (k := kx w K tp lp cp) (clsN M) (propB_ok (exs M).2.2.2) O (F.bindsN fun _ _ _ _ _ _ us hl => match us, hl with | [_], _ => rfl) hI_Net_rules
theorem F_is_between (M : Md K mg h) : ∃ fd, FunD K "is_between" "is_between" (defArgs (top 10)) (defBody (top 10)) (defScope (top 10)) [] [] (He.ga K "is_between") fd := (saysY M.c).1.def_ 12 (d := d_is_between) rfl
theorem glo_is_between (M : Md K mg h) : mg "is_between" = some (.ref (He.ga K "is_between")) := He.glo_ok M.KX M.G (fact M 1 rfl)
theorem kp_is_between (M : Md K mg h) : PySem.W.keepIn K (.ref (He.ga K "is_between")) = true := let ⟨_, F⟩ := F_is_between M; F.kp
theorem ok_is_between (M : Md K mg h) : ∃ fd, FunD K "is_between" "is_between" (defArgs (top 10)) (defBody (top 10)) (defScope (top 10)) [] [] (He.ga K "is_between") fd ∧ FnOk (kx w K tp lp cp).P w K mg base (CX (kx w K tp lp cp).P w) 2 (He.ga K "is_between") fd [("thing" : Str), ("low" : Str), ("high" : Str)] (spF Phi (kx w K tp lp cp) 2 3) := by
  obtain ⟨fd, F⟩ := F_is_between M
  exact ⟨fd, F, def_ok (k := kx w K tp lp cp) (lv := 1) (n := 100) (fu := 100000) (Φ := Phi) (Φb := P1) (se := se_is_between) (b := b_is_between.body) bo_all (gs_of (k := kx w K tp lp cp) (lv := 1) (se := se_is_between) ⟨⟨_, glo_is_number M, kp_is_number M, ⟨CallsTo.to ((call_is_number_0 tp lp cp M).mono (by decide)) rfl, trivial⟩⟩, trivial⟩ trivial trivial (free M) (eq_to (eq_all tp lp cp M (by decide)) rfl)) F sc_is_between rfl (by kernel_rfl) sp_is_between⟩
theorem call_is_between_0 (M : Md K mg h) : CallsTo Phi (kx w K tp lp cp) mg base 2 (He.ga K "is_between") 2 3 [] [] := by
  obtain ⟨fd, F, O⟩ := ok_is_between (w := w) (base := base) tp lp cp M
  exact calls_of O (kbn_none F fun _ _ _ _ _ _ us ws l1 l2 => match us, ws, l1, l2 with | [_, _, _], [], _, _ => rfl) (fun _ => rfl) rfl
theorem F_states_many (M : Md K mg h) : ∃ fd, FunD K "states_many" "states_many" (defArgs (top 16)) (defBody (top 16)) (defScope (top 16)) [] [] (He.ga K "states_many") fd := (saysY M.c).1.def_ 13 (d := d_states_many) rfl
theorem glo_states_many (M : Md K mg h) : mg "states_many" = some (.ref (He.ga K "states_many")) := He.glo_ok M.KX M.G (fact M 5 rfl)
theorem kp_states_many (M : Md K mg h) : PySem.W.keepIn K (.ref (He.ga K "states_many")) = true := let ⟨_, F⟩ := F_states_many M; F.kp
theorem ok_states_many (M : Md K mg h) : ∃ fd, FunD K "states_many" "states_many" (defArgs (top 16)) (defBody (top 16)) (defScope (top 16)) [] [] (He.ga K "states_many") fd ∧ FnOk (kx w K tp lp cp).P w K mg base (CX (kx w K tp lp cp).P w) 2 (He.ga K "states_many") fd [("many" : Str)] (spF Phi (kx w K tp lp cp) 6 1) := by
  obtain ⟨fd, F⟩ := F_states_many M
  exact ⟨fd, F, def_ok (k := kx w K tp lp cp) (lv := 1) (n := 100) (fu := 100000) (Φ := Phi) (Φb := P1) (se := se_states_many) (b := b_states_many.body) bo_all (gs_of (k := kx w K tp lp cp) (lv := 1) (se := se_states_many) ⟨⟨_, glo_all_states M, kp_all_states M, ⟨CallsTo.to ((call_all_states_0 tp lp cp M).mono (by decide)) rfl, trivial⟩⟩, trivial⟩ trivial trivial (free M) (eq_to (eq_all tp lp cp M (by decide)) rfl)) F sc_states_many rfl (by kernel_rfl) sp_states_many⟩
theorem call_states_many_0 (M : Md K mg h) : CallsTo Phi (kx w K tp lp cp) mg base 2 (He.ga K "states_many") 6 1 [] [] := by
  obtain ⟨fd, F, O⟩ := ok_states_many (w := w) (base := base) tp lp cp M
  exact calls_of O (kbn_none F fun _ _ _ _ _ _ us ws l1 l2 => match us, ws, l1, l2 with | [_], [], _, _ => rfl) (fun _ => rfl) rfl
theorem F_beat_track (M : Md K mg h) : ∃ fd, FunD K "beat_track" "beat_track" (defArgs (top 27)) (defBody (top 27)) (defScope (top 27)) [] [] (He.ga K "beat_track") fd := (saysY M.c).1.def_ 14 (d := d_beat_track) rfl
theorem glo_beat_track (M : Md K mg h) : mg "beat_track" = some (.ref (He.ga K "beat_track")) := He.glo_ok M.KX M.G (fact M 13 rfl)
theorem kp_beat_track (M : Md K mg h) : PySem.W.keepIn K (.ref (He.ga K "beat_track")) = true := let ⟨_, F⟩ := F_beat_track M; F.kp
theorem ok_beat_track (M : Md K mg h) : ∃ fd, FunD K "beat_track" "beat_track" (defArgs (top 27)) (defBody (top 27)) (defScope (top 27)) [] [] (He.ga K "beat_track") fd ∧ FnOk (kx w K tp lp cp).P w K mg base (CX (kx w K tp lp cp).P w) 2 (He.ga K "beat_track") fd [("net" : Str), ("state" : Str)] (spF Phi (kx w K tp lp cp) 14 2) := by
  obtain ⟨fd, F⟩ := F_beat_track M
  exact ⟨fd, F, def_ok (k := kx w K tp lp cp) (lv := 1) (n := 100) (fu := 100000) (Φ := Phi) (Φb := P1) (se := se_beat_track) (b := b_beat_track.body) bo_all (gs_of (k := kx w K tp lp cp) (lv := 1) (se := se_beat_track) ⟨⟨_, glo_next_by M, kp_next_by M, ⟨CallsTo.to ((call_next_by_0 tp lp cp M).mono (by decide)) rfl, trivial⟩⟩, trivial⟩ trivial trivial (free M) (eq_to (eq_all tp lp cp M (by decide)) rfl)) F sc_beat_track rfl (by kernel_rfl) sp_beat_track⟩
theorem call_beat_track_0 (M : Md K mg h) : CallsTo Phi (kx w K tp lp cp) mg base 2 (He.ga K "beat_track") 14 2 [] [] := by
  obtain ⟨fd, F, O⟩ := ok_beat_track (w := w) (base := base) tp lp cp M
  exact calls_of O (kbn_none F fun _ _ _ _ _ _ us ws l1 l2 => match us, ws, l1, l2 with | [_, _], [], _, _ => rfl) (fun _ => rfl) rfl
theorem F__law_draw (M : Md K mg h) : ∃ fd, FunD K "_law_draw" "_law_draw" (defArgs (top 39)) (defBody (top 39)) (defScope (top 39)) [] [] (He.ga K "_law_draw") fd := (saysY M.c).1.def_ 15 (d := d__law_draw) rfl
theorem glo__law_draw (M : Md K mg h) : mg "_law_draw" = some (.ref (He.ga K "_law_draw")) := He.glo_ok M.KX M.G (fact M 24 rfl)
theorem kp__law_draw (M : Md K mg h) : PySem.W.keepIn K (.ref (He.ga K "_law_draw")) = true := let ⟨_, F⟩ := F__law_draw M; F.kp
theorem ok__law_draw (M : Md K mg h) : ∃ fd, FunD K "_law_draw" "_law_draw" (defArgs (top 39)) (defBody (top 39)) (defScope (top 39)) [] [] (He.ga K "_law_draw") fd ∧ FnOk (kx w K tp lp cp).P w K mg base (CX (kx w K tp lp cp).P w) 2 (He.ga K "_law_draw") fd [("tape" : Str), ("size" : Str)] (spF Phi (kx w K tp lp cp) 25 2) := by
  obtain ⟨fd, F⟩ := F__law_draw M
  exact ⟨fd, F, def_ok (k := kx w K tp lp cp) (lv := 1) (n := 100) (fu := 100000) (Φ := Phi) (Φb := P1) (se := se__law_draw) (b := b__law_draw.body) bo_all (gs_of (k := kx w K tp lp cp) (lv := 1) (se := se__law_draw) ⟨⟨_, glo__law_blend M, kp__law_blend M, ⟨CallsTo.to ((call__law_blend_0 tp lp cp M).mono (by decide)) rfl, trivial⟩⟩, trivial⟩ trivial trivial (free M) (eq_to (eq_all tp lp cp M (by decide)) rfl)) F sc__law_draw rfl (by kernel_rfl) sp__law_draw⟩
theorem call__law_draw_0 (M : Md K mg h) : CallsTo Phi (kx w K tp lp cp) mg base 2 (He.ga K "_law_draw") 25 2 [] [] := by
  obtain ⟨fd, F, O⟩ := ok__law_draw (w := w) (base := base) tp lp cp M
  exact calls_of O (kbn_none F fun _ _ _ _ _ _ us ws l1 l2 => match us, ws, l1, l2 with | [_, _], [], _, _ => rfl) (fun _ => rfl) rfl
theorem F_is_tuple_of (M : Md K mg h) : ∃ fd, FunD K "is_tuple_of" "is_tuple_of" (defArgs (top 12)) (defBody (top 12)) (defScope (top 12)) [] [] (He.ga K "is_tuple_of") fd := (saysY M.c).1.def_ 16 (d := d_is_tuple_of) rfl
theorem glo_is_tuple_of (M : Md K mg h) : mg "is_tuple_of" = some (.ref (He.ga K "is_tuple_of")) := He.glo_ok M.KX M.G (fact M 3 rfl)
theorem kp_is_tuple_of (M : Md K mg h) : PySem.W.keepIn K (.ref (He.ga K "is_tuple_of")) = true := let ⟨_, F⟩ := F_is_tuple_of M; F.kp
theorem ok_is_tuple_of (M : Md K mg h) : ∃ fd, FunD K "is_tuple_of" "is_tuple_of" (defArgs (top 12)) (defBody (top 12)) (defScope (top 12)) [] [] (He.ga K "is_tuple_of") fd ∧ FnOk (kx w K tp lp cp).P w K mg base (CX (kx w K tp lp cp).P w) 3 (He.ga K "is_tuple_of") fd [("thing" : Str), ("many" : Str), ("low" : Str), ("high" : Str)] (spF Phi (kx w K tp lp cp) 4 4) := by
  obtain ⟨fd, F⟩ := F_is_tuple_of M
  exact ⟨fd, F, def_ok (k := kx w K tp lp cp) (lv := 2) (n := 100) (fu := 100000) (Φ := Phi) (Φb := P2) (se := se_is_tuple_of) (b := b_is_tuple_of.body) bo_all (gs_of (k := kx w K tp lp cp) (lv := 2) (se := se_is_tuple_of) ⟨⟨_, glo_is_between M, kp_is_between M, ⟨CallsTo.to ((call_is_between_0 tp lp cp M).mono (by decide)) rfl, trivial⟩⟩, trivial⟩ trivial trivial (free M) (eq_to (eq_all tp lp cp M (by decide)) rfl)) F sc_is_tuple_of rfl (by kernel_rfl) sp_is_tuple_of⟩
theorem call_is_tuple_of_0 (M : Md K mg h) : CallsTo Phi (kx w K tp lp cp) mg base 3 (He.ga K "is_tuple_of") 4 4 [] [] := by
  obtain ⟨fd, F, O⟩ := ok_is_tuple_of (w := w) (base := base) tp lp cp M
  exact calls_of O (kbn_none F fun _ _ _ _ _ _ us ws l1 l2 => match us, ws, l1, l2 with | [_, _, _, _], [], _, _ => rfl) (fun _ => rfl) rfl
theorem F_state_after (M : Md K mg h) : ∃ fd, FunD K "state_after" "state_after" (defArgs (top 29)) (defBody (top 29)) (defScope (top 29)) [] [] (He.ga K "state_after") fd := (saysY M.c).1.def_ 17 (d := d_state_after) rfl
theorem glo_state_after (M : Md K mg h) : mg "state_after" = some (.ref (He.ga K "state_after")) := He.glo_ok M.KX M.G (fact M 15 rfl)
theorem kp_state_after (M : Md K mg h) : PySem.W.keepIn K (.ref (He.ga K "state_after")) = true := let ⟨_, F⟩ := F_state_after M; F.kp
theorem ok_state_after (M : Md K mg h) : ∃ fd, FunD K "state_after" "state_after" (defArgs (top 29)) (defBody (top 29)) (defScope (top 29)) [] [] (He.ga K "state_after") fd ∧ FnOk (kx w K tp lp cp).P w K mg base (CX (kx w K tp lp cp).P w) 3 (He.ga K "state_after") fd [("net" : Str), ("state" : Str), ("times" : Str)] (spF Phi (kx w K tp lp cp) 16 3) := by
  obtain ⟨fd, F⟩ := F_state_after M
  exact ⟨fd, F, def_ok (k := kx w K tp lp cp) (lv := 2) (n := 100) (fu := 100000) (Φ := Phi) (Φb := P2) (se := se_state_after) (b := b_state_after.body) bo_all (gs_of (k := kx w K tp lp cp) (lv := 2) (se := se_state_after) ⟨⟨_, glo_beat_track M, kp_beat_track M, ⟨CallsTo.to ((call_beat_track_0 tp lp cp M).mono (by decide)) rfl, trivial⟩⟩, trivial⟩ trivial trivial (free M) (eq_to (eq_all tp lp cp M (by decide)) rfl)) F sc_state_after rfl (by kernel_rfl) sp_state_after⟩
theorem call_state_after_0 (M : Md K mg h) : CallsTo Phi (kx w K tp lp cp) mg base 3 (He.ga K "state_after") 16 3 [] [] := by
  obtain ⟨fd, F, O⟩ := ok_state_after (w := w) (base := base) tp lp cp M
  exact calls_of O (kbn_none F fun _ _ _ _ _ _ us ws l1 l2 => match us, ws, l1, l2 with | [_, _, _], [], _, _ => rfl) (fun _ => rfl) rfl
theorem F_need_times (M : Md K mg h) : ∃ fd, FunD K "need_times" "need_times" (defArgs (top 30)) (defBody (top 30)) (defScope (top 30)) [] [] (He.ga K "need_times") fd := (saysY M.c).1.def_ 18 (d := d_need_times) rfl
theorem glo_need_times (M : Md K mg h) : mg "need_times" = some (.ref (He.ga K "need_times")) := He.glo_ok M.KX M.G (fact M 16 rfl)
theorem kp_need_times (M : Md K mg h) : PySem.W.keepIn K (.ref (He.ga K "need_times")) = true := let ⟨_, F⟩ := F_need_times M; F.kp
theorem ok_need_times (M : Md K mg h) : ∃ fd, FunD K "need_times" "need_times" (defArgs (top 30)) (defBody (top 30)) (defScope (top 30)) [] [] (He.ga K "need_times") fd ∧ FnOk (kx w K tp lp cp).P w K mg base (CX (kx w K tp lp cp).P w) 3 (He.ga K "need_times") fd [("times" : Str)] (spF Phi (kx w K tp lp cp) 17 1) := by
  obtain ⟨fd, F⟩ := F_need_times M
  exact ⟨fd, F, def_ok (k := kx w K tp lp cp) (lv := 2) (n := 100) (fu := 100000) (Φ := Phi) (Φb := P2) (se := se_need_times) (b := b_need_times.body) bo_all (gs_of (k := kx w K tp lp cp) (lv := 2) (se := se_need_times) ⟨⟨_, glo_is_between M, kp_is_between M, ⟨CallsTo.to ((call_is_between_0 tp lp cp M).mono (by decide)) rfl, trivial⟩⟩, (let ⟨t, e⟩ := He.int_ok M.KX M.G (fact M 56 rfl); ⟨V.int 1000000000000000000, _, e, ⟨t, rfl⟩, fun _ => rfl⟩), trivial⟩ trivial trivial (free M) (eq_to (eq_all tp lp cp M (by decide)) rfl)) F sc_need_times rfl (by kernel_rfl) sp_need_times⟩
theorem call_need_times_0 (M : Md K mg h) : CallsTo Phi (kx w K tp lp cp) mg base 3 (He.ga K "need_times") 17 1 [] [] := by
  obtain ⟨fd, F, O⟩ := ok_need_times (w := w) (base := base) tp lp cp M
  exact calls_of O (kbn_none F fun _ _ _ _ _ _ us ws l1 l2 => match us, ws, l1, l2 with | [_], [], _, _ => rfl) (fun _ => rfl) rfl
theorem F_time_by (M : Md K mg h) : ∃ fd, FunD K "time_by" "time_by" (defArgs (top 33)) (defBody (top 33)) (defScope (top 33)) [] [] (He.ga K "time_by") fd := (saysY M.c).1.def_ 19 (d := d_time_by) rfl
theorem glo_time_by (M : Md K mg h) : mg "time_by" = some (.ref (He.ga K "time_by")) := He.glo_ok M.KX M.G (fact M 19 rfl)
theorem kp_time_by (M : Md K mg h) : PySem.W.keepIn K (.ref (He.ga K "time_by")) = true := let ⟨_, F⟩ := F_time_by M; F.kp
theorem ok_time_by (M : Md K mg h) : ∃ fd, FunD K "time_by" "time_by" (defArgs (top 33)) (defBody (top 33)) (defScope (top 33)) [] [] (He.ga K "time_by") fd ∧ FnOk (kx w K tp lp cp).P w K mg base (CX (kx w K tp lp cp).P w) 3 (He.ga K "time_by") fd [("net" : Str), ("one" : Str), ("other" : Str)] (spF Phi (kx w K tp lp cp) 20 3) := by
  obtain ⟨fd, F⟩ := F_time_by M
  exact ⟨fd, F, def_ok (k := kx w K tp lp cp) (lv := 2) (n := 100) (fu := 100000) (Φ := Phi) (Φb := P2) (se := se_time_by) (b := b_time_by.body) bo_all (gs_of (k := kx w K tp lp cp) (lv := 2) (se := se_time_by) ⟨⟨_, glo_beat_track M, kp_beat_track M, ⟨CallsTo.to ((call_beat_track_0 tp lp cp M).mono (by decide)) rfl, trivial⟩⟩, trivial⟩ trivial trivial (free M) (eq_to (eq_all tp lp cp M (by decide)) rfl)) F sc_time_by rfl (by kernel_rfl) sp_time_by⟩
theorem call_time_by_0 (M : Md K mg h) : CallsTo Phi (kx w K tp lp cp) mg base 3 (He.ga K "time_by") 20 3 [] [] := by
  obtain ⟨fd, F, O⟩ := ok_time_by (w := w) (base := base) tp lp cp M
  exact calls_of O (kbn_none F fun _ _ _ _ _ _ us ws l1 l2 => match us, ws, l1, l2 with | [_, _, _], [], _, _ => rfl) (fun _ => rfl) rfl
theorem F_longest_tail (M : Md K mg h) : ∃ fd, FunD K "longest_tail" "longest_tail" (defArgs (top 35)) (defBody (top 35)) (defScope (top 35)) [] [] (He.ga K "longest_tail") fd := (saysY M.c).1.def_ 20 (d := d_longest_tail) rfl
theorem glo_longest_tail (M : Md K mg h) : mg "longest_tail" = some (.ref (He.ga K "longest_tail")) := He.glo_ok M.KX M.G (fact M 21 rfl)
theorem kp_longest_tail (M : Md K mg h) : PySem.W.keepIn K (.ref (He.ga K "longest_tail")) = true := let ⟨_, F⟩ := F_longest_tail M; F.kp
theorem ok_longest_tail (M : Md K mg h) : ∃ fd, FunD K "longest_tail" "longest_tail" (defArgs (top 35)) (defBody (top 35)) (defScope (top 35)) [] [] (He.ga K "longest_tail") fd ∧ FnOk (kx w K tp lp cp).P w K mg base (CX (kx w K tp lp cp).P w) 3 (He.ga K "longest_tail") fd [("net" : Str)] (spF Phi (kx w K tp lp cp) 22 1) := by
  obtain ⟨fd, F⟩ := F_longest_tail M
  exact ⟨fd, F, def_ok (k := kx w K tp lp cp) (lv := 2) (n := 100) (fu := 100000) (Φ := Phi) (Φb := P2) (se := se_longest_tail) (b := b_longest_tail.body) bo_all (gs_of (k := kx w K tp lp cp) (lv := 2) (se := se_longest_tail) ⟨⟨_, glo_need_net M, kp_need_net M, ⟨CallsTo.to ((call_need_net_0 tp lp cp M).mono (by decide)) rfl, trivial⟩⟩, ⟨_, glo_all_states M, kp_all_states M, ⟨CallsTo.to ((call_all_states_0 tp lp cp M).mono (by decide)) rfl, trivial⟩⟩, ⟨_, glo_beat_track M, kp_beat_track M, ⟨CallsTo.to ((call_beat_track_0 tp lp cp M).mono (by decide)) rfl, trivial⟩⟩, trivial⟩ ⟨PropTo.conv ((prop_switches tp lp cp M).mono (by decide)) rfl, trivial⟩ trivial (free M) (eq_to (eq_all tp lp cp M (by decide)) rfl)) F sc_longest_tail rfl (by kernel_rfl) sp_longest_tail⟩
theorem call_longest_tail_0 (M : Md K mg h) : CallsTo Phi (kx w K tp lp cp) mg base 3 (He.ga K "longest_tail") 22 1 [] [] := by
  obtain ⟨fd, F, O⟩ := ok_longest_tail (w := w) (base := base) tp lp cp M
  exact calls_of O (kbn_none F fun _ _ _ _ _ _ us ws l1 l2 => match us, ws, l1, l2 with | [_], [], _, _ => rfl) (fun _ => rfl) rfl
theorem F__law_pick (M : Md K mg h) : ∃ fd, FunD K "_law_pick" "_law_pick" (defArgs (top 40)) (defBody (top 40)) (defScope (top 40)) [] [] (He.ga K "_law_pick") fd := (saysY M.c).1.def_ 21 (d := d__law_pick) rfl
theorem glo__law_pick (M : Md K mg h) : mg "_law_pick" = some (.ref (He.ga K "_law_pick")) := He.glo_ok M.KX M.G (fact M 25 rfl)
theorem kp__law_pick (M : Md K mg h) : PySem.W.keepIn K (.ref (He.ga K "_law_pick")) = true := let ⟨_, F⟩ := F__law_pick M; F.kp
theorem ok__law_pick (M : Md K mg h) : ∃ fd, FunD K "_law_pick" "_law_pick" (defArgs (top 40)) (defBody (top 40)) (defScope (top 40)) [] [] (He.ga K "_law_pick") fd ∧ FnOk (kx w K tp lp cp).P w K mg base (CX (kx w K tp lp cp).P w) 3 (He.ga K "_law_pick") fd [("tape" : Str), ("several" : Str)] (spF Phi (kx w K tp lp cp) 26 2) := by
  obtain ⟨fd, F⟩ := F__law_pick M
  exact ⟨fd, F, def_ok (k := kx w K tp lp cp) (lv := 2) (n := 100) (fu := 100000) (Φ := Phi) (Φb := P2) (se := se__law_pick) (b := b__law_pick.body) bo_all (gs_of (k := kx w K tp lp cp) (lv := 2) (se := se__law_pick) ⟨⟨_, glo__law_draw M, kp__law_draw M, ⟨CallsTo.to ((call__law_draw_0 tp lp cp M).mono (by decide)) rfl, trivial⟩⟩, trivial⟩ trivial trivial (free M) (eq_to (eq_all tp lp cp M (by decide)) rfl)) F sc__law_pick rfl (by kernel_rfl) sp__law_pick⟩
theorem call__law_pick_0 (M : Md K mg h) : CallsTo Phi (kx w K tp lp cp) mg base 3 (He.ga K "_law_pick") 26 2 [] [] := by
  obtain ⟨fd, F, O⟩ := ok__law_pick (w := w) (base := base) tp lp cp M
  exact calls_of O (kbn_none F fun _ _ _ _ _ _ us ws l1 l2 => match us, ws, l1, l2 with | [_, _], [], _, _ => rfl) (fun _ => rfl) rfl
theorem F__law_shuffled (M : Md K mg h) : ∃ fd, FunD K "_law_shuffled" "_law_shuffled" (defArgs (top 41)) (defBody (top 41)) (defScope (top 41)) [] [] (He.ga K "_law_shuffled") fd := (saysY M.c).1.def_ 22 (d := d__law_shuffled) rfl
theorem glo__law_shuffled (M : Md K mg h) : mg "_law_shuffled" = some (.ref (He.ga K "_law_shuffled")) := He.glo_ok M.KX M.G (fact M 26 rfl)
theorem kp__law_shuffled (M : Md K mg h) : PySem.W.keepIn K (.ref (He.ga K "_law_shuffled")) = true := let ⟨_, F⟩ := F__law_shuffled M; F.kp
theorem ok__law_shuffled (M : Md K mg h) : ∃ fd, FunD K "_law_shuffled" "_law_shuffled" (defArgs (top 41)) (defBody (top 41)) (defScope (top 41)) [] [] (He.ga K "_law_shuffled") fd ∧ FnOk (kx w K tp lp cp).P w K mg base (CX (kx w K tp lp cp).P w) 3 (He.ga K "_law_shuffled") fd [("tape" : Str), ("several" : Str)] (spF Phi (kx w K tp lp cp) 27 2) := by
  obtain ⟨fd, F⟩ := F__law_shuffled M
  exact ⟨fd, F, def_ok (k := kx w K tp lp cp) (lv := 2) (n := 100) (fu := 100000) (Φ := Phi) (Φb := P2) (se := se__law_shuffled) (b := b__law_shuffled.body) bo_all (gs_of (k := kx w K tp lp cp) (lv := 2) (se := se__law_shuffled) ⟨⟨_, glo__law_draw M, kp__law_draw M, ⟨CallsTo.to ((call__law_draw_0 tp lp cp M).mono (by decide)) rfl, trivial⟩⟩, trivial⟩ trivial trivial (free M) (eq_to (eq_all tp lp cp M (by decide)) rfl)) F sc__law_shuffled rfl (by kernel_rfl) sp__law_shuffled⟩
theorem call__law_shuffled_0 (M : Md K mg h) : CallsTo Phi (kx w K tp lp cp) mg base 3 (He.ga K "_law_shuffled") 27 2 [] [] := by
  obtain ⟨fd, F, O⟩ := ok__law_shuffled (w := w) (base := base) tp lp cp M
  exact calls_of O (kbn_none F fun _ _ _ _ _ _ us ws l1 l2 => match us, ws, l1, l2 with | [_, _], [], _, _ => rfl) (fun _ => rfl) rfl
theorem F__law_small_nets (M : Md K mg h) : ∃ fd, FunD K "_law_small_nets" "_law_small_nets" (defArgs (top 46)) (defBody (top 46)) (defScope (top 46)) [] [] (He.ga K "_law_small_nets") fd := (saysY M.c).1.def_ 23 (d := d__law_small_nets) rfl
theorem glo__law_small_nets (M : Md K mg h) : mg "_law_small_nets" = some (.ref (He.ga K "_law_small_nets")) := He.glo_ok M.KX M.G (fact M 31 rfl)
theorem kp__law_small_nets (M : Md K mg h) : PySem.W.keepIn K (.ref (He.ga K "_law_small_nets")) = true := let ⟨_, F⟩ := F__law_small_nets M; F.kp
theorem ok__law_small_nets (M : Md K mg h) : ∃ fd, FunD K "_law_small_nets" "_law_small_nets" (defArgs (top 46)) (defBody (top 46)) (defScope (top 46)) [] [] (He.ga K "_law_small_nets") fd ∧ FnOk (kx w K tp lp cp).P w K mg base (CX (kx w K tp lp cp).P w) 3 (He.ga K "_law_small_nets") fd [("tape" : Str), ("share" : Str)] (spF Phi (kx w K tp lp cp) 32 2) := by
  obtain ⟨fd, F⟩ := F__law_small_nets M
  exact ⟨fd, F, def_ok (k := kx w K tp lp cp) (lv := 2) (n := 100) (fu := 100000) (Φ := Phi) (Φb := P2) (se := se__law_small_nets) (b := b__law_small_nets.body) bo_all (gs_of (k := kx w K tp lp cp) (lv := 2) (se := se__law_small_nets) ⟨⟨_, glo__law_power M, kp__law_power M, ⟨CallsTo.to ((call__law_power_0 tp lp cp M).mono (by decide)) rfl, trivial⟩⟩, ⟨_, glo__law_states M, kp__law_states M, ⟨CallsTo.to ((call__law_states_0 tp lp cp M).mono (by decide)) rfl, trivial⟩⟩, ⟨_, glo__law_draw M, kp__law_draw M, ⟨CallsTo.to ((call__law_draw_0 tp lp cp M).mono (by decide)) rfl, trivial⟩⟩, trivial⟩ trivial trivial (free M) (eq_to (eq_all tp lp cp M (by decide)) rfl)) F sc__law_small_nets rfl (by kernel_rfl) sp__law_small_nets⟩
theorem call__law_small_nets_0 (M : Md K mg h) : CallsTo Phi (kx w K tp lp cp) mg base 3 (He.ga K "_law_small_nets") 32 2 [] [] := by
  obtain ⟨fd, F, O⟩ := ok__law_small_nets (w := w) (base := base) tp lp cp M
  exact calls_of O (kbn_none F fun _ _ _ _ _ _ us ws l1 l2 => match us, ws, l1, l2 with | [_, _], [], _, _ => rfl) (fun _ => rfl) rfl
theorem F_need_rules (M : Md K mg h) : ∃ fd, FunD K "need_rules" "need_rules" (defArgs (top 17)) (defBody (top 17)) (defScope (top 17)) [] [] (He.ga K "need_rules") fd := (saysY M.c).1.def_ 24 (d := d_need_rules) rfl
theorem glo_need_rules (M : Md K mg h) : mg "need_rules" = some (.ref (He.ga K "need_rules")) := He.glo_ok M.KX M.G (fact M 6 rfl)
theorem kp_need_rules (M : Md K mg h) : PySem.W.keepIn K (.ref (He.ga K "need_rules")) = true := let ⟨_, F⟩ := F_need_rules M; F.kp
theorem ok_need_rules (M : Md K mg h) : ∃ fd, FunD K "need_rules" "need_rules" (defArgs (top 17)) (defBody (top 17)) (defScope (top 17)) [] [] (He.ga K "need_rules") fd ∧ FnOk (kx w K tp lp cp).P w K mg base (CX (kx w K tp lp cp).P w) 4 (He.ga K "need_rules") fd [("rules" : Str)] (spF Phi (kx w K tp lp cp) 7 1) := by
  obtain ⟨fd, F⟩ := F_need_rules M
  exact ⟨fd, F, def_ok (k := kx w K tp lp cp) (lv := 3) (n := 100) (fu := 100000) (Φ := Phi) (Φb := P3) (se := se_need_rules) (b := b_need_rules.body) bo_all (gs_of (k := kx w K tp lp cp) (lv := 3) (se := se_need_rules) ⟨⟨_, glo_states_many M, kp_states_many M, ⟨CallsTo.to ((call_states_many_0 tp lp cp M).mono (by decide)) rfl, trivial⟩⟩, ⟨_, glo_is_list M, kp_is_list M, ⟨CallsTo.to ((call_is_list_0 tp lp cp M).mono (by decide)) rfl, trivial⟩⟩, ⟨_, glo_is_tuple_of M, kp_is_tuple_of M, ⟨CallsTo.to ((call_is_tuple_of_0 tp lp cp M).mono (by decide)) rfl, trivial⟩⟩, (let ⟨t, e⟩ := He.int_ok M.KX M.G (fact M 55 rfl); ⟨V.int 5, _, e, ⟨t, rfl⟩, fun _ => rfl⟩), trivial⟩ trivial trivial (free M) (eq_to (eq_all tp lp cp M (by decide)) rfl)) F sc_need_rules rfl (by kernel_rfl) sp_need_rules⟩
theorem call_need_rules_0 (M : Md K mg h) : CallsTo Phi (kx w K tp lp cp) mg base 4 (He.ga K "need_rules") 7 1 [] [] := by
  obtain ⟨fd, F, O⟩ := ok_need_rules (w := w) (base := base) tp lp cp M
  exact calls_of O (kbn_none F fun _ _ _ _ _ _ us ws l1 l2 => match us, ws, l1, l2 with | [_], [], _, _ => rfl) (fun _ => rfl) rfl
theorem F_is_state (M : Md K mg h) : ∃ fd, FunD K "is_state" "is_state" (defArgs (top 20)) (defBody (top 20)) (defScope (top 20)) [] [] (He.ga K "is_state") fd := (saysY M.c).1.def_ 25 (d := d_is_state) rfl
theorem glo_is_state (M : Md K mg h) : mg "is_state" = some (.ref (He.ga K "is_state")) := He.glo_ok M.KX M.G (fact M 8 rfl)
theorem kp_is_state (M : Md K mg h) : PySem.W.keepIn K (.ref (He.ga K "is_state")) = true := let ⟨_, F⟩ := F_is_state M; F.kp
theorem ok_is_state (M : Md K mg h) : ∃ fd, FunD K "is_state" "is_state" (defArgs (top 20)) (defBody (top 20)) (defScope (top 20)) [] [] (He.ga K "is_state") fd ∧ FnOk (kx w K tp lp cp).P w K mg base (CX (kx w K tp lp cp).P w) 4 (He.ga K "is_state") fd [("many" : Str), ("thing" : Str)] (spF Phi (kx w K tp lp cp) 9 2) := by
  obtain ⟨fd, F⟩ := F_is_state M
  exact ⟨fd, F, def_ok (k := kx w K tp lp cp) (lv := 3) (n := 100) (fu := 100000) (Φ := Phi) (Φb := P3) (se := se_is_state) (b := b_is_state.body) bo_all (gs_of (k := kx w K tp lp cp) (lv := 3) (se := se_is_state) ⟨⟨_, glo_is_tuple_of M, kp_is_tuple_of M, ⟨CallsTo.to ((call_is_tuple_of_0 tp lp cp M).mono (by decide)) rfl, trivial⟩⟩, trivial⟩ trivial trivial (free M) (eq_to (eq_all tp lp cp M (by decide)) rfl)) F sc_is_state rfl (by kernel_rfl) sp_is_state⟩
theorem call_is_state_0 (M : Md K mg h) : CallsTo Phi (kx w K tp lp cp) mg base 4 (He.ga K "is_state") 9 2 [] [] := by
  obtain ⟨fd, F, O⟩ := ok_is_state (w := w) (base := base) tp lp cp M
  exact calls_of O (kbn_none F fun _ _ _ _ _ _ us ws l1 l2 => match us, ws, l1, l2 with | [_, _], [], _, _ => rfl) (fun _ => rfl) rfl
theorem F__law_net (M : Md K mg h) : ∃ fd, FunD K "_law_net" "_law_net" (defArgs (top 44)) (defBody (top 44)) (defScope (top 44)) [] [] (He.ga K "_law_net") fd := (saysY M.c).1.def_ 26 (d := d__law_net) rfl
theorem glo__law_net (M : Md K mg h) : mg "_law_net" = some (.ref (He.ga K "_law_net")) := He.glo_ok M.KX M.G (fact M 29 rfl)
theorem kp__law_net (M : Md K mg h) : PySem.W.keepIn K (.ref (He.ga K "_law_net")) = true := let ⟨_, F⟩ := F__law_net M; F.kp
theorem ok__law_net (M : Md K mg h) : ∃ fd, FunD K "_law_net" "_law_net" (defArgs (top 44)) (defBody (top 44)) (defScope (top 44)) [] [] (He.ga K "_law_net") fd ∧ FnOk (kx w K tp lp cp).P w K mg base (CX (kx w K tp lp cp).P w) 4 (He.ga K "_law_net") fd [("tape" : Str), ("most" : Str)] (spF Phi (kx w K tp lp cp) 30 2) := by
  obtain ⟨fd, F⟩ := F__law_net M
  exact ⟨fd, F, def_ok (k := kx w K tp lp cp) (lv := 3) (n := 100) (fu := 100000) (Φ := Phi) (Φb := P3) (se := se__law_net) (b := b__law_net.body) bo_all (gs_of (k := kx w K tp lp cp) (lv := 3) (se := se__law_net) ⟨⟨_, glo__law_draw M, kp__law_draw M, ⟨CallsTo.to ((call__law_draw_0 tp lp cp M).mono (by decide)) rfl, trivial⟩⟩, ⟨_, glo__law_states M, kp__law_states M, ⟨CallsTo.to ((call__law_states_0 tp lp cp M).mono (by decide)) rfl, trivial⟩⟩, ⟨_, glo__law_pick M, kp__law_pick M, ⟨CallsTo.to ((call__law_pick_0 tp lp cp M).mono (by decide)) rfl, trivial⟩⟩, ⟨_, glo__law_shuffled M, kp__law_shuffled M, ⟨CallsTo.to ((call__law_shuffled_0 tp lp cp M).mono (by decide)) rfl, trivial⟩⟩, trivial⟩ trivial trivial (free M) (eq_to (eq_all tp lp cp M (by decide)) rfl)) F sc__law_net rfl (by kernel_rfl) sp__law_net⟩
theorem call__law_net_0 (M : Md K mg h) : CallsTo Phi (kx w K tp lp cp) mg base 4 (He.ga K "_law_net") 30 2 [] [] := by
  obtain ⟨fd, F, O⟩ := ok__law_net (w := w) (base := base) tp lp cp M
  exact calls_of O (kbn_none F fun _ _ _ _ _ _ us ws l1 l2 => match us, ws, l1, l2 with | [_, _], [], _, _ => rfl) (fun _ => rfl) rfl
theorem F_need_state (M : Md K mg h) : ∃ fd, FunD K "need_state" "need_state" (defArgs (top 21)) (defBody (top 21)) (defScope (top 21)) [] [] (He.ga K "need_state") fd := (saysY M.c).1.def_ 27 (d := d_need_state) rfl
theorem glo_need_state (M : Md K mg h) : mg "need_state" = some (.ref (He.ga K "need_state")) := He.glo_ok M.KX M.G (fact M 9 rfl)
theorem kp_need_state (M : Md K mg h) : PySem.W.keepIn K (.ref (He.ga K "need_state")) = true := let ⟨_, F⟩ := F_need_state M; F.kp
theorem ok_need_state (M : Md K mg h) : ∃ fd, FunD K "need_state" "need_state" (defArgs (top 21)) (defBody (top 21)) (defScope (top 21)) [] [] (He.ga K "need_state") fd ∧ FnOk (kx w K tp lp cp).P w K mg base (CX (kx w K tp lp cp).P w) 5 (He.ga K "need_state") fd [("net" : Str), ("state" : Str)] (spF Phi (kx w K tp lp cp) 10 2) := by
  obtain ⟨fd, F⟩ := F_need_state M
  exact ⟨fd, F, def_ok (k := kx w K tp lp cp) (lv := 4) (n := 100) (fu := 100000) (Φ := Phi) (Φb := P4) (se := se_need_state) (b := b_need_state.body) bo_all (gs_of (k := kx w K tp lp cp) (lv := 4) (se := se_need_state) ⟨⟨_, glo_is_state M, kp_is_state M, ⟨CallsTo.to ((call_is_state_0 tp lp cp M).mono (by decide)) rfl, trivial⟩⟩, trivial⟩ ⟨PropTo.conv ((prop_switches tp lp cp M).mono (by decide)) rfl, trivial⟩ trivial (free M) (eq_to (eq_all tp lp cp M (by decide)) rfl)) F sc_need_state rfl (by kernel_rfl) sp_need_state⟩
theorem call_need_state_0 (M : Md K mg h) : CallsTo Phi (kx w K tp lp cp) mg base 5 (He.ga K "need_state") 10 2 [] [] := by
  obtain ⟨fd, F, O⟩ := ok_need_state (w := w) (base := base) tp lp cp M
  exact calls_of O (kbn_none F fun _ _ _ _ _ _ us ws l1 l2 => match us, ws, l1, l2 with | [_, _], [], _, _ => rfl) (fun _ => rfl) rfl
theorem F_Net_init (M : Md K mg h) : ∃ fd, FunD K "__init__" "Net.__init__" (defArgs (inn 18 0)) (defBody (inn 18 0)) (defScope (inn 18 0)) [] [] (He.ma K (He.ga K "Net") "__init__") fd := (saysY M.c).1.def_ 28 (d := d_Net_init) rfl
theorem kp_Net_init (M : Md K mg h) : PySem.W.keepIn K (.ref (He.ma K (He.ga K "Net") "__init__")) = true := let ⟨_, F⟩ := F_Net_init M; F.kp
theorem ok_Net_init (M : Md K mg h) : ∃ fd, FunD K "__init__" "Net.__init__" (defArgs (inn 18 0)) (defBody (inn 18 0)) (defScope (inn 18 0)) [] [] (He.ma K (He.ga K "Net") "__init__") fd ∧ FnOk (kx w K tp lp cp).P w K mg base (CX (kx w K tp lp cp).P w) 5 (He.ma K (He.ga K "Net") "__init__") fd [("self" : Str), ("rules" : Str)] (initSp Phi (kx w K tp lp cp) 37) := by
  obtain ⟨fd, F⟩ := F_Net_init M
  exact ⟨fd, F, init_ok (Φb := P4) (k := kx w K tp lp cp) (lv := 4) (n := 100) (fu := 100000) (se := se_Net_init) bo_all (gs_of (k := kx w K tp lp cp) (lv := 4) (se := se_Net_init) ⟨⟨_, glo_need_rules M, kp_need_rules M, ⟨CallsTo.to ((call_need_rules_0 tp lp cp M).mono (by decide)) rfl, trivial⟩⟩, ⟨_, glo_all_states M, kp_all_states M, ⟨CallsTo.to ((call_all_states_0 tp lp cp M).mono (by decide)) rfl, trivial⟩⟩, trivial⟩ ⟨⟨rfl, by decide, clsN M, na_own_rules M⟩, ⟨rfl, by decide, clsN M, na_own_nexts M⟩, trivial⟩ trivial (free M) (eq_to (eq_all tp lp cp M (by decide)) rfl)) (e1 := iniE1) (e2 := iniE2) (b3 := iniB3) (b4 := iniB4) (i := 2) rfl F sc_Net_init rfl (by kernel_rfl) (by kernel_rfl) (by kernel_rfl) (by kernel_rfl) (by kernel_rfl) (by kernel_rfl) (by kernel_rfl) (fun _ => rfl) (fun _ => rfl) (clsN M) (na_own_rules M) (na_own_nexts M) sp_Net_init⟩
theorem call_Net (M : Md K mg h) : CallsTo Phi (kx w K tp lp cp) mg base 6 (He.ga K "Net") 37 1 [] [] := by
  obtain ⟨fd, F, O⟩ := ok_Net_init (w := w) (base := base) tp lp cp M
  exact calls_make (k := kx w K tp lp cp) (mkN M) rfl O (F.bindsN fun _ _ _ _ _ _ us hl => match us, hl with | [_, _], _ => rfl)
theorem F_need_net_state (M : Md K mg h) : ∃ fd, FunD K "need_net_state" "need_net_state" (defArgs (top 22)) (defBody (top 22)) (defScope (top 22)) [] [] (He.ga K "need_net_state") fd := (saysY M.c).1.def_ 29 (d := d_need_net_state) rfl
theorem glo_need_net_state (M : Md K mg h) : mg "need_net_state" = some (.ref (He.ga K "need_net_state")) := He.glo_ok M.KX M.G (fact M 10 rfl)
theorem kp_need_net_state (M : Md K mg h) : PySem.W.keepIn K (.ref (He.ga K "need_net_state")) = true := let ⟨_, F⟩ := F_need_net_state M; F.kp
theorem ok_need_net_state (M : Md K mg h) : ∃ fd, FunD K "need_net_state" "need_net_state" (defArgs (top 22)) (defBody (top 22)) (defScope (top 22)) [] [] (He.ga K "need_net_state") fd ∧ FnOk (kx w K tp lp cp).P w K mg base (CX (kx w K tp lp cp).P w) 6 (He.ga K "need_net_state") fd [("net" : Str), ("state" : Str)] (spF Phi (kx w K tp lp cp) 11 2) := by
  obtain ⟨fd, F⟩ := F_need_net_state M
  exact ⟨fd, F, def_ok (k := kx w K tp lp cp) (lv := 5) (n := 100) (fu := 100000) (Φ := Phi) (Φb := P5) (se := se_need_net_state) (b := b_need_net_state.body) bo_all (gs_of (k := kx w K tp lp cp) (lv := 5) (se := se_need_net_state) ⟨⟨_, glo_need_net M, kp_need_net M, ⟨CallsTo.to ((call_need_net_0 tp lp cp M).mono (by decide)) rfl, trivial⟩⟩, ⟨_, glo_need_state M, kp_need_state M, ⟨CallsTo.to ((call_need_state_0 tp lp cp M).mono (by decide)) rfl, trivial⟩⟩, trivial⟩ trivial trivial (free M) (eq_to (eq_all tp lp cp M (by decide)) rfl)) F sc_need_net_state rfl (by kernel_rfl) sp_need_net_state⟩
theorem call_need_net_state_0 (M : Md K mg h) : CallsTo Phi (kx w K tp lp cp) mg base 6 (He.ga K "need_net_state") 11 2 [] [] := by
  obtain ⟨fd, F, O⟩ := ok_need_net_state (w := w) (base := base) tp lp cp M
  exact calls_of O (kbn_none F fun _ _ _ _ _ _ us ws l1 l2 => match us, ws, l1, l2 with | [_, _], [], _, _ => rfl) (fun _ => rfl) rfl
theorem F_need_two_states (M : Md K mg h) : ∃ fd, FunD K "need_two_states" "need_two_states" (defArgs (top 32)) (defBody (top 32)) (defScope (top 32)) [] [] (He.ga K "need_two_states") fd := (saysY M.c).1.def_ 30 (d := d_need_two_states) rfl
theorem glo_need_two_states (M : Md K mg h) : mg "need_two_states" = some (.ref (He.ga K "need_two_states")) := He.glo_ok M.KX M.G (fact M 18 rfl)
theorem kp_need_two_states (M : Md K mg h) : PySem.W.keepIn K (.ref (He.ga K "need_two_states")) = true := let ⟨_, F⟩ := F_need_two_states M; F.kp
theorem ok_need_two_states (M : Md K mg h) : ∃ fd, FunD K "need_two_states" "need_two_states" (defArgs (top 32)) (defBody (top 32)) (defScope (top 32)) [] [] (He.ga K "need_two_states") fd ∧ FnOk (kx w K tp lp cp).P w K mg base (CX (kx w K tp lp cp).P w) 6 (He.ga K "need_two_states") fd [("net" : Str), ("one" : Str), ("other" : Str)] (spF Phi (kx w K tp lp cp) 19 3) := by
  obtain ⟨fd, F⟩ := F_need_two_states M
  exact ⟨fd, F, def_ok (k := kx w K tp lp cp) (lv := 5) (n := 100) (fu := 100000) (Φ := Phi) (Φb := P5) (se := se_need_two_states) (b := b_need_two_states.body) bo_all (gs_of (k := kx w K tp lp cp) (lv := 5) (se := se_need_two_states) ⟨⟨_, glo_need_net M, kp_need_net M, ⟨CallsTo.to ((call_need_net_0 tp lp cp M).mono (by decide)) rfl, trivial⟩⟩, ⟨_, glo_need_state M, kp_need_state M, ⟨CallsTo.to ((call_need_state_0 tp lp cp M).mono (by decide)) rfl, trivial⟩⟩, trivial⟩ trivial trivial (free M) (eq_to (eq_all tp lp cp M (by decide)) rfl)) F sc_need_two_states rfl (by kernel_rfl) sp_need_two_states⟩
theorem call_need_two_states_0 (M : Md K mg h) : CallsTo Phi (kx w K tp lp cp) mg base 6 (He.ga K "need_two_states") 19 3 [] [] := by
  obtain ⟨fd, F, O⟩ := ok_need_two_states (w := w) (base := base) tp lp cp M
  exact calls_of O (kbn_none F fun _ _ _ _ _ _ us ws l1 l2 => match us, ws, l1, l2 with | [_, _, _], [], _, _ => rfl) (fun _ => rfl) rfl
theorem F_next_state (M : Md K mg h) : ∃ fd, FunD K "next_state" "next_state" (defArgs (top 24)) (defBody (top 24)) (defScope (top 24)) [] [] (He.ga K "next_state") fd := (saysY M.c).1.def_ 31 (d := d_next_state) rfl
theorem glo_next_state (M : Md K mg h) : mg "next_state" = some (.ref (He.ga K "next_state")) := He.glo_ok M.KX M.G (fact M 12 rfl)
theorem kp_next_state (M : Md K mg h) : PySem.W.keepIn K (.ref (He.ga K "next_state")) = true := let ⟨_, F⟩ := F_next_state M; F.kp
theorem ok_next_state (M : Md K mg h) : ∃ fd, FunD K "next_state" "next_state" (defArgs (top 24)) (defBody (top 24)) (defScope (top 24)) [] [] (He.ga K "next_state") fd ∧ FnOk (kx w K tp lp cp).P w K mg base (CX (kx w K tp lp cp).P w) 7 (He.ga K "next_state") fd [("net" : Str), ("state" : Str)] (spF Phi (kx w K tp lp cp) 13 2) := by
  obtain ⟨fd, F⟩ := F_next_state M
  exact ⟨fd, F, def_ok (k := kx w K tp lp cp) (lv := 6) (n := 100) (fu := 100000) (Φ := Phi) (Φb := P6) (se := se_next_state) (b := b_next_state.body) bo_all (gs_of (k := kx w K tp lp cp) (lv := 6) (se := se_next_state) ⟨⟨_, glo_need_net_state M, kp_need_net_state M, ⟨CallsTo.to ((call_need_net_state_0 tp lp cp M).mono (by decide)) rfl, trivial⟩⟩, ⟨_, glo_next_by M, kp_next_by M, ⟨CallsTo.to ((call_next_by_0 tp lp cp M).mono (by decide)) rfl, trivial⟩⟩, trivial⟩ trivial trivial (free M) (eq_to (eq_all tp lp cp M (by decide)) rfl)) F sc_next_state rfl (by kernel_rfl) sp_next_state⟩
theorem call_next_state_0 (M : Md K mg h) : CallsTo Phi (kx w K tp lp cp) mg base 7 (He.ga K "next_state") 13 2 [] [] := by
  obtain ⟨fd, F, O⟩ := ok_next_state (w := w) (base := base) tp lp cp M
  exact calls_of O (kbn_none F fun _ _ _ _ _ _ us ws l1 l2 => match us, ws, l1, l2 with | [_, _], [], _, _ => rfl) (fun _ => rfl) rfl
theorem F_beat_run (M : Md K mg h) : ∃ fd, FunD K "beat_run" "beat_run" (defArgs (top 28)) (defBody (top 28)) (defScope (top 28)) [] [] (He.ga K "beat_run") fd := (saysY M.c).1.def_ 32 (d := d_beat_run) rfl
theorem glo_beat_run (M : Md K mg h) : mg "beat_run" = some (.ref (He.ga K "beat_run")) := He.glo_ok M.KX M.G (fact M 14 rfl)
theorem kp_beat_run (M : Md K mg h) : PySem.W.keepIn K (.ref (He.ga K "beat_run")) = true := let ⟨_, F⟩ := F_beat_run M; F.kp
theorem ok_beat_run (M : Md K mg h) : ∃ fd, FunD K "beat_run" "beat_run" (defArgs (top 28)) (defBody (top 28)) (defScope (top 28)) [] [] (He.ga K "beat_run") fd ∧ FnOk (kx w K tp lp cp).P w K mg base (CX (kx w K tp lp cp).P w) 7 (He.ga K "beat_run") fd [("net" : Str), ("state" : Str)] (spF Phi (kx w K tp lp cp) 15 2) := by
  obtain ⟨fd, F⟩ := F_beat_run M
  exact ⟨fd, F, def_ok (k := kx w K tp lp cp) (lv := 6) (n := 100) (fu := 100000) (Φ := Phi) (Φb := P6) (se := se_beat_run) (b := b_beat_run.body) bo_all (gs_of (k := kx w K tp lp cp) (lv := 6) (se := se_beat_run) ⟨⟨_, glo_need_net_state M, kp_need_net_state M, ⟨CallsTo.to ((call_need_net_state_0 tp lp cp M).mono (by decide)) rfl, trivial⟩⟩, ⟨_, glo_beat_track M, kp_beat_track M, ⟨CallsTo.to ((call_beat_track_0 tp lp cp M).mono (by decide)) rfl, trivial⟩⟩, trivial⟩ trivial trivial (free M) (eq_to (eq_all tp lp cp M (by decide)) rfl)) F sc_beat_run rfl (by kernel_rfl) sp_beat_run⟩
theorem call_beat_run_0 (M : Md K mg h) : CallsTo Phi (kx w K tp lp cp) mg base 7 (He.ga K "beat_run") 15 2 [] [] := by
  obtain ⟨fd, F, O⟩ := ok_beat_run (w := w) (base := base) tp lp cp M
  exact calls_of O (kbn_none F fun _ _ _ _ _ _ us ws l1 l2 => match us, ws, l1, l2 with | [_, _], [], _, _ => rfl) (fun _ => rfl) rfl
theorem call_beat_run_1 (M : Md K mg h) : CallsTo Phi (kx w K tp lp cp) mg base 7 (He.ga K "beat_run") 15 0 [("net" : Str), ("state" : Str)] [] := by
  obtain ⟨fd, F, O⟩ := ok_beat_run (w := w) (base := base) tp lp cp M
  exact calls_of O (kbn_none F fun _ _ _ _ _ _ us ws l1 l2 => match us, ws, l1, l2 with | [], [_, _], _, _ => rfl) (fun _ => rfl) rfl
theorem F_after (M : Md K mg h) : ∃ fd, FunD K "after" "after" (defArgs (top 31)) (defBody (top 31)) (defScope (top 31)) [] [] (He.ga K "after") fd := (saysY M.c).1.def_ 33 (d := d_after) rfl
theorem glo_after (M : Md K mg h) : mg "after" = some (.ref (He.ga K "after")) := He.glo_ok M.KX M.G (fact M 17 rfl)
theorem kp_after (M : Md K mg h) : PySem.W.keepIn K (.ref (He.ga K "after")) = true := let ⟨_, F⟩ := F_after M; F.kp
theorem ok_after (M : Md K mg h) : ∃ fd, FunD K "after" "after" (defArgs (top 31)) (defBody (top 31)) (defScope (top 31)) [] [] (He.ga K "after") fd ∧ FnOk (kx w K tp lp cp).P w K mg base (CX (kx w K tp lp cp).P w) 7 (He.ga K "after") fd [("net" : Str), ("state" : Str), ("times" : Str)] (spF Phi (kx w K tp lp cp) 18 3) := by
  obtain ⟨fd, F⟩ := F_after M
  exact ⟨fd, F, def_ok (k := kx w K tp lp cp) (lv := 6) (n := 100) (fu := 100000) (Φ := Phi) (Φb := P6) (se := se_after) (b := b_after.body) bo_all (gs_of (k := kx w K tp lp cp) (lv := 6) (se := se_after) ⟨⟨_, glo_need_net_state M, kp_need_net_state M, ⟨CallsTo.to ((call_need_net_state_0 tp lp cp M).mono (by decide)) rfl, trivial⟩⟩, ⟨_, glo_need_times M, kp_need_times M, ⟨CallsTo.to ((call_need_times_0 tp lp cp M).mono (by decide)) rfl, trivial⟩⟩, ⟨_, glo_state_after M, kp_state_after M, ⟨CallsTo.to ((call_state_after_0 tp lp cp M).mono (by decide)) rfl, trivial⟩⟩, trivial⟩ trivial trivial (free M) (eq_to (eq_all tp lp cp M (by decide)) rfl)) F sc_after rfl (by kernel_rfl) sp_after⟩
theorem call_after_0 (M : Md K mg h) : CallsTo Phi (kx w K tp lp cp) mg base 7 (He.ga K "after") 18 3 [] [] := by
  obtain ⟨fd, F, O⟩ := ok_after (w := w) (base := base) tp lp cp M
  exact calls_of O (kbn_none F fun _ _ _ _ _ _ us ws l1 l2 => match us, ws, l1, l2 with | [_, _, _], [], _, _ => rfl) (fun _ => rfl) rfl
theorem call_after_1 (M : Md K mg h) : CallsTo Phi (kx w K tp lp cp) mg base 7 (He.ga K "after") 18 0 [("net" : Str), ("state" : Str), ("times" : Str)] [] := by
  obtain ⟨fd, F, O⟩ := ok_after (w := w) (base := base) tp lp cp M
  exact calls_of O (kbn_none F fun _ _ _ _ _ _ us ws l1 l2 => match us, ws, l1, l2 with | [], [_, _, _], _, _ => rfl) (fun _ => rfl) rfl
theorem F_beat_time (M : Md K mg h) : ∃ fd, FunD K "beat_time" "beat_time" (defArgs (top 34)) (defBody (top 34)) (defScope (top 34)) [] [] (He.ga K "beat_time") fd := (saysY M.c).1.def_ 34 (d := d_beat_time) rfl
theorem glo_beat_time (M : Md K mg h) : mg "beat_time" = some (.ref (He.ga K "beat_time")) := He.glo_ok M.KX M.G (fact M 20 rfl)
theorem kp_beat_time (M : Md K mg h) : PySem.W.keepIn K (.ref (He.ga K "beat_time")) = true := let ⟨_, F⟩ := F_beat_time M; F.kp
theorem ok_beat_time (M : Md K mg h) : ∃ fd, FunD K "beat_time" "beat_time" (defArgs (top 34)) (defBody (top 34)) (defScope (top 34)) [] [] (He.ga K "beat_time") fd ∧ FnOk (kx w K tp lp cp).P w K mg base (CX (kx w K tp lp cp).P w) 7 (He.ga K "beat_time") fd [("net" : Str), ("one" : Str), ("other" : Str)] (spF Phi (kx w K tp lp cp) 21 3) := by
  obtain ⟨fd, F⟩ := F_beat_time M
  exact ⟨fd, F, def_ok (k := kx w K tp lp cp) (lv := 6) (n := 100) (fu := 100000) (Φ := Phi) (Φb := P6) (se := se_beat_time) (b := b_beat_time.body) bo_all (gs_of (k := kx w K tp lp cp) (lv := 6) (se := se_beat_time) ⟨⟨_, glo_need_two_states M, kp_need_two_states M, ⟨CallsTo.to ((call_need_two_states_0 tp lp cp M).mono (by decide)) rfl, trivial⟩⟩, ⟨_, glo_time_by M, kp_time_by M, ⟨CallsTo.to ((call_time_by_0 tp lp cp M).mono (by decide)) rfl, trivial⟩⟩, trivial⟩ trivial trivial (free M) (eq_to (eq_all tp lp cp M (by decide)) rfl)) F sc_beat_time rfl (by kernel_rfl) sp_beat_time⟩
theorem call_beat_time_0 (M : Md K mg h) : CallsTo Phi (kx w K tp lp cp) mg base 7 (He.ga K "beat_time") 21 3 [] [] := by
  obtain ⟨fd, F, O⟩ := ok_beat_time (w := w) (base := base) tp lp cp M
  exact calls_of O (kbn_none F fun _ _ _ _ _ _ us ws l1 l2 => match us, ws, l1, l2 with | [_, _, _], [], _, _ => rfl) (fun _ => rfl) rfl
theorem call_beat_time_1 (M : Md K mg h) : CallsTo Phi (kx w K tp lp cp) mg base 7 (He.ga K "beat_time") 21 0 [("net" : Str), ("one" : Str), ("other" : Str)] [] := by
  obtain ⟨fd, F, O⟩ := ok_beat_time (w := w) (base := base) tp lp cp M
  exact calls_of O (kbn_none F fun _ _ _ _ _ _ us ws l1 l2 => match us, ws, l1, l2 with | [], [_, _, _], _, _ => rfl) (fun _ => rfl) rfl
theorem F__law_made (M : Md K mg h) : ∃ fd, FunD K "_law_made" "_law_made" (defArgs (top 45)) (defBody (top 45)) (defScope (top 45)) [] [] (He.ga K "_law_made") fd := (saysY M.c).1.def_ 35 (d := d__law_made) rfl
theorem glo__law_made (M : Md K mg h) : mg "_law_made" = some (.ref (He.ga K "_law_made")) := He.glo_ok M.KX M.G (fact M 30 rfl)
theorem kp__law_made (M : Md K mg h) : PySem.W.keepIn K (.ref (He.ga K "_law_made")) = true := let ⟨_, F⟩ := F__law_made M; F.kp
theorem ok__law_made (M : Md K mg h) : ∃ fd, FunD K "_law_made" "_law_made" (defArgs (top 45)) (defBody (top 45)) (defScope (top 45)) [] [] (He.ga K "_law_made") fd ∧ FnOk (kx w K tp lp cp).P w K mg base (CX (kx w K tp lp cp).P w) 7 (He.ga K "_law_made") fd [("nexts" : Str)] (spF Phi (kx w K tp lp cp) 31 1) := by
  obtain ⟨fd, F⟩ := F__law_made M
  exact ⟨fd, F, def_ok (k := kx w K tp lp cp) (lv := 6) (n := 100) (fu := 100000) (Φ := Phi) (Φb := P6) (se := se__law_made) (b := b__law_made.body) bo_all (gs_of (k := kx w K tp lp cp) (lv := 6) (se := se__law_made) ⟨⟨_, gloN M, (mkN M).kp, ⟨CallsTo.to ((call_Net tp lp cp M).mono (by decide)) rfl, trivial⟩⟩, trivial⟩ trivial trivial (free M) (eq_to (eq_all tp lp cp M (by decide)) rfl)) F sc__law_made rfl (by kernel_rfl) sp__law_made⟩
theorem call__law_made_0 (M : Md K mg h) : CallsTo Phi (kx w K tp lp cp) mg base 7 (He.ga K "_law_made") 31 1 [] [] := by
  obtain ⟨fd, F, O⟩ := ok__law_made (w := w) (base := base) tp lp cp M
  exact calls_of O (kbn_none F fun _ _ _ _ _ _ us ws l1 l2 => match us, ws, l1, l2 with | [_], [], _, _ => rfl) (fun _ => rfl) rfl
theorem F__law_net_right (M : Md K mg h) : ∃ fd, FunD K "_law_net_right" "_law_net_right" (defArgs (top 49)) (defBody (top 49)) (defScope (top 49)) [] [] (He.ga K "_law_net_right") fd := (saysY M.c).1.def_ 36 (d := d__law_net_right) rfl
theorem glo__law_net_right (M : Md K mg h) : mg "_law_net_right" = some (.ref (He.ga K "_law_net_right")) := He.glo_ok M.KX M.G (fact M 34 rfl)
theorem kp__law_net_right (M : Md K mg h) : PySem.W.keepIn K (.ref (He.ga K "_law_net_right")) = true := let ⟨_, F⟩ := F__law_net_right M; F.kp
theorem ok__law_net_right (M : Md K mg h) : ∃ fd, FunD K "_law_net_right" "_law_net_right" (defArgs (top 49)) (defBody (top 49)) (defScope (top 49)) [] [] (He.ga K "_law_net_right") fd ∧ FnOk (kx w K tp lp cp).P w K mg base (CX (kx w K tp lp cp).P w) 8 (He.ga K "_law_net_right") fd [("tape" : Str), ("nexts" : Str), ("states" : Str)] (spF Phi (kx w K tp lp cp) 35 3) := by
  obtain ⟨fd, F⟩ := F__law_net_right M
  exact ⟨fd, F, def_ok (k := kx w K tp lp cp) (lv := 7) (n := 100) (fu := 100000) (Φ := Phi) (Φb := P7) (se := se__law_net_right) (b := b__law_net_right.body) bo_all (gs_of (k := kx w K tp lp cp) (lv := 7) (se := se__law_net_right) ⟨⟨_, glo__law_made M, kp__law_made M, ⟨CallsTo.to ((call__law_made_0 tp lp cp M).mono (by decide)) rfl, trivial⟩⟩, ⟨_, glo_longest_tail M, kp_longest_tail M, ⟨CallsTo.to ((call_longest_tail_0 tp lp cp M).mono (by decide)) rfl, trivial⟩⟩, ⟨_, glo__law_run M, kp__law_run M, ⟨CallsTo.to ((call__law_run_0 tp lp cp M).mono (by decide)) rfl, trivial⟩⟩, ⟨_, glo__law_draw M, kp__law_draw M, ⟨CallsTo.to ((call__law_draw_0 tp lp cp M).mono (by decide)) rfl, trivial⟩⟩, ⟨_, glo_beat_run M, kp_beat_run M, ⟨CallsTo.to ((call_beat_run_0 tp lp cp M).mono (by decide)) rfl, CallsTo.to ((call_beat_run_1 tp lp cp M).mono (by decide)) rfl, trivial⟩⟩, ⟨_, glo_next_state M, kp_next_state M, ⟨CallsTo.to ((call_next_state_0 tp lp cp M).mono (by decide)) rfl, trivial⟩⟩, ⟨_, glo_after M, kp_after M, ⟨CallsTo.to ((call_after_0 tp lp cp M).mono (by decide)) rfl, CallsTo.to ((call_after_1 tp lp cp M).mono (by decide)) rfl, trivial⟩⟩, ⟨_, glo_beat_time M, kp_beat_time M, ⟨CallsTo.to ((call_beat_time_0 tp lp cp M).mono (by decide)) rfl, CallsTo.to ((call_beat_time_1 tp lp cp M).mono (by decide)) rfl, trivial⟩⟩, trivial⟩ trivial trivial (free M) (eq_to (eq_all tp lp cp M (by decide)) rfl)) F sc__law_net_right rfl (by kernel_rfl) sp__law_net_right⟩
theorem call__law_net_right_0 (M : Md K mg h) : CallsTo Phi (kx w K tp lp cp) mg base 8 (He.ga K "_law_net_right") 35 3 [] [] := by
  obtain ⟨fd, F, O⟩ := ok__law_net_right (w := w) (base := base) tp lp cp M
  exact calls_of O (kbn_none F fun _ _ _ _ _ _ us ws l1 l2 => match us, ws, l1, l2 with | [_, _, _], [], _, _ => rfl) (fun _ => rfl) rfl
theorem F_law (M : Md K mg h) : ∃ fd, FunD K "law" "law" (defArgs (top 50)) (defBody (top 50)) (defScope (top 50)) [] [] (He.ga K "law") fd := (saysY M.c).1.def_ 37 (d := d_law) rfl
theorem glo_law (M : Md K mg h) : mg "law" = some (.ref (He.ga K "law")) := He.glo_ok M.KX M.G (fact M 35 rfl)
theorem kp_law (M : Md K mg h) : PySem.W.keepIn K (.ref (He.ga K "law")) = true := let ⟨_, F⟩ := F_law M; F.kp
theorem ok_law (M : Md K mg h) : ∃ fd, FunD K "law" "law" (defArgs (top 50)) (defBody (top 50)) (defScope (top 50)) [] [] (He.ga K "law") fd ∧ FnOk (kk w K).P w K mg base (CX (kk w K).P w) 9 (He.ga K "law") fd ["script"] lawSp := by
  obtain ⟨fd, F⟩ := F_law M
  obtain ⟨fb, FB, OB⟩ := ok__law_begun (w := w) (base := base) M
  exact ⟨fd, F, law_ok (k := kk w K) (lv := 8) (n := 100) (fu := 100000) (Φ := Phi) (se := se_law) (b := b_law.body.drop 1) (fun _ _ _ => bo_all) (fun tp lp cp => gs_of (k := kx w K tp lp cp) (lv := 8) (se := se_law) ⟨⟨_, glo__law_small_nets M, kp__law_small_nets M, ⟨CallsTo.to ((call__law_small_nets_0 tp lp cp M).mono (by decide)) rfl, trivial⟩⟩, ⟨_, glo__law_net M, kp__law_net M, ⟨CallsTo.to ((call__law_net_0 tp lp cp M).mono (by decide)) rfl, trivial⟩⟩, ⟨_, glo__law_made M, kp__law_made M, ⟨CallsTo.to ((call__law_made_0 tp lp cp M).mono (by decide)) rfl, trivial⟩⟩, ⟨_, glo__law_net_right M, kp__law_net_right M, ⟨CallsTo.to ((call__law_net_right_0 tp lp cp M).mono (by decide)) rfl, trivial⟩⟩, ⟨_, glo__law_four M, kp__law_four M, ⟨CallsTo.to ((call__law_four_0 tp lp cp M).mono (by decide)) rfl, trivial⟩⟩, ⟨_, glo_beat_run M, kp_beat_run M, ⟨CallsTo.to ((call_beat_run_0 tp lp cp M).mono (by decide)) rfl, CallsTo.to ((call_beat_run_1 tp lp cp M).mono (by decide)) rfl, trivial⟩⟩, ⟨_, glo_after M, kp_after M, ⟨CallsTo.to ((call_after_0 tp lp cp M).mono (by decide)) rfl, CallsTo.to ((call_after_1 tp lp cp M).mono (by decide)) rfl, trivial⟩⟩, ⟨_, glo_beat_time M, kp_beat_time M, ⟨CallsTo.to ((call_beat_time_0 tp lp cp M).mono (by decide)) rfl, CallsTo.to ((call_beat_time_1 tp lp cp M).mono (by decide)) rfl, trivial⟩⟩, ⟨_, glo_longest_tail M, kp_longest_tail M, ⟨CallsTo.to ((call_longest_tail_0 tp lp cp M).mono (by decide)) rfl, trivial⟩⟩, ⟨_, glo__law_pick M, kp__law_pick M, ⟨CallsTo.to ((call__law_pick_0 tp lp cp M).mono (by decide)) rfl, trivial⟩⟩, ⟨_, gloN M, (mkN M).kp, ⟨CallsTo.to ((call_Net tp lp cp M).mono (by decide)) rfl, trivial⟩⟩, trivial⟩ trivial trivial (free M) (eq_to (eq_all tp lp cp M (by decide)) rfl)) rfl F sc_law rfl (OB.mono (by decide)) (glo__law_begun M) (kp__law_begun M) (FB.bindsN fun _ _ _ _ _ _ us hl => match us, hl with | [_], _ => rfl) (by kernel_rfl) (by kernel_rfl) (by kernel_rfl) (by kernel_rfl) (by decide) run_law⟩
theorem facts (M : Md K mg h) {f : Addr} (hf : mg "law" = some (.ref f)) : ∃ fd : FuncData, (∀ (s : Shared) (v : Value), BindsTo s fd ⟨[v], []⟩ [("script", v)]) ∧ ∀ base : Heap, FnOk PySem.Challenge.pw_ringrests_k50_whole_beats_followed_far w K mg base (CX PySem.Challenge.pw_ringrests_k50_whole_beats_followed_far w) 9 f fd ["script"] lawSp := by
  obtain ⟨fd, F⟩ := F_law M
  have e := hf.symm.trans (glo_law M)
  cases e
  have b := FunD.bindsA (ps := ["script"]) F fun _ _ _ _ _ _ us hl => match us, hl with | [_], _ => rfl
  refine ⟨fd, fun s v => b s [v] rfl, fun base => ?_⟩
  obtain ⟨fd', F', O⟩ := ok_law (w := w) (base := base) M
  have e := FunD_one F F'
  subst e
  exact O
end
end LW
open PySem PySem.W PySem.Calls PyProof.Rows
set_option maxRecDepth 100000 in
set_option maxHeartbeats 0 in
theorem PySem.Challenge.cw_ringrests_k50_whole_beats_followed_far_holds : PySem.Challenge.rw_ringrests_k50_whole_beats_followed_far.Holds := by
  w_on; o_law
  refine HandSHeadRun.head_any (r := OpenLaw.row PySem.Challenge.rw_ringrests_k50_whole_beats_followed_far) (q := view (OpenLaw.row PySem.Challenge.rw_ringrests_k50_whole_beats_followed_far).prog [50]) (H := LW.hk) (ob := LW.ob) (M := 4000) (loose := LW.nm0 ++ LW.nm1 ++ LW.nm2) (d := HandSHeadRun.topDef (OpenLaw.row PySem.Challenge.rw_ringrests_k50_whole_beats_followed_far).prog 50) (kwd := []) LW.ob_eq
    (by kernel_rfl) (fun s => by kernel_rfl) LW.runH (by kernel_rfl) (by kernel_rfl) (by kernel_rfl) (by rfl) (by first | assumption | decide +kernel) (by decide +kernel) ⟨rfl, rfl, rfl, rfl, rfl, by decide +kernel⟩ ?hw ?hc
  case hw => w_witness2
  case hc =>
    refine L2.walk_ofE (l := PySem.Challenge.rw_ringrests_k50_whole_beats_followed_far) (n := 63) (k := 9) (x := "script") (CX := VS.CXw PySem.Challenge.pw_ringrests_k50_whole_beats_followed_far) rfl (by decide) (by kernel_rfl) ⟨rfl, by decide, by decide⟩ ?F fun _ _ _ _ q => VS.cxw_no q
    intro w mg fa h Y G hmg0
    obtain ⟨K, KX, c⟩ := Y
    have hmg : mg ("law" : PySem.Str) = some (.ref fa) := by
      have e : (HandSHeadRun.topDef (OpenLaw.row PySem.Challenge.rw_ringrests_k50_whole_beats_followed_far).prog 50).name = ("law" : PySem.Str) := by kernel_rfl
      rw [← e]
      exact hmg0
    obtain ⟨fd, hb, hF⟩ := LW.facts (w := w) ⟨KX, G, c⟩ hmg
    exact ⟨K, fd, VS.lawSp, KX, hb, fun H a ns hl _ hS => ⟨a, ns, rfl, VS.noLst_rd (LW.exs ⟨KX, G, c⟩).1 hS, hl, fun _ => rfl⟩, fun base _ _ => VS.fn_cx (hF base)⟩
end
