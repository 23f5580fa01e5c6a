import PyProof.Rows.All
import HandS.ForMost
import HandS.Exc
import HandS.SortOrd
import HandS.TupAny
import HandS.Flow
import HandS.Style
import HandS.Words
import HandS.WordsExc
import HandS.Wide
import HandS.Deep
import HandS.TupLe
import HandS.More
import HandS.Text
import HandS.Codes
import HandS.WordsDict
import HandS.SortRule
import KE.KSortTupAny
import HandS.ExcOwn
import HandS.CallSlots
import HandS.Small
import HandS.Ends
import PySem.Challenge.RW_amendwarrant_k75_whole_lists_that_are_me
set_option Elab.async false
set_option linter.all false
set_option maxRecDepth 100000
/-! P1: data, the intermediate language, its evaluator. -/
namespace AW

/-! ### data -/
inductive D where
  | non | bl (b : Bool) | int (i : Int) | str (s : List Nat) | tup (l : List D) | lst (l : List D) | dct (t : Bool) (ks vs : List D)
  /-- a list that is only read: the script -/
  | cst (l : List D)
  deriving Inhabited

def b2i (b : Bool) : Int := if b then 1 else 0
mutual
def eqD : D → D → Bool
  | .non, e => match e with | .non => true | _ => false
  | .bl a, e => match e with | .bl b => a == b | .int b => b2i a == b | _ => false
  | .int a, e => match e with | .bl b => a == b2i b | .int b => a == b | _ => false
  | .str a, e => match e with | .str b => a == b | _ => false
  | .tup a, e => match e with | .tup b => eqDs a b | _ => false
  | .lst a, e => match e with | .lst b => eqDs a b | _ => false
  | .dct _ _ _, _ => false
  | .cst _, _ => false
def eqDs : List D → List D → Bool
  | [], e => match e with | [] => true | _ :: _ => false
  | x :: xs, e => match e with | [] => false | y :: ys => eqD x y && eqDs xs ys
end
mutual
/-- depth; a dict counts as too deep -/
def dep : D → Nat
  | .non => 0 | .bl _ => 0 | .int _ => 0 | .str _ => 0
  | .tup l => depL l + 1 | .lst l => depL l + 1
  | .dct _ _ _ => 1000 | .cst _ => 1000
def depL : List D → Nat
  | [] => 0
  | d :: l => max (dep d) (depL l)
end
def ltS : List Nat → List Nat → Bool
  | [], [] => false
  | [], _ :: _ => true
  | _ :: _, [] => false
  | a :: as, b :: bs => if a = b then ltS as bs else decide (a < b)
mutual
/-- the very same (True is not 1) -/
def sameD : D → D → Bool
  | .non, e => match e with | .non => true | _ => false
  | .bl a, e => match e with | .bl b => a == b | _ => false
  | .int a, e => match e with | .int b => a == b | _ => false
  | .str a, e => match e with | .str b => a == b | _ => false
  | .tup a, e => match e with | .tup b => sameDs a b | _ => false
  | .lst a, e => match e with | .lst b => sameDs a b | _ => false
  | .dct _ _ _, _ => false
  | .cst _, _ => false
def sameDs : List D → List D → Bool
  | [], e => match e with | [] => true | _ :: _ => false
  | x :: xs, e => match e with | [] => false | y :: ys => sameD x y && sameDs xs ys
end
mutual
def ltD : D → D → Option Bool
  | .bl _, _ => none
  | .int a, e => match e with | .int b => some (decide (a < b)) | _ => none
  | .str a, e => match e with | .str b => some (ltS a b) | _ => none
  | .tup a, e => match e with | .tup b => ltDs a b | _ => none
  | .non, _ => none
  | .lst _, _ => none
  | .dct _ _ _, _ => none
  | .cst _, _ => none
def ltDs : List D → List D → Option Bool
  | [], e => match e with | [] => some false | _ :: _ => some true
  | x :: xs, e => match e with | [] => some false | y :: ys => match ltDs xs ys with | none => none | some r => if eqD x y then (if sameD x y then some r else none) else ltD x y
end

/-! ### stable sort by insertion -/
def ins {α : Type} (lt : α → α → Bool) (x : α) : List α → List α
  | [] => [x]
  | y :: ys => if lt y x then y :: ins lt x ys else x :: y :: ys
def isort {α : Type} (lt : α → α → Bool) : List α → List α
  | [] => []
  | x :: xs => ins lt x (isort lt xs)
def ltB (x y : D) : Bool := (ltD x y).getD false
def canLt (x y : D) : Bool := (ltD x y).isSome && decide (dep x ≤ 60) && decide (dep y ≤ 60)
def isTI : D → Bool
  | .tup (.int _ :: _) => true
  | _ => false
def isTS : D → Bool
  | .tup (.str _ :: _) => true
  | _ => false
def isTT : D → Bool
  | .tup (.tup _ :: _) => true
  | _ => false
/-- of one kind -/
def oneK (xs : List D) : Bool := xs.all isTI || xs.all isTS || xs.all isTT
def sortD (xs : List D) : Option (List D) := if oneK xs && xs.all (fun x => xs.all fun y => canLt x y) then some (isort ltB xs) else none
/-- the first of each kind kept -/
def dedup : List D → List D → List D
  | acc, [] => acc
  | acc, x :: xs => if acc.any (fun y => eqD y x) then dedup acc xs else dedup (acc ++ [x]) xs

/-! ### the intermediate language -/
inductive BOp where | add | sub | mul | fdv | mod | pow
  deriving DecidableEq
inductive COp where | eq | ne | lt | le | gt | ge | mem | nmem
  deriving DecidableEq
/-- built-in calls -/
inductive Bi where | len | tuple | list | sorted | int | abs | str | all | any | sum | max1 | min1 | max2 | min2 | isstr | isint | isbool | istuple | islist | isdict | sortset | lenset | dict
  deriving DecidableEq
/-- methods that change nothing -/
inductive Mt where | join | split | split2 | get1 | get2 | index | count | strip | lstrip | rstrip
  deriving DecidableEq
/-- methods that change their list or dict -/
inductive Mu where | append | extend | pop | popi | insert | remove | setdef | update
  deriving DecidableEq
/-- what is walked -/
inductive SK where | seq | range | keys | enum | zip
  deriving DecidableEq
inductive Tg where | one (i : Nat) | many (l : List Nat)
  deriving DecidableEq

mutual
inductive E where
  | k (d : D) | v (i : Nat) | g (i : Nat)
  | bin (o : BOp) (a b : E) | cmp (o : COp) (a b : E) | chn (o o' : COp) (a b c : E)
  | isK (neg : Bool) (a : E) (c : D)
  | and (a b : E) | or (a b : E) | not (a : E) | neg (a : E) | ite (c a b : E)
  | idx (a b : E) | slc (a lo hi : E) | rev (a : E)
  | tup (es : Es) | lst (es : Es) | dct (t : Bool) (ks vs : Es)
  | call (f : Nat) (es : Es) | bi (b : Bi) (es : Es) | mt (m : Mt) (o : E) (es : Es) | mu (m : Mu) (i : Nat) (es : Es)
  | comp (own : List Nat) (tg : Tg) (sk : SK) (es : Es) (cond elt : E)
inductive Es where
  | nil | cons (e : E) (es : Es)
end
mutual
inductive S where
  | asg (own : Bool) (i : Nat) (e : E)
  | unp (tg : List Nat) (e : E)
  | par (tg : List (Bool × Nat)) (es : Es)
  | aug (o : BOp) (i : Nat) (e : E)
  | sto (i : Nat) (k e : E)
  | aus (o : BOp) (i : Nat) (k e : E)
  | ex (e : E) | ifs (c : E) (a b : Ss) | fr (tg : Tg) (sk : SK) (es : Es) (b : Ss) | wh (c : E) (b : Ss)
  | ret (e : E) | retN | brk | cnt | pas | rse (c : Nat) (es : Es)
  /-- names are forgotten; nothing in the text -/
  | frg (l : List Nat)
inductive Ss where
  | nil | cons (s : S) (ss : Ss)
end

def Es.len : Es → Nat
  | .nil => 0
  | .cons _ es => es.len + 1
/-! ### states and results -/
/-- what a slot holds: a value, or an object of its own (home: the caller's) -/
inductive Cell where | val (d : D) | own (home : Bool) (d : D)
  deriving Inhabited
abbrev Sg := List (Option Cell)
/-- what an expression gives: a value, a new object that nothing else holds, the object of a slot -/
inductive RV where | d (d : D) | new (d : D) | slot (i : Nat)
inductive R (α : Type) where | ok (a : α) (σ : Sg) | exc (c : Nat) (p : List D) (σ : Sg) | stuck
def R.bind {α β : Type} : R α → (α → Sg → R β) → R β
  | .ok a σ, f => f a σ
  | .exc c p σ, _ => .exc c p σ
  | .stuck, _ => .stuck
/-- what a call gives -/
inductive FR where | ok (rv : RV) (outs : List Cell) | exc (c : Nat) (p : List D) | stuck
/-- how a block ends -/
inductive O where | nx (σ : Sg) | bk (σ : Sg) | ct (σ : Sg) | rt (rv : RV) (σ : Sg) | exc (c : Nat) (p : List D) (σ : Sg) | stuck
def O.bind : O → (Sg → O) → O
  | .nx σ, f => f σ
  | .bk σ, _ => .bk σ
  | .ct σ, _ => .ct σ
  | .rt r σ, _ => .rt r σ
  | .exc c p σ, _ => .exc c p σ
  | .stuck, _ => .stuck
def R.toO {α : Type} : R α → (α → Sg → O) → O
  | .ok a σ, f => f a σ
  | .exc c p σ, _ => .exc c p σ
  | .stuck, _ => .stuck

structure Env where
  phi : Nat → List Cell → FR
  modes : Nat → List Bool
  glob : Nat → Option D
  fuel : Nat

/-- the content, as it stands now -/
def look (σ : Sg) : RV → Option D
  | .d d => some d
  | .new d => some d
  | .slot i => match σ[i]? with | some (some (.own _ d)) => some d | some (some (.val d)) => some d | _ => none
/-- given away: it will change no more -/
def frz (σ : Sg) : RV → Option (D × Sg)
  | .d d => some (d, σ)
  | .new d => some (d, σ)
  | .slot i => match σ[i]? with
    | some (some (.own false d)) => some (d, σ.set i (some (.val d)))
    | some (some (.val d)) => some (d, σ)
    | _ => none
def frzs (σ : Sg) : List RV → Option (List D × Sg)
  | [] => some ([], σ)
  | r :: rs => match frz σ r with
    | none => none
    | some (d, σ') => match frzs σ' rs with
      | none => none
      | some (ds, σ'') => some (d :: ds, σ'')
def looks (σ : Sg) : List RV → Option (List D)
  | [] => some []
  | r :: rs => match look σ r with
    | none => none
    | some d => match looks σ rs with
      | none => none
      | some ds => some (d :: ds)
def R.of {α : Type} (σ : Sg) : Option α → R α
  | some a => .ok a σ
  | none => .stuck

/-! ### operations -/
abbrev line : Nat := 16777216
def truth : D → Option Bool
  | .non => some false
  | .bl b => some b
  | .int i => some (i != 0)
  | .str s => some (!s.isEmpty)
  | .tup l => some (!l.isEmpty)
  | .lst l => some (!l.isEmpty)
  | .dct _ _ _ => none
  | .cst _ => none
def binD : BOp → D → D → Option RV
  | .add, .int i, .int j => some (.d (.int (i + j)))
  | .add, .str s, .str t => if s.length + t.length ≤ line then some (.d (.str (s ++ t))) else none
  | .add, .tup s, .tup t => if s.length + t.length ≤ line then some (.d (.tup (s ++ t))) else none
  | .add, .lst s, .lst t => if s.length + t.length ≤ line then some (.new (.lst (s ++ t))) else none
  | .sub, .int i, .int j => some (.d (.int (i - j)))
  | .mul, .int i, .int j => if (-(2 ^ 64) < i ∧ i < 2 ^ 64) ∨ (-(2 ^ 64) < j ∧ j < 2 ^ 64) then some (.d (.int (i * j))) else none
  | .fdv, .int i, .int j => if j ≠ 0 ∧ j.natAbs < 1073741824 then some (.d (.int (i.fdiv j))) else none
  | .mod, .int i, .int j => if j ≠ 0 then some (.d (.int (i.fmod j))) else none
  | .pow, .int i, .int j => if 0 ≤ j ∧ j ≤ 1000000 ∧ i.natAbs < 2 ^ 64 then some (.d (.int (i ^ j.toNat))) else none
  | _, _, _ => none
def isKey (t : Bool) : D → Bool
  | .int _ => !t
  | .str _ => !t
  | _ => false
def dget : List D → List D → D → Option D
  | k' :: ks, v :: vs, k => if eqD k' k then some v else dget ks vs k
  | _, _, _ => none
def dput : List D → List D → D → D → List D × List D
  | k' :: ks, v' :: vs, k, v => if eqD k' k then (k' :: ks, v :: vs) else let r := dput ks vs k v; (k' :: r.1, v' :: r.2)
  | _, _, k, v => ([k], [v])
def memD (x c : D) : Option Bool := match c with
  | .lst l => if dep x ≤ 60 ∧ dep c ≤ 60 then some (l.any fun y => eqD y x) else none
  | .tup l => if dep x ≤ 60 ∧ dep c ≤ 60 then some (l.any fun y => eqD y x) else none
  | .dct t ks vs => if isKey t x then some (dget ks vs x).isSome else none
  | .str s => match x with
    | .str [c] => some (s.contains c)
    | _ => none
  | _ => none
def ordD (o : COp) (x y : D) : Option Bool := match x, y with
  | .int i, .int j => some (match o with | .lt => decide (i < j) | .le => decide (i ≤ j) | .gt => decide (j < i) | _ => decide (j ≤ i))
  | .str s, .str t => some (match o with | .lt => ltS s t | .le => !ltS t s | .gt => ltS t s | _ => !ltS s t)
  | .tup s, .tup t => match o with | .lt => if dep x ≤ 60 ∧ dep y ≤ 60 then ltDs s t else none | _ => none
  | _, _ => none
def cmpD (o : COp) (x y : D) : Option Bool := match o with
  | .eq => if dep x ≤ 60 ∧ dep y ≤ 60 then some (eqD x y) else none
  | .ne => if dep x ≤ 60 ∧ dep y ≤ 60 then some (!eqD x y) else none
  | .mem => memD x y
  | .nmem => (memD x y).map fun b => !b
  | _ => ordD o x y
def isKD (neg : Bool) (c x : D) : Option Bool := match c with
  | .non => some (match x with | .non => !neg | _ => neg)
  | .bl b => match x with | .bl a => some (if neg then !(decide (a = b)) else decide (a = b)) | _ => none
  | _ => none
def idxD (x y : D) : Option D := match x, y with
  | .lst l, .int i => L2.atI l i
  | .cst l, .int i => L2.atI l i
  | .tup l, .int i => L2.atI l i
  | .str s, .int i => (L2.atI s i).map fun c => .str [c]
  | .dct t ks vs, k => if isKey t k then dget ks vs k else none
  | _, _ => none
def cutL {α : Type} (xs : List α) (lo hi : Option Int) : List α := (xs.drop (HT.sIx xs.length 0 lo)).take (HT.sIx xs.length xs.length hi - HT.sIx xs.length 0 lo)
def slcD (x : D) (l h : Option Int) : Option RV := match x with
  | .lst xs => some (.new (.lst (cutL xs l h)))
  | .tup xs => some (.d (.tup (cutL xs l h)))
  | .str xs => some (.d (.str (cutL xs l h)))
  | _ => none
def revD : D → Option RV
  | .lst l => some (.new (.lst l.reverse))
  | .tup l => some (.d (.tup l.reverse))
  | _ => none
/-- a dict's display -/
def dctD (t : Bool) : List D → List D → List D → List D → Option D
  | aks, avs, k :: ks, v :: vs => if isKey t k then (let r := dput aks avs k v; dctD t r.1 r.2 ks vs) else none
  | aks, avs, [], [] => some (.dct t aks avs)
  | _, _, _, _ => none
def items : D → Option (List D)
  | .lst l => some l
  | .tup l => some l
  | _ => none
def intsD : List D → Option (List Int)
  | [] => some []
  | .int i :: l => (intsD l).map fun r => i :: r
  | _ => none
def boolsD : List D → Option (List Bool)
  | [] => some []
  | .bl b :: l => (boolsD l).map fun r => b :: r
  | _ => none
def digits : Nat → List Nat → Option Nat
  | a, [] => some a
  | a, c :: s => if 48 ≤ c ∧ c ≤ 57 then digits (a * 10 + (c - 48)) s else none
def maxI : Int → List Int → Int
  | m, [] => m
  | m, x :: xs => maxI (if x > m then x else m) xs
def minI : Int → List Int → Int
  | m, [] => m
  | m, x :: xs => minI (if x < m then x else m) xs
def natS (n : Nat) : List Nat := (Nat.toDigits 10 n).map Char.toNat
def intS (i : Int) : List Nat := match i with | .ofNat n => natS n | .negSucc n => 45 :: natS (n + 1)
def biD : Bi → List D → Option RV
  | .len, [x] => match x with
    | .lst l => some (.d (.int l.length))
    | .cst l => some (.d (.int l.length))
    | .tup l => some (.d (.int l.length))
    | .str l => some (.d (.int l.length))
    | .dct false ks _ => some (.d (.int ks.length))
    | _ => none
  | .tuple, [x] => (items x).map fun l => .d (.tup l)
  | .list, [x] => (items x).map fun l => .new (.lst l)
  | .sorted, [x] => match items x with
    | some l => (sortD l).map fun r => .new (.lst r)
    | none => none
  | .sortset, [x] => match items x with
    | some l => (sortD (dedup [] l)).map fun r => .new (.lst r)
    | none => none
  | .lenset, [x] => match items x with
    | some l => some (.d (.int (dedup [] l).length))
    | none => none
  | .int, [x] => match x with
    | .int i => some (.d (.int i))
    | .bl b => some (.d (.int (b2i b)))
    | .str s => if s = [] ∨ 600 < s.length then none else (digits 0 s).map fun n => .d (.int n)
    | _ => none
  | .abs, [.int i] => some (.d (.int (if i < 0 then -i else i)))
  | .str, [.int i] => if i.natAbs < 10 ^ 100 then some (.d (.str (intS i))) else none
  | .all, [x] => match items x with
    | some l => (boolsD l).map fun bs => .d (.bl (bs.all id))
    | none => none
  | .any, [x] => match items x with
    | some l => (boolsD l).map fun bs => .d (.bl (bs.any id))
    | none => none
  | .sum, [x] => match items x with
    | some l => (intsD l).map fun is => .d (.int is.sum)
    | none => none
  | .max1, [x] => match items x with
    | some l => match intsD l with
      | some (i :: is) => some (.d (.int (maxI i is)))
      | _ => none
    | none => none
  | .min1, [x] => match items x with
    | some l => match intsD l with
      | some (i :: is) => some (.d (.int (minI i is)))
      | _ => none
    | none => none
  | .max2, [.int i, .int j] => some (.d (.int (if j > i then j else i)))
  | .min2, [.int i, .int j] => some (.d (.int (if j < i then j else i)))
  | .isstr, [x] => some (.d (.bl (match x with | .str _ => true | _ => false)))
  | .isint, [x] => some (.d (.bl (match x with | .int _ => true | .bl _ => true | _ => false)))
  | .isbool, [x] => some (.d (.bl (match x with | .bl _ => true | _ => false)))
  | .istuple, [x] => some (.d (.bl (match x with | .tup _ => true | _ => false)))
  | .islist, [x] => some (.d (.bl (match x with | .lst _ => true | _ => false)))
  | .isdict, [x] => some (.d (.bl (match x with | .dct _ _ _ => true | _ => false)))
  | .dict, [.dct t ks vs] => some (.new (.dct t ks vs))
  | _, _ => none
def strsD : List D → Option (List (List Nat))
  | [] => some []
  | .str s :: l => (strsD l).map fun r => s :: r
  | _ => none
def joinS (sep : List Nat) : List (List Nat) → List Nat
  | [] => []
  | [x] => x
  | x :: xs => x ++ sep ++ joinS sep xs
/-- split at one sign -/
def splitC (c : Nat) : List Nat → List Nat → List (List Nat)
  | acc, [] => [acc.reverse]
  | acc, x :: xs => if x = c then acc.reverse :: splitC c [] xs else splitC c (x :: acc) xs
def idxOf (x : D) : Nat → List D → Option Nat
  | _, [] => none
  | n, y :: ys => if eqD y x then some n else idxOf x (n + 1) ys
def mtD : Mt → D → List D → Option RV
  | .join, .str sep, [x] => match items x with
    | some l => match strsD l with
      | some ss => if (joinS sep ss).length ≤ line then some (.d (.str (joinS sep ss))) else none
      | none => none
    | none => none
  | .split, .str s, [.str [c]] => some (.new (.lst ((splitC c [] s).map .str)))
  | .get1, .dct t ks vs, [k] => if isKey t k then some (.d ((dget ks vs k).getD .non)) else none
  | .get2, .dct t ks vs, [k, x] => if isKey t k then some (.d ((dget ks vs k).getD x)) else none
  | .index, .lst l, [x] => if dep x ≤ 60 ∧ depL l ≤ 59 then (idxOf x 0 l).map fun n => .d (.int n) else none
  | .index, .tup l, [x] => if dep x ≤ 60 ∧ depL l ≤ 59 then (idxOf x 0 l).map fun n => .d (.int n) else none
  | .count, .lst l, [x] => if dep x ≤ 60 ∧ depL l ≤ 59 then some (.d (.int (l.filter fun y => eqD y x).length)) else none
  | _, _, _ => none
/-- new content, what it gives -/
def muD : Mu → D → List D → Option (D × D)
  | .append, .lst l, [x] => if l.length < line then some (.lst (l ++ [x]), .non) else none
  | .extend, .lst l, [x] => match items x with
    | some r => if l.length + r.length ≤ line then some (.lst (l ++ r), .non) else none
    | none => none
  | .pop, .lst l, [] => match l.getLast? with
    | some x => some (.lst l.dropLast, x)
    | none => none
  | .popi, .lst l, [.int i] => match L2.ixN l.length i with
    | some j => match l[j]? with
      | some x => some (.lst (l.eraseIdx j), x)
      | none => none
    | none => none
  | _, _, _ => none
/-- x[k] = v -/
def stoD (x k v : D) : Option D := match x with
  | .lst l => match k with
    | .int i => match L2.ixN l.length i with
      | some j => some (.lst (l.set j v))
      | none => none
    | _ => none
  | .dct t ks vs => if isKey t k ∧ ks.length < line then some (let r := dput ks vs k v; .dct t r.1 r.2) else none
  | _ => none
def augD (o : BOp) (x y : D) : Option D := match x, y with
  | .int i, .int j => match o with
    | .add => some (.int (i + j))
    | .sub => some (.int (i - j))
    | _ => none
  | _, _ => none
def dgD (x k : D) : Option D := match x with
  | .dct t ks vs => if isKey t k then dget ks vs k else none
  | _ => none
def rngL (lo : Int) (n : Nat) : List D := (List.range n).map fun (i : Nat) => .int (lo + (i : Int))
def small62 (i : Int) : Bool := decide (-8388608 ≤ i ∧ i ≤ 8388608)
/-- how many turns has range(lo, hi, st) -/
def rngN (lo hi st : Int) : Nat := if 0 < st then ((hi - lo + st - 1) / st).toNat else ((lo - hi + (-st) - 1) / (-st)).toNat
def srcD : SK → List D → Option (List D)
  | .seq, [x] => match x with
    | .lst l => some l
    | .tup l => some l
    | .str s => some (s.map fun c => .str [c])
    | _ => none
  | .keys, [.dct false ks _] => some ks
  | .range, [.int j] => if small62 j then some (rngL 0 j.toNat) else none
  | .range, [.int i, .int j] => if small62 i ∧ small62 j then some (rngL i (j - i).toNat) else none
  | .range, [.int i, .int j, .int st] => if small62 i ∧ small62 j ∧ st = -1 then some ((List.range (i - j).toNat).map fun (k : Nat) => .int (i - (k : Int))) else none
  | .enum, [x] => (items x).map fun l => (l.zipIdx).map fun p => .tup [.int p.2, p.1]
  | .zip, [x, y] => match items x, items y with
    | some l, some r => some ((l.zip r).map fun p => .tup [p.1, p.2])
    | _, _ => none
  | _, _ => none

/-! ### stores -/
def setV (σ : Sg) (i : Nat) (d : D) : Option Sg := match σ[i]? with
  | some (some (.own true _)) => none
  | some _ => some (σ.set i (some (.val d)))
  | none => none
def setO (σ : Sg) (i : Nat) (d : D) : Option Sg := match σ[i]? with
  | some (some (.own true _)) => none
  | some _ => some (σ.set i (some (.own false d)))
  | none => none
def setVs (σ : Sg) : List Nat → List D → Option Sg
  | [], [] => some σ
  | i :: is, d :: ds => match setV σ i d with
    | some σ' => setVs σ' is ds
    | none => none
  | _, _ => none
def setT (σ : Sg) : Tg → D → Option Sg
  | .one i, d => setV σ i d
  | .many l, .tup ds => setVs σ l ds
  | _, _ => none
/-- an assignment to a name: own, or given away -/
def setR (σ : Sg) (own : Bool) (i : Nat) (r : RV) : Option Sg :=
  if own then (match r with | .new d => setO σ i d | _ => none)
  else match frz σ r with
    | some (d, σ') => setV σ' i d
    | none => none
def isSlot : RV → Bool
  | .slot _ => true
  | _ => false
def setRs (σ : Sg) : List (Bool × Nat) → List RV → Option Sg
  | [], [] => some σ
  | p :: ps, r :: rs => if isSlot r then none else match setR σ p.1 p.2 r with
    | some σ' => setRs σ' ps rs
    | none => none
  | _, _ => none
def wipe (σ : Sg) : List Nat → Sg
  | [] => σ
  | v :: vs => (wipe σ vs).set v none
/-- the comprehension's names as they were ahead of it -/
def unwipe (σ0 : Sg) (σ : Sg) : List Nat → Sg
  | [] => σ
  | v :: vs => (unwipe σ0 σ vs).set v (match σ0[v]? with | some (some (.val d)) => some (.val d) | _ => none)

/-! ### calls -/
/-- the cells handed over; which slots are the callee's for a while -/
def arg1 (m : Bool) (r : RV) (σ : Sg) (used : List Nat) : Option (Cell × Sg × Nat) := match r with
  | .slot i => if used.contains (i + 1) then none else match σ[i]? with
    | some (some (.own h d)) => if m || h then some (.own true d, σ, i + 1) else some (.val d, σ.set i (some (.val d)), 0)
    | some (some (.val d)) => if m then none else some (.val d, σ, 0)
    | _ => none
  | .d d => if m then none else some (.val d, σ, 0)
  | .new d => if m then none else some (.val d, σ, 0)
def argCells : List Bool → List RV → Sg → List Nat → Option (List Cell × Sg × List Nat)
  | [], [], σ, _ => some ([], σ, [])
  | m :: ms, r :: rs, σ, used => match arg1 m r σ used with
    | some (c, σ', b) => match argCells ms rs σ' (b :: used) with
      | some (cs, σ'', bs) => some (c :: cs, σ'', b :: bs)
      | none => none
    | none => none
  | _, _, _, _ => none
def backCells (σ : Sg) : List Nat → List Cell → Option Sg
  | [], [] => some σ
  | b :: bs, c :: cs => match b with
    | 0 => backCells σ bs cs
    | i + 1 => match c, σ[i]? with
      | .own _ d, some (some (.own h _)) => backCells (σ.set i (some (.own h d))) bs cs
      | _, _ => none
  | _, _ => none
def loseCells (σ : Sg) : List Nat → Sg
  | [] => σ
  | 0 :: bs => loseCells σ bs
  | (i + 1) :: bs => loseCells (σ.set i none) bs

/-! ### the evaluator -/
def compLoop (turn : D → Sg → R (Option D)) : List D → Sg → List D → R (List D)
  | [], σ, acc => .ok acc σ
  | x :: xs, σ, acc => match turn x σ with
    | .ok (some d) σ' => compLoop turn xs σ' (acc ++ [d])
    | .ok none σ' => compLoop turn xs σ' acc
    | _ => .stuck
/-- a part of a slice: left out, or a whole number -/
def partOf : E → RV → Option (Option Int)
  | .k .non, _ => some none
  | _, .d (.int i) => some (some i)
  | _, _ => none
def constK : Es → Option (List D)
  | .nil => some []
  | .cons (.k d) es => (constK es).map fun r => d :: r
  | _ => none
mutual
def ev (G : Env) : E → Sg → R RV
  | .k d, σ => .ok (.d d) σ
  | .v i, σ => match σ[i]? with
    | some (some (.val d)) => .ok (.d d) σ
    | some (some (.own _ _)) => .ok (.slot i) σ
    | _ => .stuck
  | .g i, σ => match G.glob i with
    | some d => .ok (.d d) σ
    | none => .stuck
  | .bin o a b, σ => (ev G a σ).bind fun x σ1 => (ev G b σ1).bind fun y σ2 => match look σ2 x, look σ2 y with
    | some dx, some dy => R.of σ2 (binD o dx dy)
    | _, _ => .stuck
  | .cmp o a b, σ => (ev G a σ).bind fun x σ1 => (ev G b σ1).bind fun y σ2 => match look σ2 x, look σ2 y with
    | some dx, some dy => R.of σ2 ((cmpD o dx dy).map fun c => .d (.bl c))
    | _, _ => .stuck
  | .chn o o' a b c, σ => (ev G a σ).bind fun x σ1 => (ev G b σ1).bind fun y σ2 => match look σ2 x, look σ2 y with
    | some dx, some dy => match cmpD o dx dy with
      | some true => (ev G c σ2).bind fun z σ3 => match look σ3 y, look σ3 z with
        | some dy', some dz => R.of σ3 ((cmpD o' dy' dz).map fun c => .d (.bl c))
        | _, _ => .stuck
      | some false => .ok (.d (.bl false)) σ2
      | none => .stuck
    | _, _ => .stuck
  | .isK neg a c, σ => (ev G a σ).bind fun x σ1 => match x with
    | .d dx => R.of σ1 ((isKD neg c dx).map fun c => .d (.bl c))
    | _ => .stuck
  | .and a b, σ => (ev G a σ).bind fun x σ1 => match x with
    | .d dx => match truth dx with
      | some true => ev G b σ1
      | some false => .ok (.d dx) σ1
      | none => .stuck
    | _ => .stuck
  | .or a b, σ => (ev G a σ).bind fun x σ1 => match x with
    | .d dx => match truth dx with
      | some true => .ok (.d dx) σ1
      | some false => ev G b σ1
      | none => .stuck
    | _ => .stuck
  | .not a, σ => (ev G a σ).bind fun x σ1 => match look σ1 x with
    | some dx => R.of σ1 ((truth dx).map fun c => .d (.bl (!c)))
    | none => .stuck
  | .neg a, σ => (ev G a σ).bind fun x σ1 => match x with
    | .d (.int i) => .ok (.d (.int (-i))) σ1
    | _ => .stuck
  | .ite c a b, σ => (ev G c σ).bind fun x σ1 => match look σ1 x with
    | some dx => match truth dx with
      | some true => ev G a σ1
      | some false => ev G b σ1
      | none => .stuck
    | none => .stuck
  | .idx a b, σ => (ev G a σ).bind fun x σ1 => (ev G b σ1).bind fun y σ2 => match look σ2 x, look σ2 y with
    | some dx, some dy => R.of σ2 ((idxD dx dy).map fun d => .d d)
    | _, _ => .stuck
  | .slc a lo hi, σ => (ev G a σ).bind fun x σ1 => (ev G lo σ1).bind fun y σ2 => match partOf lo y with
    | some l => (ev G hi σ2).bind fun z σ3 => match look σ3 x, partOf hi z with
      | some dx, some h => R.of σ3 (slcD dx l h)
      | _, _ => .stuck
    | none => .stuck
  | .rev a, σ => (ev G a σ).bind fun x σ1 => match look σ1 x with
    | some dx => R.of σ1 (revD dx)
    | none => .stuck
  | .tup es, σ => (evs G es σ).bind fun xs σ1 => match frzs σ1 xs with
    | some (ds, σ2) => .ok (.d (.tup ds)) σ2
    | none => .stuck
  | .lst es, σ => (evs G es σ).bind fun xs σ1 => match frzs σ1 xs with
    | some (ds, σ2) => .ok (.new (.lst ds)) σ2
    | none => .stuck
  | .dct t ks vs, σ => match constK ks with
    | some dk => (evs G vs σ).bind fun ys σ2 => match frzs σ2 ys with
      | some (dv, σ4) => R.of σ4 ((dctD t [] [] dk dv).map fun d => .new d)
      | none => .stuck
    | none => .stuck
  | .call f es, σ => (evs G es σ).bind fun xs σ1 => match argCells (G.modes f) xs σ1 [] with
    | some (cs, σ2, bs) => match G.phi f cs with
      | .ok rv outs => match backCells σ2 bs outs with
        | some σ3 => .ok rv σ3
        | none => .stuck
      | .exc c p => .exc c p (loseCells σ2 bs)
      | .stuck => .stuck
    | none => .stuck
  | .bi b es, σ => (evs G es σ).bind fun xs σ1 => match looks σ1 xs with
    | some ds => R.of σ1 (biD b ds)
    | none => .stuck
  | .mt m o es, σ => (ev G o σ).bind fun x σ1 => (evs G es σ1).bind fun xs σ2 => match look σ2 x, looks σ2 xs with
    | some d, some ds => R.of σ2 (mtD m d ds)
    | _, _ => .stuck
  | .mu m i es, σ => match σ[i]? with
    | some (some (.own _ (.lst _))) => (evs G es σ).bind fun xs σ1 => match frzs σ1 xs with
      | some (ds, σ2) => match σ2[i]? with
        | some (some (.own h d)) => match muD m d ds with
          | some (d', r) => .ok (.d r) (σ2.set i (some (.own h d')))
          | none => .stuck
        | _ => .stuck
      | none => .stuck
    | _ => .stuck
  | .comp own tg sk es cond elt, σ => (evs G es σ).bind fun xs σ1 => match frzs σ1 xs with
    | some (ds, σ2) => match srcD sk ds with
      | some its => (compLoop (fun x σ => match setT (wipe σ own) tg x with
          | some σ' => (ev G cond σ').bind fun c σ'' => match look σ'' c with
            | some dc => match truth dc with
              | some true => (ev G elt σ'').bind fun y σ3 => match frz σ3 y with
                | some (d, σ4) => .ok (some d) σ4
                | none => .stuck
              | some false => .ok none σ''
              | none => .stuck
            | none => .stuck
          | none => .stuck) its σ2 []).bind fun acc σ3 => .ok (.new (.lst acc)) (unwipe σ2 σ3 own)
      | none => .stuck
    | none => .stuck
def evs (G : Env) : Es → Sg → R (List RV)
  | .nil, σ => .ok [] σ
  | .cons e es, σ => (ev G e σ).bind fun x σ1 => (evs G es σ1).bind fun xs σ2 => .ok (x :: xs) σ2
end

def forLoop (tg : Tg) (body : Sg → O) : List D → Sg → O
  | [], σ => .nx σ
  | x :: xs, σ => match setT σ tg x with
    | some σ' => match body σ' with
      | .nx σ'' => forLoop tg body xs σ''
      | .ct σ'' => forLoop tg body xs σ''
      | .bk σ'' => .nx σ''
      | o => o
    | none => .stuck
def whLoop (test : Sg → R RV) (body : Sg → O) : Nat → Sg → O
  | 0, _ => .stuck
  | n + 1, σ => (test σ).toO fun c σ' => match look σ' c with
    | some dc => match truth dc with
      | some true => match body σ' with
        | .nx σ'' => whLoop test body n σ''
        | .ct σ'' => whLoop test body n σ''
        | .bk σ'' => .nx σ''
        | o => o
      | some false => .nx σ'
      | none => .stuck
    | none => .stuck
def O.of : Option Sg → O
  | some σ => .nx σ
  | none => .stuck
mutual
def exS (G : Env) : S → Sg → O
  | .asg own i e, σ => (ev G e σ).toO fun r σ1 => .of (setR σ1 own i r)
  | .unp l e, σ => (ev G e σ).toO fun r σ1 => match frz σ1 r with
    | some (d, σ2) => .of (setT σ2 (.many l) d)
    | none => .stuck
  | .par l es, σ => (evs G es σ).toO fun rs σ1 => .of (setRs σ1 l rs)
  | .aug o i e, σ => match σ[i]? with
    | some (some (.val d)) => (ev G e σ).toO fun r σ1 => match r with
      | .d d' => match augD o d d' with
        | some d2 => .of (setV σ1 i d2)
        | none => .stuck
      | _ => .stuck
    | _ => .stuck
  | .sto i k e, σ => (ev G e σ).toO fun r σ1 => match frz σ1 r with
    | some (d, σ2) => match σ2[i]? with
      | some (some (.own _ _)) => (ev G k σ2).toO fun rk σ3 => match rk with
        | .d dk => match σ3[i]? with
          | some (some (.own h c)) => match stoD c dk d with
            | some c' => .nx (σ3.set i (some (.own h c')))
            | none => .stuck
          | _ => .stuck
        | _ => .stuck
      | _ => .stuck
    | none => .stuck
  | .aus o i k e, σ => match σ[i]? with
    | some (some (.own _ _)) => (ev G k σ).toO fun rk σ1 => match rk with
      | .d dk => match σ1[i]? with
        | some (some (.own _ c)) => match dgD c dk with
          | some d0 => (ev G e σ1).toO fun r σ2 => match r with
            | .d d1 => match augD o d0 d1 with
              | some d2 => match σ2[i]? with
                | some (some (.own h c2)) => match stoD c2 dk d2 with
                  | some c3 => .nx (σ2.set i (some (.own h c3)))
                  | none => .stuck
                | _ => .stuck
              | none => .stuck
            | _ => .stuck
          | none => .stuck
        | _ => .stuck
      | _ => .stuck
    | _ => .stuck
  | .ex e, σ => (ev G e σ).toO fun _ σ1 => .nx σ1
  | .ifs c a b, σ => (ev G c σ).toO fun x σ1 => match look σ1 x with
    | some dx => match truth dx with
      | some true => exSs G a σ1
      | some false => exSs G b σ1
      | none => .stuck
    | none => .stuck
  | .fr tg sk es b, σ => (evs G es σ).toO fun xs σ1 => match frzs σ1 xs with
    | some (ds, σ2) => match srcD sk ds with
      | some its => forLoop tg (exSs G b) its σ2
      | none => .stuck
    | none => .stuck
  | .wh c b, σ => whLoop (ev G c) (exSs G b) G.fuel σ
  | .ret e, σ => (ev G e σ).toO fun r σ1 => .rt r σ1
  | .retN, σ => .rt (.d .non) σ
  | .brk, σ => .bk σ
  | .cnt, σ => .ct σ
  | .pas, σ => .nx σ
  | .rse c es, σ => (evs G es σ).toO fun xs σ1 => match frzs σ1 xs with
    | some (ds, σ2) => .exc c ds σ2
    | none => .stuck
  | .frg l, σ => .nx (wipe σ l)
def exSs (G : Env) : Ss → Sg → O
  | .nil, σ => .nx σ
  | .cons s ss, σ => (exS G s σ).bind (exSs G ss)
end

/-! ### functions -/
structure Fn where
  slots : Nat
  modes : List Bool
  body : Ss
/-- a result handed out: a slot's own object is given up -/
def outRV (σ : Sg) : RV → Option RV
  | .d d => some (.d d)
  | .new d => some (.new d)
  | .slot i => match σ[i]? with
    | some (some (.own false d)) => some (.new d)
    | some (some (.val d)) => some (.d d)
    | _ => none
def outCells (σ : Sg) (cs : List Cell) : Option (List Cell) := match cs with
  | [] => some []
  | .val d :: cs => (outCells (σ.drop 1) cs).map fun r => .val d :: r
  | .own _ _ :: cs => match σ with
    | some (.own true d) :: _ => (outCells (σ.drop 1) cs).map fun r => .own true d :: r
    | _ => none
def fnRun (G : Env) (F : Fn) (cs : List Cell) : FR :=
  if cs.length = F.modes.length ∧ cs.length ≤ F.slots then
    match exSs G F.body (cs.map some ++ List.replicate (F.slots - cs.length) none) with
    | .nx σ => match outCells σ cs with
      | some r => .ok (.d .non) r
      | none => .stuck
    | .rt rv σ => match outRV σ rv, outCells σ cs with
      | some v, some r => .ok v r
      | _, _ => .stuck
    | .exc c p _ => .exc c p
    | _ => .stuck
  else .stuck
/-- the table's functions, k calls deep -/
def run (T : List Fn) (glob : Nat → Option D) (fuel : Nat) : Nat → Nat → List Cell → FR
  | 0, _, _ => .stuck
  | k + 1, f, cs => match T[f]? with
    | some F => fnRun ⟨run T glob fuel k, fun g => match T[g]? with | some F => F.modes | none => [], glob, fuel⟩ F cs
    | none => .stuck
end AW

/-! S1: the order of data, sorting (no model). -/
namespace AW
theorem int_lt_trans {a b c : List Int} (h1 : a < b) (h2 : b < c) : a < c := List.lt_trans h1 h2
def strA : List Nat → List Int → List Int
  | [], r => 0 :: r
  | c :: s, r => ((c : Int) + 1) :: strA s r
mutual
def codeA : D → List Int → List Int
  | .non, r => 4 :: r
  | .bl b, r => 6 :: b2i b :: r
  | .int i, r => 0 :: i :: r
  | .str s, r => 1 :: strA s r
  | .tup l, r => 2 :: lstA l r
  | .lst l, r => 3 :: lstA l r
  | .dct _ _ _, r => 9 :: r
  | .cst _, r => 9 :: r
def lstA : List D → List Int → List Int
  | [], r => -1 :: r
  | d :: l, r => codeA d (lstA l r)
end
theorem cc {a b : Int} {l m : List Int} : a :: l < b :: m ↔ a < b ∨ a = b ∧ l < m := List.cons_lt_cons_iff
theorem strA_mono : ∀ (s : List Nat) {a b : List Int}, a < b → strA s a < strA s b
  | [], _, _, h => cc.mpr (.inr ⟨rfl, h⟩)
  | c :: s, _, _, h => cc.mpr (.inr ⟨rfl, strA_mono s h⟩)
mutual
theorem codeA_mono : ∀ (d : D) {a b : List Int}, a < b → codeA d a < codeA d b
  | .non, _, _, h => cc.mpr (.inr ⟨rfl, h⟩)
  | .bl _, _, _, h => cc.mpr (.inr ⟨rfl, cc.mpr (.inr ⟨rfl, h⟩)⟩)
  | .int _, _, _, h => cc.mpr (.inr ⟨rfl, cc.mpr (.inr ⟨rfl, h⟩)⟩)
  | .str s, _, _, h => cc.mpr (.inr ⟨rfl, strA_mono s h⟩)
  | .tup l, _, _, h => cc.mpr (.inr ⟨rfl, lstA_mono l h⟩)
  | .lst l, _, _, h => cc.mpr (.inr ⟨rfl, lstA_mono l h⟩)
  | .dct _ _ _, _, _, h => cc.mpr (.inr ⟨rfl, h⟩)
  | .cst _, _, _, h => cc.mpr (.inr ⟨rfl, h⟩)
theorem lstA_mono : ∀ (l : List D) {a b : List Int}, a < b → lstA l a < lstA l b
  | [], _, _, h => cc.mpr (.inr ⟨rfl, h⟩)
  | d :: l, _, _, h => by
    simp only [lstA]
    exact codeA_mono d (lstA_mono l h)
end
theorem codeA_head : ∀ (d : D) (r : List Int), ∃ h t, codeA d r = h :: t ∧ 0 ≤ h
  | .non, r => ⟨_, _, rfl, by decide⟩
  | .bl _, r => ⟨_, _, rfl, by decide⟩
  | .int _, r => ⟨_, _, rfl, by decide⟩
  | .str _, r => ⟨_, _, rfl, by decide⟩
  | .tup _, r => ⟨_, _, rfl, by decide⟩
  | .lst _, r => ⟨_, _, rfl, by decide⟩
  | .dct _ _ _, r => ⟨_, _, rfl, by decide⟩
  | .cst _, r => ⟨_, _, rfl, by decide⟩
mutual
theorem sameD_eq : ∀ (x y : D), sameD x y = true → x = y
  | .non, y, h => by cases y <;> simp [sameD] at h; rfl
  | .bl a, y, h => by cases y <;> simp [sameD] at h; rw [h]
  | .int a, y, h => by cases y <;> simp [sameD] at h; rw [h]
  | .str a, y, h => by cases y <;> simp [sameD] at h; rw [h]
  | .tup a, y, h => by
    cases y <;> simp only [sameD] at h <;> try (cases h; done)
    rw [sameDs_eq a _ h]
  | .lst a, y, h => by
    cases y <;> simp only [sameD] at h <;> try (cases h; done)
    rw [sameDs_eq a _ h]
  | .dct _ _ _, y, h => by simp [sameD] at h
  | .cst _, y, h => by simp [sameD] at h
theorem sameDs_eq : ∀ (x y : List D), sameDs x y = true → x = y
  | [], y, h => by cases y <;> simp [sameDs] at h; rfl
  | a :: x, y, h => by
    cases y with
    | nil => simp [sameDs] at h
    | cons b y =>
      simp only [sameDs, Bool.and_eq_true] at h
      rw [sameD_eq a b h.1, sameDs_eq x y h.2]
end
mutual
theorem ltD_self : ∀ (x : D) {b : Bool}, ltD x x = some b → eqD x x = true
  | .non, _, h => by simp [ltD] at h
  | .bl _, _, h => by simp [ltD] at h
  | .int a, _, h => by simp [eqD]
  | .str a, _, h => by simp [eqD]
  | .tup a, _, h => by
    simp only [ltD] at h
    simp only [eqD]
    exact ltDs_self a h
  | .lst _, _, h => by simp [ltD] at h
  | .dct _ _ _, _, h => by simp [ltD] at h
  | .cst _, _, h => by simp [ltD] at h
theorem ltDs_self : ∀ (x : List D) {b : Bool}, ltDs x x = some b → eqDs x x = true
  | [], _, _ => rfl
  | a :: x, b, h => by
    simp only [ltDs] at h
    cases h1 : ltDs x x with
    | none => rw [h1] at h; cases h
    | some r =>
      rw [h1] at h
      simp only at h
      have t := ltDs_self x h1
      by_cases q : eqD a a = true
      · simp only [eqDs, q, t, Bool.and_self]
      · rw [if_neg q] at h
        exact absurd (ltD_self a h) q
end
theorem ltS_code : ∀ (a b : List Nat), (ltS a b = true ∧ ∀ r r', strA a r < strA b r') ∨ (ltS a b = false ∧ (a = b ∨ ∀ r r', strA b r < strA a r'))
  | [], [] => .inr ⟨rfl, .inl rfl⟩
  | [], c :: b => .inl ⟨rfl, fun r r' => cc.mpr (.inl (by omega))⟩
  | c :: a, [] => .inr ⟨rfl, .inr fun r r' => cc.mpr (.inl (by omega))⟩
  | c :: a, d :: b => by
    simp only [ltS]
    by_cases e : c = d
    · subst e
      rw [if_pos rfl]
      rcases ltS_code a b with ⟨h, q⟩ | ⟨h, q | q⟩
      · exact .inl ⟨h, fun r r' => cc.mpr (.inr ⟨rfl, q r r'⟩)⟩
      · exact .inr ⟨h, .inl (by rw [q])⟩
      · exact .inr ⟨h, .inr fun r r' => cc.mpr (.inr ⟨rfl, q r r'⟩)⟩
    · rw [if_neg e]
      by_cases l : c < d
      · exact .inl ⟨decide_eq_true l, fun r r' => cc.mpr (.inl (by omega))⟩
      · exact .inr ⟨decide_eq_false l, .inr fun r r' => cc.mpr (.inl (by omega))⟩
mutual
theorem lt_code : ∀ (x y : D) {b : Bool}, ltD x y = some b → (b = true ∧ ∀ r r', codeA x r < codeA y r') ∨ (b = false ∧ (x = y ∨ ∀ r r', codeA y r < codeA x r'))
  | .non, _, _, h => by simp [ltD] at h
  | .bl _, _, _, h => by simp [ltD] at h
  | .lst _, _, _, h => by simp [ltD] at h
  | .dct _ _ _, _, _, h => by simp [ltD] at h
  | .cst _, _, _, h => by simp [ltD] at h
  | .int i, y, b, h => by
    cases y <;> simp only [ltD] at h <;> try (cases h; done)
    rename_i j
    cases h
    by_cases l : i < j
    · exact .inl ⟨decide_eq_true l, fun r r' => cc.mpr (.inr ⟨rfl, cc.mpr (.inl l)⟩)⟩
    · refine .inr ⟨decide_eq_false l, ?_⟩
      by_cases e : i = j
      · exact .inl (by rw [e])
      · exact .inr fun r r' => cc.mpr (.inr ⟨rfl, cc.mpr (.inl (by omega))⟩)
  | .str s, y, b, h => by
    cases y <;> simp only [ltD] at h <;> try (cases h; done)
    rename_i t
    cases h
    rcases ltS_code s t with ⟨h, q⟩ | ⟨h, q | q⟩
    · exact .inl ⟨h, fun r r' => cc.mpr (.inr ⟨rfl, q r r'⟩)⟩
    · exact .inr ⟨h, .inl (by rw [q])⟩
    · exact .inr ⟨h, .inr fun r r' => cc.mpr (.inr ⟨rfl, q r r'⟩)⟩
  | .tup l, y, b, h => by
    cases y <;> simp only [ltD] at h <;> try (cases h; done)
    rename_i m
    rcases lts_code l m h with ⟨h, q⟩ | ⟨h, q | q⟩
    · exact .inl ⟨h, fun r r' => cc.mpr (.inr ⟨rfl, q r r'⟩)⟩
    · exact .inr ⟨h, .inl (by rw [q])⟩
    · exact .inr ⟨h, .inr fun r r' => cc.mpr (.inr ⟨rfl, q r r'⟩)⟩
theorem lts_code : ∀ (x y : List D) {b : Bool}, ltDs x y = some b → (b = true ∧ ∀ r r', lstA x r < lstA y r') ∨ (b = false ∧ (x = y ∨ ∀ r r', lstA y r < lstA x r'))
  | [], y, b, h => by
    cases y with
    | nil => simp only [ltDs] at h; cases h; exact .inr ⟨rfl, .inl rfl⟩
    | cons d m =>
      simp only [ltDs] at h; cases h
      refine .inl ⟨rfl, fun r r' => ?_⟩
      obtain ⟨k, t, e, h0⟩ := codeA_head d (lstA m r')
      simp only [lstA]
      rw [e]
      exact cc.mpr (.inl (by omega))
  | d :: l, y, b, h => by
    cases y with
    | nil =>
      simp only [ltDs] at h; cases h
      refine .inr ⟨rfl, .inr fun r r' => ?_⟩
      obtain ⟨k, t, e, h0⟩ := codeA_head d (lstA l r')
      simp only [lstA]
      rw [e]
      exact cc.mpr (.inl (by omega))
    | cons c m =>
      simp only [ltDs] at h
      cases h1 : ltDs l m with
      | none => rw [h1] at h; cases h
      | some r =>
        rw [h1] at h
        simp only at h
        by_cases q : eqD d c = true
        · rw [if_pos q] at h
          split at h
          · rename_i sm
            cases h
            have e := sameD_eq d c sm
            subst e
            rcases lts_code l m h1 with ⟨h, z⟩ | ⟨h, z | z⟩
            · exact .inl ⟨h, fun r r' => codeA_mono d (z r r')⟩
            · exact .inr ⟨h, .inl (by rw [z])⟩
            · exact .inr ⟨h, .inr fun r r' => codeA_mono d (z r r')⟩
          · cases h
        · rw [if_neg q] at h
          rcases lt_code d c h with ⟨h2, z⟩ | ⟨h2, z | z⟩
          · exact .inl ⟨h2, fun r r' => z _ _⟩
          · subst z
            exact absurd (ltD_self d h) q
          · exact .inr ⟨h2, .inr fun r r' => z _ _⟩
end
def ltc (x y : D) : Bool := decide (codeA x [] < codeA y [])
theorem ltc_of {x y : D} {b : Bool} (h : ltD x y = some b) : ltc x y = b := by
  unfold ltc
  rcases lt_code x y h with ⟨e, q⟩ | ⟨e, q | q⟩
  · rw [e]; exact decide_eq_true (q [] [])
  · rw [e, q]; exact decide_eq_false (List.lt_irrefl _)
  · rw [e]; exact decide_eq_false fun z => List.lt_irrefl _ (List.lt_trans z (q [] []))
theorem ltc_anti {x y : D} {b c : Bool} (h : ltD x y = some b) (h1 : ltc x y = false) (h2 : ltc y x = false) : x = y := by
  have e := ltc_of h
  rw [h1] at e
  rcases lt_code x y h with ⟨e2, q⟩ | ⟨e2, q | q⟩
  · rw [← e] at e2; cases e2
  · exact q
  · have : ltc y x = true := decide_eq_true (q [] [])
    rw [this] at h2; cases h2
theorem ltc_asym {x y : D} (h : ltc x y = true) : ltc y x = false := by
  unfold ltc at *
  exact decide_eq_false fun z => List.lt_irrefl _ (List.lt_trans z (of_decide_eq_true h))
theorem ltc_tr {x y z : D} (h1 : ltc y x = false) (h2 : ltc z y = false) : ltc z x = false := by
  unfold ltc at *
  have h1 := of_decide_eq_false h1
  have h2 := of_decide_eq_false h2
  rw [List.not_lt] at h1 h2
  refine decide_eq_false ?_
  rw [List.not_lt]
  exact List.le_trans h1 h2
section
variable {α : Type} {lt lt' : α → α → Bool}
theorem ins_perm (x : α) : ∀ l : List α, (ins lt x l).Perm (x :: l)
  | [] => .refl _
  | y :: l => by
    unfold ins
    split
    · exact ((ins_perm x l).cons y).trans (.swap x y l)
    · exact .refl _
theorem isort_perm : ∀ l : List α, (isort lt l).Perm l
  | [] => .refl _
  | x :: l => (ins_perm x _).trans ((isort_perm l).cons x)
theorem ins_congr {x : α} : ∀ {l : List α}, (∀ y ∈ l, lt y x = lt' y x) → ins lt x l = ins lt' x l
  | [], _ => rfl
  | y :: l, h => by
    unfold ins
    rw [h y List.mem_cons_self, ins_congr fun z hz => h z (List.mem_cons_of_mem _ hz)]
theorem isort_congr : ∀ {l : List α}, (∀ x ∈ l, ∀ y ∈ l, lt x y = lt' x y) → isort lt l = isort lt' l
  | [], _ => rfl
  | x :: l, h => by
    unfold isort
    rw [isort_congr fun a ha b hb => h a (List.mem_cons_of_mem _ ha) b (List.mem_cons_of_mem _ hb)]
    exact ins_congr fun y hy => h y (List.mem_cons_of_mem _ ((isort_perm l).mem_iff.mp hy)) x List.mem_cons_self
theorem ins_srt (as : ∀ x y, lt x y = true → lt y x = false) (tr : ∀ x y z, lt y x = false → lt z y = false → lt z x = false) (x : α) : ∀ {l : List α}, l.Pairwise (fun a b => lt b a = false) → (ins lt x l).Pairwise (fun a b => lt b a = false)
  | [], _ => List.pairwise_singleton _ _
  | y :: l, h => by
    unfold ins
    rw [List.pairwise_cons] at h
    split
    · rename_i q
      refine List.pairwise_cons.mpr ⟨fun z hz => ?_, ins_srt as tr x h.2⟩
      rcases List.mem_cons.mp ((ins_perm x l).mem_iff.mp hz) with e | hz
      · rw [e]; exact as _ _ q
      · exact h.1 z hz
    · rename_i q
      have q : lt y x = false := by simpa using q
      exact List.pairwise_cons.mpr ⟨fun z hz => (List.mem_cons.mp hz).elim (fun e => by rw [e]; exact q) fun hz => tr x y z q (h.1 z hz), List.pairwise_cons.mpr h⟩
theorem isort_srt (as : ∀ x y, lt x y = true → lt y x = false) (tr : ∀ x y z, lt y x = false → lt z y = false → lt z x = false) : ∀ {l : List α}, (isort lt l).Pairwise (fun a b => lt b a = false)
  | [] => .nil
  | x :: l => ins_srt as tr x (isort_srt as tr (l := l))
end
theorem sortD_all {xs r : List D} (h : sortD xs = some r) : oneK xs = true ∧ (∀ x ∈ xs, ∀ y ∈ xs, (∃ b, ltD x y = some b) ∧ dep x ≤ 60 ∧ dep y ≤ 60) ∧ r = isort ltc xs := by
  unfold sortD at h
  split at h
  · rename_i q
    simp only [Bool.and_eq_true, List.all_eq_true, canLt, Option.isSome_iff_exists, decide_eq_true_eq] at q
    cases h
    have k : ∀ x ∈ xs, ∀ y ∈ xs, (∃ b, ltD x y = some b) ∧ dep x ≤ 60 ∧ dep y ≤ 60 := fun x hx y hy => by
      obtain ⟨⟨⟨a, h1⟩, h2⟩, h3⟩ := q.2 x hx y hy
      exact ⟨⟨a, h1⟩, h2, h3⟩
    refine ⟨q.1, k, isort_congr fun x hx y hy => ?_⟩
    obtain ⟨⟨b, e⟩, _⟩ := k x hx y hy
    rw [ltc_of e]
    simp [ltB, e]
  · cases h
theorem sortD_perm {xs r : List D} (h : sortD xs = some r) : r.Perm xs := by
  obtain ⟨_, _, rfl⟩ := sortD_all h
  exact isort_perm _
/-- what is sorted by the codes and has the same members is the answer -/
theorem sortD_uniq {xs r m : List D} (h : sortD xs = some r) (hp : m.Perm xs) (hs : m.Pairwise (fun a b => ltc b a = false)) : m = r := by
  obtain ⟨_, k, rfl⟩ := sortD_all h
  refine List.Perm.eq_of_pairwise (le := fun a b => ltc b a = false) ?_ hs (isort_srt (lt := ltc) (fun _ _ => ltc_asym) (fun _ _ _ => ltc_tr)) (hp.trans (isort_perm xs).symm)
  intro a b ha hb h1 h2
  have ha := hp.mem_iff.mp ha
  have hb := (isort_perm (lt := ltc) xs).mem_iff.mp hb
  obtain ⟨⟨c, e⟩, _⟩ := k a ha b hb
  exact ltc_anti (c := c) e h2 h1
end AW

/-! P2: how data stand in the abstract heap; states; steps. -/
namespace AW
open PySem PySem.Spec L2

def sS (s : List Nat) : Str := ⟨s.toArray⟩
theorem sS_inj {a b : List Nat} (h : sS a = sS b) : a = b := by
  have := congrArg (fun z : Str => z.cps.toList) h
  simpa [sS] using this
abbrev Zn := Addr → Prop
abbrev Fg := PySem.W.Frag
/-- a tuple, a list of the written part -/
def KTup (K : Fg) (a : Addr) (xs : List V) : Prop :=
  ∃ (o : Obj) (its : Array Value) (n : Nat), K.lookup a = some o ∧ o.cls = .type "tuple" ∧ o.data = .seq its n ∧ its.size ≤ sizeLine ∧ Vals xs its.toList
def KLst (K : Fg) (a : Addr) (xs : List V) : Prop :=
  ∃ (o : Obj) (its : Array Value) (n : Nat), K.lookup a = some o ∧ o.cls = .type "list" ∧ o.dict = none ∧ o.data = .seq its n ∧ its.size ≤ sizeLine ∧ Vals xs its.toList
/-- what stands at a and stays -/
def At (Av : Zn) (H : Hp) (a : Addr) (o : HO) : Prop := Rd H a o ∧ ¬ Av a
/-- the signs are signs -/
def okS (s : List Nat) : Bool := decide (s.length ≤ line) && s.all fun c => decide (c < 0x110000)
def okK : D → Bool
  | .str s => okS s
  | .tup l => l.all fun d => match d with | .str s => okS s | _ => true
  | _ => true
def kD : Key → D
  | .inl i => .int i
  | .inr x => .str x.cps.toList
/-- a dict's object, by its keys and values -/
def DictHO (t : Bool) (ks : List D) (xs : List V) (o : HO) : Prop :=
  (ks.all okK = true ∧ ks.Nodup) ∧ if t then ∃ kvs : List (List Key × V), o = .dT kvs ∧ ks = kvs.map (fun p => D.tup (p.1.map kD)) ∧ xs = kvs.map (·.2)
  else ∃ kvs : List (Key × V), o = .dK kvs ∧ ks = kvs.map (fun p => kD p.1) ∧ xs = kvs.map (·.2)

mutual
def Rep (K : Fg) (Av : Zn) (H : Hp) : D → V → Prop
  | .non, v => v = .non
  | .bl b, v => v = .bl b
  | .int i, v => v = .int i
  | .str s, v => v = .str (sS s) ∧ okS s = true
  | .tup l, v => ∃ a vs, v = .ref a ∧ (At Av H a (.tup vs) ∨ KTup K a vs) ∧ Reps K Av H l vs
  | .lst l, v => ∃ a vs, v = .ref a ∧ (H a = some (.lst vs) ∧ ¬ Av a) ∧ Reps K Av H l vs
  | .dct t ks l, v => ∃ a vs o, v = .ref a ∧ DictHO t ks vs o ∧ At Av H a o ∧ Reps K Av H l vs
  | .cst l, v => ∃ a vs, v = .ref a ∧ (At Av H a (.lst vs) ∨ KLst K a vs) ∧ Reps K Av H l vs
def Reps (K : Fg) (Av : Zn) (H : Hp) : List D → List V → Prop
  | [], vs => vs = []
  | d :: l, vs => ∃ v r, vs = v :: r ∧ Rep K Av H d v ∧ Reps K Av H l r
end

def notFrz : HO → Prop
  | .frz _ _ => False
  | _ => True
theorem DictHO.nf {t : Bool} {ks : List D} {xs : List V} {o : HO} (h : DictHO t ks xs o) : notFrz o := by
  obtain ⟨_, h⟩ := h
  split at h
  · obtain ⟨_, rfl, _⟩ := h; trivial
  · obtain ⟨_, rfl, _⟩ := h; trivial
/-- what stays -/
structure Keep (Av : Zn) (H : Hp) (Av' : Zn) (H' : Hp) : Prop where
  rd : ∀ a o, notFrz o → At Av H a o → At Av' H' a o
  lst : ∀ a xs, H a = some (.lst xs) ∧ ¬ Av a → H' a = some (.lst xs) ∧ ¬ Av' a
theorem Keep.of {Av Av' : Zn} {H H' : Hp} (h : ∀ a o, H a = some o → ¬ Av a → H' a = some o ∧ ¬ Av' a) : Keep Av H Av' H' := by
  refine ⟨fun a o _ q => ?_, fun a xs q => h a _ q.1 q.2⟩
  rcases q.1 with e | ⟨z, e⟩
  · exact ⟨.inl (h a _ e q.2).1, (h a _ e q.2).2⟩
  · exact ⟨.inr ⟨z, (h a _ e q.2).1⟩, (h a _ e q.2).2⟩
section
variable {K : Fg} {Av Av' : Zn} {H H' : Hp}
mutual
theorem Rep.imp (h : Keep Av H Av' H') : ∀ (d : D) (v : V), Rep K Av H d v → Rep K Av' H' d v
  | .non, _, r => r
  | .bl _, _, r => r
  | .int _, _, r => r
  | .str _, _, r => r
  | .tup l, v, r => by
    obtain ⟨a, vs, e, q, r⟩ := r
    exact ⟨a, vs, e, q.imp (h.rd a _ trivial) id, Reps.imp h l vs r⟩
  | .lst l, v, r => by
    obtain ⟨a, vs, e, q, r⟩ := r
    exact ⟨a, vs, e, h.lst a _ q, Reps.imp h l vs r⟩
  | .dct t ks l, v, r => by
    obtain ⟨a, vs, o, e, q1, q2, r⟩ := r
    exact ⟨a, vs, o, e, q1, h.rd a _ q1.nf q2, Reps.imp h l vs r⟩
  | .cst l, v, r => by
    obtain ⟨a, vs, e, q, r⟩ := r
    exact ⟨a, vs, e, q.imp (h.rd a _ trivial) id, Reps.imp h l vs r⟩
theorem Reps.imp (h : Keep Av H Av' H') : ∀ (d : List D) (v : List V), Reps K Av H d v → Reps K Av' H' d v
  | [], _, r => r
  | d :: l, _, r => by
    obtain ⟨v, r', e, q1, q2⟩ := r
    exact ⟨v, r', e, Rep.imp h d v q1, Reps.imp h l r' q2⟩
end
theorem Reps.nil : Reps K Av H [] [] := rfl
theorem Reps.cons {d : D} {l : List D} {v : V} {r : List V} (a : Rep K Av H d v) (b : Reps K Av H l r) : Reps K Av H (d :: l) (v :: r) := ⟨v, r, rfl, a, b⟩
theorem Reps.length : ∀ {l : List D} {vs : List V}, Reps K Av H l vs → l.length = vs.length
  | [], _, r => by cases r; rfl
  | d :: l, _, r => by
    obtain ⟨v, r', rfl, _, q⟩ := r
    simp [Reps.length q]
theorem Reps.append : ∀ {l m : List D} {vs ws : List V}, Reps K Av H l vs → Reps K Av H m ws → Reps K Av H (l ++ m) (vs ++ ws)
  | [], _, _, _, r, q => by cases r; exact q
  | d :: l, _, _, _, r, q => by
    obtain ⟨v, r', rfl, q1, q2⟩ := r
    exact ⟨v, _, rfl, q1, Reps.append q2 q⟩
theorem Reps.get : ∀ {l : List D} {vs : List V} {i : Nat} {d : D}, Reps K Av H l vs → l[i]? = some d → ∃ v, vs[i]? = some v ∧ Rep K Av H d v
  | [], _, _, _, _, e => by simp at e
  | d :: l, _, 0, _, r, e => by
    obtain ⟨v, r', rfl, q1, q2⟩ := r
    simp at e; subst e
    exact ⟨v, rfl, q1⟩
  | d :: l, _, i + 1, _, r, e => by
    obtain ⟨v, r', rfl, q1, q2⟩ := r
    simp at e
    obtain ⟨u, e1, e2⟩ := Reps.get q2 e
    exact ⟨u, by simpa using e1, e2⟩
theorem Reps.get' : ∀ {l : List D} {vs : List V} {i : Nat} {v : V}, Reps K Av H l vs → vs[i]? = some v → ∃ d, l[i]? = some d ∧ Rep K Av H d v := by
  intro l vs i v r e
  have hl := r.length
  have hi : i < l.length := by rw [hl]; exact (List.getElem?_eq_some_iff.mp e).1
  obtain ⟨u, e1, e2⟩ := r.get (List.getElem?_eq_getElem hi)
  rw [e] at e1; cases e1
  exact ⟨_, List.getElem?_eq_getElem hi, e2⟩
theorem Reps.take : ∀ {l : List D} {vs : List V} (n : Nat), Reps K Av H l vs → Reps K Av H (l.take n) (vs.take n)
  | _, _, 0, _ => by simp; rfl
  | [], _, n + 1, r => by cases r; simp; rfl
  | d :: l, _, n + 1, r => by
    obtain ⟨v, r', rfl, q1, q2⟩ := r
    exact ⟨v, _, rfl, q1, Reps.take n q2⟩
theorem Reps.drop : ∀ {l : List D} {vs : List V} (n : Nat), Reps K Av H l vs → Reps K Av H (l.drop n) (vs.drop n)
  | _, _, 0, r => by simpa using r
  | [], _, n + 1, r => by cases r; simp; rfl
  | d :: l, _, n + 1, r => by
    obtain ⟨v, r', rfl, q1, q2⟩ := r
    simpa using Reps.drop n q2
theorem Reps.reverse : ∀ {l : List D} {vs : List V}, Reps K Av H l vs → Reps K Av H l.reverse vs.reverse
  | [], _, r => by cases r; exact Reps.nil
  | d :: l, _, r => by
    obtain ⟨v, r', rfl, q1, q2⟩ := r
    rw [List.reverse_cons, List.reverse_cons]
    exact (Reps.reverse q2).append (Reps.cons q1 Reps.nil)
theorem Reps.set : ∀ {l : List D} {vs : List V} (i : Nat) {d : D} {v : V}, Reps K Av H l vs → Rep K Av H d v → Reps K Av H (l.set i d) (vs.set i v)
  | [], _, _, _, _, r, _ => by cases r; exact Reps.nil
  | d :: l, _, 0, _, _, r, q => by
    obtain ⟨v, r', rfl, q1, q2⟩ := r
    exact Reps.cons q q2
  | d :: l, _, i + 1, _, _, r, q => by
    obtain ⟨v, r', rfl, q1, q2⟩ := r
    exact Reps.cons q1 (Reps.set i q2 q)
theorem Reps.eraseIdx : ∀ {l : List D} {vs : List V} (i : Nat), Reps K Av H l vs → Reps K Av H (l.eraseIdx i) (vs.eraseIdx i)
  | [], _, _, r => by cases r; exact Reps.nil
  | d :: l, _, 0, r => by
    obtain ⟨v, r', rfl, q1, q2⟩ := r
    exact q2
  | d :: l, _, i + 1, r => by
    obtain ⟨v, r', rfl, q1, q2⟩ := r
    exact Reps.cons q1 (Reps.eraseIdx i q2)
theorem Reps.dropLast : ∀ {l : List D} {vs : List V}, Reps K Av H l vs → Reps K Av H l.dropLast vs.dropLast := by
  intro l vs r
  rw [List.dropLast_eq_take, List.dropLast_eq_take, r.length]
  exact r.take _
end

/-! ### states -/
structure M where
  Av : Zn
  C : Zn
  H : Hp
  σ : L2.St
  g : Sg
/-- the object of a slot, or a new one -/
def OwnAt (K : Fg) (Av : Zn) (H : Hp) (a : Addr) : D → Prop
  | .lst l => ∃ vs, H a = some (.lst vs) ∧ Reps K Av H l vs
  | .dct t ks l => ∃ vs o, DictHO t ks vs o ∧ H a = some o ∧ Reps K Av H l vs
  | _ => False
structure RS (K : Fg) (m : M) : Prop where
  len : m.σ.length = m.g.length
  av : ∀ a, m.Av a → m.H a ≠ none
  cav : ∀ a, m.C a → m.Av a
  val : ∀ (i : Nat) (d : D), m.g[i]? = some (some (.val d)) → ∃ v, m.σ[i]? = some (some v) ∧ Rep K m.Av m.H d v
  own : ∀ (i : Nat) (h : Bool) (d : D), m.g[i]? = some (some (.own h d)) → ∃ a, m.σ[i]? = some (some (.ref a)) ∧ m.C a ∧ OwnAt K m.Av m.H a d
  inj : ∀ (i j : Nat) (h : Bool) (d : D) (h' : Bool) (d' : D) (a : Addr), m.g[i]? = some (some (.own h d)) → m.g[j]? = some (some (.own h' d')) → m.σ[i]? = some (some (.ref a)) → m.σ[j]? = some (some (.ref a)) → i = j
structure Step (m m' : M) : Prop where
  keep : ∀ a o, m.H a = some o → ¬ m.C a → m'.H a = some o
  there : ∀ a, m.H a ≠ none → m'.H a ≠ none
  cgrow : ∀ a, m'.C a → m.C a ∨ m.H a = none
  avgrow : ∀ a, m'.Av a → m.Av a ∨ m.H a = none
  avkeep : ∀ a, m.Av a → ¬ m.C a → m'.Av a
  home : ∀ (j : Nat) (d : D), m'.g[j]? = some (some (.own true d)) → (∃ d', m.g[j]? = some (some (.own true d'))) ∧ m'.σ[j]? = m.σ[j]?

theorem Step.refl (m : M) : Step m m := ⟨fun _ _ h _ => h, fun _ h => h, fun _ h => .inl h, fun _ h => .inl h, fun _ h _ => h, fun _ d h => ⟨⟨d, h⟩, rfl⟩⟩
theorem Step.trans {m m1 m2 : M} (av : ∀ a, m.Av a → m.H a ≠ none) (s : Step m m1) (t : Step m1 m2) : Step m m2 where
  keep a o h c := t.keep a o (s.keep a o h c) fun z => (s.cgrow a z).elim c fun n => by rw [n] at h; cases h
  there a h := t.there a (s.there a h)
  cgrow a z := (t.cgrow a z).elim (s.cgrow a) fun n => .inr (by
    cases q : m.H a with
    | none => rfl
    | some o => exact absurd n (s.there a (by rw [q]; simp)))
  avgrow a z := (t.avgrow a z).elim (s.avgrow a) fun n => .inr (by
    cases q : m.H a with
    | none => rfl
    | some o => exact absurd n (s.there a (by rw [q]; simp)))
  avkeep a h c := t.avkeep a (s.avkeep a h c) fun z => (s.cgrow a z).elim c (av a h)
  home j d h := by
    obtain ⟨⟨d', h'⟩, e⟩ := t.home j d h
    obtain ⟨q, e'⟩ := s.home j d' h'
    exact ⟨q, e.trans e'⟩
theorem At.some {Av : Zn} {H : Hp} {a : Addr} {o : HO} (h : At Av H a o) : H a ≠ none := by
  rcases h.1 with e | ⟨_, e⟩ <;> rw [e] <;> simp
section
variable {K : Fg} {m m' m1 m2 : M}
theorem Step.k (rs : RS K m) (s : Step m m') : Keep m.Av m.H m'.Av m'.H :=
  .of fun a o e n => ⟨s.keep a o e fun z => n (rs.cav a z), fun z => (s.avgrow a z).elim n fun q => by rw [e] at q; cases q⟩
theorem Step.rep (rs : RS K m) (s : Step m m') {d : D} {v : V} (h : Rep K m.Av m.H d v) : Rep K m'.Av m'.H d v := Rep.imp (s.k rs) d v h
theorem Step.reps (rs : RS K m) (s : Step m m') {d : List D} {v : List V} (h : Reps K m.Av m.H d v) : Reps K m'.Av m'.H d v := Reps.imp (s.k rs) d v h

/-- the zone without, with one more -/
def zadd (Z : Zn) (a : Addr) : Zn := fun b => Z b ∨ b = a
def zdel (Z : Zn) (a : Addr) : Zn := fun b => Z b ∧ b ≠ a

/-- what an expression gave -/
def RepR (K : Fg) (m0 m : M) (r : RV) (v : V) : Prop := match r with
  | .d d => Rep K m.Av m.H d v
  | .slot i => m.σ[i]? = some (some v)
  | .new d => ∃ a, v = .ref a ∧ m0.H a = none ∧ ¬ m.Av a ∧ RS K { m with Av := zadd m.Av a } ∧ OwnAt K (zadd m.Av a) m.H a d
/-- .. a while ago -/
def Pend (K : Fg) (m : M) (r : RV) (v : V) : Prop := match r with
  | .d d => Rep K m.Av m.H d v
  | .slot i => m.σ[i]? = some (some v)
  | .new d => Rep K m.Av m.H d v
/-- a value as it may be read now -/
def RepV (K : Fg) (Av : Zn) (H : Hp) (d : D) (v : V) : Prop := match d with
  | .lst l => ∃ a vs, v = .ref a ∧ H a = some (.lst vs) ∧ Reps K Av H l vs
  | .dct t ks l => ∃ a vs o, v = .ref a ∧ DictHO t ks vs o ∧ Rd H a o ∧ Reps K Av H l vs
  | d => Rep K Av H d v
theorem Rep.view {Av : Zn} {H : Hp} {d : D} {v : V} (h : Rep K Av H d v) : RepV K Av H d v := by
  cases d with
  | lst l =>
    obtain ⟨a, vs, e, q, r⟩ := h
    exact ⟨a, vs, e, q.1, r⟩
  | dct t ks l =>
    obtain ⟨a, vs, o, e, q1, q2, r⟩ := h
    exact ⟨a, vs, o, e, q1, q2.1, r⟩
  | non => exact h
  | bl => exact h
  | int => exact h
  | str => exact h
  | tup => exact h
  | cst => exact h
theorem OwnAt.imp {Av Av' : Zn} {H H' : Hp} {a : Addr} {d : D} (h : OwnAt K Av H a d) (e : H' a = H a) (k : Keep Av H Av' H') : OwnAt K Av' H' a d := by
  cases d with
  | lst l =>
    obtain ⟨vs, q, r⟩ := h
    exact ⟨vs, e.trans q, Reps.imp k l vs r⟩
  | dct t ks l =>
    obtain ⟨vs, o, q1, q2, r⟩ := h
    exact ⟨vs, o, q1, e.trans q2, Reps.imp k l vs r⟩
  | non => exact h
  | bl => exact h
  | int => exact h
  | str => exact h
  | tup => exact h
  | cst => exact h
theorem OwnAt.view {Av : Zn} {H : Hp} {a : Addr} {d : D} (h : OwnAt K Av H a d) : RepV K Av H d (.ref a) := by
  cases d with
  | lst l =>
    obtain ⟨vs, q, r⟩ := h
    exact ⟨a, vs, rfl, q, r⟩
  | dct t ks l =>
    obtain ⟨vs, o, q1, q2, r⟩ := h
    exact ⟨a, vs, o, rfl, q1, .inl q2, r⟩
  | non => exact h.elim
  | bl => exact h.elim
  | int => exact h.elim
  | str => exact h.elim
  | tup => exact h.elim
  | cst => exact h.elim
theorem OwnAt.rep {Av : Zn} {H : Hp} {a : Addr} {d : D} (h : OwnAt K Av H a d) (n : ¬ Av a) : Rep K Av H d (.ref a) := by
  cases d with
  | lst l =>
    obtain ⟨vs, q, r⟩ := h
    exact ⟨a, vs, rfl, ⟨q, n⟩, r⟩
  | dct t ks l =>
    obtain ⟨vs, o, q1, q2, r⟩ := h
    exact ⟨a, vs, o, rfl, q1, ⟨.inl q2, n⟩, r⟩
  | non => exact h.elim
  | bl => exact h.elim
  | int => exact h.elim
  | str => exact h.elim
  | tup => exact h.elim
  | cst => exact h.elim
theorem OwnAt.some {Av : Zn} {H : Hp} {a : Addr} {d : D} (h : OwnAt K Av H a d) : H a ≠ none := by
  cases d with
  | lst l => obtain ⟨vs, q, r⟩ := h; rw [q]; simp
  | dct t ks l => obtain ⟨vs, o, q1, q2, r⟩ := h; rw [q2]; simp
  | non => exact h.elim
  | bl => exact h.elim
  | int => exact h.elim
  | str => exact h.elim
  | tup => exact h.elim
  | cst => exact h.elim
theorem at_sub {Av Av' : Zn} {H : Hp} (h : ∀ a, Av' a → Av a) : Keep Av H Av' H := .of fun a o e n => ⟨e, fun z => n (h a z)⟩
theorem at_add {Av : Zn} {H : Hp} {p : Addr} (n : H p = none) : Keep Av H (zadd Av p) H := .of fun a o e q => ⟨e, fun z => z.elim q fun w => by rw [w, n] at e; cases e⟩
theorem RepR.pend {m0 : M} {r : RV} {v : V} (h : RepR K m0 m r v) : Pend K m r v := by
  cases r with
  | d d => exact h
  | slot i => exact h
  | new d =>
    obtain ⟨a, rfl, _, n, _, o⟩ := h
    exact (o.imp rfl (at_sub fun _ z => .inl z)).rep n
theorem Pend.step {r : RV} {v : V} (rs : RS K m) (s : Step m m') (e : m'.σ = m.σ) (h : Pend K m r v) : Pend K m' r v := by
  cases r with
  | d d => exact s.rep rs h
  | slot i => show m'.σ[i]? = some (some v); rw [e]; exact h
  | new d => exact s.rep rs h
theorem Pend.look {r : RV} {v : V} {d : D} (rs : RS K m) (h : Pend K m r v) (l : look m.g r = some d) : RepV K m.Av m.H d v := by
  cases r with
  | d d' => cases l; exact Rep.view h
  | new d' => cases l; exact Rep.view h
  | slot i =>
    have h : m.σ[i]? = some (some v) := h
    simp only [AW.look] at l
    cases q : m.g[i]? with
    | none => rw [q] at l; cases l
    | some c =>
      rw [q] at l
      cases c with
      | none => cases l
      | some c =>
        cases c with
        | own hm d' =>
          cases l
          obtain ⟨a, e, _, o⟩ := rs.own i hm d q
          rw [h] at e; cases e
          exact o.view
        | val d' =>
          cases l
          obtain ⟨v', e, r⟩ := rs.val i d q
          rw [h] at e; cases e
          exact r.view
theorem lt_of_get {α : Type} {l : List α} {i : Nat} {x : α} (h : l[i]? = some x) : i < l.length := (List.getElem?_eq_some_iff.mp h).1
/-- a slot is stored with a value -/
theorem RS.setVal {i : Nat} {d : D} {v : V} {c : Option Cell} (rs : RS K m) (hi : m.g[i]? = some c) (r : Rep K m.Av m.H d v) : RS K { m with σ := m.σ.set i (some v), g := m.g.set i (some (.val d)) } where
  len := by simp [rs.len]
  av := rs.av
  cav := rs.cav
  val j e h := by
    have h : (m.g.set i (some (.val d)))[j]? = some (some (.val e)) := h
    show ∃ w, (m.σ.set i (some v))[j]? = some (some w) ∧ Rep K m.Av m.H e w
    by_cases ij : i = j
    · subst ij
      have l1 := lt_of_get hi
      rw [List.getElem?_set_self l1] at h; cases h
      exact ⟨v, List.getElem?_set_self (by rw [rs.len]; exact l1), r⟩
    · rw [List.getElem?_set_ne ij] at h ⊢
      exact rs.val j e h
  own j hm e h := by
    have h : (m.g.set i (some (.val d)))[j]? = some (some (.own hm e)) := h
    show ∃ a, (m.σ.set i (some v))[j]? = some (some (.ref a)) ∧ _
    by_cases ij : i = j
    · subst ij
      rw [List.getElem?_set_self (lt_of_get hi)] at h; cases h
    · rw [List.getElem?_set_ne ij] at h ⊢
      exact rs.own j hm e h
  inj j k hm e hm' e' a h1 h2 s1 s2 := by
    have h1 : (m.g.set i (some (.val d)))[j]? = some (some (.own hm e)) := h1
    have h2 : (m.g.set i (some (.val d)))[k]? = some (some (.own hm' e')) := h2
    have s1 : (m.σ.set i (some v))[j]? = some (some (.ref a)) := s1
    have s2 : (m.σ.set i (some v))[k]? = some (some (.ref a)) := s2
    by_cases ij : i = j
    · subst ij
      rw [List.getElem?_set_self (lt_of_get hi)] at h1; cases h1
    · by_cases ik : i = k
      · subst ik
        rw [List.getElem?_set_self (lt_of_get hi)] at h2; cases h2
      · rw [List.getElem?_set_ne ij] at h1 s1
        rw [List.getElem?_set_ne ik] at h2 s2
        exact rs.inj j k hm e hm' e' a h1 h2 s1 s2
/-- a slot is forgotten -/
theorem RS.forget {i : Nat} (rs : RS K m) : RS K { m with g := m.g.set i none } where
  len := by simp [rs.len]
  av := rs.av
  cav := rs.cav
  val j e h := by
    have h : (m.g.set i none)[j]? = some (some (.val e)) := h
    by_cases ij : i = j
    · subst ij
      rw [List.getElem?_set] at h
      split at h <;> simp_all
    · rw [List.getElem?_set_ne ij] at h
      exact rs.val j e h
  own j hm e h := by
    have h : (m.g.set i none)[j]? = some (some (.own hm e)) := h
    by_cases ij : i = j
    · subst ij
      rw [List.getElem?_set] at h
      split at h <;> simp_all
    · rw [List.getElem?_set_ne ij] at h
      exact rs.own j hm e h
  inj j k hm e hm' e' a h1 h2 s1 s2 := by
    have h1 : (m.g.set i none)[j]? = some (some (.own hm e)) := h1
    have h2 : (m.g.set i none)[k]? = some (some (.own hm' e')) := h2
    have f : ∀ {j : Nat} {c : Cell}, (m.g.set i none)[j]? = some (some c) → m.g[j]? = some (some c) := fun {j c} h => by
      by_cases ij : i = j
      · subst ij
        rw [List.getElem?_set] at h
        split at h <;> simp_all
      · rwa [List.getElem?_set_ne ij] at h
    exact rs.inj j k hm e hm' e' a (f h1) (f h2) s1 s2
/-- a slot's object is given away: it is frozen -/
theorem RS.freeze {i : Nat} {h : Bool} {d : D} {a : Addr} (rs : RS K m) (hg : m.g[i]? = some (some (.own h d))) (hs : m.σ[i]? = some (some (.ref a))) :
    RS K { m with Av := zdel m.Av a, C := zdel m.C a, g := m.g.set i (some (.val d)) } ∧ Rep K (zdel m.Av a) m.H d (.ref a) := by
  obtain ⟨a', e, hc, o⟩ := rs.own i h d hg
  rw [hs] at e; cases e
  have sub : Keep m.Av m.H (zdel m.Av a) m.H := at_sub fun _ z => z.1
  have rp : Rep K (zdel m.Av a) m.H d (.ref a) := (o.imp rfl sub).rep fun z => z.2 rfl
  refine ⟨⟨by simp [rs.len], fun b z => rs.av b z.1, fun b z => ⟨rs.cav b z.1, z.2⟩, fun j e h' => ?_, fun j hm e h' => ?_, fun j k hm e hm' e' b h1 h2 s1 s2 => ?_⟩, rp⟩
  · have h' : (m.g.set i (some (.val d)))[j]? = some (some (.val e)) := h'
    by_cases ij : i = j
    · subst ij
      rw [List.getElem?_set_self (lt_of_get hg)] at h'; cases h'
      exact ⟨_, hs, rp⟩
    · rw [List.getElem?_set_ne ij] at h'
      obtain ⟨v, q1, q2⟩ := rs.val j e h'
      exact ⟨v, q1, Rep.imp sub _ _ q2⟩
  · have h2 : (m.g.set i (some (.val d)))[j]? = some (some (.own hm e)) := h'
    by_cases ij : i = j
    · subst ij
      rw [List.getElem?_set_self (lt_of_get hg)] at h2; cases h2
    · rw [List.getElem?_set_ne ij] at h2
      obtain ⟨b, q1, q2, q3⟩ := rs.own j hm e h2
      refine ⟨b, q1, ⟨q2, fun z => ?_⟩, q3.imp rfl sub⟩
      rw [z] at q1
      exact ij (rs.inj i j h d hm e a hg h2 hs q1)
  · have f : ∀ {j : Nat} {hm : Bool} {e : D}, (m.g.set i (some (.val d)))[j]? = some (some (.own hm e)) → m.g[j]? = some (some (.own hm e)) := fun {j hm e} h => by
      by_cases ij : i = j
      · subst ij
        rw [List.getElem?_set_self (lt_of_get hg)] at h; cases h
      · rwa [List.getElem?_set_ne ij] at h
    exact rs.inj j k hm e hm' e' b (f h1) (f h2) s1 s2
/-- given away -/
theorem Pend.frz {r : RV} {v : V} {d : D} {g' : Sg} (rs : RS K m) (h : Pend K m r v) (l : frz m.g r = some (d, g')) :
    ∃ m', m'.H = m.H ∧ m'.σ = m.σ ∧ m'.g = g' ∧ Step m m' ∧ RS K m' ∧ Rep K m'.Av m'.H d v := by
  cases r with
  | d d' => cases l; exact ⟨m, rfl, rfl, rfl, .refl m, rs, h⟩
  | new d' => cases l; exact ⟨m, rfl, rfl, rfl, .refl m, rs, h⟩
  | slot i =>
    have h : m.σ[i]? = some (some v) := h
    simp only [AW.frz] at l
    cases q : m.g[i]? with
    | none => rw [q] at l; cases l
    | some c =>
      rw [q] at l
      cases c with
      | none => cases l
      | some c =>
        cases c with
        | val d' =>
          cases l
          obtain ⟨v', e, r⟩ := rs.val i d q
          rw [h] at e; cases e
          exact ⟨m, rfl, rfl, rfl, .refl m, rs, r⟩
        | own hm d' =>
          cases hm with
          | true => cases l
          | false =>
            cases l
            obtain ⟨a, e, hc, o⟩ := rs.own i false d q
            rw [h] at e; cases e
            obtain ⟨r1, r2⟩ := rs.freeze q h
            refine ⟨{ m with Av := zdel m.Av a, C := zdel m.C a, g := m.g.set i (some (.val d)) }, rfl, rfl, rfl, ⟨fun _ _ h _ => h, fun _ h => h, fun b z => .inl z.1, fun b z => .inl z.1, fun b z nc => ⟨z, fun e => ?_⟩, fun j e h' => ⟨⟨e, ?_⟩, rfl⟩⟩, r1, r2⟩
            · subst e; exact nc hc
            · have h2 : (m.g.set i (some (.val d)))[j]? = some (some (.own true e)) := h'
              by_cases ij : i = j
              · subst ij
                rw [List.getElem?_set_self (lt_of_get q)] at h2; cases h2
              · rwa [List.getElem?_set_ne ij] at h2
end

/-! ### what is wanted -/
/-- an exception as it stands: class number, its argument -/
abbrev XRel := Zn → Hp → Nat → List D → Value → Option Addr → Prop
def Wp (K : Fg) (XR : XRel) (W : WX) {α β : Type} (rel : M → M → α → β → Prop) (m0 : M) (r : R α) (k : M → α → β → Prop) : Prop := match r with
  | .ok a g' => ∀ m b, m.σ = m0.σ → m.g = g' → Step m0 m → RS K m → rel m0 m a b → k m a b
  | .exc c p g' => ∀ m cls dx, m.σ = m0.σ → m.g = g' → Step m0 m → RS K m → XR m.Av m.H c p cls dx → W cls dx m.σ m.H
  | .stuck => False
section
variable {K : Fg} {XR : XRel} {W : WX} {α β γ δ : Type} {m0 : M}
/-- the second part's facts, told from the first part's beginning -/
def Early (rel : M → M → α → β → Prop) : Prop := ∀ m0 m1 m2 a b, (∀ x, m0.H x ≠ none → m1.H x ≠ none) → rel m1 m2 a b → rel m0 m2 a b
theorem Wp.bind {rel1 : M → M → α → β → Prop} {rel : M → M → γ → δ → Prop} {r : R α} {f : α → Sg → R γ} {k : M → γ → δ → Prop} (av : ∀ a, m0.Av a → m0.H a ≠ none) (hr : Early rel)
    (h : Wp K XR W rel m0 (r.bind f) k) : Wp K XR W rel1 m0 r (fun m1 a b => Wp K XR W rel m1 (f a m1.g) k) := by
  cases r with
  | stuck => exact h
  | exc c p g => exact h
  | ok a g' =>
    intro m b e1 e2 st rs _
    show Wp K XR W rel m (f a m.g) k
    rw [e2]
    have h : Wp K XR W rel m0 (f a g') k := h
    cases q : f a g' with
    | stuck => rw [q] at h; exact h
    | exc c p g2 =>
      rw [q] at h
      intro m2 cls dx e3 e4 st2 rs2 x
      exact h m2 cls dx (e3.trans e1) e4 (st.trans av st2) rs2 x
    | ok a2 g2 =>
      rw [q] at h
      intro m2 b2 e3 e4 st2 rs2 x
      exact h m2 b2 (e3.trans e1) e4 (st.trans av st2) rs2 (hr _ _ _ _ _ st.there x)
theorem Wp.mono {rel : M → M → α → β → Prop} {r : R α} {k k' : M → α → β → Prop} (h : Wp K XR W rel m0 r k) (hk : ∀ m a b, m.σ = m0.σ → Step m0 m → RS K m → rel m0 m a b → k m a b → k' m a b) : Wp K XR W rel m0 r k' := by
  cases r with
  | stuck => exact h
  | exc c p g => exact h
  | ok a g' => exact fun m b e1 e2 st rs x => hk m a b e1 st rs x (h m b e1 e2 st rs x)
theorem early_repR : Early (RepR K) := by
  intro m0 m1 m2 a b h x
  cases a with
  | d d => exact x
  | slot i => exact x
  | new d =>
    obtain ⟨p, e, n, q⟩ := x
    refine ⟨p, e, ?_, q⟩
    cases q : m0.H p with
    | none => rfl
    | some o => exact absurd n (h p (by rw [q]; simp))
end
def tE (K : Fg) (XR : XRel) (G : Env) (W : WX) (e : E) : TE := fun σ H Q => ∃ m, m.σ = σ ∧ m.H = H ∧ RS K m ∧ Wp K XR W (RepR K) m (ev G e m.g) fun m' _ v => Q v m'.H
/-- several values -/
def RepRs (K : Fg) (m0 m : M) : List RV → List V → Prop
  | [], vs => vs = []
  | r :: rs, vs => ∃ v ws, vs = v :: ws ∧ Pend K m r v ∧ RepRs K m0 m rs ws
def tA (K : Fg) (XR : XRel) (G : Env) (W : WX) (es : Es) : TA := fun σ H Q => ∃ m, m.σ = σ ∧ m.H = H ∧ RS K m ∧ Wp K XR W (RepRs K) m (evs G es m.g) fun m' _ vs => Q vs m'.H
/-- the truth of an expression -/
def evT (G : Env) (e : E) (σ : Sg) : R Bool := (ev G e σ).bind fun x σ1 => match look σ1 x with
  | some dx => R.of σ1 (truth dx)
  | none => .stuck
def tT (K : Fg) (XR : XRel) (G : Env) (W : WX) (e : E) : TT := fun σ H Q => ∃ m, m.σ = σ ∧ m.H = H ∧ RS K m ∧ Wp K XR W (fun _ _ (a b : Bool) => a = b) m (evT G e m.g) fun m' b _ => Q b m'.H
end AW

/-! P3: the operations. -/
namespace AW
open PySem PySem.Spec L2
abbrev Z0 : Zn := fun _ => False

/-! ### data for == -/
mutual
def toP : D → PyData
  | .non => .none
  | .bl b => .bool b
  | .int i => .int i
  | .str s => .str (sS s)
  | .tup l => .tuple (toPs l)
  | .lst l => .list (toPs l)
  | .dct _ _ _ => .none
  | .cst _ => .none
def toPs : List D → List PyData
  | [] => []
  | d :: l => toP d :: toPs l
end
theorem strOk_sS {s : List Nat} (h : okS s = true) : PyData.strOk (sS s) = true := by
  unfold PyData.strOk sS
  unfold okS at h
  rw [Bool.and_eq_true] at h
  simpa using h.2
theorem sS_beq (a b : List Nat) : (sS a == sS b) = (a == b) := by
  by_cases h : a = b
  · subst h; simp
  · have : sS a ≠ sS b := fun z => h (sS_inj z)
    rw [beq_eq_false_iff_ne.mpr this, beq_eq_false_iff_ne.mpr h]
theorem b2i_ite (b : Bool) : (if b = true then (1 : Int) else 0) = b2i b := by cases b <;> rfl
mutual
theorem eqv_toP : ∀ d e : D, dep d ≤ 60 → dep e ≤ 60 → PyData.eqv (toP d) (toP e) = eqD d e
  | .non, e, _, h => by cases e <;> first | rfl | (simp [dep] at h; done)
  | .bl a, e, _, h => by
    cases e <;> first | rfl | (simp [dep] at h; done) | simp [toP, PyData.eqv, eqD, b2i_ite]
  | .int a, e, _, h => by
    cases e <;> first | rfl | (simp [dep] at h; done) | simp [toP, PyData.eqv, eqD, b2i_ite]
  | .str a, e, _, h => by
    cases e <;> first | rfl | (simp [dep] at h; done) | skip
    simp [toP, PyData.eqv, eqD, sS_beq]
  | .tup a, e, g, h => by
    cases e <;> first | rfl | (simp [dep] at h; done) | skip
    rename_i b
    simp only [toP, PyData.eqv, eqD]
    exact eqvs_toP a b (by simp only [dep] at g; omega) (by simp only [dep] at h; omega)
  | .lst a, e, g, h => by
    cases e <;> first | rfl | (simp [dep] at h; done) | skip
    rename_i b
    simp only [toP, PyData.eqv, eqD]
    exact eqvs_toP a b (by simp only [dep] at g; omega) (by simp only [dep] at h; omega)
  | .dct _ _ _, _, g, _ => by simp [dep] at g
  | .cst _, _, g, _ => by simp [dep] at g
theorem eqvs_toP : ∀ d e : List D, depL d ≤ 60 → depL e ≤ 60 → PyData.eqvAll (toPs d) (toPs e) = eqDs d e
  | [], e, _, _ => by cases e <;> rfl
  | d :: l, e, g, h => by
    cases e with
    | nil => rfl
    | cons f m =>
      simp only [depL] at g h
      simp only [toPs, PyData.eqvAll, eqDs, eqv_toP d f (by omega) (by omega), eqvs_toP l m (by omega) (by omega)]
end
mutual
theorem depth_toP : ∀ d : D, (toP d).depth ≤ dep d
  | .non => by simp [toP, PyData.depth]
  | .bl a => by simp [toP, PyData.depth]
  | .int a => by simp [toP, PyData.depth]
  | .str a => by simp [toP, PyData.depth]
  | .tup a => by simp only [toP, PyData.depth, dep]; have := depths_toP a; omega
  | .lst a => by simp only [toP, PyData.depth, dep]; have := depths_toP a; omega
  | .dct _ _ _ => by simp [toP, PyData.depth]
  | .cst _ => by simp [toP, PyData.depth]
theorem depths_toP : ∀ d : List D, PyData.depthAll (toPs d) ≤ depL d
  | [] => by simp [toPs, PyData.depthAll]
  | d :: l => by
    simp only [toPs, PyData.depthAll, depL]
    have := depth_toP d
    have := depths_toP l
    omega
end
section
variable {K : Fg} {Av : Zn} {H : Hp}
mutual
theorem Rep.dp : ∀ (d : D) (v : V), dep d ≤ 60 → Rep K Av H d v → Dp K H v (toP d)
  | .non, _, _, r => by cases r; exact .non
  | .bl _, _, _, r => by cases r; exact .bl _
  | .int _, _, _, r => by cases r; exact .int _
  | .str _, _, _, r => by obtain ⟨rfl, _⟩ := r; exact .str _
  | .tup l, _, g, r => by
    obtain ⟨a, vs, rfl, q, r⟩ := r
    exact .tup (q.elim (fun z => .inl z.1) .inr) (Reps.dp l vs (by simp only [dep] at g; omega) r)
  | .lst l, _, g, r => by
    obtain ⟨a, vs, rfl, q, r⟩ := r
    exact .lst (.of q.1) (Reps.dp l vs (by simp only [dep] at g; omega) r)
  | .dct _ _ _, _, g, _ => by simp [dep] at g
  | .cst _, _, g, _ => by simp [dep] at g
theorem Reps.dp : ∀ (d : List D) (v : List V), depL d ≤ 60 → Reps K Av H d v → DpAll K H v (toPs d)
  | [], _, _, r => by cases r; exact .nil
  | d :: l, _, g, r => by
    obtain ⟨v, w, rfl, q1, q2⟩ := r
    simp only [depL] at g
    exact .cons (Rep.dp d v (by omega) q1) (Reps.dp l w (by omega) q2)
end
mutual
theorem Rep.lay : ∀ (d : D) (v : V), Rep K Av H d v → (toP d).canLay0 = true
  | .non, _, _ => rfl
  | .bl _, _, _ => rfl
  | .int _, _, _ => rfl
  | .str _, _, r => strOk_sS r.2
  | .tup l, _, r => by
    obtain ⟨a, vs, rfl, q, r⟩ := r
    exact Reps.lay l vs r
  | .lst l, _, r => by
    obtain ⟨a, vs, rfl, q, r⟩ := r
    exact Reps.lay l vs r
  | .dct _ _ _, _, _ => rfl
  | .cst _, _, _ => rfl
theorem Reps.lay : ∀ (d : List D) (v : List V), Reps K Av H d v → PyData.canLayAll0 (toPs d) = true
  | [], _, _ => rfl
  | d :: l, _, r => by
    obtain ⟨v, w, rfl, q1, q2⟩ := r
    simp only [toPs, PyData.canLayAll0, Rep.lay d v q1, Reps.lay l w q2, Bool.and_self]
end
/-- what may be read is a value with no zone -/
theorem RepV.rep0 {d : D} {v : V} (h : RepV K Av H d v) : Rep K Z0 H d v := by
  cases d with
  | lst l =>
    obtain ⟨a, vs, e, q, r⟩ := h
    exact ⟨a, vs, e, ⟨q, id⟩, Reps.imp (at_sub fun _ z => z.elim) _ _ r⟩
  | dct t ks l =>
    obtain ⟨a, vs, o, e, q1, q2, r⟩ := h
    exact ⟨a, vs, o, e, q1, ⟨q2, id⟩, Reps.imp (at_sub fun _ z => z.elim) _ _ r⟩
  | non => exact h
  | bl => exact h
  | int => exact h
  | str => exact h
  | tup => exact Rep.imp (at_sub fun _ z => z.elim) _ _ h
  | cst => exact Rep.imp (at_sub fun _ z => z.elim) _ _ h
theorem RepV.shaped {d : D} {v : V} (h : RepV K Av H d v) (g : dep d ≤ 60) : Dp K H v (toP d) ∧ SeqAt.shaped (toP d) = true := by
  refine ⟨Rep.dp d v g h.rep0, ?_⟩
  unfold SeqAt.shaped
  rw [Rep.lay d v h.rep0, Bool.true_and]
  exact decide_eq_true (by have := depth_toP d; omega)
/-- its items -/
theorem RepV.items {d : D} {v : V} {l : List D} (h : RepV K Av H d v) (e : items d = some l) : ∃ a vs, v = .ref a ∧ (SqL K H a vs ∨ SqT K H a vs) ∧ Reps K Av H l vs := by
  cases d with
  | lst l' =>
    cases e
    obtain ⟨a, vs, e, q, r⟩ := h
    exact ⟨a, vs, e, .inl (.of q), r⟩
  | tup l' =>
    cases e
    obtain ⟨a, vs, e, q, r⟩ := h
    exact ⟨a, vs, e, .inr (q.elim (fun z => .inl z.1) .inr), r⟩
  | dct t ks l => cases e
  | non => cases e
  | bl => cases e
  | int => cases e
  | str => cases e
  | cst => cases e
theorem Rep.tupIs {l : List D} {v : V} (h : Rep K Av H (.tup l) v) : ∃ a vs, v = .ref a ∧ SqT K H a vs ∧ Reps K Av H l vs := by
  obtain ⟨a, vs, e, q, r⟩ := h
  exact ⟨a, vs, e, q.elim (fun z => .inl z.1) .inr, r⟩
end

/-! ### what an operation gives -/
/-- all that was tracked stays, something may be new -/
def OpQ (K : Fg) (Av : Zn) (H : Hp) (r : RV) (Q : VK) : Prop := match r with
  | .d d => ∀ v H', Same H H' → Rep K Av H' d v → Q v H'
  | .new d => ∀ a H', Same H H' → H a = none → OwnAt K (zadd Av a) H' a d → Q (.ref a) H'
  | .slot _ => False
theorem Same.keep {H H' : Hp} (s : Same H H') {Av : Zn} (av : ∀ a, Av a → H a ≠ none) : Keep Av H Av H' := .of fun a o e n => ⟨s a o e, n⟩
theorem same_upd {H : Hp} {p : Addr} {o : HO} (h : H p = none) : Same H (upd H p o) := fun b x e => by
  rw [upd_ne (ne_of_none e h)]; exact e
section
variable {K : Fg} {Av : Zn} {H : Hp}
theorem rep_newTup {p : Addr} {l : List D} {vs : List V} (av : ∀ a, Av a → H a ≠ none) (n : H p = none) (r : Reps K Av H l vs) : Rep K Av (upd H p (.tup vs)) (.tup l) (.ref p) :=
  ⟨p, vs, rfl, .inl ⟨.inl upd_same, fun z => av p z n⟩, Reps.imp (Same.keep (same_upd n) av) _ _ r⟩
theorem own_newLst {p : Addr} {l : List D} {vs : List V} (av : ∀ a, Av a → H a ≠ none) (n : H p = none) (r : Reps K Av H l vs) : OwnAt K (zadd Av p) (upd H p (.lst vs)) p (.lst l) := by
  refine ⟨vs, upd_same, Reps.imp ?_ _ _ r⟩
  exact .of fun a o e q => ⟨same_upd n a o e, fun z => z.elim q fun w => by rw [w, n] at e; cases e⟩
theorem OpQ.newTup {p : Addr} {l : List D} {vs : List V} {Q : VK} (av : ∀ a, Av a → H a ≠ none) (n : H p = none) (r : Reps K Av H l vs) (q : OpQ K Av H (.d (.tup l)) Q) : Q (.ref p) (upd H p (.tup vs)) :=
  q _ _ (same_upd n) (rep_newTup av n r)
theorem OpQ.newLst {p : Addr} {l : List D} {vs : List V} {Q : VK} (av : ∀ a, Av a → H a ≠ none) (n : H p = none) (r : Reps K Av H l vs) (q : OpQ K Av H (.new (.lst l)) Q) : Q (.ref p) (upd H p (.lst vs)) :=
  q _ _ (same_upd n) n (own_newLst av n r)
theorem OpQ.here {d : D} {v : V} {Q : VK} (q : OpQ K Av H (.d d) Q) (r : Rep K Av H d v) : Q v H := q v H (Same.refl H) r
end
/-- a two-place operation, by data -/
def Op2 (X : Cx) (f : Value → Value → Sem Value) (g : D → D → Option RV) : Prop :=
  OpR X f fun x y H Q => ∃ Av d e r, (∀ a, Av a → H a ≠ none) ∧ RepV X.K Av H d x ∧ RepV X.K Av H e y ∧ g d e = some r ∧ OpQ X.K Av H r Q
theorem OpR.weak {X : Cx} {f : Value → Value → Sem Value} {r r' : R2} (h : OpR X f r) (w : ∀ x y H Q, r' x y H Q → r x y H Q) : OpR X f r' := fun pins s σ H x y v u Q I rx ry q => h pins s σ H x y v u Q I rx ry (w _ _ _ _ q)
theorem sS_app (a b : List Nat) : sS a ++ sS b = sS (a ++ b) := by
  show Str.append (sS a) (sS b) = _
  simp [Str.append, sS]
theorem sS_len (a : List Nat) : (sS a).length = a.length := by simp [sS, Str.length]
theorem okS_iff {s : List Nat} : okS s = true ↔ s.length ≤ line ∧ ∀ c ∈ s, c < 0x110000 := by simp [okS]
theorem okS_app {a b : List Nat} (hz : a.length + b.length ≤ line) (h : okS a = true) (g : okS b = true) : okS (a ++ b) = true := by
  rw [okS_iff] at *
  refine ⟨by rw [List.length_append]; exact hz, fun c hc => (List.mem_append.mp hc).elim (h.2 c) (g.2 c)⟩
theorem line_eq : sizeLine = line := rfl
section
variable {X : Cx}
/-- list + list of tracked lists -/
theorem add_ok : Op2 X (binaryOp .Add) (binD .add) := by
  intro pins s σ H x y v u Q I rx ry h
  obtain ⟨Av, d, e, r, av, rd, re, g, q⟩ := h
  cases d with
  | int i =>
    cases e with
    | int j =>
      cases g; cases rd; cases re
      exact op_add pins s σ H _ _ v u Q I rx ry ⟨i, j, rfl, rfl, q.here rfl⟩
    | _ => cases g
  | str a =>
    cases e with
    | str b =>
      simp only [binD] at g
      split at g
      · rename_i hz
        cases g
        obtain ⟨rfl, o1⟩ := rd
        obtain ⟨rfl, o2⟩ := re
        refine op_add_str pins s σ H _ _ v u Q I rx ry ⟨_, _, rfl, rfl, by rw [sS_len, sS_len]; exact hz, ?_⟩
        rw [sS_app]
        exact q.here ⟨rfl, okS_app hz o1 o2⟩
      · cases g
    | _ => cases g
  | tup a =>
    cases e with
    | tup b =>
      simp only [binD] at g
      split at g
      · rename_i hz
        cases g
        have rd' : Rep X.K Av H (.tup a) x := rd
        have re' : Rep X.K Av H (.tup b) y := re
        obtain ⟨p1, xs, rfl, q1, r1⟩ := rd'.tupIs
        obtain ⟨p2, ys, rfl, q2, r2⟩ := re'.tupIs
        refine op_catA pins s σ H _ _ v u Q I rx ry ⟨_, _, xs, ys, rfl, rfl, q1, q2, ?_, fun z => ?_, fun z1 z2 => ?_, fun _ _ p n => ?_⟩
        · rw [← r1.length, ← r2.length]; exact hz
        · subst z
          have : a = [] := by have := r1.length; simpa using this
          subst this
          exact q.here re'
        · subst z2
          have : b = [] := by have := r2.length; simpa using this
          subst this
          exact q.here (by rw [List.append_nil]; exact rd')
        · exact q.newTup av n (r1.append r2)
      · cases g
    | _ => cases g
  | lst a =>
    cases e with
    | lst b =>
      simp only [binD] at g
      split at g
      · rename_i hz
        cases g
        obtain ⟨p1, xs, rfl, q1, r1⟩ := rd
        obtain ⟨p2, ys, rfl, q2, r2⟩ := re
        refine op_cat pins s σ H _ _ v u Q I rx ry ⟨_, _, xs, ys, rfl, rfl, q1, q2, by rw [← r1.length, ← r2.length]; exact hz, fun p n => q.newLst av n (r1.append r2)⟩
      · cases g
    | _ => cases g
  | non => cases g
  | bl => cases g
  | dct => cases g
  | cst => cases g
theorem intOp_ok {o : BOp} {f : Value → Value → Sem Value} {C : Int → Int → Prop} {F : Int → Int → Int} (op : OpR X f (rI C fun i j => .int (F i j)))
    (hg : ∀ d e r, binD o d e = some r → ∃ i j, d = .int i ∧ e = .int j ∧ C i j ∧ r = .d (.int (F i j))) : Op2 X f (binD o) := by
  intro pins s σ H x y v u Q I rx ry h
  obtain ⟨Av, d, e, r, av, rd, re, g, q⟩ := h
  obtain ⟨i, j, rfl, rfl, c, rfl⟩ := hg d e r g
  cases rd; cases re
  exact op pins s σ H _ _ v u Q I rx ry ⟨i, j, rfl, rfl, c, q.here rfl⟩
theorem sub_ok : Op2 X (binaryOp .Sub) (binD .sub) := by
  refine intOp_ok (C := fun _ _ => True) (F := fun i j => i - j) (OpR.weak op_sub fun x y H Q ⟨i, j, e1, e2, _, q⟩ => ⟨i, j, e1, e2, q⟩) fun d e r g => ?_
  cases d <;> cases e <;> first | (cases g; exact ⟨_, _, rfl, rfl, trivial, rfl⟩) | cases g
theorem mul_ok : Op2 X (binaryOp .Mult) (binD .mul) := by
  refine intOp_ok op_mul fun d e r g => ?_
  cases d <;> cases e <;> first | cases g | (simp only [binD] at g; split at g <;> first | (rename_i h; cases g; exact ⟨_, _, rfl, rfl, h, rfl⟩) | cases g)
theorem fdv_ok : Op2 X (binaryOp .FloorDiv) (binD .fdv) := by
  refine intOp_ok op_fdivN fun d e r g => ?_
  cases d <;> cases e <;> first | cases g | (simp only [binD] at g; split at g <;> first | (rename_i h; cases g; exact ⟨_, _, rfl, rfl, h, rfl⟩) | cases g)
theorem mod_ok : Op2 X (binaryOp .Mod) (binD .mod) := by
  refine intOp_ok op_modN fun d e r g => ?_
  cases d <;> cases e <;> first | cases g | (simp only [binD] at g; split at g <;> first | (rename_i h; cases g; exact ⟨_, _, rfl, rfl, h, rfl⟩) | cases g)
theorem pow_ok : Op2 X (binaryOp .Pow) (binD .pow) := by
  refine intOp_ok op_pow fun d e r g => ?_
  cases d <;> cases e <;> first | cases g | (simp only [binD] at g; split at g <;> first | (rename_i h; cases g; exact ⟨_, _, rfl, rfl, h, rfl⟩) | cases g)
/-- the operator of the text -/
def bopOf : BOp → Operator
  | .add => .Add | .sub => .Sub | .mul => .Mult | .fdv => .FloorDiv | .mod => .Mod | .pow => .Pow
theorem bin_ok (o : BOp) : Op2 X (binaryOp (bopOf o)) (binD o) := by
  cases o with
  | add => exact add_ok
  | sub => exact sub_ok
  | mul => exact mul_ok
  | fdv => exact fdv_ok
  | mod => exact mod_ok
  | pow => exact pow_ok
end
end AW

/-! P4: comparisons. -/
namespace AW
open PySem PySem.Spec L2
theorem ltS_iff : ∀ a b : List Nat, ltS a b = decide (a < b)
  | [], [] => by simp [ltS]
  | [], _ :: _ => by simp [ltS]
  | _ :: _, [] => by simp [ltS]
  | a :: as, b :: bs => by
    unfold ltS
    rw [ltS_iff as bs]
    by_cases h : a = b
    · subst h; simp
    · rw [if_neg h]; simp [List.cons_lt_cons_iff, h]
theorem sS_cps (a : List Nat) : (sS a).cps.toList = a := rfl
section
variable {X : Cx} {pins : List (Addr × Obj)} {σ : L2.St} {H : Hp} {s : Shared} {Av : Zn}
theorem room60 {A : Around} {n : Nat} {d e : PyData} (h : A.units + n < cLine) (hd : d.depth ≤ n) : A.units + min d.depth e.depth < cLine := by omega
theorem eqAt_rep (I : Inv X pins σ H s) {A : Around} {n : Nat} {d e : D} {x y : V} {v u : Value} (hn : n ≤ 60) (hu : A.units + n < cLine) (hd : dep d ≤ n) (he : dep e ≤ 60)
    (rd : Rep X.K Av H d x) (re : Rep X.K Av H e y) (rx : RelV x v) (ry : RelV y u) : SeqAt.EqAt A s v u (eqD d e) := by
  obtain ⟨as, h1⟩ := Dp.reads I _ x v (Rep.dp d x (by omega) rd) rx
  obtain ⟨bs, h2⟩ := Dp.reads I _ y u (Rep.dp e y he re) ry
  rw [← eqv_toP d e (by omega) he]
  exact SeqAt.eqAt_reads _ _ A s v u as bs h1 h2 (Rep.lay d x rd) (Rep.lay e y re) (by have := depth_toP d; omega)
theorem isTuple_of {h : Heap} {a : Addr} {items : Array Value} (x : PyProof.Rows.IsTup h a items) : h.IsTuple a items := by
  obtain ⟨o, h1, h2, n, h3⟩ := x
  exact ⟨o, h1, h2, n, h3⟩
theorem lexAt_ltDs {xs ys : List D} {e r : Nat → Bool} : ∀ (k i : Nat) (b : Bool), k = min xs.length ys.length - i → i ≤ min xs.length ys.length →
    ltDs (xs.drop i) (ys.drop i) = some b →
    (∀ (j : Nat) (x y : D), xs[j]? = some x → ys[j]? = some y → e j = eqD x y) → (∀ (j : Nat) (x y : D) (c : Bool), xs[j]? = some x → ys[j]? = some y → eqD x y = false → ltD x y = some c → r j = c) →
    Ob.lexAt e r (decide (xs.length < ys.length)) i k = b := by
  intro k
  induction k with
  | zero =>
    intro i b hk hi h he hr
    rw [Ob.lexAt_zero]
    by_cases hx : xs.length ≤ i
    · rw [List.drop_of_length_le hx] at h
      by_cases hy : ys.length ≤ i
      · rw [List.drop_of_length_le hy] at h
        cases h
        exact decide_eq_false (by omega)
      · rw [List.drop_eq_getElem_cons (by omega : i < ys.length)] at h
        cases h
        exact decide_eq_true (by omega)
    · rw [List.drop_eq_getElem_cons (by omega : i < xs.length), List.drop_of_length_le (by omega : ys.length ≤ i)] at h
      cases h
      exact decide_eq_false (by omega)
  | succ k ih =>
    intro i b hk hi h he hr
    have h1 : i < xs.length := by omega
    have h2 : i < ys.length := by omega
    rw [List.drop_eq_getElem_cons h1, List.drop_eq_getElem_cons h2] at h
    simp only [ltDs] at h
    cases hr' : ltDs (xs.drop (i + 1)) (ys.drop (i + 1)) with
    | none => rw [hr'] at h; cases h
    | some c =>
    rw [hr'] at h
    simp only at h
    rw [Ob.lexAt_succ, he i xs[i] ys[i] (List.getElem?_eq_getElem h1) (List.getElem?_eq_getElem h2)]
    by_cases q : eqD xs[i] ys[i] = true
    · rw [if_pos q] at h ⊢
      split at h
      · cases h
        exact ih (i + 1) _ (by omega) (by omega) hr' he hr
      · cases h
    · rw [if_neg q] at h ⊢
      exact hr i _ _ b (List.getElem?_eq_getElem h1) (List.getElem?_eq_getElem h2) (by simpa using q) h
theorem ltDs_all : ∀ {l m : List D} {b : Bool}, ltDs l m = some b → ∀ (j : Nat) (x y : D), l[j]? = some x → m[j]? = some y → eqD x y = false → ∃ c, ltD x y = some c
  | [], _, _, _, j, x, y, e1, _, _ => by simp at e1
  | _ :: _, [], _, _, j, x, y, _, e2, _ => by simp at e2
  | a :: l, c :: m, b, h, j, x, y, e1, e2, q => by
    simp only [ltDs] at h
    cases hr : ltDs l m with
    | none => rw [hr] at h; cases h
    | some r =>
      rw [hr] at h
      cases j with
      | zero =>
        simp at e1 e2
        subst e1 e2
        simp only [q] at h
        exact ⟨b, h⟩
      | succ j => exact ltDs_all hr j x y (by simpa using e1) (by simpa using e2) q
theorem depL_mem : ∀ {l : List D} {d : D}, d ∈ l → dep d ≤ depL l
  | x :: l, d, h => by
    simp only [depL]
    rcases List.mem_cons.mp h with rfl | h
    · omega
    · have := depL_mem h; omega
theorem depL_get {l : List D} {d : D} {i : Nat} (h : l[i]? = some d) : dep d ≤ depL l := depL_mem (List.mem_of_getElem? h)
theorem rcLt_rep (I : Inv X pins σ H s) : ∀ (n : Nat), n ≤ 60 → ∀ (A : Around) (d e : D) (b : Bool) (x y : V) (v u : Value), A.units + n < cLine → dep d ≤ n → dep e ≤ 60 → ltD d e = some b → Rep X.K Av H d x → Rep X.K Av H e y →
    RelV x v → RelV y u → Ob.RcOp .Lt A s v u b := by
  intro n
  induction n with
  | zero =>
    intro hn A d e b x y v u hu hd he h rd re rx ry
    cases d with
    | int i =>
      cases e with
      | int j =>
        cases h; cases rd; cases re
        obtain ⟨t, rfl⟩ := rx
        obtain ⟨t', rfl⟩ := ry
        exact Ob.RcOp.lt_int i j t t'
      | _ => cases h
    | str a =>
      cases e with
      | str c =>
        cases h
        obtain ⟨rfl, _⟩ := rd
        obtain ⟨rfl, _⟩ := re
        obtain ⟨t, rfl⟩ := rx
        obtain ⟨t', rfl⟩ := ry
        rw [ltS_iff]
        exact fun prog w E Q q => PySem.P.lt_str q
      | _ => cases h
    | tup l => simp [dep] at hd
    | non => cases h
    | bl => cases h
    | lst => cases h
    | dct => cases h
    | cst => cases h
  | succ n ih =>
    intro hn A d e b x y v u hu hd he h rd re rx ry
    cases d with
    | int i =>
      cases e with
      | int j =>
        cases h; cases rd; cases re
        obtain ⟨t, rfl⟩ := rx
        obtain ⟨t', rfl⟩ := ry
        exact Ob.RcOp.lt_int i j t t'
      | _ => cases h
    | str a =>
      cases e with
      | str c =>
        cases h
        obtain ⟨rfl, _⟩ := rd
        obtain ⟨rfl, _⟩ := re
        obtain ⟨t, rfl⟩ := rx
        obtain ⟨t', rfl⟩ := ry
        rw [ltS_iff]
        exact fun prog w E Q q => PySem.P.lt_str q
      | _ => cases h
    | tup l =>
      cases e with
      | tup m =>
        simp only [dep] at hd he
        obtain ⟨p1, xs, rfl, q1, r1⟩ := Rep.tupIs rd
        obtain ⟨p2, ys, rfl, q2, r2⟩ := Rep.tupIs re
        cases rx
        cases ry
        obtain ⟨its, v1, t1, _⟩ := I.tuple q1
        obtain ⟨its2, v2, t2, _⟩ := I.tuple q2
        have l1 : its.toArray.size = l.length := by rw [List.size_toArray, r1.length, v1.length]
        have l2 : its2.toArray.size = m.length := by rw [List.size_toArray, r2.length, v2.length]
        have hA : A.in1.units = A.units + 1 := rfl
        have gets : ∀ (j : Nat) (h1 : j < its.toArray.size), ∃ d x, l[j]? = some d ∧ Rep X.K Av H d x ∧ RelV x its.toArray[j] := fun j h1 => by
          have hj : j < l.length := by omega
          obtain ⟨x, e1, e2⟩ := r1.get (List.getElem?_eq_getElem hj)
          obtain ⟨u, e3, e4⟩ := v1.get e1
          refine ⟨_, x, List.getElem?_eq_getElem hj, e2, ?_⟩
          have : its.toArray[j] = u := by
            have hh : its[j]'(by simpa using h1) = u := Option.some.inj ((List.getElem?_eq_getElem _).symm.trans e3)
            simpa using hh
          rw [this]; exact e4
        have gets2 : ∀ (j : Nat) (h1 : j < its2.toArray.size), ∃ d x, m[j]? = some d ∧ Rep X.K Av H d x ∧ RelV x its2.toArray[j] := fun j h1 => by
          have hj : j < m.length := by omega
          obtain ⟨x, e1, e2⟩ := r2.get (List.getElem?_eq_getElem hj)
          obtain ⟨u, e3, e4⟩ := v2.get e1
          refine ⟨_, x, List.getElem?_eq_getElem hj, e2, ?_⟩
          have : its2.toArray[j] = u := by
            have hh : its2[j]'(by simpa using h1) = u := Option.some.inj ((List.getElem?_eq_getElem _).symm.trans e3)
            simpa using hh
          rw [this]; exact e4
        have key := Ob.RcOp.tuples_lt (A := A) (s := s) (l := p1) (b := p2) (items := its.toArray) (items2 := its2.toArray)
          (e := fun j => match l[j]?, m[j]? with | some x, some y => eqD x y | _, _ => true) (r := fun j => match l[j]?, m[j]? with | some x, some y => (ltD x y).getD false | _, _ => true)
          (isTuple_of t1) (isTuple_of t2) (by omega) (fun j h1 h2 => ?_) (fun j h1 h2 hej => ?_)
        · have hb : Ob.lexAt (fun j => match l[j]?, m[j]? with | some x, some y => eqD x y | _, _ => true) (fun j => match l[j]?, m[j]? with | some x, some y => (ltD x y).getD false | _, _ => true)
              (decide (l.length < m.length)) 0 (min l.length m.length) = b := by
            refine lexAt_ltDs _ 0 b (by omega) (by omega) (by simpa [ltD] using h) (fun j x y e1 e2 => ?_) (fun j x y c e1 e2 _ e3 => ?_)
            · simp only [e1, e2]
            · simp only [e1, e2, e3, Option.getD_some]
          rw [l1, l2, hb] at key
          exact key
        · obtain ⟨d1, x1, e1, f1, g1⟩ := gets j h1
          obtain ⟨d2, x2, e2, f2, g2⟩ := gets2 j h2
          simp only [e1, e2]
          exact eqAt_rep I (n := n) (by omega) (by omega) (by have := depL_get e1; omega) (by have := depL_get e2; omega) f1 f2 g1 g2
        · obtain ⟨d1, x1, e1, f1, g1⟩ := gets j h1
          obtain ⟨d2, x2, e2, f2, g2⟩ := gets2 j h2
          simp only [e1, e2] at hej ⊢
          cases hc : ltD d1 d2 with
          | some c =>
            exact ih (by omega) A.in1 d1 d2 c x1 x2 _ _ (by omega) (by have := depL_get e1; omega) (by have := depL_get e2; omega) hc f1 f2 g1 g2
          | none =>
            obtain ⟨c, hc'⟩ := ltDs_all (show ltDs l m = some b from h) j d1 d2 e1 e2 hej
            rw [hc] at hc'; cases hc'
      | _ => cases h
    | non => cases h
    | bl => cases h
    | lst => cases h
    | dct => cases h
    | cst => cases h
end

/-! ### the operators -/
/-- a comparison, by data -/
def Cmp2 (X : Cx) (op : CmpOp) (o : COp) : Prop :=
  OpR X (compareOp op) fun x y H Q => ∃ Av d e b, RepV X.K Av H d x ∧ RepV X.K Av H e y ∧ cmpD o d e = some b ∧ Q (.bl b) H
theorem toPs_any (x : D) : ∀ l : List D, dep x ≤ 60 → depL l ≤ 60 → ((toPs l).any fun z => PyData.eqv z (toP x)) = l.any fun y => eqD y x
  | [], _, _ => rfl
  | d :: l, h, g => by
    simp only [depL] at g
    simp only [toPs, List.any_cons, eqv_toP d x (by omega) h, toPs_any x l h (by omega)]
section
variable {X : Cx}
theorem eq_ok (hu : X.A.units + 64 < cLine) : Cmp2 X .Eq .eq := by
  intro pins s σ H x y v u Q I rx ry h
  obtain ⟨Av, d, e, b, rd, re, g, q⟩ := h
  simp only [cmpD] at g
  split at g
  · rename_i hz
    cases g
    obtain ⟨a1, a2⟩ := rd.shaped hz.1
    obtain ⟨b1, b2⟩ := re.shaped hz.2
    exact op_eqD hu pins s σ H x y v u Q I rx ry ⟨_, _, a1, b1, a2, b2, by rw [eqv_toP d e hz.1 hz.2]; exact q⟩
  · cases g
theorem ne_ok (hu : X.A.units + 64 < cLine) : Cmp2 X .NotEq .ne := by
  intro pins s σ H x y v u Q I rx ry h
  obtain ⟨Av, d, e, b, rd, re, g, q⟩ := h
  simp only [cmpD] at g
  split at g
  · rename_i hz
    cases g
    obtain ⟨a1, a2⟩ := rd.shaped hz.1
    obtain ⟨b1, b2⟩ := re.shaped hz.2
    exact op_neD hu pins s σ H x y v u Q I rx ry ⟨_, _, a1, b1, a2, b2, by rw [eqv_toP d e hz.1 hz.2]; exact q⟩
  · cases g
theorem ord_ok (o : COp) (op : CmpOp) (hi : OpR X (compareOp op) fun x y H Q => ∃ i j b, x = .int i ∧ y = .int j ∧ ordD o (.int i) (.int j) = some b ∧ Q (.bl b) H)
    (hs : OpR X (compareOp op) fun x y H Q => ∃ i j b, x = .str (sS i) ∧ y = .str (sS j) ∧ ordD o (.str i) (.str j) = some b ∧ Q (.bl b) H)
    (ht : OpR X (compareOp op) fun x y H Q => ∃ Av l m b, Rep X.K Av H (.tup l) x ∧ Rep X.K Av H (.tup m) y ∧ ordD o (.tup l) (.tup m) = some b ∧ Q (.bl b) H)
    (ho : ∀ d e, cmpD o d e = ordD o d e) : Cmp2 X op o := by
  intro pins s σ H x y v u Q I rx ry h
  obtain ⟨Av, d, e, b, rd, re, g, q⟩ := h
  rw [ho] at g
  cases d with
  | int i =>
    cases e with
    | int j => cases rd; cases re; exact hi pins s σ H _ _ v u Q I rx ry ⟨i, j, b, rfl, rfl, g, q⟩
    | _ => cases g
  | str i =>
    cases e with
    | str j =>
      obtain ⟨rfl, _⟩ := rd
      obtain ⟨rfl, _⟩ := re
      exact hs pins s σ H _ _ v u Q I rx ry ⟨i, j, b, rfl, rfl, g, q⟩
    | _ => cases g
  | tup l =>
    cases e with
    | tup m => exact ht pins s σ H _ _ v u Q I rx ry ⟨Av, l, m, b, rd, re, g, q⟩
    | _ => cases g
  | non => cases g
  | bl => cases g
  | lst => cases g
  | dct => cases g
  | cst => cases g
theorem lt_ok (hu : X.A.units + 64 < cLine) : Cmp2 X .Lt .lt := by
  refine ord_ok .lt .Lt (OpR.weak op_lt fun x y H Q h => ?_) (OpR.weak op_lt_str fun x y H Q h => ?_) ?_ (fun _ _ => rfl)
  · obtain ⟨i, j, b, rfl, rfl, g, q⟩ := h
    cases g
    exact ⟨i, j, rfl, rfl, q⟩
  · obtain ⟨i, j, b, rfl, rfl, g, q⟩ := h
    cases g
    exact ⟨_, _, rfl, rfl, by rw [sS_cps, sS_cps, ← ltS_iff]; exact q⟩
  · intro pins s σ H x y v u Q I rx ry h
    obtain ⟨Av, l, m, b, rd, re, g, q⟩ := h
    simp only [ordD] at g
    split at g
    · rename_i hz
      exact rcLt_rep I 60 (Nat.le_refl _) X.A (.tup l) (.tup m) b x y v u (by omega) hz.1 hz.2 (by simpa [ltD] using g) rd re rx ry X.prog X.w X.xe _ ⟨.bl b, H, I, rfl, q⟩
    · cases g
theorem no_tup {o : COp} {op : CmpOp} (h : ∀ l m, ordD o (.tup l) (.tup m) = none) : OpR X (compareOp op) fun x y H Q => ∃ Av l m b, Rep X.K Av H (.tup l) x ∧ Rep X.K Av H (.tup m) y ∧ ordD o (.tup l) (.tup m) = some b ∧ Q (.bl b) H := by
  intro pins s σ H x y v u Q I rx ry z
  obtain ⟨Av, l, m, b, rd, re, g, q⟩ := z
  rw [h] at g; cases g
theorem le_ok : Cmp2 X .LtE .le := by
  refine ord_ok .le .LtE (OpR.weak op_le fun x y H Q h => ?_) (OpR.weak op_le_str fun x y H Q h => ?_) (no_tup fun _ _ => rfl) (fun _ _ => rfl)
  · obtain ⟨i, j, b, rfl, rfl, g, q⟩ := h
    cases g
    exact ⟨i, j, rfl, rfl, q⟩
  · obtain ⟨i, j, b, rfl, rfl, g, q⟩ := h
    cases g
    exact ⟨_, _, rfl, rfl, by rw [sS_cps, sS_cps, ← ltS_iff]; exact q⟩
theorem gt_ok : Cmp2 X .Gt .gt := by
  refine ord_ok .gt .Gt (OpR.weak op_gt fun x y H Q h => ?_) (OpR.weak op_gt_str fun x y H Q h => ?_) (no_tup fun _ _ => rfl) (fun _ _ => rfl)
  · obtain ⟨i, j, b, rfl, rfl, g, q⟩ := h
    cases g
    exact ⟨i, j, rfl, rfl, q⟩
  · obtain ⟨i, j, b, rfl, rfl, g, q⟩ := h
    cases g
    exact ⟨_, _, rfl, rfl, by rw [sS_cps, sS_cps, ← ltS_iff]; exact q⟩
theorem ge_ok : Cmp2 X .GtE .ge := by
  refine ord_ok .ge .GtE (OpR.weak op_ge fun x y H Q h => ?_) (OpR.weak op_ge_str fun x y H Q h => ?_) (no_tup fun _ _ => rfl) (fun _ _ => rfl)
  · obtain ⟨i, j, b, rfl, rfl, g, q⟩ := h
    cases g
    exact ⟨i, j, rfl, rfl, q⟩
  · obtain ⟨i, j, b, rfl, rfl, g, q⟩ := h
    cases g
    exact ⟨_, _, rfl, rfl, by rw [sS_cps, sS_cps, ← ltS_iff]; exact q⟩
end

/-! ### dicts by keys -/
/-- the key of a value -/
def keyOf : D → Option Key
  | .int i => some (.inl i)
  | .str s => some (.inr (sS s))
  | _ => none
def keysOf : List D → Option (List Key)
  | [] => some []
  | d :: l => match keyOf d, keysOf l with
    | some k, some r => some (k :: r)
    | _, _ => none
theorem kD_inj {k k' : Key} (h : kD k = kD k') : k = k' := by
  cases k with
  | inl i =>
    cases k' with
    | inl j => cases h; rfl
    | inr y => cases h
  | inr x =>
    cases k' with
    | inl j => cases h
    | inr y =>
      have h : D.str x.cps.toList = D.str y.cps.toList := h
      injection h with h
      have : x.cps = y.cps := Array.toList_inj.mp h
      cases x; cases y; simp_all
theorem keyOf_kD {d : D} {k : Key} (h : keyOf d = some k) : d = kD k := by
  cases d <;> cases h <;> rfl
theorem keyOf_some {t : Bool} {d : D} (h : isKey t d = true) (ht : t = false) : ∃ k, keyOf d = some k := by
  subst ht
  cases d with
  | int i => exact ⟨_, rfl⟩
  | str s => exact ⟨_, rfl⟩
  | _ => simp [isKey] at h
theorem eqD_kD (k k' : Key) : eqD (kD k) (kD k') = decide (k = k') := by
  cases k with
  | inl i =>
    cases k' with
    | inl j => simp [kD, eqD]; by_cases h : i = j <;> simp [h]
    | inr y => simp [kD, eqD]
  | inr x =>
    cases k' with
    | inl j => simp [kD, eqD]
    | inr y =>
      simp only [kD, eqD]
      by_cases h : x = y
      · subst h; simp
      · have : ¬ x.cps = y.cps := fun z => h (by cases x; cases y; simp_all)
        simp [h, this]
theorem eqD_tupK : ∀ k k' : List Key, eqD (.tup (k.map kD)) (.tup (k'.map kD)) = decide (k = k')
  | [], [] => by simp [eqD, eqDs]
  | [], _ :: _ => by simp [eqD, eqDs]
  | _ :: _, [] => by simp [eqD, eqDs]
  | a :: k, b :: k' => by
    have ih := eqD_tupK k k'
    simp only [eqD] at ih
    simp only [eqD, List.map_cons, eqDs, ih, eqD_kD]
    by_cases h : a = b <;> by_cases h2 : k = k' <;> simp [h, h2]
theorem keysOf_kD : ∀ {l : List D} {k : List Key}, keysOf l = some k → l = k.map kD
  | [], _, h => by cases h; rfl
  | d :: l, _, h => by
    simp only [keysOf] at h
    split at h
    · rename_i k r e1 e2
      cases h
      rw [List.map_cons, ← keyOf_kD e1, ← keysOf_kD e2]
    · cases h
theorem keysOf_some : ∀ {l : List D}, (l.all fun d => match d with | .int _ => true | .str _ => true | _ => false) = true → ∃ k, keysOf l = some k
  | [], _ => ⟨[], rfl⟩
  | d :: l, h => by
    rw [List.all_cons, Bool.and_eq_true] at h
    obtain ⟨r, e⟩ := keysOf_some h.2
    have : ∃ k, keyOf d = some k := by
      cases d with
      | int i => exact ⟨_, rfl⟩
      | str s => exact ⟨_, rfl⟩
      | _ => simp at h
    obtain ⟨k, e1⟩ := this
    exact ⟨k :: r, by simp only [keysOf, e1, e]⟩
theorem dget_val {κ : Type} [DecidableEq κ] (f : κ → D) (hf : ∀ a b, eqD (f a) (f b) = decide (a = b)) {K : Fg} {Av : Zn} {H : Hp} (k : κ) : ∀ (kvs : List (κ × V)) (l : List D), Reps K Av H l (kvs.map (·.2)) →
    (∀ d, dget (kvs.map fun p => f p.1) l (f k) = some d → ∃ v, valV kvs k = some v ∧ Rep K Av H d v) ∧ (dget (kvs.map fun p => f p.1) l (f k) = none → valV kvs k = none)
  | [], l, r => ⟨fun d h => by simp [dget] at h, fun _ => valV_nil⟩
  | p :: kvs, l, r => by
    rw [List.map_cons] at r
    cases l with
    | nil => cases r
    | cons e l =>
      obtain ⟨v, w, e1, r1, r2⟩ := r
      injection e1 with e1 e2
      subst e1 e2
      obtain ⟨ih1, ih2⟩ := dget_val f hf k kvs l r2
      by_cases h : p.1 = k
      · refine ⟨fun d hd => ⟨p.2, valV_pos h, ?_⟩, fun hn => ?_⟩
        · simp only [List.map_cons, dget, hf, h, decide_true, if_true] at hd
          cases hd; exact r1
        · simp [List.map_cons, dget, hf, h] at hn
      · have e3 : dget ((p :: kvs).map fun p => f p.1) (e :: l) (f k) = dget (kvs.map fun p => f p.1) l (f k) := by
          simp [dget, hf, h]
        rw [e3, valV_neg h]
        exact ⟨ih1, ih2⟩
/-- a key's value, as the layer's dicts take it -/
theorem rep_key {K : Fg} {Av : Zn} {H : Hp} {d : D} {y : V} {k : Key} (r : Rep K Av H d y) (e : keyOf d = some k) : y = kV k := by
  cases d <;> cases e
  · exact r
  · exact r.1
theorem reps_keys {K : Fg} {Av : Zn} {H : Hp} : ∀ {l : List D} {vs : List V} {k : List Key}, Reps K Av H l vs → keysOf l = some k → vs = k.map kV
  | [], _, _, r, e => by cases r; cases e; rfl
  | d :: l, _, _, r, e => by
    obtain ⟨v, w, rfl, r1, r2⟩ := r
    simp only [keysOf] at e
    split at e
    · rename_i k r e1 e2
      cases e
      rw [List.map_cons, rep_key r1 e1, reps_keys r2 e2]
    · cases e
end AW

/-! P5: in, is, subscripts, slices. -/
namespace AW
open PySem PySem.Spec L2
section
variable {X : Cx} {pins : List (Addr × Obj)} {σ : L2.St} {H : Hp} {s : Shared} {Av : Zn}
theorem shaped_list {K : Fg} {l : List D} {vs : List V} (r : Reps K Av H l vs) (g : depL l ≤ 59) : SeqAt.shaped (.list (toPs l)) = true := by
  unfold SeqAt.shaped
  show (PyData.canLayAll0 (toPs l) && _) = true
  rw [Reps.lay l vs r, Bool.true_and]
  have := depths_toP l
  exact decide_eq_true (by simp only [PyData.depth]; omega)
/-- x in a tuple -/
theorem in_tup {d : D} {l : List D} {x y : V} {v u : Value} {Q : Value → Shared → Prop} {E : Value → Shared → Prop} (hu : X.A.units + 65 < cLine) (I : Inv X pins σ H s) (rx : RelV x v) (ry : RelV y u) (g : dep d ≤ 60) (g2 : dep (.tup l) ≤ 60)
    (rd : RepV X.K Av H d x) (re : Rep X.K Av H (.tup l) y) : (Q (.bool (l.any fun z => eqD z d)) s → wpAny (model X.prog X.w) X.A (compareOp .In v u) Q E s) ∧ (Q (.bool (!l.any fun z => eqD z d)) s → wpAny (model X.prog X.w) X.A (compareOp .NotIn v u) Q E s) := by
  obtain ⟨as, r1⟩ := Dp.reads I _ x v (Rep.dp d x g rd.rep0) rx
  obtain ⟨bs, r2⟩ := Dp.reads I _ y u (Rep.dp (.tup l) y g2 re) ry
  simp only [dep] at g2
  have e := toPs_any d l g (by omega)
  have lay := Rep.lay (.tup l) y re
  have dd := depth_toP d
  refine ⟨fun q => SeqAt.in_tuple_reads r2 r1 lay (Rep.lay d x rd.rep0) (by omega) (by rw [e]; exact q), fun q => SeqAt.notIn_tuple_reads r2 r1 lay (Rep.lay d x rd.rep0) (by omega) (by rw [e]; exact q)⟩
/-- what a dict tells of a key -/
theorem dget_ok {K : Fg} {ks l : List D} {x y : V} {d : D} (rd : RepV K Av H (.dct false ks l) x) (re : RepV K Av H d y) (hk : isKey false d = true) :
    ∃ a o, x = .ref a ∧ DGet H a y o ∧ (∀ e, dget ks l d = some e → ∃ v, o = some v ∧ Rep K Av H e v) ∧ (dget ks l d = none → o = none) := by
  obtain ⟨a, vs, o, rfl, hd, hr, r⟩ := rd
  obtain ⟨_, hd⟩ := hd
  rw [if_neg Bool.false_ne_true] at hd
  obtain ⟨kvs, rfl, rfl, rfl⟩ := hd
  obtain ⟨k, ek⟩ := keyOf_some hk rfl
  have ey : y = kV k := by
    cases d <;> cases ek
    · exact re
    · exact re.1
  have edk := keyOf_kD ek
  subst edk
  obtain ⟨f1, f2⟩ := dget_val kD eqD_kD k kvs l r
  exact ⟨a, valV kvs k, rfl, .inl ⟨kvs, k, hr, ey, rfl⟩, f1, f2⟩
end
section
variable {X : Cx}
theorem dct_key {t : Bool} {d : D} (h : isKey t d = true) : t = false := by
  cases t with
  | false => rfl
  | true => cases d <;> simp [isKey] at h
theorem mem_both (hu : X.A.units + 65 < cLine) : Cmp2 X .In .mem ∧ Cmp2 X .NotIn .nmem := by
  have key : ∀ (neg : Bool), OpR X (compareOp (if neg then .NotIn else .In)) fun x y H Q => ∃ Av d e b, RepV X.K Av H d x ∧ RepV X.K Av H e y ∧ memD d e = some b ∧ Q (.bl (if neg then !b else b)) H := by
    intro neg pins s σ H x y v u Q I rx ry h
    obtain ⟨Av, d, e, b, rd, re, g, q⟩ := h
    cases e with
    | lst l =>
      simp only [memD] at g
      split at g
      · rename_i hz
        cases g
        simp only [dep] at hz
        obtain ⟨a1, a2⟩ := rd.shaped hz.1
        obtain ⟨a, vs, rfl, hl, r⟩ := re
        have dl : Dp X.K H (.ref a) (.list (toPs l)) := .lst (.of hl) (Reps.dp l vs (by omega) r)
        have sl := shaped_list r (by omega)
        have e := toPs_any d l hz.1 (by omega)
        cases neg with
        | false => exact op_inD hu pins s σ H x _ v u Q I rx ry ⟨_, _, a1, dl, a2, sl, by rw [e]; exact q⟩
        | true => exact op_notInD hu pins s σ H x _ v u Q I rx ry ⟨_, _, a1, dl, a2, sl, by rw [e]; exact q⟩
      · cases g
    | tup l =>
      simp only [memD] at g
      split at g
      · rename_i hz
        cases g
        obtain ⟨h1, h2⟩ := in_tup (Q := EP X pins σ Q) (E := X.xe) hu I rx ry hz.1 hz.2 rd re
        cases neg with
        | false => exact h1 ⟨.bl _, H, I, rfl, q⟩
        | true => exact h2 ⟨.bl _, H, I, rfl, q⟩
      · cases g
    | dct t ks l =>
      simp only [memD] at g
      split at g
      · rename_i hk
        cases g
        have := dct_key hk
        subst this
        obtain ⟨a, o, rfl, dg, f1, f2⟩ := dget_ok re rd hk
        have eo : o.isSome = (dget ks l d).isSome := by
          cases hd : dget ks l d with
          | none => rw [f2 hd]; rfl
          | some e => obtain ⟨v', e', _⟩ := f1 e hd; rw [e']; rfl
        cases ry
        cases neg with
        | false => exact d_in (by omega) I dg rx fun s' I' => ⟨.bl _, H, I', rfl, by rw [eo]; exact q⟩
        | true => exact d_notIn (by omega) I dg rx fun s' I' => ⟨.bl _, H, I', rfl, by rw [eo]; exact q⟩
      · cases g
    | str z =>
      cases d with
      | str c =>
        match c, g with
        | [c], g =>
          cases g
          obtain ⟨rfl, _⟩ := rd
          obtain ⟨rfl, _⟩ := re
          have ec : decide (c ∈ (sS z).cps.toList) = z.contains c := by
            rw [sS_cps]
            by_cases h : c ∈ z <;> simp [h]
          cases neg with
          | false => exact op_in_sign pins s σ H _ _ v u Q I rx ry ⟨c, _, rfl, rfl, by rw [ec]; exact q⟩
          | true => exact op_notIn_sign pins s σ H _ _ v u Q I rx ry ⟨c, _, rfl, rfl, by rw [ec]; exact q⟩
      | _ => cases g
    | non => cases g
    | bl => cases g
    | int => cases g
    | cst => cases g
  refine ⟨fun pins s σ H x y v u Q I rx ry h => ?_, fun pins s σ H x y v u Q I rx ry h => ?_⟩
  · obtain ⟨Av, d, e, b, rd, re, g, q⟩ := h
    exact key false pins s σ H x y v u Q I rx ry ⟨Av, d, e, b, rd, re, g, q⟩
  · obtain ⟨Av, d, e, b, rd, re, g, q⟩ := h
    simp only [cmpD] at g
    cases hm : memD d e with
    | none => rw [hm] at g; cases g
    | some c =>
      rw [hm] at g; cases g
      exact key true pins s σ H x y v u Q I rx ry ⟨Av, d, e, c, rd, re, hm, q⟩
/-- the operator of the text -/
def copOf : COp → CmpOp
  | .eq => .Eq | .ne => .NotEq | .lt => .Lt | .le => .LtE | .gt => .Gt | .ge => .GtE | .mem => .In | .nmem => .NotIn
theorem cmp_ok (hu : X.A.units + 65 < cLine) (o : COp) : Cmp2 X (copOf o) o := by
  cases o with
  | eq => exact eq_ok (by omega)
  | ne => exact ne_ok (by omega)
  | lt => exact lt_ok (by omega)
  | le => exact le_ok
  | gt => exact gt_ok
  | ge => exact ge_ok
  | mem => exact (mem_both hu).1
  | nmem => exact (mem_both hu).2
/-- is, is not against None, True, False -/
theorem is_ok (neg : Bool) (c : D) (w : V) (hc : c = .non ∧ w = .non ∨ ∃ b, c = .bl b ∧ w = .bl b) :
    OpR X (compareOp (if neg then .IsNot else .Is)) fun x y H Q => y = w ∧ ∃ Av d b, Rep X.K Av H d x ∧ isKD neg c d = some b ∧ Q (.bl b) H := by
  intro pins s σ H x y v u Q I rx ry h
  obtain ⟨rfl, Av, d, b, rd, g, q⟩ := h
  rcases hc with ⟨rfl, rfl⟩ | ⟨t, rfl, rfl⟩
  · have e : decide (x = V.non) = (match d with | .non => true | _ => false) := by
      cases d with
      | non => cases rd; rfl
      | bl => cases rd; rfl
      | int => cases rd; rfl
      | str => obtain ⟨rfl, _⟩ := rd; rfl
      | tup => obtain ⟨a, vs, rfl, _⟩ := rd; rfl
      | lst => obtain ⟨a, vs, rfl, _⟩ := rd; rfl
      | dct => obtain ⟨a, vs, o, rfl, _⟩ := rd; rfl
      | cst => obtain ⟨a, vs, rfl, _⟩ := rd; rfl
    have eb : b = if neg then !(decide (x = V.non)) else decide (x = V.non) := by
      rw [e]
      cases d <;> cases g <;> cases neg <;> rfl
    subst eb
    cases neg with
    | false => exact op_isN pins s σ H x _ v u Q I rx ry ⟨rfl, q⟩
    | true => exact op_notN pins s σ H x _ v u Q I rx ry ⟨rfl, q⟩
  · cases d with
    | bl a =>
      cases g
      cases rd
      cases neg with
      | false => exact op_isBl pins s σ H _ _ v u Q I rx ry ⟨a, t, rfl, rfl, q⟩
      | true => exact op_notBl pins s σ H _ _ v u Q I rx ry ⟨a, t, rfl, rfl, q⟩
    | _ => cases g

/-! ### subscripts -/
theorem reps_atI {K : Fg} {Av : Zn} {H : Hp} {l : List D} {vs : List V} {i : Int} {d : D} (r : Reps K Av H l vs) (h : atI l i = some d) : ∃ v, atI vs i = some v ∧ Rep K Av H d v := by
  unfold atI at *
  rw [← r.length]
  cases hn : ixN l.length i with
  | none => rw [hn] at h; cases h
  | some j =>
    rw [hn] at h
    obtain ⟨v, e1, e2⟩ := r.get (i := j) (by simpa using h)
    exact ⟨v, by simpa using e1, e2⟩
theorem mem_of_atI {α : Type} {l : List α} {i : Int} {d : α} (h : atI l i = some d) : d ∈ l := by
  unfold atI at h
  cases hn : ixN l.length i with
  | none => rw [hn] at h; cases h
  | some j => rw [hn] at h; exact List.mem_of_getElem? (by simpa using h)
theorem idx_ok (hu : X.A.units + 65 < cLine) : IxR X fun x y H Q => ∃ Av d e r, RepV X.K Av H d x ∧ RepV X.K Av H e y ∧ idxD d e = some r ∧ ∀ v, Rep X.K Av H r v → Q v H := by
  intro value slice pins s σ H x y v u Q I rx ry h hs
  obtain ⟨Av, d, e, r, rd, re, g, q⟩ := h
  have seq : ∀ {l : List D} {i : Int} {a : Addr} {vs : List V}, Reps X.K Av H l vs → atI l i = some r → ∃ w, atI vs i = some w ∧ Q w H := fun rl hl => by
    obtain ⟨w, e1, e2⟩ := reps_atI rl hl
    exact ⟨w, e1, q w e2⟩
  cases d with
  | lst l =>
    cases e with
    | int i =>
      cases re
      obtain ⟨a, vs, rfl, hl, rl⟩ := rd
      obtain ⟨w, e1, e2⟩ := seq (a := a) rl g
      exact ix_list value slice pins s σ H _ _ v u Q I rx ry ⟨a, vs, i, w, rfl, rfl, .of hl, e1, e2⟩ hs
    | _ => cases g
  | cst l =>
    cases e with
    | int i =>
      cases re
      obtain ⟨a, vs, rfl, hl, rl⟩ := rd
      obtain ⟨w, e1, e2⟩ := seq (a := a) rl g
      exact ix_list value slice pins s σ H _ _ v u Q I rx ry ⟨a, vs, i, w, rfl, rfl, hl.elim (fun z => .inl z.1) .inr, e1, e2⟩ hs
    | _ => cases g
  | tup l =>
    cases e with
    | int i =>
      cases re
      obtain ⟨a, vs, rfl, hl, rl⟩ := rd
      obtain ⟨w, e1, e2⟩ := seq (a := a) rl g
      exact ix_tup value slice pins s σ H _ _ v u Q I rx ry ⟨a, vs, i, w, rfl, rfl, hl.elim (fun z => .inl z.1) .inr, e1, e2⟩ hs
    | _ => cases g
  | str z =>
    cases e with
    | int i =>
      cases re
      obtain ⟨rfl, oz⟩ := rd
      simp only [idxD] at g
      cases hc : atI z i with
      | none => rw [hc] at g; cases g
      | some c =>
        rw [hc] at g; cases g
        have oz' := okS_iff.mp oz
        refine ix_str value slice pins s σ H _ _ v u Q I rx ry ⟨sS z, i, c, rfl, rfl, by rw [sS_len]; exact oz'.1, by rw [sS_cps]; exact hc, q _ ⟨rfl, ?_⟩⟩ hs
        rw [okS_iff]
        exact ⟨by simp [line], fun c' h => by rw [List.mem_singleton.mp h]; exact oz'.2 c (mem_of_atI hc)⟩
    | _ => cases g
  | dct t ks l =>
    simp only [idxD] at g
    split at g
    · rename_i hk
      have := dct_key hk
      subst this
      obtain ⟨a, o, rfl, dg, f1, f2⟩ := dget_ok rd re hk
      obtain ⟨w, rfl, rw'⟩ := f1 r g
      cases rx
      exact PyProof.Rows.tail_any (dict_typeIs I dg) PySem.F.slot_dict_getitem.lookup (d_getItem (by omega) I dg ry fun w' s' I' rr => ⟨w, H, I', rr, q w rw'⟩) hs
    · cases g
  | non => cases g
  | bl => cases g
  | int => cases g

/-! ### slices -/
theorem cut_reps {K : Fg} {Av : Zn} {H : Hp} {l : List D} {vs : List V} (r : Reps K Av H l vs) (lo hi : Option Int) : Reps K Av H (cutL l lo hi) (cutV vs lo hi) := by
  unfold cutL cutV
  rw [← r.length]
  exact (r.drop _).take _
theorem cut_okS {z : List Nat} (h : okS z = true) (lo hi : Option Int) : okS (cutL z lo hi) = true := by
  rw [okS_iff] at *
  unfold cutL
  refine ⟨?_, fun c hc => h.2 c (List.mem_of_mem_drop (List.mem_of_mem_take hc))⟩
  rw [List.length_take, List.length_drop]
  have := h.1
  omega
theorem cut_whole {α : Type} {l : List α} {lo hi : Option Int} (h : HT.sIx l.length 0 lo = 0 ∧ HT.sIx l.length l.length hi = l.length) : cutL l lo hi = l := by
  unfold cutL
  rw [h.1, h.2]
  simp
theorem sl_str_of {X : Cx} : SlR X fun x lo hi H Q => ∃ z, x = .str (sS z) ∧ z.length ≤ line ∧ Q (.str (sS (cutL z lo hi))) H := by
  refine fun pins s σ H x v vl vu lo hi sl Q I rx hs pl pu h => ?_
  obtain ⟨z, rfl, hz, q⟩ := h
  refine sl_str pins s σ H _ v vl vu lo hi sl Q I rx hs pl pu ⟨sS z, rfl, by rw [sS_len]; exact hz, ?_⟩
  exact q
/-- x[lo:hi], by data -/
theorem slc_ok : SlR X fun x lo hi H Q => ∃ Av d r, (∀ a, Av a → H a ≠ none) ∧ RepV X.K Av H d x ∧ slcD d lo hi = some r ∧ OpQ X.K Av H r Q := by
  refine fun pins s σ H x v vl vu lo hi sl Q I rx hs pl pu h => ?_
  obtain ⟨Av, d, r, av, rd, g, q⟩ := h
  cases d with
  | lst l =>
    cases g
    obtain ⟨a, vs, rfl, hl, rl⟩ := rd
    exact sl_list pins s σ H _ v vl vu lo hi sl Q I rx hs pl pu ⟨a, vs, rfl, .of hl, fun p n => q.newLst av n (cut_reps rl lo hi)⟩
  | tup l =>
    cases g
    obtain ⟨a, vs, rfl, hl, rl⟩ := Rep.tupIs rd
    refine sl_tupA pins s σ H _ v vl vu lo hi sl Q I rx hs pl pu ⟨a, vs, rfl, hl, fun w => ?_, fun w p n => q.newTup av n (cut_reps rl lo hi)⟩
    rw [← rl.length] at w
    exact q.here (by rw [cut_whole w]; exact rd)
  | str z =>
    cases g
    obtain ⟨rfl, oz⟩ := rd
    exact sl_str_of pins s σ H _ v vl vu lo hi sl Q I rx hs pl pu ⟨z, rfl, (okS_iff.mp oz).1, q.here ⟨rfl, cut_okS oz lo hi⟩⟩
  | non => cases g
  | bl => cases g
  | int => cases g
  | dct => cases g
  | cst => cases g
end

/-! ### x[::-1] -/
section
variable {prog : Program} {w : World} {A : Around} {E : Value → Shared → Prop} {s : Shared}
theorem adjust_rev (n : Nat) : Builtin.Slice.sliceAdjust none none (-1) (n : Int) = ((n : Int) - 1, -1) := by
  unfold Builtin.Slice.sliceAdjust
  simp
theorem places_rev (n : Nat) : Builtin.Slice.slicePlaces ((n : Int) - 1) (-1) (-1) = n := by
  unfold Builtin.Slice.slicePlaces
  simp
  omega
theorem congr_filterMap {α β : Type} {f g : α → Option β} : ∀ {l : List α}, (∀ a ∈ l, f a = g a) → l.filterMap f = l.filterMap g
  | [], _ => rfl
  | a :: l, h => by
    have ih := congr_filterMap (l := l) fun b hb => h b (List.mem_cons_of_mem _ hb)
    simp only [List.filterMap_cons, h a List.mem_cons_self, ih]
theorem pick_rev (xs : Array Value) : ((List.range xs.size).filterMap fun (k : Nat) => xs[((xs.size : Int) - 1 + (k : Int) * (-1)).toNat]?).toArray = xs.toList.reverse.toArray := by
  congr 1
  refine List.ext_getElem? fun i => ?_
  have h1 : ((List.range xs.size).filterMap fun (k : Nat) => xs[((xs.size : Int) - 1 + (k : Int) * (-1)).toNat]?) = (List.range xs.size).filterMap fun k => xs[xs.size - 1 - k]? := by
    refine congr_filterMap fun k hk => ?_
    have := List.mem_range.mp hk
    have e : ((xs.size : Int) - 1 + (k : Int) * (-1)).toNat = xs.size - 1 - k := by omega
    rw [e]
  have h2 : ((List.range xs.size).filterMap fun k => xs[xs.size - 1 - k]?) = (List.range xs.size).map fun k => xs.getD (xs.size - 1 - k) .none := by
    rw [← List.filterMap_eq_map]
    refine congr_filterMap fun k hk => ?_
    have hk := List.mem_range.mp hk
    have hlt : xs.size - 1 - k < xs.size := by omega
    simp [Array.getD, hlt]
  rw [h1, h2]
  by_cases hi : i < xs.size
  · have hlt : xs.size - 1 - i < xs.size := by omega
    rw [List.getElem?_map, List.getElem?_range hi, List.getElem?_reverse (by simpa using hi)]
    simp [Array.getD, hlt]
  · rw [List.getElem?_eq_none (by simp; omega), List.getElem?_eq_none (by simp; omega)]
section
open PyProof.Rows HT
theorem tuple_back {t sl : Addr} {xs : Array Value} {a b c : Value} {Q : Value → Shared → Prop} (ht : PyProof.Rows.IsTup s.heap t xs) (hs : s.heap.IsSliceOf sl a b c)
    (pa : IsPart a none) (pb : IsPart b none) (pc : IsPart c (some (-1))) (hz : xs.size ≤ sizeLine)
    (h : Q (.ref s.heap.objs.size) { s with heap := s.heap.push { cls := .type "tuple", data := .seq xs.toList.reverse.toArray } }) :
    wpAny (model prog w) A (getItem (.ref t) (.ref sl)) Q E s := by
  have ok : sizeOk (.seq xs.toList.reverse.toArray) := by show _ ≤ _; simpa using hz
  obtain ⟨o, ho, hc, hd⟩ := id hs
  have isS : s.TypeIs (.ref sl) "slice" := ⟨o, ho, hc⟩
  have parts : ∀ {Q' : Int × Int × Nat → Shared → Prop}, Q' ((xs.size : Int) - 1, -1, xs.size) s → wpAny (model prog w) (A.in1) (Builtin.Slice.sliceApplied (.ref sl) (pure (xs.size : Int))) Q' E s ∧
      ∀ (A' : Around) (E' : Value → Shared → Prop), wpAny (model prog w) A' (Builtin.Slice.sliceApplied (.ref sl) (pure (xs.size : Int))) Q' E' s := fun {Q'} q => by
    have go : ∀ (A' : Around) (E' : Value → Shared → Prop), wpAny (model prog w) A' (Builtin.Slice.sliceApplied (.ref sl) (pure (xs.size : Int))) Q' E' s := fun A' E' => by
      unfold Builtin.Slice.sliceApplied Builtin.Slice.sliceFields
      refine wpAny_bind (wpAny_bind (wpAny_field ho hd (x := a) rfl (wpAny_bind
        (wpAny_field ho hd (x := b) rfl (wpAny_bind (wpAny_field ho hd (x := c) rfl (wpAny_pure ?_)))))))
      refine wpAny_bind (slicePart_ pc ?_)
      show wpAny _ _ (if ((-1 : Int) == 0) = true then _ else _) _ _ s
      rw [if_neg (by decide)]
      refine wpAny_bind (slicePart_ pa (wpAny_bind (slicePart_ pb
        (wpAny_bind (wpAny_pure ?_)))))
      show wpAny _ _ (match Builtin.Slice.sliceAdjust none none (-1) (xs.size : Int) with | (lo, hi) => pure (lo, (-1 : Int), Builtin.Slice.slicePlaces lo hi (-1))) _ _ s
      rw [adjust_rev]
      show wpAny _ _ (pure ((xs.size : Int) - 1, (-1 : Int), Builtin.Slice.slicePlaces ((xs.size : Int) - 1) (-1) (-1))) _ _ s
      rw [places_rev]
      exact wpAny_pure q
    exact ⟨go _ _, go⟩
  unfold getItem
  try with_reducible refine wpAny_holding ?_
  first
    | refine wpAny_bind (wpAny_pure ?_)
    | skip
  refine wpAny_bind (wpAny_sequenceKey ht.typeIs (by decide) ?_)
  refine wpAny_bind (wpAny_callSpecial?_slot (name := Str.ofString "__getitem__") ht.typeIs
    slot_tuple_getitem (wpAny_call_entry slot_tuple_getitem ht.typeIs entry_tuple_getitem ?_ (args_tuple_getitem _ _)))
  show wpAny _ _ (Builtin.Tuple.tupleItemsOf (.ref t) >>= _) _ _ s
  refine wpAny_bind (tupleItemsOf_ ht ?_)
  refine wpAny_bind (wpAny_typeOf isS ?_)
  rw [if_pos (by decide)]
  refine wpAny_bind ((parts ?_).2 _ _)
  show wpAny _ _ (if (((xs.size : Int) - 1) == 0 && (-1 : Int) == 1 && xs.size == xs.size) = true then _ else _) _ _ s
  rw [if_neg (by simp), pick_rev]
  first
    | exact wpAny_bind (m := Builtin.Tuple.tupleExact _) (wpAny_newObj_type (wpAny_pure
        ⟨_, rfl, wpAny_pure h⟩) ok)
    | exact wpAny_bind (m := Builtin.Tuple.tupleExact _) (wpAny_newObj_type (wpAny_bind (wpAny_pure (wpAny_pure
        ⟨_, rfl, wpAny_pure h⟩))) ok)
    | exact wpAny_bind (wpAny_bind (m := Builtin.Tuple.tupleExact _) (wpAny_newObj_type (wpAny_pure (wpAny_pure
        ⟨_, rfl, wpAny_pure h⟩)) ok))
    | exact wpAny_bind (wpAny_bind (m := Builtin.Tuple.tupleExact _) (wpAny_newObj_type (wpAny_pure
        ⟨_, rfl, wpAny_pure h⟩) ok))
end
end
section
variable {X : Cx}
/-- e[::-1] -/
def tBack (K : Fg) (te : TE) : TE := fun σ H Q => te σ H fun x H1 => ∃ Av d r, (∀ a, Av a → H1 a ≠ none) ∧ RepV K Av H1 d x ∧ revD d = some r ∧ (∀ z, d ≠ .str z) ∧ OpQ K Av H1 r Q
theorem pe_back {e : Expr} {te : TE} {k : Nat} {p1 p2 p3 pos : Pos} (he : PE X e te) :
    PE X (.Subscript e (.Slice none none (some (.UnaryOp .USub (.Constant (.int 1) k p1) p2)) p3) pos) (tBack X.K te) := by
  refine ⟨fun pins s σ H Q I h => ?_⟩
  refine PyProof.Rows.Subscript_ (thn (he.run pins s σ H _ I h) fun v s1 ⟨x, H1, I1, r1, q1⟩ => ?_)
  obtain ⟨Av, d, r, av, rd, g, ns, q⟩ := q1
  have minus : PO X (some (.UnaryOp .USub (.Constant (.int 1) k p1) p2)) (tPart (tUn (rU fun i => .int (-i)) (tC (.int 1)))) := po_some (pe_un un_neg pe_int)
  refine wpAny_Slice (thn (po_none.run pins s1 σ H1 (fun o H2 => o = none ∧ H2 = H1) I1 ⟨rfl, rfl⟩)
    fun vl s2 ⟨l, H2, I2, pl, el, e2⟩ => ?_)
  subst el e2
  refine thn (po_none.run pins s2 σ H2 (fun o H3 => o = none ∧ H3 = H2) I2 ⟨rfl, rfl⟩)
    fun vu s3 ⟨u, H3, I3, pu, eu, e3⟩ => ?_
  subst eu e3
  refine thn (minus.run pins s3 σ H3 (fun o H4 => o = some (-1) ∧ H4 = H3) I3 ⟨1, rfl, -1, rfl, rfl, rfl⟩)
    fun vs s4 ⟨o, H4, I4, ps, eo, e4⟩ => ?_
  subst eo e4
  have I5 : L2.Inv X pins σ H4 { s4 with heap := s4.heap.push { cls := .type "slice", data := .fields #[vl, vu, vs] } } :=
    I4.kept (t' := s4.toks) fun b ob q => Heap.get?_push_of_some _ q
  show wpAny _ _ (PyProof.Rows.subscriptTail e (.Slice none none (some (.UnaryOp .USub (.Constant (.int 1) k p1) p2)) p3) v (.ref s4.heap.objs.size)) _ _ _
  cases d with
  | lst l =>
    cases g
    obtain ⟨a, xs, rfl, hl, rl⟩ := rd
    cases r1
    obtain ⟨its, r, ht, hz⟩ := I5.list (.of hl)
    have hlen := r.length
    refine PyProof.Rows.tail_any (ops := [.ref a, .ref s4.heap.objs.size]) ht.isList.typeIs
      PySem.slot_list_getitem.lookup ?_ (by with_unfolding_all rfl)
    refine wpAny_getItem_list_slice ht.isList (Heap.IsSliceOf.new _ vl vu vs) pl pu ps (by decide) ?_
      (by rw [List.size_toArray]; omega)
    rw [PySem.W.krv_pick]
    refine ⟨.ref _, _, I5.laid (t' := s4.toks) (o := .lst xs.reverse) (fun b ob q => Heap.get?_push_of_some _ q)
      (Nat.le_refl _) ?_, rfl, q.newLst av (I5.hok.fresh (Nat.le_refl _)) rl.reverse⟩
    exact ⟨by rw [List.length_reverse]; exact hz, _, 0, r.reverse, Heap.get?_push_size _ rfl⟩
  | tup l =>
    cases g
    obtain ⟨a, xs, rfl, hl, rl⟩ := Rep.tupIs rd
    cases r1
    obtain ⟨its, r, ht, hz⟩ := I5.tuple hl
    have hlen := r.length
    refine PyProof.Rows.tail_any (ops := [.ref a, .ref s4.heap.objs.size]) ht.typeIs
      PyProof.Rows.slot_tuple_getitem.lookup ?_ (by with_unfolding_all rfl)
    refine tuple_back ht (Heap.IsSliceOf.new _ vl vu vs) pl pu ps (by rw [List.size_toArray]; omega) ?_
    refine ⟨.ref _, _, I5.laid (t' := s4.toks) (o := .tup xs.reverse) (fun b ob q => Heap.get?_push_of_some _ q)
      (Nat.le_refl _) ?_, rfl, q.newTup av (I5.hok.fresh (Nat.le_refl _)) rl.reverse⟩
    refine ⟨by rw [List.length_reverse]; exact hz, _, r.reverse, ?_⟩
    exact PyProof.Rows.IsTup.new _ _
  | str z => exact absurd rfl (ns z)
  | non => cases g
  | bl => cases g
  | int => cases g
  | dct => cases g
  | cst => cases g
end
end AW

/-! P6: built-in calls. -/
namespace AW
open PySem PySem.Spec L2
def RepVs (K : Fg) (Av : Zn) (H : Hp) : List D → List V → Prop
  | [], vs => vs = []
  | d :: l, vs => ∃ v r, vs = v :: r ∧ RepV K Av H d v ∧ RepVs K Av H l r
def bQ (K : Fg) (b : Bi) : List V → Hp → VK → Prop := fun xs H Q => ∃ Av ds r, (∀ a, Av a → H a ≠ none) ∧ RepVs K Av H ds xs ∧ biD b ds = some r ∧ OpQ K Av H r Q
section
variable {X : Cx}
theorem bi1 {b : Bi} {f : Value} (h1 : ∀ ds r, biD b ds = some r → ∃ d, ds = [d])
    (h : ∀ (pins : List (Addr × Obj)) (s : Shared) (σ : L2.St) (H : Hp) (x : V) (us : List Value) (Q : VK) (Av : Zn) (d : D) (r : RV), L2.Inv X pins σ H s → Vals [x] us → (∀ a, Av a → H a ≠ none) → RepV X.K Av H d x → biD b [d] = some r → OpQ X.K Av H r Q →
      wpAny (model X.prog X.w) X.A (PySem.call f us) (EP X pins σ Q) X.xe s) : CallR X f (bQ X.K b) := by
  intro pins s σ H xs us Q I r ⟨Av, ds, rv, av, rd, g, q⟩
  obtain ⟨d, rfl⟩ := h1 ds rv g
  obtain ⟨x, w, rfl, rx, e⟩ := rd
  cases e
  exact h pins s σ H x us Q Av d rv I r av rx g q
theorem RepV.seq {K : Fg} {Av : Zn} {H : Hp} {d : D} {v : V} (h : RepV K Av H d v) : match d with
    | .lst l => ∃ a vs, v = .ref a ∧ SqL K H a vs ∧ Reps K Av H l vs
    | .cst l => ∃ a vs, v = .ref a ∧ SqL K H a vs ∧ Reps K Av H l vs
    | .tup l => ∃ a vs, v = .ref a ∧ SqT K H a vs ∧ Reps K Av H l vs
    | _ => True := by
  cases d with
  | lst l => obtain ⟨a, vs, e, q, r⟩ := h; exact ⟨a, vs, e, .of q, r⟩
  | cst l => obtain ⟨a, vs, e, q, r⟩ := h; exact ⟨a, vs, e, q.elim (fun z => .inl z.1) .inr, r⟩
  | tup l => exact Rep.tupIs h
  | _ => trivial
theorem dict_len {t : Bool} {K : Fg} {Av : Zn} {H : Hp} {ks l : List D} {v : V} (h : RepV K Av H (.dct t ks l) v) (ht : t = false) : ∃ a kvs, v = .ref a ∧ Rd H a (.dK kvs) ∧ kvs.length = ks.length := by
  subst ht
  obtain ⟨a, vs, o, rfl, ⟨_, hd⟩, hr, _⟩ := h
  rw [if_neg Bool.false_ne_true] at hd
  obtain ⟨kvs, rfl, rfl, rfl⟩ := hd
  exact ⟨a, kvs, rfl, hr, by simp⟩
theorem len_ok : CallR X (.builtin "len") (bQ X.K .len) := by
  refine bi1 (fun ds r g => ?_) fun pins s σ H x us Q Av d r I rv av rd g q => ?_
  · match ds, g with
    | [d], _ => exact ⟨d, rfl⟩
  · cases d with
    | lst l =>
      cases g
      obtain ⟨a, vs, rfl, hl, rl⟩ := RepV.seq rd
      exact call_len_seq pins s σ H _ us Q I rv ⟨a, vs, rfl, .inl hl, by rw [← rl.length]; exact q.here rfl⟩
    | cst l =>
      cases g
      obtain ⟨a, vs, rfl, hl, rl⟩ := RepV.seq rd
      exact call_len_seq pins s σ H _ us Q I rv ⟨a, vs, rfl, .inl hl, by rw [← rl.length]; exact q.here rfl⟩
    | tup l =>
      cases g
      obtain ⟨a, vs, rfl, hl, rl⟩ := RepV.seq rd
      exact call_len_seq pins s σ H _ us Q I rv ⟨a, vs, rfl, .inr hl, by rw [← rl.length]; exact q.here rfl⟩
    | str z =>
      cases g
      obtain ⟨rfl, oz⟩ := rd
      exact call_len_str pins s σ H _ us Q I rv ⟨_, rfl, by rw [sS_len]; exact (okS_iff.mp oz).1, by rw [sS_len]; exact q.here rfl⟩
    | dct t ks l =>
      cases t with
      | false =>
        cases g
        obtain ⟨a, kvs, rfl, hr, hl⟩ := dict_len rd rfl
        obtain ⟨u, rfl, ru⟩ := vals1 rv
        cases ru
        exact d_len I hr fun t s' I' => ⟨.int kvs.length, H, I', ⟨t, rfl⟩, by rw [hl]; exact q.here rfl⟩
      | true => cases g
    | non => cases g
    | bl => cases g
    | int => cases g
theorem tuple_ok : CallR X (.type "tuple") (bQ X.K .tuple) := by
  refine bi1 (fun ds r g => ?_) fun pins s σ H x us Q Av d r I rv av rd g q => ?_
  · match ds, g with
    | [d], _ => exact ⟨d, rfl⟩
  · cases d with
    | lst l =>
      cases g
      obtain ⟨a, vs, rfl, hl, rl⟩ := RepV.seq rd
      exact call_tuple_of pins s σ H _ us Q I rv ⟨a, vs, rfl, .inl ⟨hl, fun p n => q.newTup av n rl⟩⟩
    | tup l =>
      cases g
      obtain ⟨a, vs, rfl, hl, rl⟩ := RepV.seq rd
      exact call_tuple_of pins s σ H _ us Q I rv ⟨a, vs, rfl, .inr ⟨hl, q.here rd⟩⟩
    | _ => cases g
theorem list_ok : CallR X (.type "list") (bQ X.K .list) := by
  refine bi1 (fun ds r g => ?_) fun pins s σ H x us Q Av d r I rv av rd g q => ?_
  · match ds, g with
    | [d], _ => exact ⟨d, rfl⟩
  · cases d with
    | lst l =>
      cases g
      obtain ⟨a, vs, rfl, hl, rl⟩ := RepV.seq rd
      exact call_list_of pins s σ H _ us Q I rv ⟨a, vs, rfl, .inl hl, fun p n => q.newLst av n rl⟩
    | tup l =>
      cases g
      obtain ⟨a, vs, rfl, hl, rl⟩ := RepV.seq rd
      exact call_list_of pins s σ H _ us Q I rv ⟨a, vs, rfl, .inr hl, fun p n => q.newLst av n rl⟩
    | _ => cases g
theorem abs_ok : CallR X (.builtin "abs") (bQ X.K .abs) := by
  refine bi1 (fun ds r g => ?_) fun pins s σ H x us Q Av d r I rv av rd g q => ?_
  · match ds, g with
    | [.int i], _ => exact ⟨_, rfl⟩
  · cases d with
    | int i =>
      cases g
      cases rd
      exact call_abs pins s σ H _ us Q I rv ⟨i, rfl, q.here rfl⟩
    | _ => cases g
theorem digits_spec : ∀ (s : List Nat) (a n : Nat), digits a s = some n → (∀ c ∈ s, 48 ≤ c ∧ c ≤ 57) ∧ n = s.foldl (fun v c => v * 10 + (c - 48)) a
  | [], a, n, h => by
    have e : a = n := Option.some.inj h
    subst e
    exact ⟨(fun c hc => nomatch hc), rfl⟩
  | c :: s, a, n, h => by
    simp only [digits] at h
    split at h
    · rename_i hc
      obtain ⟨h1, h2⟩ := digits_spec s _ n h
      exact ⟨fun c' hc' => (List.mem_cons.mp hc').elim (fun e => e ▸ hc) (h1 c'), by rw [h2, List.foldl_cons]⟩
    · cases h
theorem int_ok : CallR X (.type "int") (bQ X.K .int) := by
  refine bi1 (fun ds r g => ?_) fun pins s σ H x us Q Av d r I rv av rd g q => ?_
  · match ds, g with
    | [d], _ => exact ⟨d, rfl⟩
  · cases d with
    | int i =>
      cases g
      cases rd
      exact call_int1 pins s σ H _ us Q I rv (.inl ⟨i, rfl, q.here rfl⟩)
    | bl b =>
      cases g
      cases rd
      exact call_int1 pins s σ H _ us Q I rv (.inr ⟨b, rfl, by rw [b2i_ite]; exact q.here rfl⟩)
    | str z =>
      obtain ⟨rfl, oz⟩ := rd
      simp only [biD] at g
      split at g
      · cases g
      · rename_i hz
        cases hd : digits 0 z with
        | none => rw [hd] at g; cases g
        | some n =>
          rw [hd] at g
          cases g
          obtain ⟨h1, h2⟩ := digits_spec z 0 n hd
          have hz1 : z ≠ [] := fun e => hz (.inl e)
          have hz2 : z.length ≤ 600 := Nat.le_of_not_lt fun e => hz (.inr e)
          refine call_int_str pins s σ H _ us Q I rv ⟨sS z, n, rfl, ?_, by rw [sS_len]; omega, q.here rfl⟩
          rw [h2]
          exact intText_digits (x := sS z) h1 hz1 (by rw [sS_len]; omega)
    | _ => cases g
theorem boolsD_spec : ∀ {l : List D} {bs : List Bool} {vs : List V} {K : Fg} {Av : Zn} {H : Hp}, boolsD l = some bs → Reps K Av H l vs → vs = bs.map V.bl
  | [], _, _, _, _, _, h, r => by cases h; cases r; rfl
  | .bl b :: l, bs, _, _, _, _, h, r => by
    simp only [boolsD] at h
    cases hr : boolsD l with
    | none => rw [hr] at h; cases h
    | some bs' =>
      rw [hr] at h
      cases h
      obtain ⟨v, w, rfl, r1, r2⟩ := r
      cases r1
      rw [boolsD_spec hr r2]
      rfl
  | .non :: _, _, _, _, _, _, h, _ => by cases h
  | .int _ :: _, _, _, _, _, _, h, _ => by cases h
  | .str _ :: _, _, _, _, _, _, h, _ => by cases h
  | .tup _ :: _, _, _, _, _, _, h, _ => by cases h
  | .lst _ :: _, _, _, _, _, _, h, _ => by cases h
  | .dct _ _ _ :: _, _, _, _, _, _, h, _ => by cases h
  | .cst _ :: _, _, _, _, _, _, h, _ => by cases h
end
end AW

/-! P6s: sorted, of tuples. -/
namespace AW
open PySem PySem.Spec L2 PyProof.Rows
section
variable {X : Cx} {pins : List (Addr × Obj)} {σ : L2.St} {H : Hp} {s : Shared} {Av : Zn}
theorem not_both (I : L2.Inv X pins σ H s) {a : Addr} {xs ys : List V} (h : SqT X.K H a xs) (h' : SqL X.K H a ys) : False := by
  obtain ⟨_, _, ⟨o, e, c, _⟩, _⟩ := I.tuple h
  obtain ⟨_, _, ⟨o', n, e', c', _⟩, _⟩ := I.list h'
  rw [e] at e'; cases e'
  rw [c] at c'
  injection c' with c'
  exact absurd c' (by decide)
mutual
theorem rep_uniq (I : L2.Inv X pins σ H s) : ∀ (d e : D) (x : V), dep d ≤ 60 → dep e ≤ 60 → Rep X.K Av H d x → Rep X.K Av H e x → d = e
  | .non, e, x, _, he, h, h' => by
    cases h
    cases e with
    | non => rfl
    | dct => simp [dep] at he
    | cst => simp [dep] at he
    | bl => cases h'
    | int => cases h'
    | str => cases h'.1
    | tup => obtain ⟨_, _, z, _⟩ := h'; cases z
    | lst => obtain ⟨_, _, z, _⟩ := h'; cases z
  | .bl b, e, x, _, he, h, h' => by
    cases h
    cases e with
    | non => cases h'
    | dct => simp [dep] at he
    | cst => simp [dep] at he
    | bl => cases h'; rfl
    | int => cases h'
    | str => cases h'.1
    | tup => obtain ⟨_, _, z, _⟩ := h'; cases z
    | lst => obtain ⟨_, _, z, _⟩ := h'; cases z
  | .int i, e, x, _, he, h, h' => by
    cases h
    cases e with
    | non => cases h'
    | dct => simp [dep] at he
    | cst => simp [dep] at he
    | bl => cases h'
    | int => cases h'; rfl
    | str => cases h'.1
    | tup => obtain ⟨_, _, z, _⟩ := h'; cases z
    | lst => obtain ⟨_, _, z, _⟩ := h'; cases z
  | .str z, e, x, _, he, h, h' => by
    obtain ⟨rfl, _⟩ := h
    cases e with
    | non => cases h'
    | dct => simp [dep] at he
    | cst => simp [dep] at he
    | bl => cases h'
    | int => cases h'
    | str => rw [sS_inj (V.str.inj h'.1)]
    | tup => obtain ⟨_, _, z, _⟩ := h'; cases z
    | lst => obtain ⟨_, _, z, _⟩ := h'; cases z
  | .tup l, e, x, hd, he, h, h' => by
    obtain ⟨a, vs, rfl, hq, r⟩ := RepV.seq h.view
    cases e with
    | non => cases h'
    | dct => simp [dep] at he
    | cst => simp [dep] at he
    | bl => cases h'
    | int => cases h'
    | str => cases h'.1
    | tup m =>
      obtain ⟨a', vs', e, hq', r'⟩ := RepV.seq h'.view
      cases e
      have := I.tuple_inj hq hq'
      subst this
      simp only [dep] at hd he
      rw [reps_uniq I l m vs (by omega) (by omega) r r']
    | lst m =>
      obtain ⟨a', vs', e, hq', r'⟩ := RepV.seq h'.view
      cases e
      exact (not_both I hq hq').elim
  | .lst l, e, x, hd, he, h, h' => by
    obtain ⟨a, vs, rfl, hq, r⟩ := RepV.seq h.view
    cases e with
    | non => cases h'
    | dct => simp [dep] at he
    | cst => simp [dep] at he
    | bl => cases h'
    | int => cases h'
    | str => cases h'.1
    | tup m =>
      obtain ⟨a', vs', e, hq', r'⟩ := RepV.seq h'.view
      cases e
      exact (not_both I hq' hq).elim
    | lst m =>
      obtain ⟨a', vs', e, hq', r'⟩ := RepV.seq h'.view
      cases e
      have := I.list_inj hq hq'
      subst this
      simp only [dep] at hd he
      rw [reps_uniq I l m vs (by omega) (by omega) r r']
  | .dct _ _ _, e, x, hd, _, _, _ => by simp [dep] at hd
  | .cst _, e, x, hd, _, _, _ => by simp [dep] at hd
theorem reps_uniq (I : L2.Inv X pins σ H s) : ∀ (d e : List D) (x : List V), depL d ≤ 60 → depL e ≤ 60 → Reps X.K Av H d x → Reps X.K Av H e x → d = e
  | [], e, x, _, _, h, h' => by
    cases h
    cases e with
    | nil => rfl
    | cons => obtain ⟨_, _, z, _⟩ := h'; cases z
  | d :: l, e, x, hd, he, h, h' => by
    obtain ⟨v, w, rfl, h1, h2⟩ := h
    cases e with
    | nil => cases h'
    | cons e m =>
      obtain ⟨v', w', e1, h1', h2'⟩ := h'
      injection e1 with e1 e2
      subst e1 e2
      simp only [depL] at hd he
      rw [rep_uniq I d e v (by omega) (by omega) h1 h1', reps_uniq I l m w (by omega) (by omega) h2 h2']
end
/-- sorted's first step, of a tuple -/
theorem collect_tup {prog : Program} {w : World} {A : Around} {E : Value → Shared → Prop} {l : Addr} {vs : List Value} {Q : List Value → Shared → Prop} (hl : PyProof.Rows.IsTup s.heap l vs.toArray)
    (h : Q vs { s with heap := (s.heap.push (seqObj "list" #[] 0)).update s.heap.objs.size (Obj.mapSeq (· ++ vs.toArray)) }) (hsz : vs.length ≤ sizeLine) :
    wpAny (model prog w) A (collect (.ref l)) Q E s := by
  obtain ⟨o, ho, hc, n, hd⟩ := id hl
  unfold collect
  refine wpAny_bind (wpAny_runValue (codeAny_builtin entry_proto_collect' ?_))
  show wpAny _ _ (do again (.builtin "list.__iadd__" ⟨[← newList [], .ref l], []⟩)) _ _ s
  refine wpAny_bind (wpAny_newList (wpAny_pure ⟨Code.quiet_builtin _ (by decide +kernel), codeAny_builtin entry_list_iadd' ?_⟩))
  show wpAny _ _ (Builtin.List.listExtendWith (.ref s.heap.objs.size) (.ref l) (.ref s.heap.objs.size)) _ _ { s with heap := s.heap.push (seqObj "list" #[] 0) }
  unfold Builtin.List.listExtendWith
  have ho' : (s.heap.push (seqObj "list" #[] 0)).get? l = some o := Heap.get?_push_of_some _ ho
  refine wpAny_bind (wpAny_typeOf (T := "tuple") ⟨o, ho', hc⟩ ?_)
  have ht : (Value.type "tuple" == Value.type "tuple") = true := by rfl
  rw [if_pos (by rw [ht]; simp)]
  refine wpAny_bind (listItems_at ho' hd ?_)
  refine wpAny_bind (listItems_at (xs := #[]) (n := 0) (Heap.get?_push_size _ rfl) rfl ?_)
  rw [if_neg (by simp)]
  refine wpAny_bind (listUpdate_at (xs := #[]) (n := 0) (Heap.get?_push_size _ rfl) rfl ?_ (Nat.zero_le _) (by show (#[] ++ vs.toArray).size ≤ sizeLine + 1; simp only [Array.size_append, List.size_toArray, List.length_nil]; omega))
  refine wpAny_pure ?_
  show wpAny (model prog w) A (do
      let o ← load s.heap.objs.size
      match o.data with
      | .seq xs _ => pure xs.toList
      | _ => unsupported "internal:collect") Q E { s with heap := (s.heap.push (seqObj "list" #[] 0)).update s.heap.objs.size (Obj.mapSeq (· ++ vs.toArray)) }
  refine wpAny_bind (wpAny_load (get?_update_seq (Heap.get?_push_size _ rfl) _) ?_)
  show wpAny _ _ (pure ((#[] : Array Value) ++ vs.toArray).toList) Q E _
  rw [show ((#[] : Array Value) ++ vs.toArray).toList = vs by simp]
  exact wpAny_pure h
/-- sorted, once the items are collected; any source -/
theorem sorted_go {prog : Program} {w : World} {A : Around} {E : Value → Shared → Prop} {l : Addr} {vs : List Value} {ltv : Value → Value → Bool} {Q : Value → Shared → Prop} (O : SrtO.Swo ltv) (hl : s.heap.IsList l vs.toArray ∨ PyProof.Rows.IsTup s.heap l vs.toArray) (hz : vs.length ≤ sizeLine)
    (hS : 2 ≤ vs.length → ∀ (h₁ : Heap) (a : Addr), h₁.get? a = some (seqObj "list" vs.toArray 0) → (∀ b o, s.heap.get? b = some o → b ≠ a ∧ h₁.get? b = some o) → SrtO.SortableO prog w A.in1.in1 { s with heap := h₁ } a vs ltv)
    (h : ∀ out : List Value, SrtO.Srtd ltv out → SrtO.Stb ltv out vs → Q (.ref (s.heap.objs.size + 1)) { s with heap := sortedAll s.heap vs out.toArray }) :
    wpAny (model prog w) A (PySem.call (.builtin "sorted") [.ref l]) Q E s := by
  rcases hl with hl | hl
  · exact SrtO.sorted_ord O hl hz hS h
  refine Calls.call_function_entry kind_sorted plain_sorted entry_sorted (args_sorted1 _) ?_
  unfold Builtin.«sorted»
  refine wpAny_bind (m := checkCount "sorted" 1 1 _) (wpAny_pure ?_)
  refine wpAny_bind (collect_tup hl ?_ hz)
  refine wpAny_bind (wpAny_newList ?_ hz)
  have hsz : ((s.heap.push (seqObj "list" #[] 0)).update s.heap.objs.size (Obj.mapSeq (· ++ vs.toArray))).objs.size = s.heap.objs.size + 1 := by
    rw [Heap.size_update, size_push']
  have hoL : (((s.heap.push (seqObj "list" #[] 0)).update s.heap.objs.size (Obj.mapSeq (· ++ vs.toArray))).push (seqObj "list" vs.toArray 0)).get? (s.heap.objs.size + 1) = some (seqObj "list" vs.toArray 0) := by
    rw [← hsz]; exact Heap.get?_push_size _ rfl
  have keep : ∀ b o, s.heap.get? b = some o → b ≠ s.heap.objs.size + 1 ∧ (((s.heap.push (seqObj "list" #[] 0)).update s.heap.objs.size (Obj.mapSeq (· ++ vs.toArray))).push (seqObj "list" vs.toArray 0)).get? b = some o := fun b o q => by
    have hlt : b < s.heap.objs.size := Heap.lt_size q
    refine ⟨Nat.ne_of_lt (Nat.lt_succ_of_lt hlt), Heap.get?_push_of_some _ ?_⟩
    rw [Heap.get?_update_ne _ _ _ _ (Nat.ne_of_lt hlt)]
    exact Heap.get?_push_of_some _ q
  show wpAny _ _ _ _ _ { s with heap := ((s.heap.push (seqObj "list" #[] 0)).update s.heap.objs.size (Obj.mapSeq (· ++ vs.toArray))).push (seqObj "list" vs.toArray 0) }
  rw [hsz]
  refine wpAny_bind (wpAny_holding (wpAny_call_entry slot_list_sort ⟨_, hoL, rfl⟩ entry_list_sort (SrtO.list_sort_ord O hoL hz (fun h2 => hS h2 _ _ hoL keep) fun out hs hb => ⟨_, rfl, ?_⟩) (args_list_sort _)))
  exact wpAny_pure ⟨_, rfl, h out hs hb⟩
theorem kat_rep (I : L2.Inv X pins σ H s) {A : Around} (hu : A.units + 60 < cLine) {prog : Program} {w : World} {b fin : Bool} {Q : Bool → Shared → Prop} : ∀ (l m : List D) (xs ys : List V) (vs us : List Value) (i : Nat) (c : Bool), depL l ≤ 60 → depL m ≤ 60 → ltDs l m = some c →
    Reps X.K Av H l xs → Reps X.K Av H m ys → Vals xs vs → Vals ys us → fin = decide (l.length < m.length) → (b = true → i = 0 → ∀ z, l.head? ≠ some (.tup z)) → Q c s → PySem.W.KatLex prog w A b fin Q (vs.zip us) i s
  | [], m, xs, ys, vs, us, i, c, _, _, h, r1, r2, v1, v2, hf, _, q => by
    cases r1
    cases v1
    refine PySem.W.kat_nil ?_
    rw [hf]
    cases m with
    | nil => simp only [ltDs] at h; cases h; exact q
    | cons => simp only [ltDs] at h; cases h; simpa using q
  | x :: l, [], xs, ys, vs, us, i, c, _, _, h, r1, r2, v1, v2, hf, _, q => by
    cases r2
    cases v2
    rw [List.zip_nil_right]
    refine PySem.W.kat_nil ?_
    rw [hf]
    simp only [ltDs] at h; cases h; simpa using q
  | x :: l, y :: m, xs, ys, vs, us, i, c, d1, d2, h, r1, r2, v1, v2, hf, hb, q => by
    obtain ⟨a, xs, rfl, a1, a2⟩ := r1
    obtain ⟨e, ys, rfl, e1, e2⟩ := r2
    cases v1 with
    | @cons _ v _ vs p1 p2 =>
      cases v2 with
      | @cons _ u _ us t1 t2 =>
        simp only [depL] at d1 d2
        simp only [ltDs] at h
        cases hr : ltDs l m with
        | none => rw [hr] at h; cases h
        | some r =>
          rw [hr] at h
          simp only at h
          refine PySem.W.kat_cons (eqAt_rep (n := 60) I (Nat.le_refl _) hu (by omega) (by omega) a1 e1 p1 t1 prog w _ _ ?_)
          refine PySem.W.kat_go (fun he => ?_) (fun he => ?_)
          · rw [if_pos he] at h
            split at h
            · cases h
              exact PySem.W.kat_yes (kat_rep I hu l m xs ys vs us (i + 1) c (by omega) (by omega) hr a2 e2 p2 t2 (by rw [hf]; simp) (fun _ z => by omega) q)
            · cases h
          · rw [if_neg (by rw [he]; decide)] at h
            refine PySem.W.kat_no ?_
            cases x with
            | int i1 =>
              cases y <;> simp only [ltD] at h <;> try (cases h; done)
              cases h
              cases a1
              cases e1
              obtain ⟨t, rfl⟩ := p1
              obtain ⟨t', rfl⟩ := t1
              exact oneLt_any_int q
            | str s1 =>
              cases y <;> simp only [ltD] at h <;> try (cases h; done)
              rename_i s2
              cases h
              obtain ⟨rfl, _⟩ := a1
              obtain ⟨rfl, _⟩ := e1
              obtain ⟨t, rfl⟩ := p1
              obtain ⟨t', rfl⟩ := t1
              refine oneLt_any_str ?_
              rw [sS_cps, sS_cps, ← ltS_iff]
              exact q
            | tup z =>
              have hb0 : (b && i == 0) = false := by
                cases b with
                | false => rfl
                | true =>
                  by_cases hi : i = 0
                  · exact absurd rfl (hb rfl hi z)
                  · simp [hi]
              rw [hb0]
              exact PySem.W.kat_one _ _ (rcLt_rep I 60 (Nat.le_refl _) A _ _ c _ _ v u hu (by omega) (by omega) h a1 e1 p1 t1 prog w _ (PySem.W.BoolBack Q) q)
            | _ => simp [ltD] at h
theorem kat_tups {h : Heap} {P : Value → Prop} : ∀ {vs : List Value}, (∀ v ∈ vs, ∃ a o xs n f, v = Value.ref a ∧ h.get? a = some o ∧ o.cls = .type "tuple" ∧ o.data = .seq xs n ∧ xs[0]? = some f ∧ P f) →
    ∃ fs, PySem.W.KatTups h vs fs ∧ fs.length = vs.length ∧ ∀ f ∈ fs, P f
  | [], _ => ⟨[], .nil, rfl, fun f hf => by cases hf⟩
  | v :: vs, hv => by
    obtain ⟨a, o, xs, n, f, rfl, h1, h2, h3, h4, h5⟩ := hv v List.mem_cons_self
    obtain ⟨fs, k1, k2, k3⟩ := kat_tups (vs := vs) fun u hu => hv u (List.mem_cons_of_mem _ hu)
    exact ⟨f :: fs, .cons h1 h2 h3 h4 k1, by simp [k2], fun g hg => (List.mem_cons.mp hg).elim (fun e => e ▸ h5) (k3 g)⟩
/-- tuples whose first items are of type T -/
def HeadT (T : String) (d : D) : Prop := ∃ f l, d = .tup (f :: l) ∧ ((∃ i, f = .int i) ∧ T = "int" ∨ (∃ z, f = .str z) ∧ T = "str" ∨ (∃ z, f = .tup z) ∧ T = "tuple")
theorem oneK_head {ds : List D} (h : oneK ds = true) : ∃ T, ∀ d ∈ ds, HeadT T d := by
  simp only [oneK, Bool.or_eq_true, List.all_eq_true] at h
  rcases h with (h | h) | h
  · refine ⟨"int", fun d hd => ?_⟩
    have := h d hd
    unfold isTI at this
    split at this
    · exact ⟨_, _, rfl, .inl ⟨⟨_, rfl⟩, rfl⟩⟩
    · cases this
  · refine ⟨"str", fun d hd => ?_⟩
    have := h d hd
    unfold isTS at this
    split at this
    · exact ⟨_, _, rfl, .inr (.inl ⟨⟨_, rfl⟩, rfl⟩)⟩
    · cases this
  · refine ⟨"tuple", fun d hd => ?_⟩
    have := h d hd
    unfold isTT at this
    split at this
    · exact ⟨_, _, rfl, .inr (.inr ⟨⟨_, rfl⟩, rfl⟩)⟩
    · cases this
theorem tup_at (I : L2.Inv X pins σ H s) {l : List D} {x : V} {v : Value} (r : Rep X.K Av H (.tup l) x) (rx : RelV x v) : ∃ a o ys its n, v = .ref a ∧ x = .ref a ∧ s.heap.get? a = some o ∧ o.cls = .type "tuple" ∧ o.data = .seq (List.toArray its) n ∧ Vals ys its ∧ Reps X.K Av H l ys := by
  obtain ⟨a, ys, rfl, hq, rl⟩ := RepV.seq r.view
  obtain ⟨its, rv, ⟨o, ho, hc, n, hd⟩, _⟩ := I.tuple hq
  exact ⟨a, o, ys, its, n, rx, rfl, ho, hc, hd, rv, rl⟩
theorem sortable_rep (I : L2.Inv X pins σ H s) {prog : Program} {w : World} {A : Around} (hu : A.units + 60 < cLine) {ds : List D} {vs : List Value} {k : Value → D} (ok : oneK ds = true)
    (all : ∀ x ∈ ds, ∀ y ∈ ds, (∃ b, ltD x y = some b) ∧ dep x ≤ 60 ∧ dep y ≤ 60) (hk : ∀ v ∈ vs, k v ∈ ds ∧ ∃ x, RelV x v ∧ Rep X.K Av H (k v) x) (h0 : 0 < vs.length) :
    ∃ κ, (∀ (Q : SortKind → Shared → Prop) (E : Value → Shared → Prop), Q κ s → wpAny (model prog w) A (keyKind' vs.toArray) Q E s) ∧ SrtO.Cmp prog w A s κ (fun p => p.1 ∈ vs) (SrtO.lt2 fun v u => ltc (k v) (k u)) := by
  obtain ⟨T, hT⟩ := oneK_head ok
  obtain ⟨fs, t1, t2, t3⟩ := kat_tups (h := s.heap) (P := fun f => PySem.W.Looks (model prog w) s.heap (typeOf f) (.type T)) (vs := vs) fun v hv => by
    obtain ⟨m, x, rx, rep⟩ := hk v hv
    obtain ⟨f, l, e, hf⟩ := hT _ m
    rw [e] at rep
    obtain ⟨a, o, ys, its, n, rfl, rfl, ho, hc, hd, rv, rl⟩ := tup_at I rep rx
    obtain ⟨y, ys, rfl, r1, r2⟩ := rl
    cases rv with
    | @cons _ u _ us p1 p2 =>
      refine ⟨a, o, _, n, u, rfl, ho, hc, hd, by simp, ?_⟩
      rcases hf with ⟨⟨i, rfl⟩, rfl⟩ | ⟨⟨z, rfl⟩, rfl⟩ | ⟨⟨z, rfl⟩, rfl⟩
      · cases r1
        obtain ⟨t, rfl⟩ := p1
        exact PySem.W.Looks.now
      · obtain ⟨rfl, _⟩ := r1
        obtain ⟨t, rfl⟩ := p1
        exact PySem.W.Looks.now
      · obtain ⟨a', o', _, _, _, rfl, rfl, ho', hc', _⟩ := tup_at I r1 p1
        rw [← hc']
        exact (PySem.W.Looks.ld ho').andThen .now
  refine ⟨tuples' (Value.type T != Value.type "tuple"), fun Q E hq => PySem.W.kat_kind (T := .type T) t1 (by omega) t3 (by first | rfl | exact beq_self_eq_true _) hq, ?_⟩
  intro p q hp hq
  obtain ⟨m1, x1, rx1, rep1⟩ := hk _ hp
  obtain ⟨m2, x2, rx2, rep2⟩ := hk _ hq
  obtain ⟨⟨c, hc⟩, d1, d2⟩ := all _ m1 _ m2
  obtain ⟨f1, l1, e1, hf1⟩ := hT _ m1
  obtain ⟨f2, l2, e2, hf2⟩ := hT _ m2
  have ec : ltc (k p.1) (k q.1) = c := ltc_of hc
  show wpAny (model prog w) A (keyLt' (tuples' (Value.type T != Value.type "tuple")) p.1 q.1) (fun r s' => s' = s ∧ r = ltc (k p.1) (k q.1)) (fun _ _ => False) s
  rw [ec]
  rw [e1] at rep1 hc d1
  rw [e2] at rep2 hc d2
  obtain ⟨a1, o1, ys1, its1, n1, ev1, _, ho1, _, hd1, rv1, rl1⟩ := tup_at I rep1 rx1
  obtain ⟨a2, o2, ys2, its2, n2, ev2, _, ho2, _, hd2, rv2, rl2⟩ := tup_at I rep2 rx2
  rw [ev1, ev2]
  simp only [dep] at d1 d2
  simp only [ltD] at hc
  refine PySem.W.kat_lt ho1 hd1 ho2 hd2 ?_
  refine kat_rep I hu (f1 :: l1) (f2 :: l2) ys1 ys2 its1 its2 0 c (by omega) (by omega) hc rl1 rl2 rv1 rv2 ?_ ?_ ⟨rfl, rfl⟩
  · have h1 := rl1.length
    have h2 := rl2.length
    have h3 := rv1.length
    have h4 := rv2.length
    rw [List.size_toArray, List.size_toArray, ← h3, ← h4, ← h1, ← h2]
  · intro hb _ z hz
    rcases hf1 with ⟨⟨i, rfl⟩, rfl⟩ | ⟨⟨i, rfl⟩, rfl⟩ | ⟨⟨i, rfl⟩, rfl⟩
    · simp at hz
    · simp at hz
    · simp at hb
theorem map_uniq {k : Value → D} : ∀ {l : List D} {xs : List V} {vs : List Value}, Reps X.K Av H l xs → Vals xs vs → (∀ v d x, d ∈ l → RelV x v → Rep X.K Av H d x → k v = d) → vs.map k = l
  | [], xs, vs, r, rv, _ => by cases r; cases rv; rfl
  | d :: l, xs, vs, r, rv, h => by
    obtain ⟨x, xs, rfl, r1, r2⟩ := r
    cases rv with
    | @cons _ v _ vs p1 p2 => rw [List.map_cons, h v d x List.mem_cons_self p1 r1, map_uniq r2 p2 fun v d x hd => h v d x (List.mem_cons_of_mem _ hd)]
theorem reps_map {k : Value → D} : ∀ {vs : List Value}, (∀ v ∈ vs, Rep X.K Av H (k v) (backV v)) → Reps X.K Av H (vs.map k) (vs.map backV)
  | [], _ => rfl
  | v :: vs, h => Reps.cons (h v List.mem_cons_self) (reps_map fun u hu => h u (List.mem_cons_of_mem _ hu))
open Classical in
theorem sorted_main (I : L2.Inv X pins σ H s) (hu : X.A.units + 65 < cLine) {a : Addr} {l r : List D} {xs : List V} {its : List Value} {Q : VK} (rl : Reps X.K Av H l xs) (rv : Vals xs its) (hz : xs.length ≤ sizeLine) (hs : sortD l = some r)
    (hl : s.heap.IsList a its.toArray ∨ PyProof.Rows.IsTup s.heap a its.toArray) (q : ∀ p ys, H p = none → Reps X.K Av H r ys → Q (.ref p) (upd H p (.lst ys))) :
    wpAny (model X.prog X.w) X.A (PySem.call (.builtin "sorted") [.ref a]) (EP X pins σ Q) X.xe s := by
  obtain ⟨ok, all, _⟩ := sortD_all hs
  obtain ⟨T, hT⟩ := oneK_head ok
  let k : Value → D := fun v => if h : ∃ d, d ∈ l ∧ Rep X.K Av H d (backV v) then Classical.choose h else .non
  have hk : ∀ v d x, d ∈ l → RelV x v → Rep X.K Av H d x → k v = d ∧ Rep X.K Av H d (backV v) := by
    intro v d x hd rx rep
    obtain ⟨f, m, e, _⟩ := hT d hd
    have eb : backV v = x := by
      subst e
      obtain ⟨a, _, _, _, _, rfl, rfl, _⟩ := tup_at I rep rx
      rfl
    have rep' : Rep X.K Av H d (backV v) := by rw [eb]; exact rep
    have hex : ∃ d, d ∈ l ∧ Rep X.K Av H d (backV v) := ⟨d, hd, rep'⟩
    obtain ⟨c1, c2⟩ := Classical.choose_spec hex
    have ek : k v = Classical.choose hex := dif_pos hex
    refine ⟨?_, rep'⟩
    rw [ek]
    exact rep_uniq I _ _ _ (all _ c1 _ c1).2.1 (all _ hd _ hd).2.1 c2 rep'
  have em := map_uniq (k := k) rl rv fun v d x h1 h2 h3 => (hk v d x h1 h2 h3).1
  have hv : ∀ v ∈ its, k v ∈ l ∧ ∃ x, RelV x v ∧ Rep X.K Av H (k v) x := by
    intro v hv
    obtain ⟨i, hi⟩ := List.getElem?_of_mem hv
    have hi2 : i < its.length := lt_of_get hi
    have hx : i < xs.length := by rw [rv.length]; exact hi2
    obtain ⟨u, hu2, rx⟩ := rv.get (List.getElem?_eq_getElem hx)
    rw [hi] at hu2; cases hu2
    obtain ⟨d, hd, rep⟩ := rl.get' (List.getElem?_eq_getElem hx)
    have hdl := List.mem_of_getElem? hd
    obtain ⟨e1, _⟩ := hk v d _ hdl rx rep
    rw [e1]
    exact ⟨hdl, _, rx, rep⟩
  have hvr : ∀ v ∈ its, ∃ a, v = Value.ref a := fun v hm => by
    obtain ⟨m1, x, rx, rep⟩ := hv v hm
    obtain ⟨f, m, e, _⟩ := hT _ m1
    rw [e] at rep
    obtain ⟨a, _, _, _, _, e, _⟩ := tup_at I rep rx
    exact ⟨a, e⟩
  have swo : SrtO.Swo (fun v u : Value => ltc (k v) (k u)) := ⟨fun x y h => ltc_asym h, fun x y z h1 h2 => ltc_tr h1 h2⟩
  refine sorted_go swo hl (by rw [← rv.length]; exact hz) (fun h2 h₁ a' h3 keep => fun h' keep' => ?_) fun out h1 h2 => ?_
  · have I' : L2.Inv X pins σ H { s with heap := h' } := I.kept (t' := s.toks) fun b o e => keep' b o (keep b o e).1 (keep b o e).2
    have hu1 : X.A.in1.in1.units + 60 < cLine := by show X.A.units + 1 + 1 + 60 < cLine; omega
    exact sortable_rep I' hu1 ok all hv (by omega)
  · have hp : (out.map k).Perm l := by rw [← em]; exact h2.perm.map k
    have er := sortD_uniq hs hp (List.pairwise_map.mpr h1)
    have h3 : ∀ u ∈ out, ∃ a, u = Value.ref a := fun u hu => hvr u (h2.perm.mem_iff.mp hu)
    obtain ⟨ep, he'⟩ := PyProof.Rows.sortedAll_at s.heap its out.toArray
    have hlen : (out.map backV).length ≤ sizeLine := by
      rw [List.length_map, h2.perm.length_eq, ← rv.length]; exact hz
    refine ⟨.ref _, upd H (s.heap.objs.size + 1) (.lst (out.map backV)), I.laid (t' := s.toks) (fun _ _ => PyProof.Rows.sortedAll_old) (Nat.le_succ _) ⟨hlen, out, ep, vals_back h3, he'⟩, rfl, q _ _ (I.hok.fresh (Nat.le_succ _)) ?_⟩
    rw [← er]
    refine reps_map fun v hm => ?_
    obtain ⟨m1, x, rx, rep⟩ := hv v (h2.perm.mem_iff.mp hm)
    exact (hk v _ x m1 rx rep).2
theorem sorted_ok (hu : X.A.units + 65 < cLine) : CallR X (.builtin "sorted") (bQ X.K .sorted) := by
  refine bi1 (fun ds r g => ?_) fun pins s σ H x us Q Av d r I rv av rd g q => ?_
  · match ds, g with
    | [d], _ => exact ⟨d, rfl⟩
  · obtain ⟨u, rfl, ru⟩ := vals1 rv
    cases d with
    | lst l =>
      simp only [biD, items, Option.map_eq_some_iff] at g
      obtain ⟨z, hz, rfl⟩ := g
      obtain ⟨a, vs, rfl, hl, rl⟩ := RepV.seq rd
      obtain ⟨its, rvs, pl, hzz⟩ := I.list hl
      cases ru
      exact sorted_main I hu rl rvs hzz hz (.inl pl.isList) fun p ys n rz => q.newLst av n rz
    | tup l =>
      simp only [biD, items, Option.map_eq_some_iff] at g
      obtain ⟨z, hz, rfl⟩ := g
      obtain ⟨a, vs, rfl, hl, rl⟩ := RepV.seq rd
      obtain ⟨its, rvs, pl, hzz⟩ := I.tuple hl
      cases ru
      exact sorted_main I hu rl rvs hzz hz (.inr pl) fun p ys n rz => q.newLst av n rz
    | _ => simp [biD, items] at g
end
end AW

/-! P6b: methods that change their list; stores. -/
namespace AW
open PySem PySem.Spec L2
/-- a change of the object at a -/
structure Chg (H : Hp) (a : Addr) (H' : Hp) : Prop where
  other : ∀ b, b ≠ a → H' b = H b
  there : H' a ≠ none
theorem Chg.keep {H H' : Hp} {a : Addr} (c : Chg H a H') {Av : Zn} (h : Av a) : Keep Av H Av H' := .of fun b o e n => ⟨(c.other b fun z => n (z ▸ h)).trans e, n⟩
def muQ (K : Fg) (m : Mu) : V → List V → Hp → VK → Prop := fun x xs H Q => ∃ Av a d ds d' r, x = .ref a ∧ Av a ∧ OwnAt K Av H a d ∧ Reps K Av H ds xs ∧ muD m d ds = some (d', r) ∧
  ∀ v H', Chg H a H' → OwnAt K Av H' a d' → Rep K Av H' r v → Q v H'
theorem chg_upd {H : Hp} {a : Addr} {o : HO} : Chg H a (upd H a o) := ⟨fun b h => upd_ne h, by rw [upd_same]; simp⟩
section
variable {X : Cx}
theorem own_upd {K : Fg} {Av : Zn} {H : Hp} {a : Addr} {l : List D} {vs : List V} (h : Av a) (r : Reps K Av H l vs) : OwnAt K Av (upd H a (.lst vs)) a (.lst l) :=
  ⟨vs, upd_same, Reps.imp (chg_upd.keep h) _ _ r⟩
theorem append_ok : MtM X "list.append" (muQ X.K .append) := by
  intro pins s σ H x xs v us Q I rx rv ⟨Av, a, d, ds, d', r, e, ha, o, rs, g, q⟩
  subst e
  cases d with
  | lst l =>
    match ds, rs, g with
    | [y], rs, g =>
      simp only [muD] at g
      split at g
      · rename_i hz
        cases g
        obtain ⟨vs, hl, rl⟩ := o
        obtain ⟨w, ws, rfl, r1, r2⟩ := rs
        cases r2
        exact mt_append pins s σ H _ _ v us Q I rx rv ⟨a, vs, w, rfl, rfl, hl, by rw [← rl.length]; exact hz, q _ _ chg_upd (own_upd ha (rl.append (Reps.cons r1 Reps.nil))) rfl⟩
      · cases g
  | dct => cases g
  | _ => exact o.elim
theorem pop_ok : MtM X "list.pop" (muQ X.K .pop) := by
  intro pins s σ H x xs v us Q I rx rv ⟨Av, a, d, ds, d', r, e, ha, o, rs, g, q⟩
  subst e
  cases d with
  | lst l =>
    match ds, rs, g with
    | [], rs, g =>
      simp only [muD] at g
      cases hl : l.getLast? with
      | none => rw [hl] at g; cases g
      | some y =>
        rw [hl] at g
        cases g
        obtain ⟨vs, hH, rl⟩ := o
        cases rs
        rw [List.getLast?_eq_getElem?, rl.length] at hl
        obtain ⟨w, e1, e2⟩ := rl.get hl
        exact mt_pop pins s σ H _ _ v us Q I rx rv ⟨a, vs, w, rfl, rfl, hH, e1, q _ _ chg_upd (own_upd ha rl.dropLast) (Rep.imp (chg_upd.keep ha) _ _ e2)⟩
  | dct => cases g
  | _ => exact o.elim
end
section
open PySem.AutoSeq1
theorem ext_tup (l : Addr) (xs : Array Value) (n : Nat) (b : Addr) (ys : Array Value) (k : Nat) (dd : Option Addr) (sl : Array (Option Value))
    (h0 : ¬ (!xs.isEmpty && Builtin.List.listTooLong (xs.size + ys.size)) = true) (h1 : xs.size ≤ sizeLine) (h2 : xs.size + ys.size ≤ sizeLine + 1) :
    Meets (Builtin.«list.extend» ⟨[.ref l, .ref b], []⟩) (fun _ R s =>
      s.heap.get? l = some { cls := .type "list", dict := none, data := .seq xs n, slots := #[] } ∧
      s.heap.get? b = some { cls := .type "tuple", dict := dd, data := .seq ys k, slots := sl } ∧
      R (.ok (.ret Value.none)) { s with heap := s.heap.update l (Obj.mapSeq fun x => x ++ ys), toks := s.toks }) :=
  .of_wp fun prog w A R s h => by
    obtain ⟨hp, g, d, tk, os⟩ := s
    obtain ⟨hl, hb, h⟩ := h
    have f1 := idx_int
    have f2 := sub_tuple_tuple
    have f3 := sub_list_list
    have f4 := sub_tuple_list
    have f5 := sub_list_tuple
    have zz : (xs ++ ys).size ≤ sizeLine + 1 := by
      rw [Array.size_append]
      exact h2
    wp_walk using (wpAny_updateSeq hl rfl (hz := h1) (_hz' := zz)), wpAny_loadPart' hl, wpAny_loadPart' hb
    exact ⟨_, rfl, h⟩
end
section
variable {X : Cx}
open PyProof.Rows in
/-- xs.extend(t) of a tuple -/
theorem extend_tup {pins : List (Addr × Obj)} {s : Shared} {σ : L2.St} {H : Hp} {l b : Addr} {xs zs : List V} {Q : VK} (I : L2.Inv X pins σ H s) (hH : H l = some (.lst xs)) (hB : SqT X.K H b zs)
    (hz : xs.length + zs.length ≤ sizeLine) (q : Q .non (upd H l (.lst (xs ++ zs)))) : wpAny (model X.prog X.w) X.A (PySem.call (.builtin "list.extend") [.ref l, .ref b]) (EP X pins σ Q) X.xe s := by
  obtain ⟨z, its, n, r, hl, e⟩ := I.lstM hH
  obtain ⟨its2, r2, ⟨⟨c2, dd2, dt2, sl2⟩, ho, hc, n2, hd⟩, z2⟩ := I.tuple hB
  simp only at hc hd
  subst hc hd
  have l2 := r2.length
  have sz : its.toArray.size + its2.toArray.size ≤ sizeLine := by
    rw [List.size_toArray, List.size_toArray]
    omega
  have nl : ¬ (!its.toArray.isEmpty && Builtin.List.listTooLong (its.toArray.size + its2.toArray.size)) = true := by
    rw [notLongL sz, Bool.and_false]
    simp
  refine call_meets F.slot_list_extend ⟨_, e, rfl⟩ F.entry_list_extend (F.args_list_extend_2 _ _)
    (ext_tup l its.toArray n b its2.toArray n2 dd2 sl2 nl (by rw [List.size_toArray]; omega) (by omega)) ⟨e, ho, ?_⟩
  refine ⟨.non, _, I.lset (its' := its ++ its2) hH e (by simp) (r.append r2) ?_, rfl, q⟩
  rw [List.length_append]; omega
theorem extend_ok : MtM X "list.extend" (muQ X.K .extend) := by
  intro pins s σ H x xs v us Q I rx rv ⟨Av, a, d, ds, d', r, e, ha, o, rs, g, q⟩
  subst e
  cases d with
  | lst l =>
    cases ds with
    | nil => cases g
    | cons e es =>
      cases es with
      | cons e2 es => cases g
      | nil =>
        obtain ⟨vs, hl, rl⟩ := o
        obtain ⟨w, ws, rfl, rt, r2⟩ := rs
        cases r2
        cases e with
        | lst m =>
          simp only [muD, items] at g
          split at g
          · rename_i hz
            cases g
            obtain ⟨b, zs, rfl, hb, rm⟩ := rt
            exact mt_extend pins s σ H _ _ v us Q I rx rv ⟨a, b, vs, zs, rfl, rfl, hl, hb.1, by rw [← rl.length, ← rm.length]; exact hz, q _ _ chg_upd (own_upd ha (rl.append rm)) rfl⟩
          · cases g
        | tup m =>
          simp only [muD, items] at g
          split at g
          · rename_i hz
            cases g
            obtain ⟨b, zs, rfl, hb, rm⟩ := Rep.tupIs rt
            cases rx
            obtain ⟨u, rfl, ru⟩ := vals1 rv
            cases ru
            exact extend_tup I hl hb (by rw [← rl.length, ← rm.length]; exact hz) (q _ _ chg_upd (own_upd ha (rl.append rm)) rfl)
          · cases g
        | _ => cases g
  | dct => cases g
  | _ => exact o.elim
end
end AW

/-! P8: the evaluator is right, expressions. -/
namespace AW
open PySem PySem.Spec L2

/-! ### side conditions by the form of the text -/
def notStar : Expr → Bool
  | .Starred _ _ => false
  | _ => true
def notSuper : Expr → Bool
  | .Call (.Name _ _) [] [] _ => false
  | _ => true
def notSlice : Expr → Bool
  | .Slice _ _ _ _ => false
  | _ => true
def notSet : Expr → Bool
  | .Set _ _ _ => false
  | _ => true
def notComp : Expr → Bool
  | .ListComp _ _ _ _ => false
  | .SetComp _ _ _ _ => false
  | .DictComp _ _ _ _ _ => false
  | _ => true
/-- a test that is the truth of its value -/
def plainTest : Expr → Bool
  | .UnaryOp .Not _ _ => false
  | .BoolOp _ _ _ => false
  | .IfExp _ _ _ _ => false
  | .Compare _ _ _ _ => false
  | _ => true
theorem star_of {e : Expr} (h : notStar e = true) (es : List Expr) (env : PySem.Env) : starEach (e :: es) env = (false, eval e env) :: starEach es env := by
  cases e <;> first | rfl | (exact absurd h (by simp [notStar]))
theorem stars_of : ∀ {es : List Expr} {env : PySem.Env} {pos : Pos}, es.all notStar = true → (backTo pos (starEach es env)).any (·.1) = false
  | [], _, _, _ => rfl
  | e :: es, env, pos, h => by
    rw [List.all_cons, Bool.and_eq_true] at h
    rw [star_of h.1]
    have ih := stars_of (es := es) (env := env) (pos := pos) h.2
    simp only [backTo, List.map_cons, List.any_cons, Bool.false_or] at ih ⊢
    exact ih
theorem super_of {o : Expr} (h : notSuper o = true) (name : Str) (env : PySem.Env) : attributeBase o name env (eval o env) = eval o env := by
  cases o with
  | Call f args kw pos =>
    cases f with
    | Name x p =>
      cases args with
      | nil =>
        cases kw with
        | nil => simp [notSuper] at h
        | cons => rfl
      | cons => rfl
    | _ => rfl
  | _ => rfl
theorem plain_ix {b : Expr} (h : notSlice b = true) : PlainIx b := by
  intro o i
  cases b <;> first | rfl | (exact absurd h (by simp [notSlice]))
theorem set_of {e : Expr} (h : notSet e = true) (env : PySem.Env) (x : Value) : foldedSetIterable e env x = pure x := by
  cases e <;> first | rfl | (exact absurd h (by simp [notSet]))
theorem swaps_of {e : Expr} (h : notComp e = true) (t : Option Expr) (l : Nat) (env : PySem.Env) : swapsWith e t l env = pure false := by
  cases e <;> first | rfl | (exact absurd h (by simp [notComp]))
theorem test_of {e : Expr} (h : plainTest e = true) (env : PySem.Env) (whole : Sem Value) : isTrue e env whole = (do let v ← whole; standAt e.pos; holding [v] (truthy v)) := by
  cases e with
  | UnaryOp op x p => cases op <;> first | rfl | (exact absurd h (by simp [plainTest]))
  | BoolOp => exact absurd h (by simp [plainTest])
  | IfExp => exact absurd h (by simp [plainTest])
  | Compare => exact absurd h (by simp [plainTest])
  | _ => rfl

theorem PE_weak {X : Cx} {e : Expr} {t t' : TE} (h : PE X e t) (w : ∀ σ H Q, t' σ H Q → t σ H Q) : PE X e t' := ⟨fun pins s σ H Q I q => h.run pins s σ H Q I (w _ _ _ q)⟩
theorem PT_weak {X : Cx} {e : Expr} {t t' : TT} (h : PT X e t) (w : ∀ σ H Q, t' σ H Q → t σ H Q) : PT X e t' := ⟨fun pins s σ H Q I q => h.run pins s σ H Q I (w _ _ _ q)⟩
theorem PW_weak {X : Cx} {e : Expr} {t t' : TT} (h : PW X e t) (w : ∀ σ H Q, t' σ H Q → t σ H Q) : PW X e t' := ⟨fun wh pins s σ H Q I q => h.run wh pins s σ H Q I (w _ _ _ q)⟩
theorem PA_weak {X : Cx} {e : List Expr} {t t' : TA} (h : PA X e t) (w : ∀ σ H Q, t' σ H Q → t σ H Q) : PA X e t' := ⟨fun p pins s σ H Q I q => h.run p pins s σ H Q I (w _ _ _ q)⟩

/-! ### growing -/
section
variable {K : Fg} {m : M} {H' : Hp}
theorem RS.grow (rs : RS K m) (s : Same m.H H') : RS K { m with H := H' } where
  len := rs.len
  av a h := by
    have := rs.av a h
    cases q : m.H a with
    | none => exact absurd q this
    | some o => show H' a ≠ none; rw [s a o q]; simp
  cav := rs.cav
  val i d h := by
    obtain ⟨v, e, r⟩ := rs.val i d h
    exact ⟨v, e, Rep.imp (Same.keep s rs.av) _ _ r⟩
  own i h d g := by
    obtain ⟨a, e, c, o⟩ := rs.own i h d g
    refine ⟨a, e, c, o.imp ?_ (Same.keep s rs.av)⟩
    cases q : m.H a with
    | none => exact absurd q o.some
    | some u => exact s a u q
  inj := rs.inj
theorem Step.grow (s : Same m.H H') : Step m { m with H := H' } where
  keep a o h _ := s a o h
  there a h := by
    cases q : m.H a with
    | none => exact absurd q h
    | some o => show H' a ≠ none; rw [s a o q]; simp
  cgrow a h := .inl h
  avgrow a h := .inl h
  avkeep a h _ := h
  home j d h := ⟨⟨d, h⟩, rfl⟩
/-- one more address is kept clear -/
theorem RS.clear {a : Addr} (rs : RS K m) (s : Same m.H H') (n : m.H a = none) (t : H' a ≠ none) : RS K { m with H := H', Av := zadd m.Av a } where
  len := rs.len
  av b h := h.elim ((rs.grow s).av b) fun e => by rw [e]; exact t
  cav b h := .inl (rs.cav b h)
  val i d h := by
    obtain ⟨v, e, r⟩ := rs.val i d h
    refine ⟨v, e, Rep.imp ?_ _ _ r⟩
    exact .of fun b o q nb => ⟨s b o q, fun z => z.elim nb fun w => by rw [w, n] at q; cases q⟩
  own i h d g := by
    obtain ⟨b, e, c, o⟩ := rs.own i h d g
    refine ⟨b, e, c, o.imp ?_ ?_⟩
    · cases q : m.H b with
      | none => exact absurd q o.some
      | some u => exact s b u q
    · exact .of fun b o q nb => ⟨s b o q, fun z => z.elim nb fun w => by rw [w, n] at q; cases q⟩
  inj := rs.inj
end
section
variable {K : Fg} {XR : XRel} {W : WX} {m : M} {Q : VK}
theorem op_fin {r : RV} (rs : RS K m) (h : Wp K XR W (RepR K) m (.ok r m.g) fun m' _ v => Q v m'.H) (hs : ∀ i, r ≠ .slot i) : OpQ K m.Av m.H r Q := by
  cases r with
  | slot i => exact absurd rfl (hs i)
  | d d => exact fun v H' s r => h { m with H := H' } v rfl rfl (.grow s) (rs.grow s) r
  | new d => exact fun a H' s n o => h { m with H := H' } (.ref a) rfl rfl (.grow s) (rs.grow s) ⟨a, rfl, n, fun z => rs.av a z n, rs.clear s n o.some, o⟩
theorem here {r : RV} {v : V} (rs : RS K m) (h : Wp K XR W (RepR K) m (.ok r m.g) fun m' _ v => Q v m'.H) (rr : RepR K m m r v) : Q v m.H := h m v rfl rfl (.refl m) rs rr
theorem binD_slot {o : BOp} {d e : D} {r : RV} (h : binD o d e = some r) : ∀ i, r ≠ .slot i := by
  intro i z
  subst z
  cases o <;> cases d <;> cases e <;> simp [binD] at h
end

/-! ### the frame of a text -/
structure SC where
  N : List Str
  sc : Scope
  /-- may be stored here -/
  sto : Str → Bool
  fn : Str → Option Nat
  gl : Str → Option Nat
  /-- built-ins that the module doesn't hide -/
  bn : Str → Bool
/-- how exceptions stand is told later -/
structure Gd (XR : XRel) (G : Env) (X : Cx) (S : SC) (W : WX) : Prop where
  N : X.N = S.N
  nd : X.N.Nodup
  sc : X.env.scope = S.sc
  calm : X.calm = true
  room : Room 0 X.A
  takes : Takes X W
  sto : ∀ x, S.sto x = true → Loc X.env.scope x ∧ (X.fn x = true ∨ X.env.scope.names.lookup x = some .local)
  gl : ∀ x i, S.gl x = some i → ∃ u v d, X.mg x = some u ∧ RelV v u ∧ G.glob i = some d ∧ ∀ Av H, Rep X.K Av H d v
  bn : ∀ x, S.bn x = true → X.mg x = none

def visB (sc : Scope) (x : Str) : Bool := match sc.names.lookup x with
  | some .local => true
  | some .cell => true
  | some .free => true
  | _ => false
theorem vis_of {sc : Scope} {x : Str} (h : visB sc x = true) : Vis sc x := by
  unfold visB at h
  cases q : sc.names.lookup x with
  | none => rw [q] at h; cases h
  | some k =>
    rw [q] at h
    cases k with
    | «local» => exact .inl q
    | cell => exact .inr (.inl q)
    | free => exact .inr (.inr q)
    | globalExplicit => cases h
    | globalImplicit => cases h
def glB (sc : Scope) (x : Str) : Bool := decide (sc.names.lookup x = some .globalImplicit) && !(x == ("__debug__" : Str)) && !(x == ("__name__" : Str))
section
variable {XR : XRel} {G : Env} {X : Cx} {S : SC} {W : WX}
theorem Gd.glob (gd : Gd XR G X S W) {x : Str} (h : glB S.sc x = true) : Gl X x ∧ (x == ("__debug__" : Str)) = false ∧ x ≠ "__name__" := by
  unfold glB at h
  rw [Bool.and_eq_true, Bool.and_eq_true, decide_eq_true_eq] at h
  refine ⟨?_, by simpa using h.1.2, by simpa using h.2⟩
  show X.env.kindOf x = _
  have : X.env.kindOf x = X.env.scope.names.lookup x := rfl
  rw [this, gd.sc]
  exact h.1.1

/-! ### the pieces -/
theorem Wp.of_R {m : M} {α : Type} {β : Type} {rel : M → M → α → β → Prop} {o : Option α} {k : M → α → β → Prop} (h : Wp X.K XR W rel m (R.of m.g o) k) : ∃ a, o = some a ∧ Wp X.K XR W rel m (.ok a m.g) k := by
  cases o with
  | none => exact h.elim
  | some a => exact ⟨a, rfl, h⟩
theorem pe_k (gd : Gd XR G X S W) {e : Expr} {d : D} {v : V} (h : PE X e (tC v)) (hr : ∀ Av H, Rep X.K Av H d v) : PE X e (tE X.K XR G W (.k d)) := by
  refine PE_weak h fun σ H Q ⟨m, e1, e2, rs, w⟩ => ?_
  subst e1 e2
  simp only [ev] at w
  exact here rs w (hr _ _)
theorem pe_v (gd : Gd XR G X S W) {x : Str} {i : Nat} {pos : Pos} (hN : S.N[i]? = some x) (hv : visB S.sc x = true) (h1 : (x == ("__debug__" : Str)) = false) (h2 : (x == ("__classdict__" : Str)) = false) : PE X (.Name x pos) (tE X.K XR G W (.v i)) := by
  refine PE_weak (pe_var (i := i) (by rw [gd.N]; exact hN) (by rw [gd.sc]; exact vis_of hv) h1 h2) fun σ H Q ⟨m, e1, e2, rs, w⟩ => ?_
  subst e1 e2
  simp only [ev] at w
  cases q : m.g[i]? with
  | none => rw [q] at w; exact w.elim
  | some c =>
    rw [q] at w
    cases c with
    | none => exact w.elim
    | some c =>
      cases c with
      | val d =>
        obtain ⟨v, e, r⟩ := rs.val i d q
        exact ⟨v, e, here rs w r⟩
      | own h d =>
        obtain ⟨a, e, _, _⟩ := rs.own i h d q
        exact ⟨_, e, here rs w e⟩
theorem pe_g (gd : Gd XR G X S W) {x : Str} {i : Nat} {pos : Pos} (hg : glB S.sc x = true) (hi : S.gl x = some i) : PE X (.Name x pos) (tE X.K XR G W (.g i)) := by
  obtain ⟨g1, g2, g3⟩ := gd.glob hg
  obtain ⟨u, v, d, hm, r, hd, rp⟩ := gd.gl x i hi
  refine PE_weak (pe_glob g1 hm r g2) fun σ H Q ⟨m, e1, e2, rs, w⟩ => ?_
  subst e1 e2
  simp only [ev, hd] at w
  exact here rs w (rp _ _)
/-- two parts, and what is made of them -/
theorem two_of {a b : E} {f : RV → RV → Sg → R RV} {R2' : R2} {m : M} {Q : VK} (rs : RS X.K m)
    (h : Wp X.K XR W (RepR X.K) m ((ev G a m.g).bind fun x σ1 => (ev G b σ1).bind fun y σ2 => f x y σ2) fun m' _ v => Q v m'.H)
    (k : ∀ m2 x y v u, m2.σ = m.σ → Step m m2 → RS X.K m2 → Pend X.K m2 x v → Pend X.K m2 y u → Wp X.K XR W (RepR X.K) m2 (f x y m2.g) (fun m' _ v => Q v m'.H) → R2' v u m2.H Q) :
    tOp R2' (tE X.K XR G W a) (tE X.K XR G W b) m.σ m.H Q := by
  refine ⟨m, rfl, rfl, rs, (Wp.bind rs.av early_repR h).mono fun m1 x v e1 s1 rs1 r1 h1 => ?_⟩
  refine ⟨m1, e1, rfl, rs1, (Wp.bind rs1.av early_repR h1).mono fun m2 y u e2 s2 rs2 r2 h2 => ?_⟩
  exact k m2 x y v u (e2.trans e1) (s1.trans rs.av s2) rs2 (r1.pend.step rs1 s2 e2) r2.pend h2
theorem pe_bin {a b : Expr} {ea eb : E} {o : BOp} {pos : Pos} (ha : PE X a (tE X.K XR G W ea)) (hb : PE X b (tE X.K XR G W eb)) : PE X (.BinOp a (bopOf o) b pos) (tE X.K XR G W (.bin o ea eb)) := by
  refine PE_weak (pe_op (bin_ok o) ha hb) fun σ H Q ⟨m, e1, e2, rs, w⟩ => ?_
  subst e1 e2
  simp only [ev] at w
  refine two_of rs w fun m2 x y v u _ _ rs2 p1 p2 w2 => ?_
  split at w2
  · rename_i dx dy l1 l2
    obtain ⟨r, hr, w3⟩ := w2.of_R
    exact ⟨m2.Av, dx, dy, r, rs2.av, p1.look rs2 l1, p2.look rs2 l2, hr, op_fin rs2 w3 (binD_slot hr)⟩
  · exact w2.elim
theorem pe_cmp2 {a b : Expr} {ea eb : E} {o : COp} {pos : Pos} (hu : X.A.units + 65 < cLine) (ha : PE X a (tE X.K XR G W ea)) (hb : PE X b (tE X.K XR G W eb)) (hm : behindInMarks (copOf o) b = false) :
    PE X (.Compare a [copOf o] [b] pos) (tE X.K XR G W (.cmp o ea eb)) := by
  refine PE_weak (pe_cmpR (cmp_ok hu o) ha hb hm) fun σ H Q ⟨m, e1, e2, rs, w⟩ => ?_
  subst e1 e2
  simp only [ev] at w
  refine two_of rs w fun m2 x y v u _ _ rs2 p1 p2 w2 => ?_
  split at w2
  · rename_i dx dy l1 l2
    obtain ⟨r, hr, w3⟩ := w2.of_R
    cases hc : cmpD o dx dy with
    | none => rw [hc] at hr; cases hr
    | some c =>
      rw [hc] at hr; cases hr
      exact ⟨m2.Av, dx, dy, c, p1.look rs2 l1, p2.look rs2 l2, hc, here rs2 w3 rfl⟩
  · exact w2.elim
theorem pe_isK {a b : Expr} {ea : E} {neg : Bool} {c : D} {cv : V} {pos : Pos} (ha : PE X a (tE X.K XR G W ea)) (hb : PE X b (tC cv)) (hc : c = .non ∧ cv = .non ∨ ∃ t, c = .bl t ∧ cv = .bl t) :
    PE X (.Compare a [if neg then .IsNot else .Is] [b] pos) (tE X.K XR G W (.isK neg ea c)) := by
  have hm : behindInMarks (if neg then CmpOp.IsNot else CmpOp.Is) b = false := by cases neg <;> exact nomark b
  refine PE_weak (pe_cmpR (is_ok neg c cv hc) ha hb hm) fun σ H Q ⟨m, e1, e2, rs, w⟩ => ?_
  subst e1 e2
  simp only [ev] at w
  refine ⟨m, rfl, rfl, rs, (Wp.bind rs.av early_repR w).mono fun m1 x v e1 s1 rs1 r1 h1 => ?_⟩
  cases x with
  | d dx =>
    simp only at h1
    obtain ⟨r, hr, w3⟩ := h1.of_R
    cases hk : isKD neg c dx with
    | none => rw [hk] at hr; cases hr
    | some t =>
      rw [hk] at hr; cases hr
      exact ⟨rfl, m1.Av, dx, t, r1, hk, here rs1 w3 rfl⟩
  | new d => exact h1.elim
  | slot i => exact h1.elim
theorem pe_neg2 {a : Expr} {ea : E} {pos : Pos} (ha : PE X a (tE X.K XR G W ea)) : PE X (.UnaryOp .USub a pos) (tE X.K XR G W (.neg ea)) := by
  refine PE_weak (pe_un un_neg ha) fun σ H Q ⟨m, e1, e2, rs, w⟩ => ?_
  subst e1 e2
  simp only [ev] at w
  refine ⟨m, rfl, rfl, rs, (Wp.bind rs.av early_repR w).mono fun m1 x v e1 s1 rs1 r1 h1 => ?_⟩
  split at h1
  · rename_i i
    cases r1
    exact ⟨i, rfl, here rs1 h1 rfl⟩
  · exact h1.elim
theorem tru_rep {K : Fg} {Av : Zn} {H : Hp} {d : D} {x : V} {k : Bool} (r : RepV K Av H d x) (h : truth d = some k) : TruV K x H k := by
  cases d with
  | non => cases h; cases r; rfl
  | bl b => cases h; cases r; rfl
  | int i => cases h; cases r; rfl
  | str s =>
    cases h
    obtain ⟨rfl, os⟩ := r
    refine ⟨by rw [sS_len]; exact (okS_iff.mp os).1, ?_⟩
    rw [sS_len]
    cases s with
    | nil => rfl
    | cons c s => simp; omega
  | tup l =>
    cases h
    obtain ⟨a, vs, rfl, hq, rl⟩ := RepV.seq r
    refine .inr (.inl ⟨vs, hq, ?_⟩)
    have := rl.length
    cases l <;> cases vs <;> simp_all
  | lst l =>
    cases h
    obtain ⟨a, vs, rfl, hq, rl⟩ := RepV.seq r
    refine .inl ⟨vs, hq, ?_⟩
    have := rl.length
    cases l <;> cases vs <;> simp_all
  | dct => cases h
  | cst => cases h
/-- a test by the truth of its value -/
theorem pt_plain {e : Expr} {ee : E} (h : PE X e (tE X.K XR G W ee)) (hp : plainTest e = true) : PT X e (tT X.K XR G W ee) := by
  refine PT_weak (pt_truth h (test_of hp _)) fun σ H Q ⟨m, e1, e2, rs, w⟩ => ?_
  subst e1 e2
  refine ⟨m, rfl, rfl, rs, (Wp.bind rs.av (fun _ _ _ _ _ _ h => h) w).mono fun m1 x v e1 s1 rs1 r1 h1 => ?_⟩
  split at h1
  · rename_i dx l1
    obtain ⟨k, hk, w3⟩ := h1.of_R
    exact ⟨k, tru_rep (r1.pend.look rs1 l1) hk, w3 m1 k rfl rfl (.refl m1) rs1 rfl⟩
  · exact h1.elim
/-- a comparison as a test -/
theorem pt_of_bool {e : Expr} {ee : E} {t : TE} (h : PT X e (tTest t)) (hw : ∀ σ H Q, tE X.K XR G W ee σ H Q → t σ H Q) (hb : ∀ g r g', ev G ee g = .ok r g' → ∃ b, r = .d (.bl b)) : PT X e (tT X.K XR G W ee) := by
  refine PT_weak h fun σ H Q ⟨m, e1, e2, rs, w⟩ => ?_
  refine hw _ _ _ ⟨m, e1, e2, rs, ?_⟩
  unfold evT at w
  have w2 := Wp.bind (rel1 := RepR X.K) rs.av (fun _ _ _ _ _ _ h => h) w
  cases q : ev G ee m.g with
  | stuck => rw [q] at w2; exact w2
  | exc c p g => rw [q] at w2; exact w2
  | ok r g' =>
    rw [q] at w2
    obtain ⟨b, rfl⟩ := hb _ _ _ q
    intro m1 v e3 e4 st rs1 rr
    have w3 := w2 m1 v e3 e4 st rs1 rr
    cases rr
    exact ⟨b, rfl, w3 m1 b rfl rfl (.refl m1) rs1 rfl⟩
end
end AW

/-! P9: expressions, further. -/
namespace AW
open PySem PySem.Spec L2
def cmpR2 (K : Fg) (o : COp) : R2 := fun x y H Q => ∃ Av d e b, RepV K Av H d x ∧ RepV K Av H e y ∧ cmpD o d e = some b ∧ Q (.bl b) H
section
variable {XR : XRel} {G : Env} {X : Cx} {S : SC} {W : WX}
theorem pe_chn {a b c : Expr} {ea eb ec : E} {o o' : COp} {pos : Pos} (hu : X.A.units + 65 < cLine) (ha : PE X a (tE X.K XR G W ea)) (hb : PE X b (tE X.K XR G W eb)) (hc : PE X c (tE X.K XR G W ec)) (hm : lastMarks [copOf o, copOf o'] [b, c] = false) :
    PE X (.Compare a [copOf o, copOf o'] [b, c] pos) (tE X.K XR G W (.chn o o' ea eb ec)) ∧ PT X (.Compare a [copOf o, copOf o'] [b, c] pos) (tT X.K XR G W (.chn o o' ea eb ec)) := by
  have key : ∀ σ H Q, tE X.K XR G W (.chn o o' ea eb ec) σ H Q → tChain (cmpR2 X.K o) (cmpR2 X.K o') (tE X.K XR G W ea) (tE X.K XR G W eb) (tE X.K XR G W ec) σ H Q :=
    fun σ H Q ⟨m, e1, e2, rs, w⟩ => by
    subst e1 e2
    simp only [ev] at w
    refine ⟨m, rfl, rfl, rs, (Wp.bind rs.av early_repR w).mono fun m1 x v f1 s1 rs1 r1 h1 => ?_⟩
    refine ⟨m1, f1, rfl, rs1, (Wp.bind rs1.av early_repR h1).mono fun m2 y u f2 s2 rs2 r2 h2 => ?_⟩
    have p1 := r1.pend.step rs1 s2 f2
    split at h2
    · rename_i dx dy l1 l2
      cases hc' : cmpD o dx dy with
      | none => rw [hc'] at h2; exact h2.elim
      | some t =>
        rw [hc'] at h2
        refine ⟨m2.Av, dx, dy, t, p1.look rs2 l1, r2.pend.look rs2 l2, hc', t, rfl, ?_⟩
        cases t with
        | false =>
          rw [if_neg Bool.false_ne_true]
          exact here rs2 h2 rfl
        | true =>
          rw [if_pos rfl]
          refine ⟨m2, f2.trans f1, rfl, rs2, (Wp.bind rs2.av early_repR h2).mono fun m3 z z' f3 s3 rs3 r3 h3 => ?_⟩
          have p2 := r2.pend.step rs2 s3 f3
          split at h3
          · rename_i dy' dz l3 l4
            obtain ⟨r, hr, w3⟩ := h3.of_R
            cases hd : cmpD o' dy' dz with
            | none => rw [hd] at hr; cases hr
            | some t' =>
              rw [hd] at hr; cases hr
              exact ⟨m3.Av, dy', dz, t', p2.look rs3 l3, r3.pend.look rs3 l4, hd, here rs3 w3 rfl⟩
          · exact h3.elim
    · exact h2.elim
  refine ⟨PE_weak (pe_chain (cmp_ok hu o) (cmp_ok hu o') ha hb hc hm) key, pt_of_bool (pt_chain (cmp_ok hu o) (cmp_ok hu o') ha hb hc hm) key fun g r g' h => ?_⟩
  simp only [ev] at h
  cases h1 : ev G ea g with
  | stuck => rw [h1] at h; cases h
  | exc => rw [h1] at h; cases h
  | ok x g1 =>
    rw [h1] at h
    simp only [R.bind] at h
    cases h2 : ev G eb g1 with
    | stuck => rw [h2] at h; cases h
    | exc => rw [h2] at h; cases h
    | ok y g2 =>
      rw [h2] at h
      simp only at h
      split at h
      · split at h
        · cases h3 : ev G ec g2 with
          | stuck => rw [h3] at h; cases h
          | exc => rw [h3] at h; cases h
          | ok z g3 =>
            rw [h3] at h
            simp only at h
            split at h
            · rename_i dy' dz _ _
              cases hd : cmpD o' dy' dz with
              | none => rw [hd] at h; cases h
              | some t => rw [hd] at h; cases h; exact ⟨t, rfl⟩
            · cases h
        · cases h; exact ⟨false, rfl⟩
        · cases h
      · cases h
theorem bool_of_bin {a b : E} {o : COp} {g : Sg} {r : RV} {g' : Sg} (h : ev G (.cmp o a b) g = .ok r g') : ∃ t, r = .d (.bl t) := by
  simp only [ev] at h
  cases h1 : ev G a g with
  | stuck => rw [h1] at h; cases h
  | exc => rw [h1] at h; cases h
  | ok x g1 =>
    rw [h1] at h
    simp only [R.bind] at h
    cases h2 : ev G b g1 with
    | stuck => rw [h2] at h; cases h
    | exc => rw [h2] at h; cases h
    | ok y g2 =>
      rw [h2] at h
      simp only at h
      split at h
      · rename_i dx dy _ _
        cases hd : cmpD o dx dy with
        | none => rw [hd] at h; cases h
        | some t => rw [hd] at h; cases h; exact ⟨t, rfl⟩
      · cases h
theorem bool_of_isK {a : E} {neg : Bool} {c : D} {g : Sg} {r : RV} {g' : Sg} (h : ev G (.isK neg a c) g = .ok r g') : ∃ t, r = .d (.bl t) := by
  simp only [ev] at h
  cases h1 : ev G a g with
  | stuck => rw [h1] at h; cases h
  | exc => rw [h1] at h; cases h
  | ok x g1 =>
    rw [h1] at h
    simp only [R.bind] at h
    split at h
    · rename_i dx
      cases hd : isKD neg c dx with
      | none => rw [hd] at h; cases h
      | some t => rw [hd] at h; cases h; exact ⟨t, rfl⟩
    · cases h
theorem pt_cmp2 {a b : Expr} {ea eb : E} {o : COp} {pos : Pos} (hu : X.A.units + 65 < cLine) (ha : PE X a (tE X.K XR G W ea)) (hb : PE X b (tE X.K XR G W eb)) (hm : behindInMarks (copOf o) b = false) :
    PT X (.Compare a [copOf o] [b] pos) (tT X.K XR G W (.cmp o ea eb)) := by
  refine pt_of_bool (pt_cmpR (cmp_ok hu o) ha hb hm) (fun σ H Q ⟨m, e1, e2, rs, w⟩ => ?_) fun g r g' h => bool_of_bin h
  subst e1 e2
  simp only [ev] at w
  refine two_of rs w fun m2 x y v u _ _ rs2 p1 p2 w2 => ?_
  split at w2
  · rename_i dx dy l1 l2
    obtain ⟨r, hr, w3⟩ := w2.of_R
    cases hc : cmpD o dx dy with
    | none => rw [hc] at hr; cases hr
    | some c =>
      rw [hc] at hr; cases hr
      exact ⟨m2.Av, dx, dy, c, p1.look rs2 l1, p2.look rs2 l2, hc, here rs2 w3 rfl⟩
  · exact w2.elim
theorem pt_isK {a b : Expr} {ea : E} {neg : Bool} {c : D} {cv : V} {pos : Pos} (ha : PE X a (tE X.K XR G W ea)) (hb : PE X b (tC cv)) (hc : c = .non ∧ cv = .non ∨ ∃ t, c = .bl t ∧ cv = .bl t) :
    PT X (.Compare a [if neg then .IsNot else .Is] [b] pos) (tT X.K XR G W (.isK neg ea c)) := by
  have hm : behindInMarks (if neg then CmpOp.IsNot else CmpOp.Is) b = false := by cases neg <;> exact nomark b
  refine pt_of_bool (pt_cmpR (is_ok neg c cv hc) ha hb hm) (fun σ H Q ⟨m, e1, e2, rs, w⟩ => ?_) fun g r g' h => bool_of_isK h
  subst e1 e2
  simp only [ev] at w
  refine ⟨m, rfl, rfl, rs, (Wp.bind rs.av early_repR w).mono fun m1 x v e1 s1 rs1 r1 h1 => ?_⟩
  cases x with
  | d dx =>
    simp only at h1
    obtain ⟨r, hr, w3⟩ := h1.of_R
    cases hk : isKD neg c dx with
    | none => rw [hk] at hr; cases hr
    | some t =>
      rw [hk] at hr; cases hr
      exact ⟨rfl, m1.Av, dx, t, r1, hk, here rs1 w3 rfl⟩
  | new d => exact h1.elim
  | slot i => exact h1.elim
/-- not, as a value and as a test -/
theorem pe_not2 {a : Expr} {ea : E} {pos : Pos} (ha : PE X a (tE X.K XR G W ea)) : PE X (.UnaryOp .Not a pos) (tE X.K XR G W (.not ea)) := by
  refine PE_weak (pe_notT ha) fun σ H Q ⟨m, e1, e2, rs, w⟩ => ?_
  subst e1 e2
  simp only [ev] at w
  refine ⟨m, rfl, rfl, rs, (Wp.bind rs.av early_repR w).mono fun m1 x v e1 s1 rs1 r1 h1 => ?_⟩
  split at h1
  · rename_i dx l1
    obtain ⟨r, hr, w3⟩ := h1.of_R
    cases hk : truth dx with
    | none => rw [hk] at hr; cases hr
    | some t =>
      rw [hk] at hr; cases hr
      exact ⟨t, tru_rep (r1.pend.look rs1 l1) hk, here rs1 w3 rfl⟩
  · exact h1.elim
theorem early_eq {α : Type} : Early (fun (_ _ : M) (a b : α) => a = b) := fun _ _ _ _ _ _ h => h
theorem evT_not (e : E) (g : Sg) : evT G (.not e) g = (evT G e g).bind fun b g' => .ok (!b) g' := by
  unfold evT
  simp only [ev]
  cases ev G e g with
  | stuck => rfl
  | exc => rfl
  | ok x g1 =>
    simp only [R.bind]
    cases look g1 x with
    | none => rfl
    | some dx =>
      simp only
      cases truth dx with
      | none => rfl
      | some t => rfl
theorem pt_not2 {a : Expr} {ea : E} {pos : Pos} (ha : PT X a (tT X.K XR G W ea)) : PT X (.UnaryOp .Not a pos) (tT X.K XR G W (.not ea)) := by
  refine PT_weak (pt_not ha) fun σ H Q ⟨m, e1, e2, rs, w⟩ => ?_
  subst e1 e2
  rw [evT_not] at w
  refine ⟨m, rfl, rfl, rs, (Wp.bind (rel1 := fun _ _ a b => a = b) rs.av early_eq w).mono fun m1 x v e1 s1 rs1 r1 h1 => ?_⟩
  exact h1 m1 (!x) rfl rfl (.refl m1) rs1 rfl
theorem pe_ite2 {c a b : Expr} {ec ea eb : E} {pos : Pos} (hc : PT X c (tT X.K XR G W ec)) (ha : PE X a (tE X.K XR G W ea)) (hb : PE X b (tE X.K XR G W eb)) : PE X (.IfExp c a b pos) (tE X.K XR G W (.ite ec ea eb)) := by
  refine PE_weak (pe_ifExp hc ha hb) fun σ H Q ⟨m, e1, e2, rs, w⟩ => ?_
  subst e1 e2
  have h : ev G (.ite ec ea eb) m.g = (evT G ec m.g).bind fun t g' => if t = true then ev G ea g' else ev G eb g' := by
    unfold evT
    simp only [ev]
    cases ev G ec m.g with
    | stuck => rfl
    | exc => rfl
    | ok x g1 =>
      simp only [R.bind]
      cases look g1 x with
      | none => rfl
      | some dx =>
        simp only
        cases truth dx with
        | none => rfl
        | some t => cases t <;> rfl
  rw [h] at w
  refine ⟨m, rfl, rfl, rs, (Wp.bind (rel1 := fun _ _ a b => a = b) rs.av early_repR w).mono fun m1 x v e1 s1 rs1 r1 h1 => ?_⟩
  cases x with
  | true =>
    rw [if_pos rfl] at h1 ⊢
    exact ⟨m1, e1, rfl, rs1, h1⟩
  | false =>
    rw [if_neg Bool.false_ne_true] at h1 ⊢
    exact ⟨m1, e1, rfl, rs1, h1⟩
theorem isTrue_ite {c a b : Expr} {ta tb : TT} {tc : TT} {pos : Pos} (hc : PT X c tc) (ha : PT X a ta) (hb : PT X b tb) : PT X (.IfExp c a b pos) (fun σ H Q => tc σ H fun t H1 => if t = true then ta σ H1 Q else tb σ H1 Q) := by
  refine ⟨fun pins s σ H Q I h => ?_⟩
  show wpAny _ _ (do if ← isTrue c X.env (eval c X.env) then isTrue a X.env (eval a X.env) else isTrue b X.env (eval b X.env)) _ _ _
  refine wpAny_bind (thn (hc.run pins s σ H _ I h) fun t s1 ⟨H1, I1, q1⟩ => ?_)
  cases t with
  | true =>
    rw [if_pos rfl] at q1 ⊢
    exact ha.run pins s1 σ H1 Q I1 q1
  | false =>
    rw [if_neg Bool.false_ne_true] at q1 ⊢
    exact hb.run pins s1 σ H1 Q I1 q1
theorem evT_ite (c a b : E) (g : Sg) : evT G (.ite c a b) g = (evT G c g).bind fun t g' => if t = true then evT G a g' else evT G b g' := by
  unfold evT
  simp only [ev]
  cases ev G c g with
  | stuck => rfl
  | exc => rfl
  | ok x g1 =>
    simp only [R.bind]
    cases look g1 x with
    | none => rfl
    | some dx =>
      simp only
      cases truth dx with
      | none => rfl
      | some t => cases t <;> rfl
theorem pt_ite2 {c a b : Expr} {ec ea eb : E} {pos : Pos} (hc : PT X c (tT X.K XR G W ec)) (ha : PT X a (tT X.K XR G W ea)) (hb : PT X b (tT X.K XR G W eb)) : PT X (.IfExp c a b pos) (tT X.K XR G W (.ite ec ea eb)) := by
  refine PT_weak (isTrue_ite hc ha hb) fun σ H Q ⟨m, e1, e2, rs, w⟩ => ?_
  subst e1 e2
  rw [evT_ite] at w
  refine ⟨m, rfl, rfl, rs, (Wp.bind (rel1 := fun _ _ a b => a = b) rs.av early_eq w).mono fun m1 x v e1 s1 rs1 r1 h1 => ?_⟩
  cases x with
  | true =>
    rw [if_pos rfl] at h1 ⊢
    exact ⟨m1, e1, rfl, rs1, h1⟩
  | false =>
    rw [if_neg Bool.false_ne_true] at h1 ⊢
    exact ⟨m1, e1, rfl, rs1, h1⟩
/-- and, or -/
theorem pe_and2 {a b : Expr} {rest : List Expr} {ea eb : E} {pos : Pos} (ha : PE X a (tE X.K XR G W ea)) (hb : PE X (.BoolOp .And (b :: rest) pos) (tE X.K XR G W eb)) : PE X (.BoolOp .And (a :: b :: rest) pos) (tE X.K XR G W (.and ea eb)) := by
  refine PE_weak (pe_andT ha hb) fun σ H Q ⟨m, e1, e2, rs, w⟩ => ?_
  subst e1 e2
  simp only [ev] at w
  refine ⟨m, rfl, rfl, rs, (Wp.bind rs.av early_repR w).mono fun m1 x v e1 s1 rs1 r1 h1 => ?_⟩
  cases x with
  | d dx =>
    simp only at h1
    cases hk : truth dx with
    | none => rw [hk] at h1; exact h1.elim
    | some t =>
      rw [hk] at h1
      refine ⟨t, tru_rep (r1.pend.look rs1 rfl) hk, ?_⟩
      cases t with
      | true => rw [if_pos rfl]; exact ⟨m1, e1, rfl, rs1, h1⟩
      | false => rw [if_neg Bool.false_ne_true]; exact here rs1 h1 r1
  | new d => exact h1.elim
  | slot i => exact h1.elim
theorem pe_or2 {a b : Expr} {rest : List Expr} {ea eb : E} {pos : Pos} (ha : PE X a (tE X.K XR G W ea)) (hb : PE X (.BoolOp .Or (b :: rest) pos) (tE X.K XR G W eb)) : PE X (.BoolOp .Or (a :: b :: rest) pos) (tE X.K XR G W (.or ea eb)) := by
  refine PE_weak (pe_orT ha hb) fun σ H Q ⟨m, e1, e2, rs, w⟩ => ?_
  subst e1 e2
  simp only [ev] at w
  refine ⟨m, rfl, rfl, rs, (Wp.bind rs.av early_repR w).mono fun m1 x v e1 s1 rs1 r1 h1 => ?_⟩
  cases x with
  | d dx =>
    simp only at h1
    cases hk : truth dx with
    | none => rw [hk] at h1; exact h1.elim
    | some t =>
      rw [hk] at h1
      refine ⟨t, tru_rep (r1.pend.look rs1 rfl) hk, ?_⟩
      cases t with
      | true => rw [if_pos rfl]; exact here rs1 h1 r1
      | false => rw [if_neg Bool.false_ne_true]; exact ⟨m1, e1, rfl, rs1, h1⟩
  | new d => exact h1.elim
  | slot i => exact h1.elim
theorem evT_and {a b : E} {g : Sg} : ∀ {k : M → Bool → Bool → Prop} {m : M}, RS X.K m → Wp X.K XR W (fun _ _ a b => a = b) m (evT G (.and a b) m.g) k →
    Wp X.K XR W (fun _ _ a b => a = b) m ((evT G a m.g).bind fun t g' => if t = true then evT G b g' else .ok false g') k := by
  intro k m rs w
  have : ∀ r g', evT G (.and a b) m.g = .ok r g' ∨ (∃ c p, evT G (.and a b) m.g = .exc c p g') → ((evT G a m.g).bind fun t g' => if t = true then evT G b g' else .ok false g') = evT G (.and a b) m.g := by
    intro r g' h
    unfold evT at h ⊢
    simp only [ev] at h ⊢
    cases hx : ev G a m.g with
    | stuck => rfl
    | exc => rfl
    | ok x g1 =>
      rw [hx] at h
      simp only [R.bind] at h ⊢
      cases x with
      | d dx =>
        simp only [AW.look] at h ⊢
        cases hk : truth dx with
        | none => rw [hk] at h; rcases h with h | ⟨c, p, h⟩ <;> cases h
        | some t =>
          cases t with
          | true => rfl
          | false => simp only [R.of, hk]; rfl
      | new d => rcases h with h | ⟨c, p, h⟩ <;> cases h
      | slot i => rcases h with h | ⟨c, p, h⟩ <;> cases h
  cases hq : evT G (.and a b) m.g with
  | stuck => rw [hq] at w; exact w.elim
  | ok r g' => rw [this r g' (.inl hq)]; exact w
  | exc c p g' => rw [this true g' (.inr ⟨c, p, hq⟩)]; exact w
theorem evT_or {a b : E} {g : Sg} : ∀ {k : M → Bool → Bool → Prop} {m : M}, RS X.K m → Wp X.K XR W (fun _ _ a b => a = b) m (evT G (.or a b) m.g) k →
    Wp X.K XR W (fun _ _ a b => a = b) m ((evT G a m.g).bind fun t g' => if t = true then .ok true g' else evT G b g') k := by
  intro k m rs w
  have : ∀ r g', evT G (.or a b) m.g = .ok r g' ∨ (∃ c p, evT G (.or a b) m.g = .exc c p g') → ((evT G a m.g).bind fun t g' => if t = true then .ok true g' else evT G b g') = evT G (.or a b) m.g := by
    intro r g' h
    unfold evT at h ⊢
    simp only [ev] at h ⊢
    cases hx : ev G a m.g with
    | stuck => rfl
    | exc => rfl
    | ok x g1 =>
      rw [hx] at h
      simp only [R.bind] at h ⊢
      cases x with
      | d dx =>
        simp only [AW.look] at h ⊢
        cases hk : truth dx with
        | none => rw [hk] at h; rcases h with h | ⟨c, p, h⟩ <;> cases h
        | some t =>
          cases t with
          | true => simp only [R.of, hk]; rfl
          | false => rfl
      | new d => rcases h with h | ⟨c, p, h⟩ <;> cases h
      | slot i => rcases h with h | ⟨c, p, h⟩ <;> cases h
  cases hq : evT G (.or a b) m.g with
  | stuck => rw [hq] at w; exact w.elim
  | ok r g' => rw [this r g' (.inl hq)]; exact w
  | exc c p g' => rw [this true g' (.inr ⟨c, p, hq⟩)]; exact w
theorem pw_and2 {a b : Expr} {rest : List Expr} {ea eb : E} {pos : Pos} (ha : PT X a (tT X.K XR G W ea)) (hb : PW X (.BoolOp .And (b :: rest) pos) (tT X.K XR G W eb)) : PW X (.BoolOp .And (a :: b :: rest) pos) (tT X.K XR G W (.and ea eb)) := by
  refine PW_weak (pw_and ha hb) fun σ H Q ⟨m, e1, e2, rs, w⟩ => ?_
  subst e1 e2
  have w := evT_and (g := m.g) rs w
  refine ⟨m, rfl, rfl, rs, (Wp.bind (rel1 := fun _ _ a b => a = b) rs.av early_eq w).mono fun m1 x v e1 s1 rs1 r1 h1 => ?_⟩
  cases x with
  | true => rw [if_pos rfl] at h1 ⊢; exact ⟨m1, e1, rfl, rs1, h1⟩
  | false => rw [if_neg Bool.false_ne_true] at h1 ⊢; exact h1 m1 false rfl rfl (.refl m1) rs1 rfl
theorem pw_or2 {a b : Expr} {rest : List Expr} {ea eb : E} {pos : Pos} (ha : PT X a (tT X.K XR G W ea)) (hb : PW X (.BoolOp .Or (b :: rest) pos) (tT X.K XR G W eb)) : PW X (.BoolOp .Or (a :: b :: rest) pos) (tT X.K XR G W (.or ea eb)) := by
  refine PW_weak (pw_or ha hb) fun σ H Q ⟨m, e1, e2, rs, w⟩ => ?_
  subst e1 e2
  have w := evT_or (g := m.g) rs w
  refine ⟨m, rfl, rfl, rs, (Wp.bind (rel1 := fun _ _ a b => a = b) rs.av early_eq w).mono fun m1 x v e1 s1 rs1 r1 h1 => ?_⟩
  cases x with
  | true => rw [if_pos rfl] at h1 ⊢; exact h1 m1 true rfl rfl (.refl m1) rs1 rfl
  | false => rw [if_neg Bool.false_ne_true] at h1 ⊢; exact ⟨m1, e1, rfl, rs1, h1⟩
end
end AW

/-! P10: subscripts, displays, built-ins, methods. -/
namespace AW
open PySem PySem.Spec L2
theorem PO_weak {X : Cx} {e : Option Expr} {t t' : TO} (h : PO X e t) (w : ∀ σ H Q, t' σ H Q → t σ H Q) : PO X e t' := ⟨fun pins s σ H Q I q => h.run pins s σ H Q I (w _ _ _ q)⟩
section
variable {XR : XRel} {G : Env} {X : Cx} {S : SC} {W : WX}
theorem idxD_rv {d e r : D} (_ : idxD d e = some r) : ∀ i, RV.d r ≠ .slot i := fun i z => by cases z
theorem pe_idx {a b : Expr} {ea eb : E} {pos : Pos} (hu : X.A.units + 65 < cLine) (ha : PE X a (tE X.K XR G W ea)) (hb : PE X b (tE X.K XR G W eb)) (hs : notSlice b = true) : PE X (.Subscript a b pos) (tE X.K XR G W (.idx ea eb)) := by
  refine PE_weak (pe_ix (idx_ok hu) ha hb (plain_ix hs)) fun σ H Q ⟨m, e1, e2, rs, w⟩ => ?_
  subst e1 e2
  simp only [ev] at w
  refine two_of rs w fun m2 x y v u _ _ rs2 p1 p2 w2 => ?_
  split at w2
  · rename_i dx dy l1 l2
    obtain ⟨r, hr, w3⟩ := w2.of_R
    cases hi : idxD dx dy with
    | none => rw [hi] at hr; cases hr
    | some d =>
      rw [hi] at hr; cases hr
      exact ⟨m2.Av, dx, dy, d, p1.look rs2 l1, p2.look rs2 l2, hi, fun v rr => here rs2 w3 rr⟩
  · exact w2.elim
/-- a part of a slice -/
def tO (K : Fg) (XR : XRel) (G : Env) (W : WX) (e : E) : TO := fun σ H Q => ∃ m, m.σ = σ ∧ m.H = H ∧ RS K m ∧ Wp K XR W (RepR K) m (ev G e m.g) fun m' r _ => ∃ o, partOf e r = some o ∧ Q o m'.H
theorem po_no : PO X none (tO X.K XR G W (.k .non)) := by
  refine PO_weak po_none fun σ H Q ⟨m, e1, e2, rs, w⟩ => ?_
  subst e1 e2
  simp only [ev] at w
  obtain ⟨o, ho, q⟩ := w m .non rfl rfl (.refl m) rs rfl
  cases ho
  exact q
theorem po_yes {e : Expr} {ee : E} (h : PE X e (tE X.K XR G W ee)) (hk : ∀ r o, partOf ee r = some o → ∃ i, r = .d (.int i) ∧ o = some i) : PO X (some e) (tO X.K XR G W ee) := by
  refine PO_weak (po_some h) fun σ H Q ⟨m, e1, e2, rs, w⟩ => ?_
  refine ⟨m, e1, e2, rs, w.mono fun m1 r v _ _ rs1 r1 ⟨o, ho, q⟩ => ?_⟩
  obtain ⟨i, rfl, rfl⟩ := hk r o ho
  cases r1
  exact ⟨i, rfl, q⟩
theorem slcD_slot {d : D} {l h : Option Int} {r : RV} (e : slcD d l h = some r) : ∀ i, r ≠ .slot i := by
  intro i z
  subst z
  cases d <;> simp [slcD] at e
theorem pe_slc {a : Expr} {lo hi : Option Expr} {ea el eh : E} {pos p2 : Pos} (ha : PE X a (tE X.K XR G W ea)) (hl : PO X lo (tO X.K XR G W el)) (hh : PO X hi (tO X.K XR G W eh)) : PE X (.Subscript a (.Slice lo hi none p2) pos) (tE X.K XR G W (.slc ea el eh)) := by
  refine PE_weak (pe_slice slc_ok ha hl hh) fun σ H Q ⟨m, e1, e2, rs, w⟩ => ?_
  subst e1 e2
  simp only [ev] at w
  refine ⟨m, rfl, rfl, rs, (Wp.bind rs.av early_repR w).mono fun m1 x v f1 s1 rs1 r1 h1 => ?_⟩
  refine ⟨m1, f1, rfl, rs1, (Wp.bind rs1.av early_repR h1).mono fun m2 y u f2 s2 rs2 r2 h2 => ?_⟩
  have p1 := r1.pend.step rs1 s2 f2
  cases q : partOf el y with
  | none => rw [q] at h2; exact h2.elim
  | some l =>
    rw [q] at h2
    refine ⟨l, rfl, m2, f2.trans f1, rfl, rs2, (Wp.bind rs2.av early_repR h2).mono fun m3 z u2 f3 s3 rs3 r3 h3 => ?_⟩
    have p2 := p1.step rs2 s3 f3
    split at h3
    · rename_i dx h l1 l2
      obtain ⟨r, hr, w3⟩ := h3.of_R
      exact ⟨h, l2, m3.Av, dx, r, rs3.av, p2.look rs3 l1, hr, op_fin rs3 w3 (slcD_slot hr)⟩
    · exact h3.elim
theorem pe_rev {a : Expr} {ea : E} {k : Nat} {p1 p2 p3 pos : Pos} (ha : PE X a (tE X.K XR G W ea)) :
    PE X (.Subscript a (.Slice none none (some (.UnaryOp .USub (.Constant (.int 1) k p1) p2)) p3) pos) (tE X.K XR G W (.rev ea)) := by
  refine PE_weak (pe_back ha) fun σ H Q ⟨m, e1, e2, rs, w⟩ => ?_
  subst e1 e2
  simp only [ev] at w
  refine ⟨m, rfl, rfl, rs, (Wp.bind rs.av early_repR w).mono fun m1 x v f1 s1 rs1 r1 h1 => ?_⟩
  split at h1
  · rename_i dx l1
    obtain ⟨r, hr, w3⟩ := h1.of_R
    refine ⟨m1.Av, dx, r, rs1.av, r1.pend.look rs1 l1, hr, fun z e => ?_, op_fin rs1 w3 fun i e => ?_⟩
    · subst e; cases hr
    · subst e; cases dx <;> cases hr
  · exact h1.elim

/-! ### several -/
theorem early_reps : Early (RepRs X.K) := by
  intro m0 m1 m2 a b h x
  induction a generalizing b with
  | nil => exact x
  | cons r rs ih =>
    obtain ⟨v, ws, e, p, q⟩ := x
    exact ⟨v, ws, e, p, ih ws q⟩
theorem RepRs.to {m0 m1 m : M} : ∀ {l : List RV} {vs : List V}, RepRs X.K m0 m l vs → RepRs X.K m1 m l vs
  | [], _, h => h
  | r :: l, _, h => by
    obtain ⟨v, ws, e, p, q⟩ := h
    exact ⟨v, ws, e, p, RepRs.to q⟩
theorem pa_no : PA X [] (tA X.K XR G W .nil) := by
  refine PA_weak pa_nil fun σ H Q ⟨m, e1, e2, rs, w⟩ => ?_
  subst e1 e2
  simp only [evs] at w
  exact w m [] rfl rfl (.refl m) rs rfl
theorem RepRs.stepK {K : Fg} {m0 m m' : M} : ∀ {l : List RV} {vs : List V}, RS K m → Step m m' → m'.σ = m.σ → RepRs K m0 m l vs → RepRs K m0 m' l vs
  | [], _, _, _, _, h => h
  | r :: l, _, rs, s, e, h => by
    obtain ⟨v, ws, e1, p, q⟩ := h
    exact ⟨v, ws, e1, p.step rs s e, RepRs.stepK rs s e q⟩
theorem RepRs.step {m0 m m' : M} : ∀ {l : List RV} {vs : List V}, RS X.K m → Step m m' → m'.σ = m.σ → RepRs X.K m0 m l vs → RepRs X.K m0 m' l vs
  | [], _, _, _, _, h => h
  | r :: l, _, rs, s, e, h => by
    obtain ⟨v, ws, e1, p, q⟩ := h
    exact ⟨v, ws, e1, p.step rs s e, RepRs.step rs s e q⟩
theorem pa_more {a : Expr} {as : List Expr} {ea : E} {eas : Es} (ha : PE X a (tE X.K XR G W ea)) (hr : PA X as (tA X.K XR G W eas)) (hs : notStar a = true) : PA X (a :: as) (tA X.K XR G W (.cons ea eas)) := by
  refine PA_weak (pa_cons ha hr (star_of hs _ _)) fun σ H Q ⟨m, e1, e2, rs, w⟩ => ?_
  subst e1 e2
  simp only [evs] at w
  refine ⟨m, rfl, rfl, rs, (Wp.bind rs.av early_reps w).mono fun m1 x v f1 s1 rs1 r1 h1 => ?_⟩
  refine ⟨m1, f1, rfl, rs1, (Wp.bind rs1.av early_reps h1).mono fun m2 xs vs f2 s2 rs2 r2 h2 => ?_⟩
  exact h2 m2 (v :: vs) rfl rfl (.refl m2) rs2 ⟨v, vs, rfl, r1.pend.step rs1 s2 f2, r2.to⟩
theorem RepRs.looks {m0 m : M} : ∀ {l : List RV} {vs : List V} {ds : List D}, RS X.K m → RepRs X.K m0 m l vs → AW.looks m.g l = some ds → RepVs X.K m.Av m.H ds vs
  | [], _, _, _, h, e => by cases h; cases e; rfl
  | r :: l, _, ds, rs, h, e => by
    obtain ⟨v, ws, rfl, p, q⟩ := h
    simp only [AW.looks] at e
    cases h1 : look m.g r with
    | none => rw [h1] at e; cases e
    | some d =>
      rw [h1] at e
      cases h2 : AW.looks m.g l with
      | none => rw [h2] at e; cases e
      | some ds' =>
        rw [h2] at e
        cases e
        exact ⟨v, ws, rfl, p.look rs h1, RepRs.looks rs q h2⟩
/-- all given away -/
theorem RepRs.frz {m0 : M} : ∀ {l : List RV} {vs : List V} {ds : List D} {g' : Sg} {m : M}, RS X.K m → RepRs X.K m0 m l vs → frzs m.g l = some (ds, g') →
    ∃ m', m'.H = m.H ∧ m'.σ = m.σ ∧ m'.g = g' ∧ Step m m' ∧ RS X.K m' ∧ Reps X.K m'.Av m'.H ds vs
  | [], _, _, _, m, rs, h, e => by cases h; cases e; exact ⟨m, rfl, rfl, rfl, .refl m, rs, rfl⟩
  | r :: l, _, ds, g', m, rs, h, e => by
    obtain ⟨v, ws, rfl, p, q⟩ := h
    simp only [frzs] at e
    cases h1 : AW.frz m.g r with
    | none => rw [h1] at e; cases e
    | some z =>
      obtain ⟨d, g1⟩ := z
      rw [h1] at e
      simp only at e
      cases h2 : frzs g1 l with
      | none => rw [h2] at e; cases e
      | some z =>
        obtain ⟨ds', g2⟩ := z
        rw [h2] at e
        cases e
        obtain ⟨m1, a1, a2, a3, s1, rs1, r1⟩ := p.frz rs h1
        subst a3
        obtain ⟨m2, b1, b2, b3, s2, rs2, r2⟩ := RepRs.frz rs1 (RepRs.step rs s1 a2 q) h2
        exact ⟨m2, b1.trans a1, b2.trans a2, b3, s1.trans rs.av s2, rs2, v, ws, rfl, s2.rep rs1 r1, r2⟩
theorem len_frzs : ∀ {g g' : Sg} {l : List RV} {ds : List D}, frzs g l = some (ds, g') → ds.length = l.length
  | _, _, [], _, e => by cases e; rfl
  | g, g', r :: l, ds, e => by
    simp only [frzs] at e
    cases h1 : AW.frz g r with
    | none => rw [h1] at e; cases e
    | some z =>
      rw [h1] at e
      simp only at e
      cases h2 : frzs z.2 l with
      | none => rw [h2] at e; cases e
      | some y =>
        rw [h2] at e
        cases e
        simp [len_frzs h2]
theorem len_evs : ∀ {es : Es} {g : Sg} {l : List RV} {g' : Sg}, evs G es g = .ok l g' → l.length = es.len
  | .nil, _, _, _, h => by simp only [evs] at h; cases h; rfl
  | .cons e es, g, l, g', h => by
    simp only [evs] at h
    cases h1 : ev G e g with
    | stuck => rw [h1] at h; cases h
    | exc => rw [h1] at h; cases h
    | ok x g1 =>
      rw [h1] at h
      simp only [R.bind] at h
      cases h2 : evs G es g1 with
      | stuck => rw [h2] at h; cases h
      | exc => rw [h2] at h; cases h
      | ok xs g2 =>
        rw [h2] at h
        cases h
        simp [len_evs h2, Es.len]
/-- a written tuple, a written list -/
theorem pe_tup2 {as : List Expr} {eas : Es} {k : Nat} {pos : Pos} (h : PA X as (tA X.K XR G W eas)) (hl : as.length = eas.len) (hz : as.length ≤ line) : PE X (.Tuple as k pos) (tE X.K XR G W (.tup eas)) := by
  refine PE_weak (pe_tup h) fun σ H Q ⟨m, e1, e2, rs, w⟩ => ?_
  subst e1 e2
  simp only [ev] at w
  refine ⟨m, rfl, rfl, rs, ?_⟩
  have w' := Wp.bind (rel1 := RepRs X.K) rs.av early_repR w
  cases he : evs G eas m.g with
  | stuck => rw [he] at w'; exact w'
  | exc => rw [he] at w'; exact w'
  | ok l g' =>
    rw [he] at w'
    intro m1 vs f1 f2 s1 rs1 r1
    have h1 := w' m1 vs f1 f2 s1 rs1 r1
    try dsimp only at h1 ⊢
    split at h1
    · rename_i ds g2 hf
      obtain ⟨m2, b1, b2, b3, s2, rs2, r2⟩ := RepRs.frz rs1 r1 hf
      refine ⟨?_, fun p n => ?_⟩
      · have := r2.length
        have := len_frzs hf
        have := len_evs he
        show vs.length ≤ line
        omega
      · rw [← b1] at n ⊢
        have w3 : Wp X.K XR W (RepR X.K) m1 (.ok (.d (.tup ds)) m2.g) (fun m' _ v => Q v m'.H) := by rw [b3]; exact h1
        refine w3 { m2 with H := upd m2.H p (.tup vs) } (.ref p) b2 rfl (s2.trans rs1.av (.grow (same_upd n))) (rs2.grow (same_upd n)) ?_
        exact rep_newTup rs2.av n r2
    · exact h1.elim
theorem pe_lst2 {as : List Expr} {eas : Es} {pos : Pos} (h : PA X as (tA X.K XR G W eas)) (hl : as.length = eas.len) (hz : as.length ≤ line) : PE X (.List as pos) (tE X.K XR G W (.lst eas)) := by
  refine PE_weak (pe_lst h) fun σ H Q ⟨m, e1, e2, rs, w⟩ => ?_
  subst e1 e2
  simp only [ev] at w
  refine ⟨m, rfl, rfl, rs, ?_⟩
  have w' := Wp.bind (rel1 := RepRs X.K) rs.av early_repR w
  cases he : evs G eas m.g with
  | stuck => rw [he] at w'; exact w'
  | exc => rw [he] at w'; exact w'
  | ok l g' =>
    rw [he] at w'
    intro m1 vs f1 f2 s1 rs1 r1
    have h1 := w' m1 vs f1 f2 s1 rs1 r1
    try dsimp only at h1 ⊢
    split at h1
    · rename_i ds g2 hf
      obtain ⟨m2, b1, b2, b3, s2, rs2, r2⟩ := RepRs.frz rs1 r1 hf
      refine ⟨?_, fun p n => ?_⟩
      · have := r2.length
        have := len_frzs hf
        have := len_evs he
        show vs.length ≤ line
        omega
      · have n1 : m1.H p = none := n
        rw [← b1] at n ⊢
        have w3 : Wp X.K XR W (RepR X.K) m1 (.ok (.new (.lst ds)) m2.g) (fun m' _ v => Q v m'.H) := by rw [b3]; exact h1
        refine w3 { m2 with H := upd m2.H p (.lst vs) } (.ref p) b2 rfl (s2.trans rs1.av (.grow (same_upd n))) (rs2.grow (same_upd n)) ?_
        exact ⟨p, rfl, n1, fun z => rs2.av p z n, rs2.clear (same_upd n) n (by show upd m2.H p (.lst vs) p ≠ none; rw [upd_same]; simp), own_newLst rs2.av n r2⟩
    · exact h1.elim
theorem biD_slot {b : Bi} {ds : List D} {r : RV} (h : biD b ds = some r) : ∀ i, r ≠ .slot i := by
  intro i z
  subst z
  unfold biD at h
  repeat' split at h
  all_goals first
    | (cases h; done)
    | (simp only [Option.map_eq_some_iff] at h; obtain ⟨_, _, h⟩ := h; cases h; done)
    | skip
/-- a built-in function, a built-in type, called -/
theorem pe_bi {f : Value} {x : Str} {p pos : Pos} {a : Expr} {as : List Expr} {b : Bi} {eas : Es} (gd : Gd XR G X S W) (hg : glB S.sc x = true) (hb : S.bn x = true) (hc : CallR X f (bQ X.K b))
    (hk : (∃ id, f = .builtin id) ∨ ∃ T, f = .type T) (hv : bootBuiltins x = some f) (h : PA X (a :: as) (tA X.K XR G W eas)) (hs : (a :: as).all notStar = true) :
    PE X (.Call (.Name x p) (a :: as) [] pos) (tE X.K XR G W (.bi b eas)) := by
  obtain ⟨g1, g2, g3⟩ := gd.glob hg
  have s1 : notStar a = true := by simp at hs; exact hs.1
  have s2 : as.all notStar = true := by simp at hs ⊢; exact hs.2
  have key : ∀ σ H Q, tE X.K XR G W (.bi b eas) σ H Q → tCB (bQ X.K b) (tA X.K XR G W eas) σ H Q := fun σ H Q ⟨m, e1, e2, rs, w⟩ => by
    subst e1 e2
    simp only [ev] at w
    refine ⟨m, rfl, rfl, rs, (Wp.bind rs.av early_repR w).mono fun m1 l vs f1 st rs1 r1 h1 => ?_⟩
    split at h1
    · rename_i ds l1
      obtain ⟨r, hr, w3⟩ := h1.of_R
      exact ⟨m1.Av, ds, r, rs1.av, r1.looks rs1 l1, hr, op_fin rs1 w3 (biD_slot hr)⟩
    · exact h1.elim
  rcases hk with ⟨id, rfl⟩ | ⟨T, rfl⟩
  · exact PE_weak (pe_callB hc g1 (gd.bn x hb) hv h g3 g2 (star_of s1 _ _) (stars_of s2)) key
  · exact PE_weak (pe_callTy hc g1 (gd.bn x hb) hv h g3 g2 (star_of s1 _ _) (stars_of s2)) key
end
end AW

/-! P11: methods that change their list; calls. -/
namespace AW
open PySem PySem.Spec L2
section
variable {K : Fg} {m : M}
/-- the object of slot i is changed -/
theorem RS.chg {i : Nat} {h : Bool} {d d' : D} {a : Addr} {H' : Hp} (rs : RS K m) (hg : m.g[i]? = some (some (.own h d))) (hs : m.σ[i]? = some (some (.ref a))) (c : Chg m.H a H') (o : OwnAt K m.Av H' a d') :
    RS K { m with H := H', g := m.g.set i (some (.own h d')) } ∧ Step m { m with H := H', g := m.g.set i (some (.own h d')) } := by
  obtain ⟨a', e, ca, oa⟩ := rs.own i h d hg
  rw [hs] at e; cases e
  have k : Keep m.Av m.H m.Av H' := c.keep (rs.cav a ca)
  have there : ∀ b, m.H b ≠ none → H' b ≠ none := fun b hb => by
    by_cases e : b = a
    · subst e; exact c.there
    · rw [c.other b e]; exact hb
  refine ⟨⟨by simp [rs.len], fun b hb => there b (rs.av b hb), rs.cav, fun j e h' => ?_, fun j hm e h' => ?_, fun j k hm e hm' e' b h1 h2 s1 s2 => ?_⟩, ⟨fun b o hb nc => ?_, there, fun b z => .inl z, fun b z => .inl z, fun b z _ => z, fun j e h' => ?_⟩⟩
  · have h2 : (m.g.set i (some (.own h d')))[j]? = some (some (.val e)) := h'
    by_cases ij : i = j
    · subst ij
      rw [List.getElem?_set_self (lt_of_get hg)] at h2; cases h2
    · rw [List.getElem?_set_ne ij] at h2
      obtain ⟨v, q1, q2⟩ := rs.val j e h2
      exact ⟨v, q1, Rep.imp k _ _ q2⟩
  · have h2 : (m.g.set i (some (.own h d')))[j]? = some (some (.own hm e)) := h'
    by_cases ij : i = j
    · subst ij
      rw [List.getElem?_set_self (lt_of_get hg)] at h2; cases h2
      exact ⟨a, hs, ca, o⟩
    · rw [List.getElem?_set_ne ij] at h2
      obtain ⟨b, q1, q2, q3⟩ := rs.own j hm e h2
      refine ⟨b, q1, q2, q3.imp (c.other b fun z => ?_) k⟩
      rw [z] at q1
      exact ij (rs.inj i j h d hm e a hg h2 hs q1)
  · have f : ∀ {j : Nat} {hm : Bool} {e : D}, (m.g.set i (some (.own h d')))[j]? = some (some (.own hm e)) → ∃ hm e, m.g[j]? = some (some (.own hm e)) := fun {j hm e} h3 => by
      by_cases ij : i = j
      · subst ij; exact ⟨_, _, hg⟩
      · rw [List.getElem?_set_ne ij] at h3; exact ⟨_, _, h3⟩
    obtain ⟨_, _, f1⟩ := f h1
    obtain ⟨_, _, f2⟩ := f h2
    exact rs.inj j k _ _ _ _ b f1 f2 s1 s2
  · show H' b = some o
    rw [c.other b fun z => nc (z ▸ ca)]; exact hb
  · have h2 : (m.g.set i (some (.own h d')))[j]? = some (some (.own true e)) := h'
    refine ⟨?_, rfl⟩
    by_cases ij : i = j
    · subst ij
      rw [List.getElem?_set_self (lt_of_get hg)] at h2; cases h2
      exact ⟨d, hg⟩
    · exact ⟨e, by rwa [List.getElem?_set_ne ij] at h2⟩
end
section
variable {XR : XRel} {G : Env} {X : Cx} {S : SC} {W : WX}
/-- what a list method's arguments lead to -/
theorem mu_key {mm : Mu} {i : Nat} {eas : Es} {m : M} {l0 : List D} {h0 : Bool} {a : Addr} {Q : VK} (rs : RS X.K m) (hg : m.g[i]? = some (some (.own h0 (.lst l0)))) (hs : m.σ[i]? = some (some (.ref a)))
    (w : Wp X.K XR W (RepR X.K) m ((evs G eas m.g).bind fun xs σ1 => match frzs σ1 xs with
      | some (ds, σ2) => match σ2[i]? with
        | some (some (.own h d)) => match muD mm d ds with
          | some (d', r) => .ok (.d r) (σ2.set i (some (.own h d')))
          | none => .stuck
        | _ => .stuck
      | none => .stuck) fun m' _ v => Q v m'.H) :
    tA X.K XR G W eas m.σ m.H fun xs H2 => muQ X.K mm (.ref a) xs H2 Q := by
  refine ⟨m, rfl, rfl, rs, (Wp.bind rs.av early_repR w).mono fun m1 l vs f1 st rs1 r1 h1 => ?_⟩
  split at h1
  · rename_i ds g2 hf
    obtain ⟨m2, b1, b2, b3, s2, rs2, r2⟩ := RepRs.frz rs1 r1 hf
    subst b3
    split at h1
    · rename_i hh d hq
      split at h1
      · rename_i d' r hm
        have hs2 : m2.σ[i]? = some (some (.ref a)) := by rw [b2, f1]; exact hs
        obtain ⟨a', e, ca, oa⟩ := rs2.own i hh d hq
        rw [hs2] at e; cases e
        rw [← b1]
        refine ⟨m2.Av, a, d, ds, d', r, rfl, rs2.cav a ca, oa, r2, hm, fun v H' c o rr => ?_⟩
        obtain ⟨rs3, s3⟩ := rs2.chg hq hs2 c o
        exact h1 { m2 with H := H', g := m2.g.set i (some (.own hh d')) } v b2 rfl (s2.trans rs1.av s3) rs3 rr
      · exact h1.elim
    · exact h1.elim
  · exact h1.elim
theorem mu_start {mm : Mu} {i : Nat} {eas : Es} {m : M} {Q : VK} (rs : RS X.K m) (w : Wp X.K XR W (RepR X.K) m (ev G (.mu mm i eas) m.g) fun m' _ v => Q v m'.H) :
    ∃ a, m.σ[i]? = some (some (.ref a)) ∧ (∃ xs, SqL X.K m.H a xs) ∧ tA X.K XR G W eas m.σ m.H fun xs H2 => muQ X.K mm (.ref a) xs H2 Q := by
  simp only [ev] at w
  split at w
  · rename_i h0 l0 hg
    obtain ⟨a, e, ca, vs, oa, ra⟩ := rs.own i h0 _ hg
    exact ⟨a, e, ⟨vs, .of oa⟩, mu_key rs hg e w⟩
  · exact w.elim
theorem pe_mu {id : String} {name : Str} {mm : Mu} {x : Str} {i : Nat} {p apos cpos : Pos} {e : Expr} {es : List Expr} {eas : Es} (gd : Gd XR G X S W) (slot : Slot "list" name id) (hty : typeOf (.builtin id) = pure (.type "method_descriptor"))
    (hm : MtM X id (muQ X.K mm)) (hN : S.N[i]? = some x) (hv : visB S.sc x = true) (h1 : (x == ("__debug__" : Str)) = false) (h2 : (x == ("__classdict__" : Str)) = false)
    (ha : PA X (e :: es) (tA X.K XR G W eas)) (hs : (e :: es).all notStar = true) (hl : (e :: es).length < 30) (hline : (apos.endLine == cpos.line) = true) :
    PE X (.Call (.Attribute (.Name x p) name apos) (e :: es) [] cpos) (tE X.K XR G W (.mu mm i eas)) := by
  have s1 : notStar e = true := by simp at hs; exact hs.1
  have s2 : es.all notStar = true := by simp at hs ⊢; exact hs.2
  have hv' : PE X (.Name x p) (tVar i) := pe_var (i := i) (by rw [gd.N]; exact hN) (by rw [gd.sc]; exact vis_of hv) h1 h2
  have few : ((backTo cpos (starEach (e :: es) X.env)).all (fun x => !x.1) && (backToKw cpos (keywordEach [] X.env)).all (fun x => x.1.isSome)
      && decide ((e :: es).length + ([] : List Keyword).length + (if ([] : List Keyword).isEmpty then 0 else 1) < 30)) = true := by
    have a1 : (backTo cpos (starEach (e :: es) X.env)).all (fun x => !x.1) = true := by
      have := stars_of (es := e :: es) (env := X.env) (pos := cpos) hs
      rw [List.any_eq_false] at this
      rw [List.all_eq_true]
      intro y hy
      have := this y hy
      simpa using this
    have a2 : (backToKw cpos (keywordEach [] X.env)).all (fun x => x.1.isSome) = true := rfl
    rw [a1, a2]
    simp only [List.isEmpty, if_true, Bool.true_and]
    exact decide_eq_true (by simpa using hl)
  refine PE_weak (pe_bm PySem.F.plainAttrs_list slot hty hm hv' ha rfl few hline (star_of s1 _ _) (stars_of s2)) fun σ H Q ⟨m, e1, e2, rs, w⟩ => ?_
  subst e1 e2
  obtain ⟨a, q1, q2, q3⟩ := mu_start rs w
  exact ⟨.ref a, q1, .inl ⟨rfl, q2⟩, q3⟩
theorem pe_mu0 {id : String} {name : Str} {mm : Mu} {x : Str} {i : Nat} {p apos cpos : Pos} (gd : Gd XR G X S W) (slot : Slot "list" name id) (hty : typeOf (.builtin id) = pure (.type "method_descriptor"))
    (hm : MtM X id (muQ X.K mm)) (hN : S.N[i]? = some x) (hv : visB S.sc x = true) (h1 : (x == ("__debug__" : Str)) = false) (h2 : (x == ("__classdict__" : Str)) = false) (hline : (apos.endLine == cpos.line) = true) :
    PE X (.Call (.Attribute (.Name x p) name apos) [] [] cpos) (tE X.K XR G W (.mu mm i .nil)) := by
  have hv' : PE X (.Name x p) (tVar i) := pe_var (i := i) (by rw [gd.N]; exact hN) (by rw [gd.sc]; exact vis_of hv) h1 h2
  refine PE_weak (pe_bm0 PySem.F.plainAttrs_list slot hty hm hv' rfl hline) fun σ H Q ⟨m, e1, e2, rs, w⟩ => ?_
  subst e1 e2
  obtain ⟨a, q1, q2, q3⟩ := mu_start rs w
  refine ⟨.ref a, q1, .inl ⟨rfl, q2⟩, ?_⟩
  obtain ⟨m', f1, f2, rs', w'⟩ := q3
  simp only [evs] at w'
  have := w' m' [] rfl rfl (.refl m') rs' rfl
  rw [← f2]
  exact this
end

/-! ### calls -/
/-- an argument's cell -/
def CellR (K : Fg) (m : M) (c : Cell) (v : V) (b : Nat) : Prop := match c with
  | .val d => b = 0 ∧ Rep K m.Av m.H d v
  | .own hh d => hh = true ∧ ∃ i, b = i + 1 ∧ m.σ[i]? = some (some v) ∧ ∃ h, m.g[i]? = some (some (.own h d))
def CellsR (K : Fg) (m : M) : List Cell → List V → List Nat → Prop
  | [], vs, bs => vs = [] ∧ bs = []
  | c :: cs, vs, bs => ∃ v ws b bs', vs = v :: ws ∧ bs = b :: bs' ∧ CellR K m c v b ∧ CellsR K m cs ws bs'
section
variable {K : Fg} {m : M}
theorem arg1_ok {md : Bool} {r : RV} {v : V} {used : List Nat} {c : Cell} {g' : Sg} {b : Nat} (rs : RS K m) (p : Pend K m r v) (h : arg1 md r m.g used = some (c, g', b)) :
    ∃ m', m'.H = m.H ∧ m'.σ = m.σ ∧ m'.g = g' ∧ Step m m' ∧ RS K m' ∧ CellR K m' c v b ∧ (∀ j, j + 1 ∈ used → m'.g[j]? = m.g[j]?) ∧ (b ≠ 0 → b ∉ used) := by
  have triv : ∀ {d : D}, Rep K m.Av m.H d v → (if md then none else some (Cell.val d, m.g, 0)) = some (c, g', b) →
      ∃ m', m'.H = m.H ∧ m'.σ = m.σ ∧ m'.g = g' ∧ Step m m' ∧ RS K m' ∧ CellR K m' c v b ∧ (∀ j, j + 1 ∈ used → m'.g[j]? = m.g[j]?) ∧ (b ≠ 0 → b ∉ used) := fun {d} rd h => by
    cases md with
    | true => cases h
    | false =>
      cases h
      exact ⟨m, rfl, rfl, rfl, .refl m, rs, ⟨rfl, rd⟩, fun _ _ => rfl, fun z => absurd rfl z⟩
  cases r with
  | d d => exact triv p h
  | new d => exact triv p h
  | slot i =>
    have ps : m.σ[i]? = some (some v) := p
    simp only [arg1] at h
    split at h
    · cases h
    · rename_i hu
      have hu' : i + 1 ∉ used := by simpa using hu
      split at h
      · rename_i hh d hg
        obtain ⟨a, e, ca, oa⟩ := rs.own i hh d hg
        split at h
        · cases h
          exact ⟨m, rfl, rfl, rfl, .refl m, rs, ⟨rfl, i, rfl, ps, hh, hg⟩, fun _ _ => rfl, fun _ => hu'⟩
        · rename_i hmh
          have hf : hh = false := by cases hh <;> simp_all
          subst hf
          cases h
          have fz : frz m.g (.slot i) = some (d, m.g.set i (some (.val d))) := by simp only [frz, hg]
          obtain ⟨m', a1, a2, a3, s1, rs1, r1⟩ := Pend.frz (r := .slot i) rs p fz
          refine ⟨m', a1, a2, a3, s1, rs1, ⟨rfl, r1⟩, fun j hj => ?_, fun z => absurd rfl z⟩
          rw [a3, List.getElem?_set_ne]
          intro e
          subst e
          exact hu' hj
      · rename_i d hg
        obtain ⟨v', e, rd⟩ := rs.val i d hg
        rw [ps] at e; cases e
        exact triv rd h
      · cases h
theorem CellR.step {m' : M} {c : Cell} {v : V} {b : Nat} {used : List Nat} (rs : RS K m) (s : Step m m') (es : m'.σ = m.σ) (hg : ∀ j, j + 1 ∈ used → m'.g[j]? = m.g[j]?) (hb : b ≠ 0 → b ∈ used) (h : CellR K m c v b) : CellR K m' c v b := by
  cases c with
  | val d => exact ⟨h.1, s.rep rs h.2⟩
  | own hh d =>
    obtain ⟨e, i, rfl, q1, hx, q2⟩ := h
    exact ⟨e, i, rfl, by rw [es]; exact q1, hx, by rw [hg i (hb (Nat.succ_ne_zero i))]; exact q2⟩
theorem argCells_ok {m0 : M} : ∀ {ms : List Bool} {rs' : List RV} {vs : List V} {used : List Nat} {cs : List Cell} {g' : Sg} {bs : List Nat} {m : M}, RS K m → RepRs K m0 m rs' vs → argCells ms rs' m.g used = some (cs, g', bs) →
    ∃ m', m'.H = m.H ∧ m'.σ = m.σ ∧ m'.g = g' ∧ Step m m' ∧ RS K m' ∧ CellsR K m' cs vs bs ∧ (∀ j, j + 1 ∈ used → m'.g[j]? = m.g[j]?) ∧ (∀ b ∈ bs, b ≠ 0 → b ∉ used) ∧ (bs.filter (· ≠ 0)).Nodup
  | [], [], vs, used, cs, g', bs, m, rs, r, h => by
    cases r; cases h
    exact ⟨m, rfl, rfl, rfl, .refl m, rs, ⟨rfl, rfl⟩, fun _ _ => rfl, fun b hb => (nomatch hb), List.nodup_nil⟩
  | [], _ :: _, _, _, _, _, _, _, _, _, h => by cases h
  | _ :: _, [], _, _, _, _, _, _, _, _, h => by cases h
  | md :: ms, r :: rl, vs, used, cs, g', bs, m, rs, rr, h => by
    obtain ⟨v, ws, rfl, p, q⟩ := rr
    simp only [argCells] at h
    split at h
    · rename_i c g1 b h1
      split at h
      · rename_i cs' g2 bs' h2
        cases h
        obtain ⟨m1, a1, a2, a3, s1, rs1, c1, u1, n1⟩ := arg1_ok rs p h1
        subst a3
        obtain ⟨m2, b1, b2, b3, s2, rs2, c2, u2, n2, nd⟩ := argCells_ok rs1 (RepRs.stepK rs s1 a2 q) h2
        refine ⟨m2, b1.trans a1, b2.trans a2, b3, s1.trans rs.av s2, rs2, ⟨v, ws, b, bs', rfl, rfl, c1.step rs1 s2 b2 u2 fun _ => List.mem_cons_self, c2⟩, fun j hj => ?_, fun b' hb' hz => ?_, ?_⟩
        · exact (u2 j (List.mem_cons_of_mem _ hj)).trans (u1 j hj)
        · rcases List.mem_cons.mp hb' with rfl | hb'
          · exact n1 hz
          · exact fun z => n2 b' hb' hz (List.mem_cons_of_mem _ z)
        · rw [List.filter_cons]
          split
          · rename_i hb0
            refine List.nodup_cons.mpr ⟨fun hm => ?_, nd⟩
            obtain ⟨hm1, hm2⟩ := List.mem_filter.mp hm
            exact n2 b hm1 (by simpa using hm2) List.mem_cons_self
          · exact nd
      · cases h
    · cases h
end
end AW

/-! P12: a call. -/
namespace AW
open PySem PySem.Spec L2
/-- what a call is to give -/
def PostF (K : Fg) (XR : XRel) (m0 : M) (fr : FR) (Q : VK) (E : XK) : Prop := match fr with
  | .ok rv outs => ∀ v H', Step m0 ⟨m0.Av, m0.C, H', m0.σ, outs.map some⟩ → RS K ⟨m0.Av, m0.C, H', m0.σ, outs.map some⟩ → RepR K m0 ⟨m0.Av, m0.C, H', m0.σ, outs.map some⟩ rv v → (∀ i, rv ≠ .slot i) → Q v H'
  | .exc c p => ∀ cls dx H', (∀ a o, m0.H a = some o → ¬ m0.C a → H' a = some o) → (∀ a, m0.H a ≠ none → H' a ≠ none) → XR m0.Av H' c p cls dx → E cls dx H'
  | .stuck => False
/-- a def's promise, by the evaluator -/
def spF (K : Fg) (XR : XRel) (phi : List Cell → FR) (n : Nat) : Sp := fun vs H Q E => ∃ (Av C : Zn) (cs : List Cell), vs.length = n ∧ RS K ⟨Av, C, H, vs.map some, cs.map some⟩ ∧
  (∀ a, C a → ∃ (j : Nat) (d : D), cs[j]? = some (.own true d) ∧ vs[j]? = some (.ref a)) ∧ (∀ (j : Nat) (h : Bool) (d : D), cs[j]? = some (.own h d) → h = true) ∧ PostF K XR ⟨Av, C, H, vs.map some, cs.map some⟩ (phi cs) Q E
theorem get_map_some {α : Type} {l : List α} {j : Nat} {x : α} : (l.map some)[j]? = some (some x) ↔ l[j]? = some x := by
  rw [List.getElem?_map]
  cases l[j]? <;> simp
theorem get_map_none {α : Type} {l : List α} {j : Nat} : (l.map some)[j]? ≠ some (none : Option α) := by
  rw [List.getElem?_map]
  cases l[j]? <;> simp
section
variable {K : Fg} {m : M}
theorem CellsR.get : ∀ {cs : List Cell} {vs : List V} {bs : List Nat} {j : Nat} {c : Cell}, CellsR K m cs vs bs → cs[j]? = some c → ∃ v b, vs[j]? = some v ∧ bs[j]? = some b ∧ CellR K m c v b
  | [], _, _, _, _, _, e => by simp at e
  | c :: cs, _, _, 0, _, h, e => by
    obtain ⟨v, ws, b, bs', rfl, rfl, h1, h2⟩ := h
    simp at e; subst e
    exact ⟨v, b, rfl, rfl, h1⟩
  | c :: cs, _, _, j + 1, _, h, e => by
    obtain ⟨v, ws, b, bs', rfl, rfl, h1, h2⟩ := h
    simp at e
    obtain ⟨v', b', e1, e2, e3⟩ := CellsR.get h2 e
    exact ⟨v', b', by simpa using e1, by simpa using e2, e3⟩
theorem CellsR.len : ∀ {cs : List Cell} {vs : List V} {bs : List Nat}, CellsR K m cs vs bs → cs.length = vs.length ∧ cs.length = bs.length
  | [], _, _, h => by obtain ⟨rfl, rfl⟩ := h; exact ⟨rfl, rfl⟩
  | c :: cs, _, _, h => by
    obtain ⟨v, ws, b, bs', rfl, rfl, h1, h2⟩ := h
    have := h2.len
    simp [this.1]
    omega
theorem CellsR.of_b : ∀ {cs : List Cell} {vs : List V} {bs : List Nat} {j : Nat} {b : Nat}, CellsR K m cs vs bs → bs[j]? = some b → ∃ v c, vs[j]? = some v ∧ cs[j]? = some c ∧ CellR K m c v b := by
  intro cs vs bs j b h e
  have hl := h.len
  have hj : j < cs.length := by rw [hl.2]; exact lt_of_get e
  obtain ⟨v, b', e1, e2, e3⟩ := h.get (List.getElem?_eq_getElem hj)
  rw [e] at e2; cases e2
  exact ⟨v, _, e1, List.getElem?_eq_getElem hj, e3⟩
theorem nodup_filter : ∀ {bs : List Nat} {j k b : Nat}, (bs.filter (· ≠ 0)).Nodup → b ≠ 0 → bs[j]? = some b → bs[k]? = some b → j = k
  | [], _, _, _, _, _, e, _ => by simp at e
  | x :: bs, j, k, b, nd, hb, e1, e2 => by
    rw [List.filter_cons] at nd
    have mem : ∀ {i : Nat}, bs[i]? = some b → b ∈ bs.filter (· ≠ 0) := fun {i} e => List.mem_filter.mpr ⟨List.mem_of_getElem? e, by simpa using hb⟩
    cases j with
    | zero =>
      cases k with
      | zero => rfl
      | succ k =>
        simp at e1 e2
        subst e1
        rw [if_pos (by simpa using hb)] at nd
        exact absurd (mem e2) (List.nodup_cons.mp nd).1
    | succ j =>
      cases k with
      | zero =>
        simp at e1 e2
        subst e2
        rw [if_pos (by simpa using hb)] at nd
        exact absurd (mem e1) (List.nodup_cons.mp nd).1
      | succ k =>
        simp at e1 e2
        have nd' : (bs.filter (· ≠ 0)).Nodup := by
          split at nd
          · exact (List.nodup_cons.mp nd).2
          · exact nd
        rw [nodup_filter nd' hb e1 e2]
/-- the borrowed objects -/
def Cc (m : M) (bs : List Nat) : Zn := fun a => ∃ i : Nat, i + 1 ∈ bs ∧ m.σ[i]? = some (some (.ref a))
theorem Cc.own {cs : List Cell} {vs : List V} {bs : List Nat} (h : CellsR K m cs vs bs) {i : Nat} (hi : i + 1 ∈ bs) : ∃ hm d, m.g[i]? = some (some (.own hm d)) := by
  obtain ⟨j, e⟩ := List.getElem?_of_mem hi
  obtain ⟨v, c, e1, e2, e3⟩ := h.of_b e
  cases c with
  | val d => exact absurd e3.1 (Nat.succ_ne_zero i)
  | own hh d =>
    obtain ⟨_, i', ei, _, hm, eg⟩ := e3
    have : i = i' := by omega
    subst this
    exact ⟨hm, d, eg⟩
theorem Cc.sub {cs : List Cell} {vs : List V} {bs : List Nat} (rs : RS K m) (h : CellsR K m cs vs bs) {a : Addr} (c : Cc m bs a) : m.C a := by
  obtain ⟨i, hi, e⟩ := c
  obtain ⟨hm, d, eg⟩ := Cc.own h hi
  obtain ⟨a', e', ca, _⟩ := rs.own i hm d eg
  rw [e] at e'; cases e'
  exact ca
theorem entry_rs {cs : List Cell} {vs : List V} {bs : List Nat} (rs : RS K m) (h : CellsR K m cs vs bs) (nd : (bs.filter (· ≠ 0)).Nodup) : RS K ⟨m.Av, Cc m bs, m.H, vs.map some, cs.map some⟩ where
  len := by simp [h.len.1]
  av := rs.av
  cav a c := rs.cav a (Cc.sub rs h c)
  val j d e := by
    have e := get_map_some.mp (show (cs.map some)[j]? = _ from e)
    obtain ⟨v, b, e1, e2, e3⟩ := h.get e
    exact ⟨v, get_map_some.mpr e1, e3.2⟩
  own j hm d e := by
    have e := get_map_some.mp (show (cs.map some)[j]? = _ from e)
    obtain ⟨v, b, e1, e2, _, i, rfl, e3, hh, e4⟩ := h.get e
    obtain ⟨a, e5, ca, o⟩ := rs.own i hh d e4
    rw [e3] at e5; cases e5
    exact ⟨a, get_map_some.mpr e1, ⟨i, List.mem_of_getElem? e2, e3⟩, o⟩
  inj j k hm d hm' d' a h1 h2 s1 s2 := by
    have h1 := get_map_some.mp (show (cs.map some)[j]? = _ from h1)
    have h2 := get_map_some.mp (show (cs.map some)[k]? = _ from h2)
    have s1 := get_map_some.mp (show (vs.map some)[j]? = _ from s1)
    have s2 := get_map_some.mp (show (vs.map some)[k]? = _ from s2)
    obtain ⟨v, b, e1, e2, _, i, rfl, e3, hh, e4⟩ := h.get h1
    obtain ⟨v', b', f1, f2, _, i', rfl, f3, hh', f4⟩ := h.get h2
    rw [s1] at e1; cases e1
    rw [s2] at f1; cases f1
    have ii := rs.inj i i' _ _ _ _ a e4 f4 e3 f3
    subst ii
    exact nodup_filter nd (Nat.succ_ne_zero i) e2 f2
/-- behind the call -/
theorem back_get : ∀ {bs : List Nat} {outs : List Cell} {g g' : Sg}, backCells g bs outs = some g' → (bs.filter (· ≠ 0)).Nodup →
    (∀ i : Nat, i + 1 ∉ bs → g'[i]? = g[i]?) ∧ (∀ (j i : Nat), bs[j]? = some (i + 1) → ∃ h d hm d', outs[j]? = some (.own h d) ∧ g[i]? = some (some (.own hm d')) ∧ g'[i]? = some (some (.own hm d)))
  | [], [], g, g', e, _ => by cases e; exact ⟨fun _ _ => rfl, fun j i h => by simp at h⟩
  | [], _ :: _, _, _, e, _ => by cases e
  | _ :: _, [], _, _, e, _ => by cases e
  | b :: bs, c :: outs, g, g', e, nd => by
    rw [List.filter_cons] at nd
    simp only [backCells] at e
    cases b with
    | zero =>
      simp only at e
      rw [if_neg (by simp)] at nd
      obtain ⟨f1, f2⟩ := back_get e nd
      refine ⟨fun i hi => f1 i fun z => hi (List.mem_cons_of_mem _ z), fun j i hj => ?_⟩
      cases j with
      | zero => simp at hj
      | succ j => simpa using f2 j i (by simpa using hj)
    | succ i0 =>
      rw [if_pos (by simp)] at nd
      obtain ⟨n1, n2⟩ := List.nodup_cons.mp nd
      simp only at e
      split at e
      · rename_i h d hm d' hg
        obtain ⟨f1, f2⟩ := back_get e n2
        have fresh : i0 + 1 ∉ bs := fun z => n1 (List.mem_filter.mpr ⟨z, by simp⟩)
        refine ⟨fun i hi => ?_, fun j i hj => ?_⟩
        · rw [f1 i fun z => hi (List.mem_cons_of_mem _ z), List.getElem?_set_ne]
          intro z
          subst z
          exact hi List.mem_cons_self
        · cases j with
          | zero =>
            simp at hj
            subst hj
            exact ⟨h, d, hm, d', rfl, hg, by rw [f1 i0 fresh, List.getElem?_set_self (lt_of_get hg)]⟩
          | succ j =>
            have hj' : bs[j]? = some (i + 1) := by simpa using hj
            obtain ⟨h2, d2, hm2, d2', q1, q2, q3⟩ := f2 j i hj'
            have ne : i0 ≠ i := fun z => by
              subst z
              exact fresh (List.mem_of_getElem? hj')
            rw [List.getElem?_set_ne ne] at q2
            exact ⟨h2, d2, hm2, d2', by simpa using q1, q2, q3⟩
      · cases e
theorem back_len : ∀ {bs : List Nat} {outs : List Cell} {g g' : Sg}, backCells g bs outs = some g' → g'.length = g.length
  | [], [], g, g', e => by cases e; rfl
  | [], _ :: _, _, _, e => by cases e
  | _ :: _, [], _, _, e => by cases e
  | b :: bs, c :: outs, g, g', e => by
    simp only [backCells] at e
    cases b with
    | zero => exact back_len e
    | succ i0 =>
      simp only at e
      split at e
      · rw [back_len e]; simp
      · cases e
theorem back_rs {cs : List Cell} {vs : List V} {bs : List Nat} {outs : List Cell} {g' : Sg} {H' : Hp} {Z : Zn} (rs : RS K m) (h : CellsR K m cs vs bs) (nd : (bs.filter (· ≠ 0)).Nodup)
    (hb : backCells m.g bs outs = some g') (keep : ∀ a o, m.H a = some o → ¬ Cc m bs a → H' a = some o) (rs1 : RS K ⟨Z, Cc m bs, H', vs.map some, outs.map some⟩)
    (z1 : ∀ a, Z a → m.Av a ∨ m.H a = none) (z2 : ∀ a, m.Av a → Z a) : RS K ⟨Z, m.C, H', m.σ, g'⟩ := by
  obtain ⟨b1, b2⟩ := back_get hb nd
  have kp : Keep m.Av m.H Z H' := .of fun a o e n => ⟨keep a o e fun c => n (rs.cav a (Cc.sub rs h c)), fun z => (z1 a z).elim n fun q => by rw [e] at q; cases q⟩
  have old : ∀ {i : Nat} {c : Cell}, g'[i]? = some (some c) → i + 1 ∉ bs → m.g[i]? = some (some c) := fun {i c} e n => by rw [← b1 i n]; exact e
  refine ⟨by show m.σ.length = g'.length; rw [rs.len, back_len hb], rs1.av, fun a c => z2 a (rs.cav a c), fun i d e => ?_, fun i hm d e => ?_, fun i k hm d hm' d' a h1 h2 s1 s2 => ?_⟩
  · by_cases hi : i + 1 ∈ bs
    · obtain ⟨j, ej⟩ := List.getElem?_of_mem hi
      obtain ⟨_, _, _, _, _, _, q3⟩ := b2 j i ej
      rw [show g'[i]? = _ from q3] at e; cases e
    · obtain ⟨v, e1, r⟩ := rs.val i d (old e hi)
      exact ⟨v, e1, Rep.imp kp _ _ r⟩
  · by_cases hi : i + 1 ∈ bs
    · obtain ⟨j, ej⟩ := List.getElem?_of_mem hi
      obtain ⟨h2, d2, hm2, d2', q1, q2, q3⟩ := b2 j i ej
      rw [show g'[i]? = _ from q3] at e; cases e
      obtain ⟨a, e1, _, o⟩ := rs1.own j h2 _ (get_map_some.mpr q1)
      have e1 := get_map_some.mp (show (vs.map some)[j]? = _ from e1)
      obtain ⟨v, c, f1, f2, f3⟩ := h.of_b ej
      cases c with
      | val d => exact absurd f3.1 (Nat.succ_ne_zero i)
      | own hh dd =>
        obtain ⟨_, i', ei, f4, _⟩ := f3
        have : i = i' := by omega
        subst this
        rw [e1] at f1; cases f1
        obtain ⟨a', e5, ca, _⟩ := rs.own i _ d2' q2
        rw [f4] at e5; cases e5
        exact ⟨a, f4, ca, o⟩
    · obtain ⟨a, e1, ca, o⟩ := rs.own i hm d (old e hi)
      refine ⟨a, e1, ca, o.imp ?_ kp⟩
      cases q : m.H a with
      | none => exact absurd q o.some
      | some u =>
        refine keep a u q fun ⟨i2, hi2, e2⟩ => ?_
        obtain ⟨hm2, d2, eg⟩ := Cc.own h hi2
        have := rs.inj i i2 hm d hm2 d2 a (old e hi) eg e1 e2
        subst this
        exact hi hi2
  · have was : ∀ {i : Nat} {hm : Bool} {d : D}, g'[i]? = some (some (.own hm d)) → ∃ hm d, m.g[i]? = some (some (.own hm d)) := fun {i hm d} e => by
      by_cases hi : i + 1 ∈ bs
      · exact Cc.own h hi
      · exact ⟨hm, d, old e hi⟩
    obtain ⟨_, _, f1⟩ := was h1
    obtain ⟨_, _, f2⟩ := was h2
    exact rs.inj i k _ _ _ _ a f1 f2 s1 s2
theorem lose_get : ∀ {bs : List Nat} {g : Sg} {i : Nat} {c : Cell}, (loseCells g bs)[i]? = some (some c) → g[i]? = some (some c) ∧ i + 1 ∉ bs
  | [], _, _, _, e => ⟨e, fun z => nomatch z⟩
  | 0 :: bs, g, i, c, e => by
    obtain ⟨h1, h2⟩ := lose_get (bs := bs) e
    exact ⟨h1, fun z => (List.mem_cons.mp z).elim (fun q => by cases q) h2⟩
  | (i0 + 1) :: bs, g, i, c, e => by
    obtain ⟨h1, h2⟩ := lose_get (bs := bs) (g := g.set i0 none) e
    have ne : i0 ≠ i := fun z => by
      subst z
      rw [List.getElem?_set] at h1
      split at h1
      · split at h1 <;> cases h1
      · rename_i q; exact q rfl
    rw [List.getElem?_set_ne ne] at h1
    exact ⟨h1, fun z => (List.mem_cons.mp z).elim (fun q => ne (by omega)) h2⟩
theorem lose_len : ∀ {bs : List Nat} {g : Sg}, (loseCells g bs).length = g.length
  | [], _ => rfl
  | 0 :: bs, g => lose_len (bs := bs)
  | (i0 + 1) :: bs, g => by
    show (loseCells (g.set i0 none) bs).length = _
    rw [lose_len]; simp
theorem lose_rs {cs : List Cell} {vs : List V} {bs : List Nat} {H' : Hp} (rs : RS K m) (h : CellsR K m cs vs bs)
    (keep : ∀ a o, m.H a = some o → ¬ Cc m bs a → H' a = some o) (there : ∀ a, m.H a ≠ none → H' a ≠ none) : RS K ⟨m.Av, m.C, H', m.σ, loseCells m.g bs⟩ := by
  have kp : Keep m.Av m.H m.Av H' := .of fun a o e n => ⟨keep a o e fun c => n (rs.cav a (Cc.sub rs h c)), n⟩
  refine ⟨by show m.σ.length = _; rw [lose_len, rs.len], fun a z => there a (rs.av a z), rs.cav, fun i d e => ?_, fun i hm d e => ?_, fun i k hm d hm' d' a h1 h2 s1 s2 => ?_⟩
  · obtain ⟨v, e1, r⟩ := rs.val i d (lose_get e).1
    exact ⟨v, e1, Rep.imp kp _ _ r⟩
  · obtain ⟨e0, n0⟩ := lose_get e
    obtain ⟨a, e1, ca, o⟩ := rs.own i hm d e0
    refine ⟨a, e1, ca, o.imp ?_ kp⟩
    cases q : m.H a with
    | none => exact absurd q o.some
    | some u =>
      refine keep a u q fun ⟨i2, hi2, e2⟩ => ?_
      obtain ⟨hm2, d2, eg⟩ := Cc.own h hi2
      have := rs.inj i i2 hm d hm2 d2 a e0 eg e1 e2
      subst this
      exact n0 hi2
  · exact rs.inj i k _ _ _ _ a (lose_get h1).1 (lose_get h2).1 s1 s2
end
section
variable {XR : XRel} {G : Env} {X : Cx} {S : SC} {W : WX}
theorem pe_fn {x : Str} {i k : Nat} {f : Addr} {fd : FuncData} {ps : List Str} {p pos : Pos} {e : Expr} {es : List Expr} {eas : Es} (gd : Gd XR G X S W)
    (F : FnOk X.prog X.w X.K X.mg X.base (L2.CX X.prog X.w) k f fd ps (spF X.K XR (G.phi i) ps.length)) (hr : Room k X.A) (hg : glB S.sc x = true) (hm : X.mg x = some (.ref f)) (hk : PySem.W.keepIn X.K (.ref f) = true) (hb : Binds X.K fd ps [])
    (ha : PA X (e :: es) (tA X.K XR G W eas)) (hs : (e :: es).all notStar = true) (hl : (e :: es).length = eas.len) (hn : eas.len = ps.length) :
    PE X (.Call (.Name x p) (e :: es) [] pos) (tE X.K XR G W (.call i eas)) := by
  obtain ⟨g1, g2, g3⟩ := gd.glob hg
  have s1 : notStar e = true := by simp at hs; exact hs.1
  have s2 : es.all notStar = true := by simp at hs ⊢; exact hs.2
  refine PE_weak (pe_callSD (E := fun σ cls d H => W cls d σ H) F hr g1 hm hk hb .nil (fun σ => passAt gd.takes σ) ha g2 (star_of s1 _ _) (stars_of s2)) fun σ H Q ⟨m, e1, e2, rs, w⟩ => ?_
  subst e1 e2
  simp only [ev] at w
  refine ⟨m, rfl, rfl, rs, ?_⟩
  have w' := Wp.bind (rel1 := RepRs X.K) rs.av early_repR w
  cases he : evs G eas m.g with
  | stuck => rw [he] at w'; exact w'
  | exc => rw [he] at w'; exact w'
  | ok l g' =>
    rw [he] at w'
    intro m1 vs f1 f2 st1 rs1 r1
    have h1 := w' m1 vs f1 f2 st1 rs1 r1
    try dsimp only at h1 ⊢
    rw [List.append_nil]
    split at h1
    · rename_i cs g2 bs hc
      obtain ⟨m2, a1, a2, a3, st2, rs2, c2, _, _, nd⟩ := argCells_ok rs1 r1 hc
      subst a3
      have lv : vs.length = ps.length := by
        have h1 := len_evs he
        have : ∀ {l : List RV} {vs : List V}, RepRs X.K m m1 l vs → l.length = vs.length := by
          intro l
          induction l with
          | nil => intro vs h; cases h; rfl
          | cons r l ih =>
            intro vs h
            obtain ⟨v, ws, rfl, _, q⟩ := h
            simp [ih q]
        have := this r1
        omega
      rw [← a1]
      refine ⟨m2.Av, Cc m2 bs, cs, lv, entry_rs rs2 c2 nd, fun a ⟨i', hi, e⟩ => ?_, fun j h d e => ?_, ?_⟩
      · obtain ⟨j, ej⟩ := List.getElem?_of_mem hi
        obtain ⟨v, c, q1, q2, q3⟩ := c2.of_b ej
        cases c with
        | val d => exact absurd q3.1 (Nat.succ_ne_zero i')
        | own hh d =>
          obtain ⟨rfl, i2, ei, q4, _⟩ := q3
          have : i' = i2 := by omega
          subst this
          rw [e] at q4; cases q4
          exact ⟨j, d, q2, q1⟩
      · obtain ⟨v, b, q1, q2, q3⟩ := c2.get e
        exact q3.1
      · cases hphi : G.phi i cs with
        | stuck => rw [hphi] at h1; exact h1
        | ok rv outs =>
          rw [hphi] at h1
          simp only at h1
          intro v H' st0 rs0 rr ns
          have rs0' : RS X.K ⟨m2.Av, Cc m2 bs, H', vs.map some, outs.map some⟩ := rs0
          cases hb' : backCells m2.g bs outs with
          | none => rw [hb'] at h1; exact h1.elim
          | some g3 =>
            rw [hb'] at h1
            have kk : ∀ a o, m2.H a = some o → ¬ Cc m2 bs a → H' a = some o := st0.keep
            have st3 : Step m2 ⟨m2.Av, m2.C, H', m2.σ, g3⟩ := by
              refine ⟨fun a o e nc => kk a o e fun c => nc (Cc.sub rs2 c2 c), st0.there, fun a c => .inl c, fun a c => .inl c, fun a c _ => c, fun j d e => ⟨?_, rfl⟩⟩
              obtain ⟨b1, b2⟩ := back_get hb' nd
              have e : g3[j]? = some (some (.own true d)) := e
              by_cases hj : j + 1 ∈ bs
              · obtain ⟨j', ej⟩ := List.getElem?_of_mem hj
                obtain ⟨_, d2, hm2, d2', _, q2, q3⟩ := b2 j' j ej
                rw [q3] at e; cases e
                exact ⟨d2', q2⟩
              · exact ⟨d, by rw [← b1 j hj]; exact e⟩
            have rs3 := back_rs rs2 c2 nd hb' kk rs0' (fun a z => .inl z) (fun a z => z)
            refine h1 ⟨m2.Av, m2.C, H', m2.σ, g3⟩ v a2 rfl (st2.trans rs1.av st3) rs3 ?_
            cases rv with
            | slot i => exact absurd rfl (ns i)
            | d d => exact rr
            | new d =>
              obtain ⟨a, rfl, n0, na, rsz, o⟩ := rr
              have n0 : m2.H a = none := n0
              refine ⟨a, rfl, by rw [← a1]; exact n0, na, ?_, o⟩
              exact back_rs (m := m2) rs2 c2 nd hb' kk rsz (fun b z => z.elim .inl fun e => .inr (by rw [e]; exact n0)) fun b z => .inl z
        | exc c p =>
          rw [hphi] at h1
          intro cls dx H' kk th xr
          have kk : ∀ a o, m2.H a = some o → ¬ Cc m2 bs a → H' a = some o := kk
          have st3 : Step m2 ⟨m2.Av, m2.C, H', m2.σ, loseCells m2.g bs⟩ :=
            ⟨fun a o e nc => kk a o e fun c => nc (Cc.sub rs2 c2 c), th, fun a c => .inl c, fun a c => .inl c, fun a c _ => c, fun j d e => ⟨⟨d, (lose_get e).1⟩, rfl⟩⟩
          have := h1 ⟨m2.Av, m2.C, H', m2.σ, loseCells m2.g bs⟩ cls dx a2 rfl (st2.trans rs1.av st3) (lose_rs rs2 c2 kk th) xr
          rw [← f1, ← a2]
          exact this
    · exact h1.elim
end
end AW

/-! P13: what is walked. -/
namespace AW
open PySem PySem.Spec L2
/-- what stands off the zone stays as it is -/
def KeepX (Av : Zn) (H : Hp) (Av' : Zn) (H' : Hp) : Prop := ∀ a o, H a = some o → ¬ Av a → H' a = some o ∧ ¬ Av' a
/-- the iterator J walks the items -/
structure Walk (K : Fg) (J : It) (its : List D) (src : Zn → Hp → Prop) : Prop where
  keep : ∀ Av H Av' H', KeepX Av H Av' H' → src Av H → src Av' H'
  go : ∀ Av H i, i < its.length → src Av H → J.go i H
  stop : ∀ Av H, src Av H → J.stop its.length H
  yld : ∀ Av H i x H', src Av H → (∀ a, Av a → H a ≠ none) → i < its.length → J.yld i H x H' → Same H H' ∧ ∃ d, its[i]? = some d ∧ Rep K Av H' d x
theorem Step.kx {K : Fg} {m m' : M} (rs : RS K m) (s : Step m m') : KeepX m.Av m.H m'.Av m'.H :=
  fun a o e n => ⟨s.keep a o e fun z => n (rs.cav a z), fun z => (s.avgrow a z).elim n fun q => by rw [e] at q; cases q⟩
theorem KeepX.k {Av Av' : Zn} {H H' : Hp} (h : KeepX Av H Av' H') : Keep Av H Av' H' := .of h
section
variable {K : Fg}
theorem rep_at {Av : Zn} {H : Hp} {its : List D} {vs : List V} {i : Nat} {x : V} (r : Reps K Av H its vs) (h : vs[i]? = some x) : ∃ d, its[i]? = some d ∧ Rep K Av H d x := r.get' h
theorem walk_list {a : Addr} {its : List D} {vs : List V} : Walk K (Itl K a) its fun Av H => H a = some (.lst vs) ∧ ¬ Av a ∧ Reps K Av H its vs where
  keep Av H Av' H' k h := ⟨(k a _ h.1 h.2.1).1, (k a _ h.1 h.2.1).2, Reps.imp k.k _ _ h.2.2⟩
  go Av H i hi h := by
    have hl := h.2.2.length
    exact ⟨vs, vs[i]'(by omega), .of h.1, List.getElem?_eq_getElem _⟩
  stop Av H h := ⟨vs, .of h.1, by have := h.2.2.length; omega⟩
  yld Av H i x H' h av hi hy := by
    obtain ⟨rfl, f⟩ := hy
    have e := f vs (.of h.1)
    exact ⟨Same.refl _, rep_at h.2.2 e⟩
theorem walk_tup {a : Addr} {its : List D} {vs : List V} : Walk K (Itt K a) its fun Av H => (At Av H a (.tup vs) ∨ KTup K a vs) ∧ Reps K Av H its vs where
  keep Av H Av' H' k h := ⟨h.1.imp (k.k.rd a _ trivial) id, Reps.imp k.k _ _ h.2⟩
  go Av H i hi h := by
    have hl := h.2.length
    exact ⟨vs, vs[i]'(by omega), h.1.elim (fun z => .inl z.1) .inr, List.getElem?_eq_getElem _⟩
  stop Av H h := ⟨vs, h.1.elim (fun z => .inl z.1) .inr, by have := h.2.length; omega⟩
  yld Av H i x H' h av hi hy := by
    obtain ⟨rfl, f⟩ := hy
    have e := f vs (h.1.elim (fun z => .inl z.1) .inr)
    exact ⟨Same.refl _, rep_at h.2 e⟩
theorem walk_str {z : List Nat} (oz : okS z = true) : Walk K (Its (sS z)) (z.map fun c => .str [c]) fun _ _ => True where
  keep _ _ _ _ _ _ := trivial
  go Av H i hi _ := by
    show i < (sS z).cps.size
    simpa [sS] using hi
  stop Av H _ := by
    show (sS z).cps.size ≤ _
    simp [sS]
  yld Av H i x H' _ av hi hy := by
    obtain ⟨rfl, c, e, rfl⟩ := hy
    have e : z[i]? = some c := by simpa [sS] using e
    refine ⟨Same.refl _, .str [c], by rw [List.getElem?_map, e]; rfl, rfl, ?_⟩
    rw [okS_iff] at oz ⊢
    exact ⟨by simp [line], fun c' h => by rw [List.mem_singleton.mp h]; exact oz.2 c (List.mem_of_getElem? e)⟩
theorem walk_rng {lo : Int} {n : Nat} : Walk K (Itr lo n) (rngL lo n) fun _ _ => True where
  keep _ _ _ _ _ _ := trivial
  go Av H i hi _ := by
    show i < n
    simpa [rngL] using hi
  stop Av H _ := by
    show n ≤ (rngL lo n).length
    simp [rngL]
  yld Av H i x H' _ av hi hy := by
    obtain ⟨rfl, rfl⟩ := hy
    have hi : i < n := by simpa [rngL] using hi
    refine ⟨Same.refl _, .int (lo + (i : Int)), ?_, rfl⟩
    simp [rngL, hi]
theorem walk_keys {d : Addr} {o : Obj} {kvs : List (Key × V)} (hk : (kvs.map fun p => kD p.1).all okK = true) : Walk K (Itk d o kvs) (kvs.map fun p => kD p.1) fun Av H => H d = some (.frz o (.dK kvs)) ∧ ¬ Av d where
  keep Av H Av' H' k h := k d _ h.1 h.2
  go Av H i hi h := ⟨h.1, by simpa using hi⟩
  stop Av H h := ⟨h.1, by simp⟩
  yld Av H i x H' h av hi hy := by
    obtain ⟨rfl, k, v, e, rfl⟩ := hy
    refine ⟨Same.refl _, kD k, by rw [List.getElem?_map, e]; rfl, ?_⟩
    have hm : kD k ∈ kvs.map fun p => kD p.1 := List.mem_map.mpr ⟨(k, v), List.mem_of_getElem? e, rfl⟩
    have ok := List.all_eq_true.mp hk _ hm
    cases k with
    | inl i => exact rfl
    | inr x =>
      refine ⟨?_, ok⟩
      show V.str x = V.str (sS x.cps.toList)
      simp [sS]
end
/-- the walk of a source -/
def srcR (G : Env) (sk : SK) (es : Es) (g : Sg) : R (List D) := (evs G es g).bind fun xs σ1 => match frzs σ1 xs with
  | some (ds, σ2) => match srcD sk ds with
    | some its => .ok its σ2
    | none => .stuck
  | none => .stuck
def WalkR (K : Fg) (_ m : M) (its : List D) (J : It) : Prop := ∃ src, Walk K J its src ∧ src m.Av m.H ∧ its.length ≤ line
def tI (K : Fg) (XR : XRel) (G : Env) (W : WX) (sk : SK) (es : Es) : TI := fun σ H R => ∃ m, m.σ = σ ∧ m.H = H ∧ RS K m ∧ Wp K XR W (WalkR K) m (srcR G sk es m.g) fun m' _ J => R J m'.H
theorem early_walk {K : Fg} : Early (WalkR K) := fun _ _ _ _ _ _ h => h
section
variable {XR : XRel} {G : Env} {X : Cx} {S : SC} {W : WX} {tg : Expr}
/-- an iterator of a value -/
theorem iter_of {pins : List (Addr × Obj)} {σ : L2.St} {H : Hp} {s : Shared} {R : It → Hp → Prop} {d : D} {x : V} {v : Value} {its : List D} {Av : Zn} (I : L2.Inv X pins σ H s) (rx : RelV x v) (r : Rep X.K Av H d x) (h : srcD .seq [d] = some its)
    (q : ∀ J src, Walk X.K J its src → src Av H → its.length ≤ line → R J H) : wpAny (model X.prog X.w) X.A (pyIter v) (PIE X pins σ tg R) X.xe s := by
  cases d with
  | lst l =>
    cases h
    obtain ⟨a, vs, rfl, hl, rl⟩ := r
    cases rx
    obtain ⟨us, rv, p, hz⟩ := I.list (.of hl.1)
    exact wpAny_pyIter_list p.isList (pi_one (tk := s.toks) I _ (turn_list a _) ⟨_, Heap.get?_push_size _ rfl, rfl, rfl⟩ (q _ _ walk_list ⟨hl.1, hl.2, rl⟩ (by rw [rl.length]; exact hz)))
  | tup l =>
    cases h
    obtain ⟨a, vs, rfl, hl, rl⟩ := r
    cases rx
    obtain ⟨us, rv, p, hz⟩ := I.tuple (hl.elim (fun z => .inl z.1) .inr)
    exact wpAny_pyIter_tuple (isTuple_of p) (pi_one (tk := s.toks) I _ (turn_tuple a _) ⟨_, Heap.get?_push_size _ rfl, rfl, rfl⟩ (q _ _ walk_tup ⟨hl, rl⟩ (by rw [rl.length]; exact hz)))
  | str z =>
    cases h
    obtain ⟨rfl, oz⟩ := r
    obtain ⟨t, rfl⟩ := rx
    cases ha : (sS z).cps.all (· < 128)
    · exact wpAny_pyIter_wide ha (pi_one (tk := s.toks) I _ (turn_str _ _ t "str_iterator" (.inr rfl)) ⟨_, Heap.get?_push_size _ rfl, rfl, rfl⟩ (q _ _ (walk_str oz) trivial (by rw [List.length_map]; exact (okS_iff.mp oz).1)))
    · exact wpAny_pyIter_ascii ha (pi_one (tk := s.toks) I _ (turn_str _ _ t "str_ascii_iterator" (.inl rfl)) ⟨_, Heap.get?_push_size _ rfl, rfl, rfl⟩ (q _ _ (walk_str oz) trivial (by rw [List.length_map]; exact (okS_iff.mp oz).1)))
  | _ => cases h
theorem pi_seq {e : Expr} {ee : E} (he : PE X e (tE X.K XR G W ee)) : PI X tg e (tI X.K XR G W .seq (.cons ee .nil)) := by
  refine ⟨fun pins s σ H Rr I ⟨m, e1, e2, rs, w⟩ => ?_⟩
  subst e1 e2
  unfold srcR at w
  simp only [evs] at w
  have start : tE X.K XR G W ee m.σ m.H fun x H1 => ∃ Av d its, Rep X.K Av H1 d x ∧ srcD .seq [d] = some its ∧ ∀ J src, Walk X.K J its src → src Av H1 → its.length ≤ line → Rr J H1 := by
    refine ⟨m, rfl, rfl, rs, ?_⟩
    have assoc : ((ev G ee m.g).bind fun x σ1 => (R.ok [] σ1).bind fun xs σ2 => .ok (x :: xs) σ2).bind (fun xs σ1 => match frzs σ1 xs with
        | some (ds, σ2) => match srcD .seq ds with
          | some its => .ok its σ2
          | none => .stuck
        | none => .stuck) = (ev G ee m.g).bind fun x σ1 => match frzs σ1 [x] with
        | some (ds, σ2) => match srcD .seq ds with
          | some its => .ok its σ2
          | none => .stuck
        | none => (.stuck : R (List D)) := by
      cases ev G ee m.g <;> rfl
    rw [assoc] at w
    refine (Wp.bind rs.av early_walk w).mono fun m1 x v f1 st rs1 r1 h1 => ?_
    split at h1
    · rename_i ds g2 hf
      obtain ⟨m2, b1, b2, b3, s2, rs2, r2⟩ := RepRs.frz (m0 := m1) (l := [x]) (vs := [v]) rs1 ⟨v, [], rfl, r1.pend, rfl⟩ hf
      subst b3
      obtain ⟨d, hd⟩ : ∃ d, ds = [d] := by
        have := len_frzs hf
        match ds, this with
        | [d], _ => exact ⟨d, rfl⟩
      subst hd
      obtain ⟨v', r', e, rd, _⟩ := r2
      injection e with e e'
      subst e
      split at h1
      · rename_i its hi
        refine ⟨m2.Av, d, its, by rw [← b1]; exact rd, hi, fun J src wk sr hz => ?_⟩
        rw [← b1] at sr ⊢
        exact h1 m2 J b2 rfl s2 rs2 ⟨src, wk, sr, hz⟩
      · exact h1.elim
    · exact h1.elim
  refine thn (he.run pins s m.σ m.H _ I start) fun v s1 ⟨x, H1, I1, r1, Av, d, its, rd, hi, q⟩ => ?_
  exact iter_of I1 r1 rd hi q
theorem src_args {sk : SK} {es : Es} {m : M} {Rr : It → Hp → Prop} (rs : RS X.K m) (w : Wp X.K XR W (WalkR X.K) m (srcR G sk es m.g) fun m' _ J => Rr J m'.H) :
    tA X.K XR G W es m.σ m.H fun vs H1 => ∃ Av ds its, Reps X.K Av H1 ds vs ∧ srcD sk ds = some its ∧ ∀ J src, Walk X.K J its src → src Av H1 → its.length ≤ line → Rr J H1 := by
  unfold srcR at w
  refine ⟨m, rfl, rfl, rs, (Wp.bind rs.av early_walk w).mono fun m1 l vs f1 st rs1 r1 h1 => ?_⟩
  split at h1
  · rename_i ds g2 hf
    obtain ⟨m2, b1, b2, b3, s2, rs2, r2⟩ := RepRs.frz rs1 r1 hf
    subst b3
    split at h1
    · rename_i its hi
      refine ⟨m2.Av, ds, its, by rw [← b1]; exact r2, hi, fun J src wk sr hz => ?_⟩
      rw [← b1] at sr ⊢
      exact h1 m2 J b2 rfl s2 rs2 ⟨src, wk, sr, hz⟩
    · exact h1.elim
  · exact h1.elim
theorem small62_iff {i : Int} : small62 i = true ↔ -8388608 ≤ i ∧ i ≤ 8388608 := by simp [small62]
theorem reps1 {K : Fg} {Av : Zn} {H : Hp} {i : Int} {l : List D} {vs : List V} (r : Reps K Av H (.int i :: l) vs) : ∃ w, vs = .int i :: w ∧ Reps K Av H l w := by
  obtain ⟨v, w, rfl, e, q⟩ := r
  cases e
  exact ⟨w, rfl, q⟩
theorem range_ds {ds its : List D} (h : srcD .range ds = some its) : (∃ j, ds = [.int j]) ∨ (∃ i j, ds = [.int i, .int j]) ∨ ∃ i j k, ds = [.int i, .int j, .int k] := by
  match ds, h with
  | [.int j], _ => exact .inl ⟨j, rfl⟩
  | [.int i, .int j], _ => exact .inr (.inl ⟨i, j, rfl⟩)
  | [.int i, .int j, .int k], _ => exact .inr (.inr ⟨i, j, k, rfl⟩)
theorem pi_rng1 {e : Expr} {ee : Es} {p pos : Pos} (gd : Gd XR G X S W) (hg : glB S.sc "range" = true) (hb : S.bn "range" = true) (ha : PA X [e] (tA X.K XR G W ee)) (hs : notStar e = true) (hl : ee.len = 1) :
    PI X tg (.Call (.Name "range" p) [e] [] pos) (tI X.K XR G W .range ee) := by
  obtain ⟨g1, g2, g3⟩ := gd.glob hg
  have key := pi_range1 (tg := tg) (p := p) (pos := pos) g1 (gd.bn _ hb) ha (by rw [star_of hs]; rfl)
  refine ⟨fun pins s σ H Rr I ⟨m, e1, e2, rs, w⟩ => key.run pins s σ H Rr I ?_⟩
  subst e1 e2
  obtain ⟨m', f1, f2, rs', w'⟩ := src_args rs w
  refine ⟨m', f1, f2, rs', ?_⟩
  cases he : evs G ee m'.g with
  | stuck => rw [he] at w'; exact w'
  | exc => rw [he] at w'; exact w'
  | ok l g' =>
    rw [he] at w'
    intro m1 vs h1 h2 st rs1 r1
    obtain ⟨Av, ds, its, rd, hi, q⟩ := w' m1 vs h1 h2 st rs1 r1
    have ln : ds.length = 1 := by
      rw [rd.length]
      have : ∀ {l : List RV} {vs : List V}, RepRs X.K m' m1 l vs → l.length = vs.length := by
        intro l
        induction l with
        | nil => intro vs h; cases h; rfl
        | cons r l ih =>
          intro vs h
          obtain ⟨v, ws, rfl, _, q⟩ := h
          simp [ih q]
      rw [← this r1, len_evs he, hl]
    rcases range_ds hi with ⟨j, rfl⟩ | ⟨i, j, rfl⟩ | ⟨i, j, k, rfl⟩
    · obtain ⟨ws, rfl, r2⟩ := reps1 rd
      cases r2
      simp only [srcD] at hi
      split at hi
      · rename_i hz
        cases hi
        have := small62_iff.mp hz
        exact ⟨j, rfl, by omega, by omega, q _ _ walk_rng trivial (by simp [rngL, line]; omega)⟩
      · cases hi
    · simp at ln
    · simp at ln
theorem len_reprs {m0 m : M} : ∀ {l : List RV} {vs : List V}, RepRs X.K m0 m l vs → l.length = vs.length
  | [], _, h => by cases h; rfl
  | r :: l, _, h => by
    obtain ⟨v, ws, rfl, _, q⟩ := h
    simp [len_reprs q]
theorem pi_rng2 {a b : Expr} {ee : Es} {p pos : Pos} (gd : Gd XR G X S W) (hg : glB S.sc "range" = true) (hb : S.bn "range" = true) (ha : PA X [a, b] (tA X.K XR G W ee)) (hs : notStar a = true) (hs2 : notStar b = true) (hl : ee.len = 2) :
    PI X tg (.Call (.Name "range" p) [a, b] [] pos) (tI X.K XR G W .range ee) := by
  obtain ⟨g1, g2, g3⟩ := gd.glob hg
  have key := pi_range2 (tg := tg) (p := p) (pos := pos) g1 (gd.bn _ hb) ha (by rw [star_of hs, star_of hs2]; rfl) (by rw [star_of hs2]; rfl)
  refine ⟨fun pins s σ H Rr I ⟨m, e1, e2, rs, w⟩ => key.run pins s σ H Rr I ?_⟩
  subst e1 e2
  obtain ⟨m', f1, f2, rs', w'⟩ := src_args rs w
  refine ⟨m', f1, f2, rs', ?_⟩
  cases he : evs G ee m'.g with
  | stuck => rw [he] at w'; exact w'
  | exc => rw [he] at w'; exact w'
  | ok l g' =>
    rw [he] at w'
    intro m1 vs h1 h2 st rs1 r1
    obtain ⟨Av, ds, its, rd, hi, q⟩ := w' m1 vs h1 h2 st rs1 r1
    have ln : ds.length = 2 := by rw [rd.length, ← len_reprs r1, len_evs he, hl]
    rcases range_ds hi with ⟨j, rfl⟩ | ⟨i, j, rfl⟩ | ⟨i, j, k, rfl⟩
    · simp at ln
    · obtain ⟨ws, rfl, r2⟩ := reps1 rd
      obtain ⟨ws, rfl, r3⟩ := reps1 r2
      cases r3
      simp only [srcD] at hi
      split at hi
      · rename_i hz
        cases hi
        have z1 := small62_iff.mp hz.1
        have z2 := small62_iff.mp hz.2
        exact ⟨i, j, rfl, ⟨by omega, by omega, by omega, by omega⟩, q _ _ walk_rng trivial (by simp [rngL, line]; omega)⟩
      · cases hi
    · simp at ln
theorem walk_dn {i : Int} {n : Nat} {K : Fg} : Walk K (Itc i (-1) n) ((List.range n).map fun (k : Nat) => .int (i - (k : Int))) fun _ _ => True where
  keep _ _ _ _ _ _ := trivial
  go Av H k hi _ := by
    show k < n
    simpa using hi
  stop Av H _ := by
    show n ≤ _
    simp
  yld Av H k x H' _ av hi hy := by
    obtain ⟨rfl, rfl⟩ := hy
    have hi : k < n := by simpa using hi
    refine ⟨Same.refl _, .int (i - (k : Int)), by simp [hi], ?_⟩
    show V.int _ = V.int _
    congr 1
    omega
theorem pi_rng3 {a b c : Expr} {ee : Es} {p pos : Pos} (gd : Gd XR G X S W) (hg : glB S.sc "range" = true) (hb : S.bn "range" = true) (ha : PA X [a, b, c] (tA X.K XR G W ee)) (hs : notStar a = true) (hs2 : [b, c].all notStar = true) (hl : ee.len = 3) :
    PI X tg (.Call (.Name "range" p) [a, b, c] [] pos) (tI X.K XR G W .range ee) := by
  obtain ⟨g1, g2, g3⟩ := gd.glob hg
  have key := pi_range3 (tg := tg) (p := p) (pos := pos) g1 (gd.bn _ hb) ha (star_of hs _ _) (stars_of hs2)
  refine ⟨fun pins s σ H Rr I ⟨m, e1, e2, rs, w⟩ => key.run pins s σ H Rr I ?_⟩
  subst e1 e2
  obtain ⟨m', f1, f2, rs', w'⟩ := src_args rs w
  refine ⟨m', f1, f2, rs', ?_⟩
  cases he : evs G ee m'.g with
  | stuck => rw [he] at w'; exact w'
  | exc => rw [he] at w'; exact w'
  | ok l g' =>
    rw [he] at w'
    intro m1 vs h1 h2 st rs1 r1
    obtain ⟨Av, ds, its, rd, hi, q⟩ := w' m1 vs h1 h2 st rs1 r1
    have ln : ds.length = 3 := by rw [rd.length, ← len_reprs r1, len_evs he, hl]
    rcases range_ds hi with ⟨j, rfl⟩ | ⟨i, j, rfl⟩ | ⟨i, j, k, rfl⟩
    · simp at ln
    · simp at ln
    · obtain ⟨ws, rfl, r2⟩ := reps1 rd
      obtain ⟨ws, rfl, r3⟩ := reps1 r2
      obtain ⟨ws, rfl, r4⟩ := reps1 r3
      cases r4
      simp only [srcD] at hi
      split at hi
      · rename_i hz
        cases hi
        have z1 := small62_iff.mp hz.1
        have z2 := small62_iff.mp hz.2.1
        have z3 := hz.2.2
        subst z3
        exact ⟨i, j, -1, _, rfl, RgC.neg (by omega) (by omega) (by omega) (by omega), q _ _ walk_dn trivial (by simp [line]; omega)⟩
      · cases hi
end
end AW

/-! P14: targets, comprehensions. -/
namespace AW
open PySem PySem.Spec L2
def gAll : List Nat → TGs
  | [] => gNil
  | i :: l => gCons (gName i) (gAll l)
def gT (K : Fg) : Tg → TG
  | .one i => gName i
  | .many l => gTup K l.length (gAll l)
def Tg.slots : Tg → List Nat
  | .one i => [i]
  | .many l => l
def tgs : List Nat → List Expr → List Str → (Str → Bool) → Bool
  | [], [], _, _ => true
  | i :: l, .Name x _ :: es, N, st => decide (N[i]? = some x) && st x && tgs l es N st
  | _, _, _, _ => false
/-- the target of the text -/
def ckTg (S : SC) : Tg → Expr → Bool
  | .one i, .Name x _ => decide (S.N[i]? = some x) && S.sto x
  | .many l, .Tuple es _ _ => tgs l es S.N S.sto
  | _, _ => false
section
variable {XR : XRel} {G : Env} {X : Cx} {S : SC} {W : WX}
theorem pgs_ok (gd : Gd XR G X S W) : ∀ {l : List Nat} {es : List Expr}, tgs l es S.N S.sto = true → PGs X es (gAll l) ∧ (assignEach es X.env).length = l.length ∧ (assignEach es X.env).findIdx? (·.1) = none
  | [], [], _ => ⟨pgs_nil, rfl, rfl⟩
  | [], _ :: _, h => by simp [tgs] at h
  | i :: l, [], h => by simp [tgs] at h
  | i :: l, e :: es, h => by
    cases e with
    | Name x p =>
      simp only [tgs, Bool.and_eq_true, decide_eq_true_eq] at h
      obtain ⟨h1, h2, h3⟩ := pgs_ok gd h.2
      obtain ⟨s1, s2⟩ := gd.sto x h.1.2
      refine ⟨pgs_cons (pg_name gd.nd (by rw [gd.N]; exact h.1.1) s1 s2) h1 rfl, ?_, ?_⟩
      · show (_ :: assignEach es X.env).length = _
        simp [h2]
      · show ((false, _) :: assignEach es X.env).findIdx? (·.1) = none
        rw [List.findIdx?_cons]
        simp [h3]
    | _ => simp [tgs] at h
theorem pg_ok (gd : Gd XR G X S W) {t : Tg} {e : Expr} (h : ckTg S t e = true) : PG X e (gT X.K t) := by
  cases t with
  | one i =>
    cases e with
    | Name x p =>
      simp only [ckTg, Bool.and_eq_true, decide_eq_true_eq] at h
      obtain ⟨s1, s2⟩ := gd.sto x h.2
      exact pg_name gd.nd (by rw [gd.N]; exact h.1) s1 s2
    | _ => simp [ckTg] at h
  | many l =>
    cases e with
    | Tuple es k p =>
      obtain ⟨h1, h2, h3⟩ := pgs_ok gd (show tgs l es S.N S.sto = true from h)
      exact pg_tup gd.calm h1 h2 h3
    | _ => simp [ckTg] at h
end
section
variable {K : Fg}
theorem wipe_set {σ : L2.St} {i : Nat} {x : Option V} : ∀ {vs : List Nat}, i ∈ vs → L2.wipe (σ.set i x) vs = L2.wipe σ vs
  | v :: vs, h => by
    show (L2.wipe (σ.set i x) vs).set v none = (L2.wipe σ vs).set v none
    by_cases hv : i ∈ vs
    · rw [wipe_set hv]
    · have e : i = v := (List.mem_cons.mp h).elim id fun z => absurd z hv
      subst e
      have : ∀ {vs : List Nat}, i ∉ vs → L2.wipe (σ.set i x) vs = (L2.wipe σ vs).set i x := by
        intro vs
        induction vs with
        | nil => intro _; rfl
        | cons u us ih =>
          intro hn
          have h1 : i ≠ u := fun z => hn (z ▸ List.mem_cons_self)
          show (L2.wipe (σ.set i x) us).set u none = ((L2.wipe σ us).set u none).set i x
          rw [ih fun z => hn (List.mem_cons_of_mem _ z)]
          rw [List.set_comm _ _ h1]
      rw [this hv, List.set_set]
/-- what storing a target leaves -/
structure Stored (K : Fg) (m : M) (sl : List Nat) (g' : Sg) (σ2 : L2.St) (H2 : Hp) : Prop where
  H : H2 = m.H
  rs : RS K { m with σ := σ2, g := g' }
  st : Step m { m with σ := σ2, g := g' }
  wp : ∀ vs, (∀ i ∈ sl, i ∈ vs) → L2.wipe σ2 vs = L2.wipe m.σ vs
theorem Stored.trans {m : M} {s1 s2 : List Nat} {g1 g2 : Sg} {σ1 σ2 : L2.St} {H1 H2 : Hp} (av : ∀ a, m.Av a → m.H a ≠ none) (a : Stored K m s1 g1 σ1 H1) (b : Stored K { m with σ := σ1, g := g1 } s2 g2 σ2 H2) : Stored K m (s1 ++ s2) g2 σ2 H2 :=
  ⟨b.H, b.rs, a.st.trans av b.st, fun vs h => (b.wp vs fun i hi => h i (List.mem_append_right _ hi)).trans (a.wp vs fun i hi => h i (List.mem_append_left _ hi))⟩
theorem setV_ok {m : M} {i : Nat} {d : D} {x : V} {g' : Sg} (rs : RS K m) (r : Rep K m.Av m.H d x) (h : setV m.g i d = some g') : Stored K m [i] g' (m.σ.set i (some x)) m.H := by
  unfold setV at h
  have main : ∀ {c : Option Cell}, m.g[i]? = some c → (∀ d', c ≠ some (.own true d')) → g' = m.g.set i (some (.val d)) → Stored K m [i] g' (m.σ.set i (some x)) m.H := fun {c} hc hn e => by
    subst e
    refine ⟨rfl, rs.setVal hc r, ⟨fun _ _ h _ => h, fun _ h => h, fun _ h => .inl h, fun _ h => .inl h, fun _ h _ => h, fun j e h' => ?_⟩, fun vs hv => wipe_set (hv i List.mem_cons_self)⟩
    have h2 : (m.g.set i (some (.val d)))[j]? = some (some (.own true e)) := h'
    by_cases ij : i = j
    · subst ij
      rw [List.getElem?_set_self (lt_of_get hc)] at h2; cases h2
    · rw [List.getElem?_set_ne ij] at h2
      exact ⟨⟨e, h2⟩, List.getElem?_set_ne ij⟩
  split at h
  · cases h
  · rename_i c hn hc
    cases h
    exact main hc (fun d' e => by subst e; exact hn d' rfl) rfl
  · cases h
theorem setVs_ok : ∀ {l : List Nat} {ds : List D} {xs : List V} {g' : Sg} {m : M}, RS K m → Reps K m.Av m.H ds xs → setVs m.g l ds = some g' → gAll l xs m.σ m.H fun σ2 H2 => Stored K m l g' σ2 H2
  | [], [], xs, g', m, rs, r, h => by
    cases h; cases r
    refine (⟨rfl, ?_⟩ : _ ∧ _)
    exact ⟨rfl, rs, .refl m, fun _ _ => rfl⟩
  | [], _ :: _, _, _, _, _, _, h => by cases h
  | _ :: _, [], _, _, _, _, _, h => by cases h
  | i :: l, d :: ds, xs, g', m, rs, r, h => by
    obtain ⟨x, ys, rfl, r1, r2⟩ := r
    simp only [setVs] at h
    split at h
    · rename_i g1 h1
      have s1 := setV_ok rs r1 h1
      have := setVs_ok (m := { m with σ := m.σ.set i (some x), g := g1 }) s1.rs (s1.st.reps rs r2) h
      refine ⟨x, ys, rfl, ?_⟩
      have mono : ∀ {l : List Nat} {vs : List V} {σ : L2.St} {H : Hp} {Q Q' : L2.St → Hp → Prop}, (∀ σ H, Q σ H → Q' σ H) → gAll l vs σ H Q → gAll l vs σ H Q' := by
        intro l
        induction l with
        | nil => intro vs σ H Q Q' hq h; exact ⟨h.1, hq _ _ h.2⟩
        | cons i l ih =>
          intro vs σ H Q Q' hq h
          obtain ⟨v, r, e, h⟩ := h
          exact ⟨v, r, e, ih hq h⟩
      exact mono (fun σ2 H2 h2 => s1.trans rs.av h2) this
    · cases h
theorem setT_ok {t : Tg} {d : D} {x : V} {g' : Sg} {m : M} (rs : RS K m) (r : Rep K m.Av m.H d x) (h : setT m.g t d = some g') : gT K t x m.σ m.H fun σ2 H2 => Stored K m t.slots g' σ2 H2 := by
  cases t with
  | one i => exact setV_ok rs r h
  | many l =>
    cases d with
    | tup ds =>
      obtain ⟨a, vs, rfl, hq, rl⟩ := Rep.tupIs r
      have h : setVs m.g l ds = some g' := h
      have ln : vs.length = l.length := by
        rw [← rl.length]
        have : ∀ {l : List Nat} {ds : List D} {g g' : Sg}, setVs g l ds = some g' → ds.length = l.length := by
          intro l
          induction l with
          | nil => intro ds g g' h; cases ds <;> first | rfl | cases h
          | cons i l ih =>
            intro ds g g' h
            cases ds with
            | nil => cases h
            | cons d ds =>
              simp only [setVs] at h
              split at h
              · simp [ih h]
              · cases h
        exact this h
      exact ⟨a, vs, rfl, hq, ln, setVs_ok rs rl h⟩
    | _ => cases h
/-- the block's own names forgotten -/
theorem wipe_get {g : Sg} {j : Nat} {c : Cell} : ∀ {vs : List Nat}, (AW.wipe g vs)[j]? = some (some c) → g[j]? = some (some c) ∧ j ∉ vs
  | [], h => ⟨h, fun z => nomatch z⟩
  | v :: vs, h => by
    have h : ((AW.wipe g vs).set v none)[j]? = some (some c) := h
    have ne : v ≠ j := fun z => by
      subst z
      rw [List.getElem?_set] at h
      split at h
      · split at h <;> cases h
      · rename_i q; exact q rfl
    rw [List.getElem?_set_ne ne] at h
    obtain ⟨h1, h2⟩ := wipe_get h
    exact ⟨h1, fun z => (List.mem_cons.mp z).elim (fun e => ne e.symm) h2⟩
theorem wipe_len {g : Sg} : ∀ {vs : List Nat}, (AW.wipe g vs).length = g.length
  | [] => rfl
  | v :: vs => by
    show ((AW.wipe g vs).set v none).length = _
    simp [wipe_len (vs := vs)]
theorem wipe_wipe {g : Sg} : ∀ {vs ws : List Nat}, (∀ v ∈ ws, v ∈ vs) → AW.wipe (AW.wipe g vs) ws = AW.wipe g vs := by
  intro vs ws h
  refine List.ext_getElem? fun j => ?_
  have ln : (AW.wipe (AW.wipe g vs) ws).length = (AW.wipe g vs).length := wipe_len
  have at_ : ∀ {g : Sg} {vs : List Nat}, j < g.length → (AW.wipe g vs)[j]? = if j ∈ vs then some none else g[j]? := by
    intro g vs
    induction vs with
    | nil => intro _; simp [AW.wipe]
    | cons v vs ih =>
      intro hj
      show ((AW.wipe g vs).set v none)[j]? = _
      by_cases e : v = j
      · subst e
        rw [List.getElem?_set_self (by rw [wipe_len]; exact hj)]
        simp
      · rw [List.getElem?_set_ne e, ih hj]
        have : (j ∈ v :: vs) ↔ j ∈ vs := by simp [Ne.symm e]
        simp [this]
  by_cases hj : j < g.length
  · rw [at_ (by rw [wipe_len]; exact hj), at_ hj]
    by_cases hw : j ∈ ws
    · simp [hw, h j hw]
    · simp [hw]
  · rw [List.getElem?_eq_none (by rw [ln, wipe_len]; omega), List.getElem?_eq_none (by rw [wipe_len]; omega)]
theorem wipe_σ {σ : L2.St} {j : Nat} : ∀ {vs : List Nat}, j ∉ vs → (L2.wipe σ vs)[j]? = σ[j]?
  | [], _ => rfl
  | v :: vs, h => by
    show ((L2.wipe σ vs).set v none)[j]? = _
    rw [List.getElem?_set_ne (fun z : v = j => h (by rw [z]; exact List.mem_cons_self))]
    exact wipe_σ fun z => h (List.mem_cons_of_mem _ z)
/-- other slots, where the known ones stand -/
theorem RS.sub {m : M} {σ' : L2.St} {g' : Sg} (rs : RS K m) (hl : σ'.length = g'.length) (h : ∀ (j : Nat) (c : Cell), g'[j]? = some (some c) → m.g[j]? = some (some c) ∧ σ'[j]? = m.σ[j]?) : RS K { m with σ := σ', g := g' } where
  len := hl
  av := rs.av
  cav := rs.cav
  val i d e := by
    obtain ⟨h1, h2⟩ := h i _ e
    obtain ⟨v, e1, r⟩ := rs.val i d h1
    exact ⟨v, h2.trans e1, r⟩
  own i hm d e := by
    obtain ⟨h1, h2⟩ := h i _ e
    obtain ⟨a, e1, r⟩ := rs.own i hm d h1
    exact ⟨a, h2.trans e1, r⟩
  inj i j hm d hm' d' a e1 e2 s1 s2 := by
    obtain ⟨h1, h2⟩ := h i _ e1
    obtain ⟨h3, h4⟩ := h j _ e2
    exact rs.inj i j hm d hm' d' a h1 h3 (h2 ▸ s1) (h4 ▸ s2)
theorem Step.sub {m : M} {σ' : L2.St} {g' : Sg} (h : ∀ (j : Nat) (c : Cell), g'[j]? = some (some c) → m.g[j]? = some (some c) ∧ σ'[j]? = m.σ[j]?) : Step m { m with σ := σ', g := g' } :=
  ⟨fun _ _ h _ => h, fun _ h => h, fun _ h => .inl h, fun _ h => .inl h, fun _ h _ => h, fun j d e => ⟨⟨d, (h j _ e).1⟩, (h j _ e).2⟩⟩
end
end AW

/-! P15: a comprehension's loop. -/
namespace AW
open PySem PySem.Spec L2
/-- one turn -/
def turnR (G : Env) (own : List Nat) (tg : Tg) (cond elt : E) (x : D) (σ : Sg) : R (Option D) := match setT (AW.wipe σ own) tg x with
  | some σ' => (ev G cond σ').bind fun c σ'' => match look σ'' c with
    | some dc => match truth dc with
      | some true => (ev G elt σ'').bind fun y σ3 => match frz σ3 y with
        | some (d, σ4) => .ok (some d) σ4
        | none => .stuck
      | some false => .ok none σ''
      | none => .stuck
    | none => .stuck
  | none => .stuck
theorem turn_eq {G : Env} {own : List Nat} {tg : Tg} {cond elt : E} {x : D} {σ σ' : Sg} (h : setT (AW.wipe σ own) tg x = some σ') : turnR G own tg cond elt x σ = (evT G cond σ').bind fun t σ'' => if t = true then (ev G elt σ'').bind fun y σ3 => match frz σ3 y with
        | some (d, σ4) => .ok (some d) σ4
        | none => .stuck
      else .ok none σ'' := by
  unfold turnR evT
  rw [h]
  simp only
  cases ev G cond σ' with
  | stuck => rfl
  | exc => rfl
  | ok c σ'' =>
    simp only [R.bind]
    cases look σ'' c with
    | none => rfl
    | some dc =>
      simp only
      cases truth dc with
      | none => rfl
      | some t => cases t <;> rfl
theorem ev_comp {G : Env} {own : List Nat} {tg : Tg} {sk : SK} {es : Es} {cond elt : E} {σ : Sg} : ev G (.comp own tg sk es cond elt) σ = (srcR G sk es σ).bind fun its σ2 => (compLoop (turnR G own tg cond elt) its σ2 []).bind fun acc σ3 => .ok (.new (.lst acc)) (unwipe σ2 σ3 own) := by
  unfold srcR
  simp only [ev]
  cases evs G es σ with
  | stuck => rfl
  | exc => rfl
  | ok l g =>
    simp only [R.bind]
    cases frzs g l with
    | none => rfl
    | some z =>
      obtain ⟨ds, g2⟩ := z
      simp only
      cases srcD sk ds with
      | none => rfl
      | some its => rfl
abbrev WN : WX := fun _ _ _ _ => False
theorem unwipe_get {g0 g : Sg} {j : Nat} {c : Cell} : ∀ {vs : List Nat}, (unwipe g0 g vs)[j]? = some (some c) → (j ∉ vs ∧ g[j]? = some (some c)) ∨ (j ∈ vs ∧ g0[j]? = some (some c) ∧ ∃ d, c = .val d)
  | [], h => .inl ⟨(fun z => nomatch z), h⟩
  | v :: vs, h => by
    by_cases e : v = j
    · subst e
      right
      have h : ((unwipe g0 g vs).set v (match g0[v]? with | some (some (.val d)) => some (.val d) | _ => none))[v]? = some (some c) := h
      rw [List.getElem?_set] at h
      rw [if_pos rfl] at h
      split at h
      · split at h
        · rename_i d hd
          cases h
          exact ⟨List.mem_cons_self, hd, d, rfl⟩
        · cases h
      · cases h
    · have h : ((unwipe g0 g vs).set v _)[j]? = some (some c) := h
      rw [List.getElem?_set_ne e] at h
      rcases unwipe_get h with ⟨h1, h2⟩ | ⟨h1, h2⟩
      · exact .inl ⟨fun z => (List.mem_cons.mp z).elim (fun q => e q.symm) h1, h2⟩
      · exact .inr ⟨List.mem_cons_of_mem _ h1, h2⟩
theorem unwipe_len {g0 g : Sg} : ∀ {vs : List Nat}, (unwipe g0 g vs).length = g.length
  | [] => rfl
  | v :: vs => by
    show ((unwipe g0 g vs).set v _).length = _
    simp [unwipe_len (vs := vs)]
theorem wipe_keep {g : Sg} {j : Nat} {c : Cell} : ∀ {vs : List Nat}, g[j]? = some (some c) → j ∉ vs → (AW.wipe g vs)[j]? = some (some c)
  | [], h, _ => h
  | v :: vs, h, n => by
    show ((AW.wipe g vs).set v none)[j]? = _
    rw [List.getElem?_set_ne (fun z : v = j => n (by rw [z]; exact List.mem_cons_self))]
    exact wipe_keep h fun z => n (List.mem_cons_of_mem _ z)
section
variable {XR : XRel} {G : Env} {X : Cx} {S : SC} {W : WX}
/-- an outcome that is told, where nothing is raised -/
theorem Wp.calm {K : Fg} {m : M} {α β : Type} {rel : M → M → α → β → Prop} {r : R α} {k : M → α → β → Prop} (h : ∀ a g', r = .ok a g' → ∀ m' b, m'.σ = m.σ → m'.g = g' → Step m m' → RS K m' → rel m m' a b → k m' a b)
    (n : ∃ a g', r = .ok a g') : Wp K XR WN rel m r k := by
  obtain ⟨a, g', e⟩ := n
  subst e
  exact h a g' rfl
/-- the state of the loop: i turns done -/
structure LoopAt (K : Fg) (m0 : M) (D : Addr) (own : List Nat) (src : Zn → Hp → Prop) (n : Nat) (Fin : Nat → Sg → List AW.D → Prop) (i : Nat) (H : Hp) : Prop where
  ex : ∃ (m : M) (g : Sg) (acc : List AW.D) (vacc : List V), m.H = H ∧ m.σ = m0.σ ∧ m.g = AW.wipe g own ∧ RS K m ∧ Step m0 m ∧ src m.Av m.H ∧ m.Av D ∧ ¬ m.C D ∧
    H D = some (.lst vacc) ∧ Reps K m.Av m.H acc vacc ∧ acc.length ≤ i ∧ i ≤ n ∧ Fin i g acc ∧ g.length = m0.g.length
theorem l2_wipe_at {σ : L2.St} {j : Nat} : ∀ {vs : List Nat}, j < σ.length → (L2.wipe σ vs)[j]? = if j ∈ vs then some none else σ[j]?
  | [], _ => by simp [L2.wipe]
  | v :: vs, hj => by
    show ((L2.wipe σ vs).set v none)[j]? = _
    by_cases e : v = j
    · subst e
      rw [List.getElem?_set_self (by rw [L2.wipe_length]; exact hj)]
      simp
    · rw [List.getElem?_set_ne e, l2_wipe_at hj]
      have : (j ∈ v :: vs) ↔ j ∈ vs := by simp [Ne.symm e]
      simp [this]
theorem l2_wipe_twice {σ : L2.St} {vs : List Nat} : L2.wipe (L2.wipe σ vs) vs = L2.wipe σ vs := by
  refine List.ext_getElem? fun j => ?_
  by_cases hj : j < σ.length
  · rw [l2_wipe_at (by rw [L2.wipe_length]; exact hj), l2_wipe_at hj]
    by_cases hv : j ∈ vs <;> simp [hv]
  · rw [List.getElem?_eq_none (by rw [L2.wipe_length, L2.wipe_length]; omega), List.getElem?_eq_none (by rw [L2.wipe_length]; omega)]
/-- behind a turn the frame's own slots are as before -/
theorem turn_back {K : Fg} {m m' : M} {own : List Nat} {σ2 : L2.St} (rs : RS K m') (st : Step m m') (e : m'.σ = σ2) (hw : L2.wipe σ2 own = L2.wipe m.σ own) (hl : m'.g.length = m.g.length) (hl2 : m.σ.length = m.g.length) :
    RS K { m' with σ := m.σ, g := AW.wipe m'.g own } ∧ Step m { m' with σ := m.σ, g := AW.wipe m'.g own } := by
  refine ⟨rs.sub (by rw [wipe_len]; omega) fun j c h => ⟨(wipe_get h).1, ?_⟩, ⟨st.keep, st.there, st.cgrow, st.avgrow, st.avkeep, fun j d h => ?_⟩⟩
  · obtain ⟨_, hj⟩ := wipe_get h
    rw [e, ← wipe_σ (σ := σ2) hj, hw, wipe_σ hj]
  · have h : (AW.wipe m'.g own)[j]? = some (some (.own true d)) := h
    exact ⟨(st.home j d (wipe_get h).1).1, rfl⟩
theorem RS.less {K : Fg} {m : M} {Z : Zn} (rs : RS K m) (h : ∀ a, Z a → m.Av a) (hc : ∀ a, m.C a → Z a) : RS K { m with Av := Z } where
  len := rs.len
  av a z := rs.av a (h a z)
  cav := hc
  val i d e := by
    obtain ⟨v, e1, r⟩ := rs.val i d e
    exact ⟨v, e1, Rep.imp (at_sub h) _ _ r⟩
  own i hm d e := by
    obtain ⟨a, e1, c, o⟩ := rs.own i hm d e
    exact ⟨a, e1, c, o.imp rfl (at_sub h)⟩
  inj := rs.inj
/-- an object off the slots is changed -/
theorem RS.off {K : Fg} {m : M} {D : Addr} {o : HO} (rs : RS K m) (a : m.Av D) (c : ¬ m.C D) : RS K { m with H := upd m.H D o } := by
  have k : Keep m.Av m.H m.Av (upd m.H D o) := .of fun b u e n => ⟨by rw [upd_ne (fun z : b = D => n (by rw [z]; exact a))]; exact e, n⟩
  refine ⟨rs.len, fun b z => ?_, rs.cav, fun i d e => ?_, fun i hm d e => ?_, rs.inj⟩
  · show upd m.H D o b ≠ none
    by_cases e : b = D
    · subst e; rw [upd_same]; simp
    · rw [upd_ne e]; exact rs.av b z
  · obtain ⟨v, e1, r⟩ := rs.val i d e
    exact ⟨v, e1, Rep.imp k _ _ r⟩
  · obtain ⟨b, e1, cb, ob⟩ := rs.own i hm d e
    exact ⟨b, e1, cb, ob.imp (upd_ne fun z => c (z ▸ cb)) k⟩
theorem Step.off {m m' : M} {D : Addr} {o : HO} (s : Step m m') (n : m.H D = none) : Step m { m' with H := upd m'.H D o } where
  keep a u h c := by
    show upd m'.H D o a = some u
    rw [upd_ne fun z => by rw [z, n] at h; cases h]
    exact s.keep a u h c
  there a h := by
    show upd m'.H D o a ≠ none
    by_cases e : a = D
    · subst e; rw [upd_same]; simp
    · rw [upd_ne e]; exact s.there a h
  cgrow := s.cgrow
  avgrow := s.avgrow
  avkeep := s.avkeep
  home := s.home
theorem comp_loop {own : List Nat} {t : Tg} {cond elt : E} {its : List AW.D} {J : It} {src : Zn → Hp → Prop} {m : M} {Q : VK} (rs : RS X.K m) (wk : Walk X.K J its src) (sr : src m.Av m.H) (ht : ∀ i ∈ t.slots, i ∈ own) (hz : its.length ≤ line)
    (w : Wp X.K XR W (RepR X.K) m ((compLoop (turnR G own t cond elt) its m.g []).bind fun acc σ3 => .ok (.new (.lst acc)) (unwipe m.g σ3 own)) fun m' _ v => Q v m'.H) :
    ∀ D, m.H D = none → ∃ W' : Nat → Nat → Hp → Prop, (∃ k, W' 0 k (upd m.H D (.lst []))) ∧ ∀ i k H, W' i k H →
      (J.stop i H ∧ Q (.ref D) H) ∨ (J.go i H ∧ ∃ Nx : Hp → Prop, (∀ H', Nx H' → ∃ m', m' < k ∧ W' (i + 1) m' H') ∧ ∀ x H', J.yld i H x H' → gT X.K t x (L2.wipe m.σ own) H' fun σ2 H2 => L2.wipe σ2 own = L2.wipe m.σ own ∧
        tT X.K XR G WN cond σ2 H2 fun b H3 => if b = true then tE X.K XR G WN elt σ2 H3 fun y H4 => ∃ acc, H4 D = some (.lst acc) ∧ acc.length < sizeLine ∧ Nx (upd H4 D (.lst (acc ++ [y]))) else Nx H3) := by
  intro D nD
  let Fin : Nat → Sg → List AW.D → Prop := fun i g acc => Wp X.K XR W (RepR X.K) m ((compLoop (turnR G own t cond elt) (its.drop i) g acc).bind fun acc σ3 => .ok (.new (.lst acc)) (unwipe m.g σ3 own)) fun m' _ v => Q v m'.H
  have same0 : Same m.H (upd m.H D (.lst [])) := same_upd nD
  have rs0 : RS X.K { m with H := upd m.H D (.lst []), Av := zadd m.Av D } := rs.clear same0 nD (by rw [upd_same]; simp)
  refine ⟨fun i k H => LoopAt X.K m D own src its.length Fin i H ∧ k = its.length - i, ⟨its.length, ⟨?_⟩, by omega⟩, fun i k H ⟨⟨mi, g, acc, vacc, e1, e2, e3, rsi, st, sri, avD, nCD, hD, racc, la, li, fin, lg⟩, ek⟩ => ?_⟩
  · -- the start
    have hg : ∀ (j : Nat) (c : Cell), (AW.wipe m.g own)[j]? = some (some c) → m.g[j]? = some (some c) ∧ m.σ[j]? = m.σ[j]? := fun j c e => ⟨(wipe_get e).1, rfl⟩
    refine ⟨{ m with H := upd m.H D (.lst []), Av := zadd m.Av D, g := AW.wipe m.g own }, m.g, [], [], rfl, rfl, rfl, rs0.sub (by rw [wipe_len]; exact rs.len) hg, ?_, ?_, .inr rfl, fun z => rs.av D (rs.cav D z) nD, upd_same, rfl, Nat.zero_le _, Nat.zero_le _, w, rfl⟩
    · refine ⟨fun a o h c => same0 a o h, fun a h => (Step.grow same0).there a h, fun a h => .inl h, fun a h => h.elim .inl fun e => .inr (by rw [e]; exact nD), fun a h _ => .inl h, fun j d h => ?_⟩
      have h : (AW.wipe m.g own)[j]? = some (some (.own true d)) := h
      exact ⟨⟨d, (wipe_get h).1⟩, rfl⟩
    · exact wk.keep _ _ _ _ (fun a o e n => ⟨same0 a o e, fun z => z.elim n fun q => by rw [q, nD] at e; cases e⟩) sr
  · by_cases hi : i < its.length
    · -- a turn
      right
      subst e1
      refine ⟨wk.go _ _ i hi sri, fun H' => LoopAt X.K m D own src its.length Fin (i + 1) H', fun H' h => ⟨its.length - (i + 1), by omega, h, rfl⟩, fun x H' hy => ?_⟩
      obtain ⟨sm, d, hd, rd⟩ := wk.yld _ _ i x H' sri rsi.av hi hy
      have drop_eq : its.drop i = d :: its.drop (i + 1) := by
        rw [List.drop_eq_getElem_cons hi]
        congr 1
        exact Option.some.inj ((List.getElem?_eq_getElem hi).symm.trans hd)
      have fin' : Wp X.K XR W (RepR X.K) m ((match turnR G own t cond elt d g with
          | .ok (some d) σ' => compLoop (turnR G own t cond elt) (its.drop (i + 1)) σ' (acc ++ [d])
          | .ok none σ' => compLoop (turnR G own t cond elt) (its.drop (i + 1)) σ' acc
          | _ => .stuck).bind fun acc σ3 => .ok (.new (.lst acc)) (unwipe m.g σ3 own)) fun m' _ v => Q v m'.H := by
        have : Fin i g acc := fin
        simp only [Fin, drop_eq, compLoop] at this
        exact this
      -- the state in which the target is stored
      have rsa : RS X.K { mi with H := H' } := rsi.grow sm
      have sta : Step mi { mi with H := H' } := .grow sm
      have hw : ∀ (j : Nat) (c : Cell), (AW.wipe g own)[j]? = some (some c) → mi.g[j]? = some (some c) ∧ (L2.wipe m.σ own)[j]? = mi.σ[j]? := fun j c e => by
        refine ⟨by rw [e3]; exact e, ?_⟩
        rw [wipe_σ (wipe_get e).2, e2]
      have ll : m.σ.length = m.g.length := rs.len
      have rsb : RS X.K { mi with H := H', σ := L2.wipe m.σ own, g := AW.wipe g own } := rsa.sub (by rw [wipe_len, L2.wipe_length]; omega) hw
      have stb : Step mi { mi with H := H', σ := L2.wipe m.σ own, g := AW.wipe g own } := sta.trans rsi.av (Step.sub (m := { mi with H := H' }) hw)
      have srb : src mi.Av H' := wk.keep _ _ _ _ (sta.kx rsi) sri
      cases hs : setT (AW.wipe g own) t d with
      | none =>
        have : turnR G own t cond elt d g = .stuck := by unfold turnR; rw [hs]
        rw [this] at fin'
        exact fin'.elim
      | some g1 =>
        rw [turn_eq hs] at fin'
        have stored := setT_ok (K := X.K) (m := { mi with H := H', σ := L2.wipe m.σ own, g := AW.wipe g own }) (x := x) rsb rd hs
        have gmono : ∀ {σ : L2.St} {H : Hp} {Q Q' : L2.St → Hp → Prop}, (∀ σ H, Q σ H → Q' σ H) → gT X.K t x σ H Q → gT X.K t x σ H Q' := by
          intro σ H Q Q' hq h
          cases t with
          | one i => exact hq _ _ h
          | many l =>
            obtain ⟨a, xs, ea, hs', hl, h⟩ := h
            refine ⟨a, xs, ea, hs', hl, ?_⟩
            have mono : ∀ {l : List Nat} {vs : List V} {σ : L2.St} {H : Hp}, gAll l vs σ H Q → gAll l vs σ H Q' := by
              intro l
              induction l with
              | nil => intro vs σ H h; exact ⟨h.1, hq _ _ h.2⟩
              | cons i l ih =>
                intro vs σ H h
                obtain ⟨v, r, e, h⟩ := h
                exact ⟨v, r, e, ih h⟩
            exact mono h
        refine gmono (fun σ2 H2 sd => ?_) stored
        obtain ⟨eH, rsc, stc, wpc⟩ := sd
        simp only at eH
        subst eH
        have wp2 : L2.wipe σ2 own = L2.wipe m.σ own := (wpc own ht).trans l2_wipe_twice
        refine ⟨wp2, ?_⟩
        have stic : Step mi { mi with H := H2, σ := σ2, g := g1 } := stb.trans rsi.av stc
        have lg1 : g1.length = m.g.length := by
          have a1 : σ2.length = g1.length := rsc.len
          have a2 : (L2.wipe σ2 own).length = (L2.wipe m.σ own).length := by rw [wp2]
          rw [L2.wipe_length, L2.wipe_length] at a2
          omega
        -- what a state behind the turn gives
        have nextD : ∀ {m' : M}, Step { mi with H := H2, σ := σ2, g := g1 } m' → Step mi m' ∧ Step m m' ∧ m'.Av D ∧ ¬ m'.C D ∧ m'.H D = some (.lst vacc) ∧ src m'.Av m'.H ∧ Reps X.K m'.Av m'.H acc vacc := fun {m'} s => by
          have s1 := stic.trans rsi.av s
          have nc : ¬ m'.C D := fun z => (s1.cgrow D z).elim nCD fun q => by rw [hD] at q; cases q
          exact ⟨s1, st.trans rs.av s1, s1.avkeep D avD nCD, nc, s1.keep D _ hD nCD, wk.keep _ _ _ _ (s1.kx rsi) sri, s1.reps rsi racc⟩
        cases hc : evT G cond g1 with
        | stuck => rw [hc] at fin'; exact fin'.elim
        | exc => rw [hc] at fin'; exact fin'.elim
        | ok tt g2 =>
          rw [hc] at fin'
          refine ⟨{ mi with H := H2, σ := σ2, g := g1 }, rfl, rfl, rsc, ?_⟩
          show Wp X.K XR WN _ _ (evT G cond g1) _
          rw [hc]
          intro m1 b f1 f2 s1 rs1 eb
          subst eb
          obtain ⟨x1, x2, x3, x4, x5, x6, x7⟩ := nextD s1
          cases tt with
          | false =>
            rw [if_neg Bool.false_ne_true]
            simp only [R.bind, if_neg Bool.false_ne_true] at fin'
            have hl1 : m1.g.length = m.g.length := by
              have := rs1.len
              rw [f1] at this
              have a1 : σ2.length = g1.length := rsc.len
              have : σ2.length = m1.g.length := this
              omega
            obtain ⟨y1, y2⟩ := turn_back (own := own) rs1 x2 f1 wp2 hl1 ll
            refine ⟨{ m1 with σ := m.σ, g := AW.wipe m1.g own }, m1.g, acc, vacc, rfl, rfl, rfl, y1, y2, x6, x3, x4, x5, x7, by omega, by omega, ?_, by omega⟩
            rw [f2]
            exact fin'
          | true =>
            rw [if_pos rfl]
            simp only [R.bind, if_true] at fin'
            cases hy' : ev G elt g2 with
            | stuck => rw [hy'] at fin'; exact fin'.elim
            | exc => rw [hy'] at fin'; exact fin'.elim
            | ok y g3 =>
              rw [hy'] at fin'
              refine ⟨m1, f1, rfl, rs1, ?_⟩
              rw [f2, hy']
              intro m2 v f3 f4 s2 rs2 rr
              simp only at fin'
              cases hf : frz g3 y with
              | none => rw [hf] at fin'; exact fin'.elim
              | some z =>
                obtain ⟨d', g4⟩ := z
                rw [hf] at fin'
                simp only at fin'
                rw [← f4] at hf
                obtain ⟨m3, b1, b2, b3, s3, rs3, r3⟩ := rr.pend.frz rs2 hf
                obtain ⟨z1, z2, z3, z4, z5, z6, z7⟩ := nextD ((s1.trans rsc.av s2).trans rsc.av s3)
                have hl3 : m3.g.length = m.g.length := by
                  have a0 := rs3.len
                  rw [b2, f3, f1] at a0
                  have a1 : σ2.length = g1.length := rsc.len
                  have : σ2.length = m3.g.length := a0
                  omega
                have va : vacc.length = acc.length := (racc.length).symm
                refine ⟨vacc, by rw [← b1]; exact z5, ?_, ?_⟩
                · show vacc.length < line
                  omega
                · rw [← b1]
                  have hσ3 : m3.σ = σ2 := b2.trans (f3.trans f1)
                  obtain ⟨y1, y2⟩ := turn_back (own := own) rs3 z2 hσ3 wp2 hl3 ll
                  refine ⟨{ m3 with H := upd m3.H D (.lst (vacc ++ [v])), σ := m.σ, g := AW.wipe m3.g own }, m3.g, acc ++ [d'], vacc ++ [v], rfl, rfl, rfl, RS.off (D := D) y1 z3 z4, y2.off nD, ?_, z3, z4, upd_same, ?_, by rw [List.length_append, List.length_singleton]; omega, by omega, ?_, by omega⟩
                  · exact wk.keep _ _ _ _ (fun a o e n => ⟨by show upd m3.H D _ a = some o; rw [upd_ne (fun q : a = D => n (by rw [q]; exact z3))]; exact e, n⟩) z6
                  · have k : Keep m3.Av m3.H m3.Av (upd m3.H D (.lst (vacc ++ [v]))) := .of fun b u e n => ⟨by rw [upd_ne (fun z : b = D => n (by rw [z]; exact z3))]; exact e, n⟩
                    exact Reps.imp k _ _ (z7.append (Reps.cons r3 Reps.nil))
                  · rw [b3]
                    exact fin'
    · -- the end
      left
      have ei : i = its.length := by omega
      subst ei
      subst e1
      refine ⟨wk.stop _ _ sri, ?_⟩
      have fin' : Fin its.length g acc := fin
      simp only [Fin, List.drop_length, compLoop, R.bind] at fin'
      have zz : zadd (zdel mi.Av D) D = mi.Av := by
        funext a
        refine propext ⟨fun h => h.elim (fun q => q.1) fun e => by rw [e]; exact avD, fun h => ?_⟩
        by_cases e : a = D
        · exact .inr e
        · exact .inl ⟨h, e⟩
      have full : RS X.K { mi with σ := m.σ, g := unwipe m.g g own } := by
        refine ⟨by show m.σ.length = _; rw [unwipe_len, lg]; exact rs.len, rsi.av, rsi.cav, fun j d e => ?_, fun j hm d e => ?_, fun j k hm d hm' d' a h1 h2 s1 s2 => ?_⟩
        · rcases unwipe_get e with ⟨n1, q⟩ | ⟨n1, q, _⟩
          · obtain ⟨v, e1, r⟩ := rsi.val j d (by rw [e3]; exact wipe_keep q n1)
            exact ⟨v, by rw [← e2]; exact e1, r⟩
          · obtain ⟨v, e1, r⟩ := rs.val j d q
            exact ⟨v, e1, st.rep rs r⟩
        · rcases unwipe_get e with ⟨n1, q⟩ | ⟨n1, q, d', e'⟩
          · obtain ⟨a, e1, r⟩ := rsi.own j hm d (by rw [e3]; exact wipe_keep q n1)
            exact ⟨a, by rw [← e2]; exact e1, r⟩
          · cases e'
        · rcases unwipe_get h1 with ⟨n1, q1⟩ | ⟨_, _, _, e'⟩
          · rcases unwipe_get h2 with ⟨n2, q2⟩ | ⟨_, _, _, e'⟩
            · exact rsi.inj j k hm d hm' d' a (by rw [e3]; exact wipe_keep q1 n1) (by rw [e3]; exact wipe_keep q2 n2) (by rw [e2]; exact s1) (by rw [e2]; exact s2)
            · cases e'
          · cases e'
      have less : RS X.K { mi with Av := zdel mi.Av D, σ := m.σ, g := unwipe m.g g own } := RS.less full (fun a z => z.1) fun a c => ⟨rsi.cav a c, fun e => nCD (e ▸ c)⟩
      refine fin' { mi with Av := zdel mi.Av D, σ := m.σ, g := unwipe m.g g own } (.ref D) rfl rfl ⟨st.keep, st.there, st.cgrow, fun a z => st.avgrow a z.1, fun a z c => ⟨st.avkeep a z c, fun e => by subst e; exact rs.av _ z nD⟩, fun j d e => ?_⟩ less ⟨D, rfl, nD, fun z => z.2 rfl, ?_, ?_⟩
      · rcases unwipe_get e with ⟨n1, q⟩ | ⟨_, _, _, e'⟩
        · exact ⟨(st.home j d (by rw [e3]; exact wipe_keep q n1)).1, rfl⟩
        · cases e'
      · show RS X.K { mi with Av := zadd (zdel mi.Av D) D, σ := m.σ, g := unwipe m.g g own }
        rw [zz]; exact full
      · show OwnAt X.K (zadd (zdel mi.Av D) D) mi.H D (.lst acc)
        rw [zz]; exact ⟨vacc, hD, racc⟩
end
end AW

/-! P16: comprehensions. -/
namespace AW
open PySem PySem.Spec L2
/-- the frame of a comprehension's block -/
def SC.blk (S : SC) (scope : Scope) : SC := { S with sc := relS scope S.sc, sto := fun x => decide (scope.names.lookup x = some .local) || decide (scope.names.lookup x = some .cell) }
section
variable {XR : XRel} {G : Env} {X : Cx} {S : SC} {W : WX}
theorem Gd.blk (gd : Gd XR G X S W) (s : Shared) (H : Hp) (scope : Scope) (C : Addr) (cl : List (Str × Addr)) (fp : List Addr) : Gd XR G (X.blk s H scope (compEnvC scope cl C X.env) fp) (S.blk scope) WN where
  N := gd.N
  nd := gd.nd
  sc := by
    show relabel scope X.env = relS scope S.sc
    rw [← gd.sc]
    rfl
  calm := gd.calm
  room := gd.room
  takes := takes0
  sto x h := by
    have h : (decide (scope.names.lookup x = some .local) || decide (scope.names.lookup x = some .cell)) = true := h
    rw [Bool.or_eq_true, decide_eq_true_eq, decide_eq_true_eq] at h
    have e : (relabel scope X.env) = relS scope X.env.scope := rfl
    rcases h with h | h
    · have := lookup_relS_keep (sc := X.env.scope) (k := .local) (by decide) h
      exact ⟨.inl this, .inr this⟩
    · have := lookup_relS_keep (sc := X.env.scope) (k := .cell) (by decide) h
      refine ⟨.inr this, .inl ?_⟩
      show (scope.names.lookup x == some .cell) = true
      rw [h]
      rfl
  gl := gd.gl
  bn := gd.bn
theorem PTs_weak {ifs : List Expr} {t t' : TT} (h : PTs X ifs t) (w : ∀ σ H Q, t' σ H Q → t σ H Q) : PTs X ifs t' := ⟨fun pins s σ H Q I q => h.run pins s σ H Q I (w _ _ _ q)⟩
theorem pts_none : PTs X [] (tT X.K XR G W (.k (.bl true))) := by
  refine PTs_weak pts_nil fun σ H Q ⟨m, e1, e2, rs, w⟩ => ?_
  subst e1 e2
  exact w m true rfl rfl (.refl m) rs rfl
theorem pe_comp {elt tg iter : Expr} {ifs : List Expr} {scope : Scope} {own : List (Str × Nat)} {pos : Pos} {sk : SK} {es : Es} {t : Tg} {cond ee : E} (gd : Gd XR G X S W) (hi : PI X tg iter (tI X.K XR G W sk es)) (ok : BlkOk X.N X.env.scope scope own)
    (hg : ∀ (s : Shared) (H : Hp) (C : Addr) (cl : List (Str × Addr)) (fp : List Addr), PG (X.blk s H scope (compEnvC scope cl C X.env) fp) tg (gT X.K t)) (htg : ∀ i ∈ t.slots, i ∈ own.map (·.2))
    (ht : ∀ (s : Shared) (H : Hp) (C : Addr) (cl : List (Str × Addr)) (fp : List Addr), PTs (X.blk s H scope (compEnvC scope cl C X.env) fp) ifs (tT X.K XR G WN cond))
    (he : ∀ (s : Shared) (H : Hp) (C : Addr) (cl : List (Str × Addr)) (fp : List Addr), PE (X.blk s H scope (compEnvC scope cl C X.env) fp) elt (tE X.K XR G WN ee)) (hs : notSet iter = true) :
    PE X (.ListComp elt [⟨tg, iter, ifs, 0⟩] scope pos) (tE X.K XR G W (.comp (own.map (·.2)) t sk es cond ee)) := by
  refine PE_weak (pe_lc gd.calm gd.nd hi ok hg ht he (set_of hs _)) fun σ H Q ⟨m, e1, e2, rs, w⟩ => ?_
  subst e1 e2
  rw [ev_comp] at w
  refine ⟨m, rfl, rfl, rs, (Wp.bind rs.av early_repR w).mono fun m1 its J f1 st rs1 ⟨src, wk, sr, hz⟩ h1 => ?_⟩
  have := comp_loop (own := own.map (·.2)) rs1 wk sr htg hz h1
  rw [f1] at this
  exact this
/-- a local is given a list by a comprehension -/
theorem ps_comp {elt tg iter : Expr} {ifs : List Expr} {scope : Scope} {own : List (Str × Nat)} {pos spos py : Pos} {sk : SK} {es : Es} {t : Tg} {cond ee : E} {y : Str} {i : Nat} (gd : Gd XR G X S W) (hN : S.N[i]? = some y) (hyl : S.sc.names.lookup y = some .local) (hl : (py.line == pos.line) = true)
    (hsc : (scope.names.any fun (n, k) => n == y && (k == .local || k == .cell)) = false) (hi : PI X tg iter (tI X.K XR G W sk es)) (ok : BlkOk X.N X.env.scope scope own) (hk : X.env.scope.kind = .function)
    (hg : ∀ (s : Shared) (H : Hp) (C : Addr) (cl : List (Str × Addr)) (fp : List Addr), PG (X.blk s H scope (compEnvC scope cl C X.env) fp) tg (gT X.K t)) (htg : ∀ i ∈ t.slots, i ∈ own.map (·.2))
    (ht : ∀ (s : Shared) (H : Hp) (C : Addr) (cl : List (Str × Addr)) (fp : List Addr), PTs (X.blk s H scope (compEnvC scope cl C X.env) fp) ifs (tT X.K XR G WN cond))
    (he : ∀ (s : Shared) (H : Hp) (C : Addr) (cl : List (Str × Addr)) (fp : List Addr), PE (X.blk s H scope (compEnvC scope cl C X.env) fp) elt (tE X.K XR G WN ee)) (hs : notSet iter = true) :
    PS X (.Assign [.Name y py] (.ListComp elt [⟨tg, iter, ifs, 0⟩] scope pos) spos) (tAsg (tE X.K XR G W (.comp (own.map (·.2)) t sk es cond ee)) (gName i)) := by
  have hyl' : X.env.scope.names.lookup y = some .local := by rw [gd.sc]; exact hyl
  have h := ps_setLc (spos := spos) gd.calm gd.nd (by rw [gd.N]; exact hN) hyl' (sw_true (gs := [⟨tg, iter, ifs, 0⟩]) (elt := elt) (l := spos.line) hk hyl' hl hsc) hi ok hg ht he (set_of hs _)
  refine ⟨fun pins s σ H D I hw => h.run pins s σ H D I ?_⟩
  have key : ∀ σ H Q, tE X.K XR G W (.comp (own.map (·.2)) t sk es cond ee) σ H Q → tLc (tI X.K XR G W sk es) (gT X.K t) (tT X.K XR G WN cond) (tE X.K XR G WN ee) (own.map (·.2)) σ H Q := fun σ H Q ⟨m, e1, e2, rs, w⟩ => by
    subst e1 e2
    rw [ev_comp] at w
    refine ⟨m, rfl, rfl, rs, (Wp.bind rs.av early_repR w).mono fun m1 its J f1 st rs1 ⟨src, wk, sr, hz⟩ h1 => ?_⟩
    have := comp_loop (own := own.map (·.2)) rs1 wk sr htg hz h1
    rw [f1] at this
    exact this
  exact key _ _ _ hw
end
end AW

/-! P17: a dict's keys, walked under a lock. -/
namespace AW
open PySem PySem.Spec L2
theorem lock_keep {Av : Zn} {H : Hp} {d : Addr} {q : Obj} {kvs : List (Key × V)} (h : H d = some (.dK kvs)) : Keep Av H Av (upd H d (.frz q (.dK kvs))) := by
  refine ⟨fun a o nf ⟨r, n⟩ => ⟨?_, n⟩, fun a xs ⟨e, n⟩ => ⟨?_, n⟩⟩
  · by_cases e : a = d
    · subst e
      rcases r with r | ⟨z, r⟩
      · rw [h] at r; cases r
        exact .inr ⟨q, upd_same⟩
      · rw [h] at r; cases r
    · rcases r with r | ⟨z, r⟩
      · exact .inl (by rw [upd_ne e]; exact r)
      · exact .inr ⟨z, by rw [upd_ne e]; exact r⟩
  · have : a ≠ d := fun z => by rw [z, h] at e; cases e
    rw [upd_ne this]; exact e
theorem unlock_keep {Av : Zn} {H : Hp} {d : Addr} {q : Obj} {kvs : List (Key × V)} (h : H d = some (.frz q (.dK kvs))) : Keep Av H Av (upd H d (.dK kvs)) := by
  refine ⟨fun a o nf ⟨r, n⟩ => ⟨?_, n⟩, fun a xs ⟨e, n⟩ => ⟨?_, n⟩⟩
  · by_cases e : a = d
    · subst e
      rcases r with r | ⟨z, r⟩
      · rw [h] at r; cases r
        exact nf.elim
      · rw [h] at r; cases r
        exact .inl upd_same
    · rcases r with r | ⟨z, r⟩
      · exact .inl (by rw [upd_ne e]; exact r)
      · exact .inr ⟨z, by rw [upd_ne e]; exact r⟩
  · have : a ≠ d := fun z => by rw [z, h] at e; cases e
    rw [upd_ne this]; exact e
section
variable {K : Fg} {m : M}
/-- a thing off the slots is told anew -/
theorem RS.swap {d : Addr} {o : HO} (rs : RS K m) (k : Keep m.Av m.H m.Av (upd m.H d o)) (c : ¬ m.C d) : RS K { m with H := upd m.H d o } := by
  refine ⟨rs.len, fun b z => ?_, rs.cav, fun i e h => ?_, fun i hm e h => ?_, rs.inj⟩
  · show upd m.H d o b ≠ none
    by_cases e : b = d
    · subst e; rw [upd_same]; simp
    · rw [upd_ne e]; exact rs.av b z
  · obtain ⟨v, e1, r⟩ := rs.val i e h
    exact ⟨v, e1, Rep.imp k _ _ r⟩
  · obtain ⟨b, e1, cb, ob⟩ := rs.own i hm e h
    exact ⟨b, e1, cb, ob.imp (upd_ne fun z => c (z ▸ cb)) k⟩
end
theorem compLoop_exc {turn : D → Sg → R (Option D)} : ∀ {its : List D} {g : Sg} {acc : List D} {c : Nat} {p : List D} {g' : Sg}, compLoop turn its g acc ≠ .exc c p g'
  | [], _, _, _, _, _ => fun h => by cases h
  | x :: xs, g, acc, c, p, g' => fun h => by
    simp only [compLoop] at h
    split at h
    · exact compLoop_exc h
    · exact compLoop_exc h
    · cases h
/-- the source is a locked dict's slot -/
def tIk (K : Fg) (i : Nat) (ks : List D) : TI := fun σ H Rr => ∃ (Av : Zn) (d : Addr) (q : Obj) (kvs : List (Key × V)), σ[i]? = some (some (.ref d)) ∧ H d = some (.frz q (.dK kvs)) ∧ ¬ Av d ∧ ks = kvs.map (fun p => kD p.1) ∧ ks.all okK = true ∧
  ∀ J src, Walk K J ks src → src Av H → ks.length ≤ line → Rr J H
section
variable {XR : XRel} {G : Env} {X : Cx} {S : SC} {W : WX} {tg : Expr}
theorem pi_kslot {x : Str} {i : Nat} {ks : List D} {pos : Pos} (gd : Gd XR G X S W) (hN : S.N[i]? = some x) (hv : visB S.sc x = true) (h1 : (x == ("__debug__" : Str)) = false) (h2 : (x == ("__classdict__" : Str)) = false) : PI X tg (.Name x pos) (tIk X.K i ks) := by
  have he : PE X (.Name x pos) (tVar i) := pe_var (i := i) (by rw [gd.N]; exact hN) (by rw [gd.sc]; exact vis_of hv) h1 h2
  refine ⟨fun pins s σ H Rr I ⟨Av, d, q, kvs, e1, e2, nd, e3, ok, h⟩ => ?_⟩
  have hz : ks.length ≤ line := by
    obtain ⟨_, hh⟩ := I.hok d _ e2
    have : kvs.length ≤ sizeLine := hh.1
    rw [e3, List.length_map]
    exact this
  refine (pi_keys (tg := tg) he).run pins s σ H Rr I ⟨.ref d, e1, d, q, rfl, .inl ⟨kvs, e2, ?_⟩⟩
  subst e3
  exact h _ _ (walk_keys ok) ⟨e2, nd⟩ hz
theorem PE_or {e : Expr} {t t' : TE} (h : PE X e t) (h' : PE X e t') : PE X e (fun σ H Q => t σ H Q ∨ t' σ H Q) := ⟨fun pins s σ H Q I q => q.elim (h.run pins s σ H Q I) (h'.run pins s σ H Q I)⟩
theorem PS_or {st : Stmt} {t t' : TS} (h : PS X st t) (h' : PS X st t') : PS X st (fun D σ H => t D σ H ∨ t' D σ H) := ⟨fun pins s σ H D I q => q.elim (h.run pins s σ H D I) (h'.run pins s σ H D I)⟩
/-- a family of readings -/
theorem PE_ex {ι : Type} {e : Expr} {t : ι → TE} (h : ∀ i, PE X e (t i)) : PE X e (fun σ H Q => ∃ i, t i σ H Q) := ⟨fun pins s σ H Q I ⟨i, q⟩ => (h i).run pins s σ H Q I q⟩
theorem PS_ex {ι : Type} {st : Stmt} {t : ι → TS} (h : ∀ i, PS X st (t i)) : PS X st (fun D σ H => ∃ i, t i D σ H) := ⟨fun pins s σ H D I ⟨i, q⟩ => (h i).run pins s σ H D I q⟩
/-- the slot that is walked, its dict given away -/
theorem keys_start {i : Nat} {m : M} {γ δ : Type} {rel : M → M → γ → δ → Prop} {f : List D → Sg → R γ} {k : M → γ → δ → Prop} (rs : RS X.K m) (hr : Early rel) (w : Wp X.K XR W rel m ((srcR G .keys (.cons (.v i) .nil) m.g).bind f) k) :
    ∃ (m' : M) (ks l : List D) (d : Addr) (kvs : List (Key × V)), m'.H = m.H ∧ m'.σ = m.σ ∧ Step m m' ∧ RS X.K m' ∧ m'.σ[i]? = some (some (.ref d)) ∧ ¬ m'.Av d ∧ ks = kvs.map (fun p => kD p.1) ∧ ks.all okK = true ∧
      (m'.H d = some (.dK kvs) ∨ ∃ q, m'.H d = some (.frz q (.dK kvs))) ∧ Wp X.K XR W rel m' (f ks m'.g) k := by
  have fin : ∀ {m' : M} {d0 : D} {its : List D}, m'.H = m.H → m'.σ = m.σ → Step m m' → RS X.K m' → m'.g[i]? = some (some (.val d0)) → srcD .keys [d0] = some its → Wp X.K XR W rel m (f its m'.g) k →
      ∃ (m' : M) (ks l : List D) (d : Addr) (kvs : List (Key × V)), m'.H = m.H ∧ m'.σ = m.σ ∧ Step m m' ∧ RS X.K m' ∧ m'.σ[i]? = some (some (.ref d)) ∧ ¬ m'.Av d ∧ ks = kvs.map (fun p => kD p.1) ∧ ks.all okK = true ∧
      (m'.H d = some (.dK kvs) ∨ ∃ q, m'.H d = some (.frz q (.dK kvs))) ∧ Wp X.K XR W rel m' (f ks m'.g) k := fun {m' d0 its} eH eσ st rs' hg hs w => by
    obtain ⟨v, ev', rv⟩ := rs'.val i d0 hg
    match d0, hs, rv with
    | .dct false ks l, hs, rv =>
      cases hs
      obtain ⟨d, vs, o, rfl, ⟨ok, hd⟩, at_, rl⟩ := rv
      rw [if_neg Bool.false_ne_true] at hd
      obtain ⟨kvs, rfl, rfl, rfl⟩ := hd
      refine ⟨m', _, l, d, kvs, eH, eσ, st, rs', ev', at_.2, rfl, ok.1, at_.1, ?_⟩
      cases q : f (kvs.map fun p => kD p.1) m'.g with
      | stuck => rw [q] at w; exact w
      | exc c p g => rw [q] at w; exact fun m2 cls dx a1 a2 a3 a4 a5 => w m2 cls dx (a1.trans eσ) a2 (st.trans rs.av a3) a4 a5
      | ok a g => rw [q] at w; exact fun m2 b a1 a2 a3 a4 a5 => w m2 b (a1.trans eσ) a2 (st.trans rs.av a3) a4 (hr _ _ _ _ _ (fun x hx => by rw [eH]; exact hx) a5)
  unfold srcR at w
  simp only [evs, ev] at w
  cases hg : m.g[i]? with
  | none => rw [hg] at w; exact w.elim
  | some c =>
    rw [hg] at w
    cases c with
    | none => exact w.elim
    | some c =>
      cases c with
      | val d0 =>
        simp only [R.bind, frzs, frz] at w
        cases hs : srcD .keys [d0] with
        | none => rw [hs] at w; exact w.elim
        | some its => rw [hs] at w; exact fin rfl rfl (.refl m) rs hg hs w
      | own h d0 =>
        cases h with
        | true => simp only [R.bind, frzs, frz, hg] at w; exact w.elim
        | false =>
          simp only [R.bind, frzs, frz, hg] at w
          obtain ⟨a, ea, _, _⟩ := rs.own i false d0 hg
          obtain ⟨m', a1, a2, a3, st, rs', _⟩ := Pend.frz (r := .slot i) (v := .ref a) (d := d0) (g' := m.g.set i (some (.val d0))) rs ea (by simp only [frz, hg])
          cases hs : srcD .keys [d0] with
          | none => rw [hs] at w; exact w.elim
          | some its =>
            rw [hs] at w
            refine fin a1 a2 st rs' (by rw [a3]; exact List.getElem?_set_self (lt_of_get hg)) hs ?_
            rw [a3]
            exact w
/-- from the locked state back -/
theorem unlocked {m' mm : M} {d : Addr} {q : Obj} {kvs : List (Key × V)} {Z : Zn} (rs' : RS X.K m') (nA : ¬ m'.Av d) (hd : m'.H d = some (.dK kvs)) (st : Step { m' with H := upd m'.H d (.frz q (.dK kvs)) } mm) :
    mm.H d = some (.frz q (.dK kvs)) ∧ Step m' { mm with H := upd mm.H d (.dK kvs) } ∧ ¬ mm.C d := by
  have nC : ¬ m'.C d := fun z => nA (rs'.cav d z)
  have e : mm.H d = some (.frz q (.dK kvs)) := st.keep d _ upd_same nC
  have n2 : ∀ {a : Addr}, m'.H a ≠ none → upd m'.H d (.frz q (.dK kvs)) a ≠ none := fun {a} h => by
    by_cases z : a = d
    · subst z; rw [upd_same]; simp
    · rw [upd_ne z]; exact h
  have n3 : ∀ {a : Addr}, upd m'.H d (.frz q (.dK kvs)) a = none → m'.H a = none := fun {a} h => by
    by_cases z : a = d
    · subst z; rw [upd_same] at h; cases h
    · rw [upd_ne z] at h; exact h
  refine ⟨e, ⟨fun a o h c => ?_, fun a h => ?_, fun a c => (st.cgrow a c).imp id n3, fun a c => (st.avgrow a c).imp id n3, st.avkeep, st.home⟩, fun z => (st.cgrow d z).elim nC fun h => ?_⟩
  · show upd mm.H d (.dK kvs) a = some o
    by_cases z : a = d
    · subst z; rw [hd] at h; cases h; exact upd_same
    · rw [upd_ne z]
      exact st.keep a o (by show upd m'.H d _ a = _; rw [upd_ne z]; exact h) c
  · show upd mm.H d (.dK kvs) a ≠ none
    by_cases z : a = d
    · subst z; rw [upd_same]; simp
    · rw [upd_ne z]; exact st.there a (n2 h)
  · have : upd m'.H d (.frz q (.dK kvs)) d = none := h
    rw [upd_same] at this; cases this
theorem repR_unlock {m' mm : M} {d : Addr} {q : Obj} {kvs : List (Key × V)} {rv : RV} {v : V} (rs' : RS X.K m') (nA : ¬ m'.Av d) (hd : m'.H d = some (.dK kvs)) (st : Step { m' with H := upd m'.H d (.frz q (.dK kvs)) } mm) (rs : RS X.K mm)
    (r : RepR X.K { m' with H := upd m'.H d (.frz q (.dK kvs)) } mm rv v) : RS X.K { mm with H := upd mm.H d (.dK kvs) } ∧ RepR X.K m' { mm with H := upd mm.H d (.dK kvs) } rv v := by
  obtain ⟨e, st', nC⟩ := unlocked (Z := mm.Av) rs' nA hd st
  refine ⟨rs.swap (unlock_keep e) nC, ?_⟩
  cases rv with
  | d dd => exact Rep.imp (unlock_keep e) _ _ r
  | slot i => exact r
  | new dd =>
    obtain ⟨a, rfl, n, na, rsz, o⟩ := r
    have ne : a ≠ d := fun z => by
      subst z
      have : upd m'.H a (.frz q (.dK kvs)) a = none := n
      rw [upd_same] at this; cases this
    refine ⟨a, rfl, ?_, na, RS.swap (m := { mm with Av := zadd mm.Av a }) rsz (unlock_keep e) nC, o.imp (upd_ne ne) (unlock_keep e)⟩
    have : upd m'.H d (.frz q (.dK kvs)) a = none := n
    rwa [upd_ne ne] at this
theorem pe_compK {elt tg : Expr} {x : Str} {ipos : Pos} {ifs : List Expr} {scope : Scope} {own : List (Str × Nat)} {pos : Pos} {i : Nat} {t : Tg} {cond ee : E} (gd : Gd XR G X S W)
    (hN : S.N[i]? = some x) (hv : visB S.sc x = true) (h1 : (x == ("__debug__" : Str)) = false) (h2 : (x == ("__classdict__" : Str)) = false) (ok : BlkOk X.N X.env.scope scope own)
    (hg : ∀ (s : Shared) (H : Hp) (C : Addr) (cl : List (Str × Addr)) (fp : List Addr), PG (X.blk s H scope (compEnvC scope cl C X.env) fp) tg (gT X.K t)) (htg : ∀ i ∈ t.slots, i ∈ own.map (·.2))
    (ht : ∀ (s : Shared) (H : Hp) (C : Addr) (cl : List (Str × Addr)) (fp : List Addr), PTs (X.blk s H scope (compEnvC scope cl C X.env) fp) ifs (tT X.K XR G WN cond))
    (he : ∀ (s : Shared) (H : Hp) (C : Addr) (cl : List (Str × Addr)) (fp : List Addr), PE (X.blk s H scope (compEnvC scope cl C X.env) fp) elt (tE X.K XR G WN ee)) :
    PE X (.ListComp elt [⟨tg, .Name x ipos, ifs, 0⟩] scope pos) (tE X.K XR G W (.comp (own.map (·.2)) t .keys (.cons (.v i) .nil) cond ee)) := by
  have base : ∀ ks, PE X (.ListComp elt [⟨tg, .Name x ipos, ifs, 0⟩] scope pos) (tLc (tIk X.K i ks) (gT X.K t) (tT X.K XR G WN cond) (tE X.K XR G WN ee) (own.map (·.2))) := fun ks =>
    pe_lc gd.calm gd.nd (pi_kslot gd hN hv h1 h2) ok hg ht he (set_of rfl _)
  refine PE_weak (PE_or (PE_ex fun ks => pe_lock (base ks)) (PE_ex base)) fun σ H Q ⟨m, e1, e2, rs, w⟩ => ?_
  subst e1 e2
  rw [ev_comp] at w
  obtain ⟨m', ks, l, d, kvs, eH, eσ, st, rs', hs, nA, ek, ok', cases', w'⟩ := keys_start rs early_repR w
  rcases cases' with hd | ⟨q, hd⟩
  · refine .inl ⟨ks, d, .dK kvs, by rw [← eH]; exact hd, trivial, fun q => ?_⟩
    have nC : ¬ m'.C d := fun z => nA (rs'.cav d z)
    have rsL : RS X.K { m' with H := upd m'.H d (.frz q (.dK kvs)) } := rs'.swap (lock_keep hd) nC
    rw [← eH, ← eσ]
    refine ⟨m'.Av, d, q, kvs, hs, upd_same, nA, ek, ok', fun J src wk sr hz => ?_⟩
    have := comp_loop (Q := fun v H' => H' d = some (.frz q (.dK kvs)) ∧ Q v (upd H' d (.dK kvs))) (W := W) (XR := XR) (G := G) (cond := cond) (elt := ee) (own := own.map (·.2)) rsL wk sr htg hz ?_
    · exact this
    · cases hr : (compLoop (turnR G (own.map (·.2)) t cond ee) ks m'.g []).bind fun acc σ3 => (R.ok (RV.new (D.lst acc)) (unwipe m'.g σ3 (own.map (·.2))) : R RV) with
      | stuck => rw [hr] at w'; exact w'
      | exc c p g =>
        exfalso
        cases hc : compLoop (turnR G (own.map (·.2)) t cond ee) ks m'.g [] with
        | stuck => rw [hc] at hr; cases hr
        | exc => exact compLoop_exc hc
        | ok => rw [hc] at hr; cases hr
      | ok rv g =>
        rw [hr] at w'
        intro mm v a1 a2 a3 a4 a5
        obtain ⟨b1, b2, b3⟩ := unlocked (Z := mm.Av) rs' nA hd a3
        obtain ⟨c1, c2⟩ := repR_unlock rs' nA hd a3 a4 a5
        exact ⟨b1, w' { mm with H := upd mm.H d (.dK kvs) } v a1 a2 b2 c1 c2⟩
  · refine .inr ⟨ks, ?_⟩
    rw [← eH, ← eσ]
    refine ⟨m'.Av, d, q, kvs, hs, hd, nA, ek, ok', fun J src wk sr hz => ?_⟩
    exact comp_loop (own := own.map (·.2)) rs' wk sr htg hz w'
end
end AW

/-! P18: statements. -/
namespace AW
open PySem PySem.Spec L2
/-- what is wanted of a block -/
def WpO (K : Fg) (XR : XRel) (W : WX) (m0 : M) (o : O) (D : Ends) : Prop := match o with
  | .nx g' => ∀ m, m.g = g' → Step m0 m → RS K m → D.nx m.σ m.H
  | .bk g' => ∀ m, m.g = g' → Step m0 m → RS K m → D.bk m.σ m.H
  | .ct g' => ∀ m, m.g = g' → Step m0 m → RS K m → D.ct m.σ m.H
  | .rt r g' => ∀ m v, m.g = g' → Step m0 m → RS K m → RepR K m0 m r v → D.rt v m.H
  | .exc c p g' => ∀ m cls dx, m.g = g' → Step m0 m → RS K m → XR m.Av m.H c p cls dx → W cls dx m.σ m.H
  | .stuck => False
def tS (K : Fg) (XR : XRel) (G : Env) (W : WX) (s : S) : TS := fun D σ H => ∃ m, m.σ = σ ∧ m.H = H ∧ RS K m ∧ WpO K XR W m (exS G s m.g) D
def tSs (K : Fg) (XR : XRel) (G : Env) (W : WX) (s : Ss) : TS := fun D σ H => ∃ m, m.σ = σ ∧ m.H = H ∧ RS K m ∧ WpO K XR W m (exSs G s m.g) D
section
variable {K : Fg} {XR : XRel} {W : WX} {m0 : M} {D : Ends}
theorem WpO.step {m : M} {o : O} (av : ∀ a, m0.Av a → m0.H a ≠ none) (st : Step m0 m) (h : WpO K XR W m0 o D) : WpO K XR W m o D := by
  cases o with
  | nx g => exact fun m1 e s rs => h m1 e (st.trans av s) rs
  | bk g => exact fun m1 e s rs => h m1 e (st.trans av s) rs
  | ct g => exact fun m1 e s rs => h m1 e (st.trans av s) rs
  | rt r g => exact fun m1 v e s rs r => h m1 v e (st.trans av s) rs (early_repR _ _ _ _ _ st.there r)
  | exc c p g => exact fun m1 cls dx e s rs x => h m1 cls dx e (st.trans av s) rs x
  | stuck => exact h
theorem WpO.seq {o : O} {f : Sg → O} (h : WpO K XR W m0 (o.bind f) D) : WpO K XR W m0 o { D with nx := fun σ H => ∃ m, m.σ = σ ∧ m.H = H ∧ RS K m ∧ Step m0 m ∧ WpO K XR W m0 (f m.g) D } := by
  cases o with
  | nx g => exact fun m e s rs => ⟨m, rfl, rfl, rs, s, by rw [e]; exact h⟩
  | bk g => exact h
  | ct g => exact h
  | rt r g => exact h
  | exc c p g => exact h
  | stuck => exact h
theorem WpO.mono {o : O} {D' : Ends} (h : WpO K XR W m0 o D) (nx : ∀ m, Step m0 m → RS K m → D.nx m.σ m.H → D'.nx m.σ m.H) (bk : ∀ m, Step m0 m → RS K m → D.bk m.σ m.H → D'.bk m.σ m.H)
    (ct : ∀ m, Step m0 m → RS K m → D.ct m.σ m.H → D'.ct m.σ m.H) (rt : ∀ v H, D.rt v H → D'.rt v H) : WpO K XR W m0 o D' := by
  cases o with
  | nx g => exact fun m e s rs => nx m s rs (h m e s rs)
  | bk g => exact fun m e s rs => bk m s rs (h m e s rs)
  | ct g => exact fun m e s rs => ct m s rs (h m e s rs)
  | rt r g => exact fun m v e s rs q => rt _ _ (h m v e s rs q)
  | exc c p g => exact h
  | stuck => exact h
/-- an expression ahead of the rest -/
theorem WpO.toO {α β : Type} {rel : M → M → α → β → Prop} {r : R α} {f : α → Sg → O} (h : WpO K XR W m0 (r.toO f) D) : Wp K XR W rel m0 r (fun m a _ => WpO K XR W m0 (f a m.g) D) := by
  cases r with
  | stuck => exact h
  | exc c p g => exact fun m cls dx _ e s rs x => h m cls dx e s rs x
  | ok a g => exact fun m b _ e s rs _ => by show WpO K XR W m0 (f a m.g) D; rw [e]; exact h
theorem WpO.of {x : Option Sg} (h : WpO K XR W m0 (.of x) D) : ∃ g, x = some g ∧ WpO K XR W m0 (.nx g) D := by
  cases x with
  | none => exact h.elim
  | some g => exact ⟨g, rfl, h⟩
/-- a new thing is kept clear -/
def Held (K : Fg) (m0 m : M) (r : RV) (v : V) : Prop := match r with
  | .d d => Rep K m.Av m.H d v
  | .slot _ => False
  | .new d => ∃ a, v = .ref a ∧ m0.H a = none ∧ m.Av a ∧ ¬ m.C a ∧ OwnAt K m.Av m.H a d
theorem RepR.held {m : M} {r : RV} {v : V} (av : ∀ a, m0.Av a → m0.H a ≠ none) (st : Step m0 m) (rs : RS K m) (ns : isSlot r = false) (h : RepR K m0 m r v) :
    ∃ m1, m1.H = m.H ∧ m1.σ = m.σ ∧ m1.g = m.g ∧ Step m0 m1 ∧ RS K m1 ∧ Held K m0 m1 r v := by
  cases r with
  | d d => exact ⟨m, rfl, rfl, rfl, st, rs, h⟩
  | slot i => cases ns
  | new d =>
    obtain ⟨a, rfl, n, na, rsz, o⟩ := h
    refine ⟨{ m with Av := zadd m.Av a }, rfl, rfl, rfl, ?_, rsz, a, rfl, n, .inr rfl, fun z => na (rs.cav a z), o⟩
    exact { keep := st.keep, there := st.there, cgrow := st.cgrow, avgrow := fun b z => z.elim (st.avgrow b) fun e => .inr (by rw [e]; exact n), avkeep := fun b z c => .inl (st.avkeep b z c), home := st.home }
theorem Held.step {m m' : M} {r : RV} {v : V} (rs : RS K m) (s : Step m m') (h : Held K m0 m r v) : Held K m0 m' r v := by
  cases r with
  | d d => exact s.rep rs h
  | slot i => exact h
  | new d =>
    obtain ⟨a, rfl, n, ia, na, o⟩ := h
    have e : m'.H a = m.H a := by
      cases q : m.H a with
      | none => exact absurd q o.some
      | some u => exact s.keep a u q na
    exact ⟨a, rfl, n, s.avkeep a ia na, fun z => (s.cgrow a z).elim na o.some, o.imp e (s.k rs)⟩
/-- a slot's new owner -/
theorem RS.take {m : M} {i : Nat} {c : Option Cell} {d : AW.D} {a : Addr} (rs : RS K m) (hi : m.g[i]? = some c) (ia : m.Av a) (na : ¬ m.C a) (o : OwnAt K m.Av m.H a d) :
    RS K { m with C := zadd m.C a, σ := m.σ.set i (some (.ref a)), g := m.g.set i (some (.own false d)) } where
  len := by simp [rs.len]
  av := rs.av
  cav b h := h.elim (rs.cav b) fun e => by rw [e]; exact ia
  val j d' h := by
    have h : (m.g.set i (some (.own false d)))[j]? = some (some (.val d')) := h
    by_cases e : i = j
    · subst e
      rw [List.getElem?_set_self (lt_of_get hi)] at h; cases h
    · rw [List.getElem?_set_ne e] at h
      obtain ⟨v, e1, r⟩ := rs.val j d' h
      exact ⟨v, by show (m.σ.set i _)[j]? = _; rw [List.getElem?_set_ne e]; exact e1, r⟩
  own j h' d' h := by
    have h : (m.g.set i (some (.own false d)))[j]? = some (some (.own h' d')) := h
    by_cases e : i = j
    · subst e
      rw [List.getElem?_set_self (lt_of_get hi)] at h; cases h
      refine ⟨a, ?_, .inr rfl, o⟩
      show (m.σ.set i _)[i]? = _
      rw [List.getElem?_set_self (by rw [rs.len]; exact lt_of_get hi)]
    · rw [List.getElem?_set_ne e] at h
      obtain ⟨b, e1, c, o'⟩ := rs.own j h' d' h
      exact ⟨b, by show (m.σ.set i _)[j]? = _; rw [List.getElem?_set_ne e]; exact e1, .inl c, o'⟩
  inj j k h1 d1 h2 d2 b g1 g2 s1 s2 := by
    have g1 : (m.g.set i (some (.own false d)))[j]? = some (some (.own h1 d1)) := g1
    have g2 : (m.g.set i (some (.own false d)))[k]? = some (some (.own h2 d2)) := g2
    have s1 : (m.σ.set i (some (.ref a)))[j]? = some (some (.ref b)) := s1
    have s2 : (m.σ.set i (some (.ref a)))[k]? = some (some (.ref b)) := s2
    have away : ∀ (j : Nat) (h1 : Bool) (d1 : AW.D), i ≠ j → (m.g.set i (some (.own false d)))[j]? = some (some (.own h1 d1)) → (m.σ.set i (some (.ref a)))[j]? = some (some (.ref b)) → m.g[j]? = some (some (.own h1 d1)) ∧ m.σ[j]? = some (some (.ref b)) ∧ b ≠ a := by
      intro j h1 d1 e g1 s1
      rw [List.getElem?_set_ne e] at g1 s1
      refine ⟨g1, s1, fun z => ?_⟩
      obtain ⟨b', e1, c, _⟩ := rs.own j h1 d1 g1
      rw [s1] at e1
      cases e1
      exact na (z ▸ c)
    have selfA : ∀ {k : Nat}, i = k → (m.σ.set i (some (.ref a)))[k]? = some (some (.ref b)) → b = a := by
      intro k e s
      subst e
      rw [List.getElem?_set_self (by rw [rs.len]; exact lt_of_get hi)] at s
      cases s; rfl
    by_cases ej : i = j
    · by_cases ek : i = k
      · exact ej.symm.trans ek
      · exact absurd (selfA ej s1) (away k h2 d2 ek g2 s2).2.2
    · by_cases ek : i = k
      · exact absurd (selfA ek s2) (away j h1 d1 ej g1 s1).2.2
      · obtain ⟨a1, a2, _⟩ := away j h1 d1 ej g1 s1
        obtain ⟨b1, b2, _⟩ := away k h2 d2 ek g2 s2
        exact rs.inj j k h1 d1 h2 d2 b a1 b1 a2 b2
/-- addresses of the held -/
def heldAt : RV → V → Addr → Prop
  | .new _, .ref a, b => b = a
  | _, _, _ => False
theorem home_set {m m1 : M} {i : Nat} {c : Option Cell} {x : Option Cell} {y : Option V} (st : Step m0 m) (hi : m.g[i]? = some c) (hc : ∀ d, c ≠ some (.own true d)) (hx : ∀ d, x ≠ some (.own true d)) (e1 : m1.g = m.g.set i x) (e2 : m1.σ = m.σ.set i y) :
    ∀ (j : Nat) (d : AW.D), m1.g[j]? = some (some (.own true d)) → (∃ d', m0.g[j]? = some (some (.own true d'))) ∧ m1.σ[j]? = m0.σ[j]? := by
  intro j d h
  rw [e1] at h
  by_cases e : i = j
  · subst e
    rw [List.getElem?_set_self (lt_of_get hi)] at h
    exact absurd (Option.some.inj h) (hx d)
  · rw [List.getElem?_set_ne e] at h
    rw [e2, List.getElem?_set_ne e]
    exact st.home j d h
/-- a held thing is stored -/
theorem Held.set {m : M} {own : Bool} {i : Nat} {r : RV} {v : V} {g' : Sg} (av : ∀ a, m0.Av a → m0.H a ≠ none) (st : Step m0 m) (rs : RS K m) (h : Held K m0 m r v) (e : setR m.g own i r = some g') :
    ∃ m', m'.H = m.H ∧ m'.σ = m.σ.set i (some v) ∧ m'.g = g' ∧ Step m0 m' ∧ RS K m' ∧ (∀ r2 v2, (∀ a, heldAt r v a → heldAt r2 v2 a → False) → Held K m0 m r2 v2 → Held K m0 m' r2 v2) := by
  have valCase : ∀ {d : AW.D} {m1 : M}, m1.H = m.H → m1.σ = m.σ → m1.g = m.g → Step m0 m1 → RS K m1 → Rep K m1.Av m1.H d v → setV m.g i d = some g' → (∀ r2 v2, (∀ a, heldAt r v a → heldAt r2 v2 a → False) → Held K m0 m r2 v2 → Held K m0 m1 r2 v2) →
      ∃ m', m'.H = m.H ∧ m'.σ = m.σ.set i (some v) ∧ m'.g = g' ∧ Step m0 m' ∧ RS K m' ∧ (∀ r2 v2, (∀ a, heldAt r v a → heldAt r2 v2 a → False) → Held K m0 m r2 v2 → Held K m0 m' r2 v2) := by
    intro d m1 f1 f2 f3 s1 rs1 rep hs hh
    rw [← f3] at hs
    obtain ⟨qH, qr, qs, _⟩ := setV_ok rs1 rep hs
    refine ⟨{ m1 with σ := m1.σ.set i (some v), g := g' }, f1, by show _ = _; rw [f2], rfl, ?_, qr, fun r2 v2 n h2 => ?_⟩
    · have := qs
      exact { keep := s1.keep, there := s1.there, cgrow := s1.cgrow, avgrow := s1.avgrow, avkeep := s1.avkeep, home := fun j d' hj => by
                obtain ⟨⟨d2, a⟩, b⟩ := qs.home j d' hj
                obtain ⟨c1, c2⟩ := s1.home j d2 a
                exact ⟨c1, b.trans c2⟩ }
    · have := hh r2 v2 n h2
      cases r2 <;> exact this
  cases own with
  | false =>
    simp only [setR, Bool.false_eq_true, if_false] at e
    cases r with
    | slot => exact h.elim
    | d d => exact valCase rfl rfl rfl st rs h (by simpa [frz] using e) fun _ _ _ h2 => h2
    | new d =>
      obtain ⟨a, rfl, n, ia, na, o⟩ := h
      have e : setV m.g i d = some g' := by simpa [frz] using e
      have rsl : RS K { m with Av := zdel m.Av a } := rs.less (fun b z => z.1) fun b c => ⟨rs.cav b c, fun z => na (z ▸ c)⟩
      have sub : Keep m.Av m.H (zdel m.Av a) m.H := at_sub fun b z => z.1
      refine valCase (m1 := { m with Av := zdel m.Av a }) rfl rfl rfl ?_ rsl ((o.imp rfl sub).rep fun z => z.2 rfl) e ?_
      · exact { keep := st.keep, there := st.there, cgrow := st.cgrow, avgrow := fun b z => st.avgrow b z.1, avkeep := fun b z c => ⟨st.avkeep b z c, fun w => by
                  subst w
                  exact av b z n⟩, home := st.home }
      · intro r2 v2 n2 h2
        cases r2 with
        | d d2 => exact Rep.imp sub _ _ h2
        | slot => exact h2
        | new d2 =>
          obtain ⟨b, rfl, k1, k2, k3, k4⟩ := h2
          exact ⟨b, rfl, k1, ⟨k2, fun z => n2 a rfl (show a = b from z.symm)⟩, k3, k4.imp rfl sub⟩
  | true =>
    simp only [setR, if_true] at e
    cases r with
    | slot => cases e
    | d d => cases e
    | new d =>
      obtain ⟨a, rfl, n, ia, na, o⟩ := h
      simp only [setO] at e
      cases hi : m.g[i]? with
      | none => rw [hi] at e; cases e
      | some c =>
        rw [hi] at e
        have hc : ∀ d, c ≠ some (.own true d) := fun d z => by rw [z] at e; cases e
        have e : g' = m.g.set i (some (.own false d)) := by
          cases c with
          | none => exact (Option.some.inj e).symm
          | some c =>
            cases c with
            | val => exact (Option.some.inj e).symm
            | own b d' =>
              cases b with
              | true => exact absurd rfl (hc d')
              | false => exact (Option.some.inj e).symm
        subst e
        refine ⟨{ m with C := zadd m.C a, σ := m.σ.set i (some (.ref a)), g := m.g.set i (some (.own false d)) }, rfl, rfl, rfl, ?_, rs.take hi ia na o, ?_⟩
        · exact { keep := st.keep, there := st.there, cgrow := fun b z => z.elim (st.cgrow b) fun w => .inr (by rw [w]; exact n), avgrow := st.avgrow, avkeep := st.avkeep,
                  home := home_set st hi hc (fun d z => by cases z) rfl rfl }
        · intro r2 v2 n2 h2
          cases r2 with
          | d d2 => exact h2
          | slot => exact h2
          | new d2 =>
            obtain ⟨b, rfl, k1, k2, k3, k4⟩ := h2
            exact ⟨b, rfl, k1, k2, fun z => z.elim k3 fun w => n2 a rfl (show a = b from w.symm), k4⟩
end
end AW

/-! P19: statements, one by one. -/
namespace AW
open PySem PySem.Spec L2
/-- the guard of a def's body -/
structure Gs (XR : XRel) (G : Env) (X : Cx) (S : SC) (W : WX) : Prop extends Gd XR G X S W where
  passes : PassesOwn (model X.prog X.w) X.A X.env X.xe
  fun_ : X.env.scope.kind = .function
theorem PS_weak {X : Cx} {s : Stmt} {t t' : TS} (h : PS X s t) (w : ∀ D σ H, t' D σ H → t D σ H) : PS X s t' := ⟨fun pins s σ H D I q => h.run pins s σ H D I (w _ _ _ q)⟩
theorem PSs_weak {X : Cx} {s : List Stmt} {t t' : TS} (h : PSs X s t) (w : ∀ D σ H, t' D σ H → t D σ H) : PSs X s t' := ⟨fun pins s σ H D I q => h.run pins s σ H D I (w _ _ _ q)⟩
theorem lc_of {sc : Scope} {x : Str} (h : sc.names.lookup x = some .local) : Loc sc x := .inl h
theorem gAll_mono {Q Q' : L2.St → Hp → Prop} (w : ∀ σ H, Q σ H → Q' σ H) : ∀ {l : List Nat} {vs : List V} {σ : L2.St} {H : Hp}, gAll l vs σ H Q → gAll l vs σ H Q'
  | [], _, _, _, h => ⟨h.1, w _ _ h.2⟩
  | i :: l, _, _, _, h => by
    obtain ⟨v, r, e, h⟩ := h
    exact ⟨v, r, e, gAll_mono w (l := l) h⟩
theorem gT_mono {K : Fg} {Q Q' : L2.St → Hp → Prop} {t : Tg} {x : V} {σ : L2.St} {H : Hp} (h : gT K t x σ H Q) (w : ∀ σ H, Q σ H → Q' σ H) : gT K t x σ H Q' := by
  cases t with
  | one i => exact w _ _ h
  | many l =>
    obtain ⟨a, xs, e, q, n, h⟩ := h
    exact ⟨a, xs, e, q, n, gAll_mono w h⟩
section
variable {XR : XRel} {G : Env} {X : Cx} {S : SC} {W : WX} {pos : Pos}
theorem pss_no : PSs X [] (tSs X.K XR G W .nil) := PSs_weak pss_nil fun D σ H ⟨m, e1, e2, rs, w⟩ => by
  subst e1 e2
  exact w m rfl (.refl m) rs
theorem pss_more {s : Stmt} {ss : List Stmt} {a : AW.S} {as : Ss} (h1 : PS X s (tS X.K XR G W a)) (h2 : PSs X ss (tSs X.K XR G W as)) : PSs X (s :: ss) (tSs X.K XR G W (.cons a as)) := by
  refine PSs_weak (pss_cons h1 h2) fun D σ H ⟨m, e1, e2, rs, w⟩ => ?_
  subst e1 e2
  simp only [exSs] at w
  refine ⟨m, rfl, rfl, rs, w.seq.mono ?_ (fun _ _ _ h => h) (fun _ _ _ h => h) (fun _ _ h => h)⟩
  intro m1 _ _ ⟨m2, e1, e2, rs2, s2, w2⟩
  exact ⟨m2, e1, e2, rs2, w2.step rs.av s2⟩
theorem forget_all {K : Fg} {m : M} (rs : RS K m) : ∀ l : List Nat, RS K { m with g := AW.wipe m.g l }
  | [] => rs
  | _ :: l => (forget_all rs l).forget
theorem forget_step {m : M} (l : List Nat) : Step m { m with g := AW.wipe m.g l } :=
  ⟨fun _ _ h _ => h, fun _ h => h, fun _ h => .inl h, fun _ h => .inl h, fun _ h _ => h, fun _ d h => ⟨⟨d, (wipe_get h).1⟩, rfl⟩⟩
theorem pss_frg {l : List Nat} {ss : List Stmt} {as : Ss} (h : PSs X ss (tSs X.K XR G W as)) : PSs X ss (tSs X.K XR G W (.cons (.frg l) as)) := PSs_weak h fun D σ H ⟨m, e1, e2, rs, w⟩ => by
  subst e1 e2
  simp only [exSs, exS, O.bind] at w
  exact ⟨{ m with g := AW.wipe m.g l }, rfl, rfl, forget_all rs l, w.step rs.av (forget_step l)⟩
theorem ps_pass' : PS X (.Pass pos) (tS X.K XR G W .pas) := PS_weak ps_pass fun D σ H ⟨m, e1, e2, rs, w⟩ => by
  subst e1 e2
  simp only [exS] at w
  exact w m rfl (.refl m) rs
theorem ps_brk : PS X (.Break pos) (tS X.K XR G W .brk) := PS_weak ps_break fun D σ H ⟨m, e1, e2, rs, w⟩ => by
  subst e1 e2
  simp only [exS] at w
  exact w m rfl (.refl m) rs
theorem ps_cnt : PS X (.Continue pos) (tS X.K XR G W .cnt) := PS_weak ps_continue fun D σ H ⟨m, e1, e2, rs, w⟩ => by
  subst e1 e2
  simp only [exS] at w
  exact w m rfl (.refl m) rs
theorem ps_rtN : PS X (.Return none pos) (tS X.K XR G W .retN) := PS_weak ps_retN fun D σ H ⟨m, e1, e2, rs, w⟩ => by
  subst e1 e2
  simp only [exS] at w
  exact w m .non rfl (.refl m) rs rfl
theorem ps_rt {e : Expr} {ee : E} (he : PE X e (tE X.K XR G W ee)) : PS X (.Return (some e) pos) (tS X.K XR G W (.ret ee)) := PS_weak (ps_ret he) fun D σ H ⟨m, e1, e2, rs, w⟩ => by
  subst e1 e2
  simp only [exS] at w
  refine ⟨m, rfl, rfl, rs, (WpO.toO w).mono fun m1 r v f s rs1 rr h => ?_⟩
  exact h m1 v rfl s rs1 rr
theorem ps_drop {e : Expr} {ee : E} (he : PE X e (tE X.K XR G W ee)) (hc : notComp e = true) : PS X (.Expr e pos) (tS X.K XR G W (.ex ee)) := PS_weak (ps_expr he (swaps_of hc _ _ _)) fun D σ H ⟨m, e1, e2, rs, w⟩ => by
  subst e1 e2
  simp only [exS] at w
  refine ⟨m, rfl, rfl, rs, (WpO.toO w).mono fun m1 r v f s rs1 rr h => ?_⟩
  have := h m1 rfl s rs1
  rwa [f] at this
theorem ps_iff {e : Expr} {p q : List Stmt} {ee : E} {a b : Ss} (he : PT X e (tT X.K XR G W ee)) (ha : PSs X p (tSs X.K XR G W a)) (hb : PSs X q (tSs X.K XR G W b)) : PS X (.If e p q pos) (tS X.K XR G W (.ifs ee a b)) := by
  refine PS_weak (ps_if he ha hb) fun D σ H ⟨m, e1, e2, rs, w⟩ => ?_
  subst e1 e2
  have eq : exS G (.ifs ee a b) m.g = (evT G ee m.g).toO fun t σ1 => if t = true then exSs G a σ1 else exSs G b σ1 := by
    simp only [exS, evT]
    cases ev G ee m.g with
    | stuck => rfl
    | exc => rfl
    | ok x σ1 =>
      simp only [R.toO, R.bind]
      cases look σ1 x with
      | none => rfl
      | some dx =>
        simp only
        cases truth dx with
        | none => rfl
        | some t => cases t <;> rfl
  rw [eq] at w
  refine ⟨m, rfl, rfl, rs, (WpO.toO w).mono fun m1 t t' f s rs1 e h => ?_⟩
  subst e
  have h := h.step rs.av s
  cases t with
  | true => exact ⟨m1, f, rfl, rs1, h⟩
  | false => exact ⟨m1, f, rfl, rs1, h⟩
/-- an assignment, by its reading -/
theorem asg_ok {own : Bool} {i : Nat} {ee : E} {D : Ends} {σ : L2.St} {H : Hp} (h : tS X.K XR G W (.asg own i ee) D σ H) : tAsg (tE X.K XR G W ee) (gName i) D σ H := by
  obtain ⟨m, e1, e2, rs, w⟩ := h
  subst e1 e2
  simp only [exS] at w
  refine ⟨m, rfl, rfl, rs, (WpO.toO w).mono fun m1 r v f s rs1 rr h => ?_⟩
  obtain ⟨g, hg, w2⟩ := h.of
  show D.nx (m.σ.set i (some v)) m1.H
  cases hs : isSlot r with
  | false =>
    obtain ⟨m2, a1, a2, a3, st2, rs2, hd⟩ := rr.held rs.av s rs1 hs
    rw [← a3] at hg
    obtain ⟨m3, b1, b2, b3, st3, rs3, _⟩ := hd.set rs.av st2 rs2 hg
    have := w2 m3 b3 st3 rs3
    rwa [b2, b1, a2, a1, f] at this
  | true =>
    cases r with
    | d => cases hs
    | new => cases hs
    | slot j =>
      cases own with
      | true => simp [setR] at hg
      | false =>
        simp only [setR, Bool.false_eq_true, if_false] at hg
        cases hz : frz m1.g (.slot j) with
        | none => rw [hz] at hg; cases hg
        | some z =>
          obtain ⟨d, g1⟩ := z
          rw [hz] at hg
          obtain ⟨m2, a1, a2, a3, st2, rs2, r2⟩ := Pend.frz rs1 rr.pend hz
          subst a3
          obtain ⟨qH, qr, qs, _⟩ := setV_ok rs2 r2 hg
          have := w2 _ rfl ((s.trans rs.av st2).trans rs.av qs) qr
          have : D.nx (m2.σ.set i (some v)) m2.H := this
          rwa [a2, a1, f] at this
theorem ps_as {y : Str} {py : Pos} {i : Nat} {own : Bool} {e : Expr} {ee : E} (gd : Gs XR G X S W) (hN : S.N[i]? = some y) (hs : S.sto y = true) (he : PE X e (tE X.K XR G W ee)) (hc : notComp e = true) : PS X (.Assign [.Name y py] e pos) (tS X.K XR G W (.asg own i ee)) := by
  obtain ⟨s1, s2⟩ := gd.sto y hs
  exact PS_weak (ps_set gd.nd (by rw [gd.N]; exact hN) s1 he (swaps_of hc _ _ _) s2) fun D σ H h => asg_ok h
theorem ps_un {l : List Nat} {tg e : Expr} {ee : E} (gd : Gs XR G X S W) (ht : ckTg S (.many l) tg = true) (he : PE X e (tE X.K XR G W ee)) (hs : swapsWithSole [tg] e pos.line X.env = pure false) (hw : swappedStores [tg] e X.env = pure none) :
    PS X (.Assign [tg] e pos) (tS X.K XR G W (.unp l ee)) := by
  refine PS_weak (ps_asg he (pg_ok gd.toGd ht) hs hw ?_) fun D σ H ⟨m, e1, e2, rs, w⟩ => ?_
  · cases tg <;> first | rfl | (simp [ckTg] at ht)
  subst e1 e2
  simp only [exS] at w
  refine ⟨m, rfl, rfl, rs, (WpO.toO w).mono fun m1 r v f s rs1 rr h => ?_⟩
  cases hz : frz m1.g r with
  | none => rw [hz] at h; exact h.elim
  | some z =>
    obtain ⟨d, g1⟩ := z
    rw [hz] at h
    obtain ⟨g, hg, w2⟩ := WpO.of h
    obtain ⟨m2, a1, a2, a3, st2, rs2, r2⟩ := Pend.frz rs1 rr.pend hz
    subst a3
    have := setT_ok (K := X.K) rs2 r2 hg
    rw [a2, f, a1] at this
    refine gT_mono this fun σ2 H2 st => ?_
    have := w2 _ rfl ((s.trans rs.av st2).trans rs.av st.st) st.rs
    have eH := st.H
    rw [eH]
    exact this
end
end AW

/-! P20: several names at once; stores. -/
namespace AW
open PySem PySem.Spec L2
def heldIn : List RV → List V → Addr → Prop
  | r :: rs, v :: vs, a => heldAt r v a ∨ heldIn rs vs a
  | _, _, _ => False
def RepHs (K : Fg) (m0 m : M) : List RV → List V → Prop
  | [], vs => vs = []
  | r :: rs, vs => ∃ v ws, vs = v :: ws ∧ (isSlot r = false → Held K m0 m r v) ∧ (∀ a, heldAt r v a → heldIn rs ws a → False) ∧ RepHs K m0 m rs ws
def tAh (K : Fg) (XR : XRel) (G : Env) (W : WX) (es : Es) : TA := fun σ H Q => ∃ m, m.σ = σ ∧ m.H = H ∧ RS K m ∧ Wp K XR W (RepHs K) m (evs G es m.g) fun m' _ vs => Q vs m'.H
section
variable {K : Fg} {XR : XRel} {W : WX} {α β γ δ : Type} {m0 : M}
theorem Wp.bind0 {rel1 : M → M → α → β → Prop} {rel : M → M → γ → δ → Prop} {r : R α} {f : α → Sg → R γ} {k : M → γ → δ → Prop}
    (h : Wp K XR W rel m0 (r.bind f) k) : Wp K XR W rel1 m0 r (fun m1 a b => Wp K XR W rel m0 (f a m1.g) k) := by
  cases r with
  | stuck => exact h
  | exc c p g => exact h
  | ok a g' =>
    intro m b e1 e2 st rs _
    show Wp K XR W rel m0 (f a m.g) k
    rw [e2]; exact h
theorem Wp.step {rel : M → M → γ → δ → Prop} {r : R γ} {m : M} {k : M → γ → δ → Prop} (av : ∀ a, m0.Av a → m0.H a ≠ none) (hr : Early rel) (st : Step m0 m) (e1 : m.σ = m0.σ) (h : Wp K XR W rel m0 r k) : Wp K XR W rel m r k := by
  cases r with
  | stuck => exact h
  | exc c p g2 => exact fun m2 cls dx e3 e4 st2 rs2 x => h m2 cls dx (e3.trans e1) e4 (st.trans av st2) rs2 x
  | ok a2 g2 => exact fun m2 b2 e3 e4 st2 rs2 x => h m2 b2 (e3.trans e1) e4 (st.trans av st2) rs2 (hr _ _ _ _ _ st.there x)
theorem Held.early {m1 m2 : M} {r : RV} {v : V} (t : ∀ x, m0.H x ≠ none → m1.H x ≠ none) (h : Held K m1 m2 r v) : Held K m0 m2 r v := by
  cases r with
  | d => exact h
  | slot => exact h
  | new d =>
    obtain ⟨a, e, n, q⟩ := h
    exact ⟨a, e, Classical.byContradiction fun z => t a z n, q⟩
theorem early_hs : ∀ {l : List RV} {vs : List V} {m0 m1 m2 : M}, (∀ x, m0.H x ≠ none → m1.H x ≠ none) → RepHs K m1 m2 l vs → RepHs K m0 m2 l vs
  | [], _, _, _, _, _, h => h
  | r :: l, _, _, _, _, t, h => by
    obtain ⟨v, ws, e, h1, h2, h3⟩ := h
    exact ⟨v, ws, e, fun n => (h1 n).early t, h2, early_hs t h3⟩
theorem held_new : ∀ {l : List RV} {vs : List V} {m0 m : M} {a : Addr}, RepHs K m0 m l vs → heldIn l vs a → m0.H a = none
  | [], vs, _, _, _, h, q => by cases h; exact q.elim
  | r :: l, _, _, _, a, h, q => by
    obtain ⟨v, ws, rfl, h1, h2, h3⟩ := h
    rcases q with q | q
    · cases r with
      | d => exact q.elim
      | slot => exact q.elim
      | new d =>
        obtain ⟨b, rfl, n, _⟩ := h1 rfl
        have : a = b := q
        rw [this]; exact n
    · exact held_new h3 q
/-- the stores of the slots -/
def setsσ (σ : L2.St) : List (Bool × Nat) → List V → L2.St
  | p :: l, v :: vs => setsσ (σ.set p.2 (some v)) l vs
  | _, _ => σ
theorem setRs_ok : ∀ {l : List (Bool × Nat)} {rs : List RV} {vs : List V} {g' : Sg} {m : M}, (∀ a, m0.Av a → m0.H a ≠ none) → Step m0 m → RS K m → RepHs K m0 m rs vs → setRs m.g l rs = some g' →
    ∃ m', m'.H = m.H ∧ m'.σ = setsσ m.σ l vs ∧ m'.g = g' ∧ Step m0 m' ∧ RS K m' ∧ vs.length = l.length
  | [], [], vs, g', m, av, st, rs, h, e => by cases h; cases e; exact ⟨m, rfl, rfl, rfl, st, rs, rfl⟩
  | [], _ :: _, _, _, _, _, _, _, _, e => by cases e
  | _ :: _, [], _, _, _, _, _, _, _, e => by cases e
  | p :: l, r :: rl, _, g', m, av, st, rs, h, e => by
    obtain ⟨v, ws, rfl, h1, h2, h3⟩ := h
    simp only [setRs] at e
    cases hs : isSlot r with
    | true => rw [hs, if_pos rfl] at e; cases e
    | false =>
      rw [hs, if_neg Bool.false_ne_true] at e
      cases e1 : setR m.g p.1 p.2 r with
      | none => rw [e1] at e; cases e
      | some g1 =>
        rw [e1] at e
        obtain ⟨m1, a1, a2, a3, st1, rs1, hold⟩ := (h1 hs).set av st rs e1
        subst a3
        have key : ∀ {rl : List RV} {ws : List V}, (∀ a, heldAt r v a → heldIn rl ws a → False) → RepHs K m0 m rl ws → RepHs K m0 m1 rl ws := by
          intro rl
          induction rl with
          | nil => intro ws _ h; exact h
          | cons r2 rl ih =>
            intro ws n h
            obtain ⟨v2, ws2, rfl, k1, k2, k3⟩ := h
            exact ⟨v2, ws2, rfl, fun z => hold r2 v2 (fun a x y => n a x (.inl y)) (k1 z), k2, ih (fun a x y => n a x (.inr y)) k3⟩
        obtain ⟨m2, b1, b2, b3, b4, b5, b6⟩ := setRs_ok av st1 rs1 (key h2 h3) e
        exact ⟨m2, b1.trans a1, by rw [b2, a2]; rfl, b3, b4, b5, by simp [b6]⟩
end
section
variable {XR : XRel} {G : Env} {X : Cx} {S : SC} {W : WX} {pos : Pos}
theorem pah_no : PA X [] (tAh X.K XR G W .nil) := by
  refine PA_weak pa_nil fun σ H Q ⟨m, e1, e2, rs, w⟩ => ?_
  subst e1 e2
  simp only [evs] at w
  exact w m [] rfl rfl (.refl m) rs rfl
theorem pah_more {a : Expr} {as : List Expr} {ea : E} {eas : Es} (ha : PE X a (tE X.K XR G W ea)) (hr : PA X as (tAh X.K XR G W eas)) (hs : notStar a = true) : PA X (a :: as) (tAh X.K XR G W (.cons ea eas)) := by
  refine PA_weak (pa_cons ha hr (star_of hs _ _)) fun σ H Q ⟨m, e1, e2, rs, w⟩ => ?_
  subst e1 e2
  simp only [evs] at w
  refine ⟨m, rfl, rfl, rs, (Wp.bind0 w).mono fun m1 x v f1 s1 rs1 r1 h1 => ?_⟩
  have fin : ∀ {m1z : M}, m1z.σ = m1.σ → m1z.H = m1.H → m1z.g = m1.g → Step m m1z → RS X.K m1z → (isSlot x = false → Held X.K m m1z x v) → (∀ a, heldAt x v a → m1z.H a ≠ none) →
      tAh X.K XR G W eas m.σ m1.H fun ws H2 => Q (v :: ws) H2 := by
    intro m1z g1 g2 g3 st1 rsz hh hn
    rw [← g3] at h1
    have h1 := Wp.step (rel := RepHs X.K) rs.av (fun _ _ _ _ _ t h => early_hs t h) st1 (g1.trans f1) (Wp.bind0 (rel1 := RepHs X.K) h1)
    refine ⟨m1z, g1.trans f1, g2, rsz, h1.mono fun m2 xs vs f2 s2 rs2 r2 h2 => ?_⟩
    exact h2 m2 (v :: vs) (f2.trans (g1.trans f1)) rfl (st1.trans rs.av s2) rs2 ⟨v, vs, rfl, fun n => (hh n).step rsz s2, fun a q1 q2 => hn a q1 (held_new r2 q2), early_hs st1.there r2⟩
  cases hs : isSlot x with
  | true => exact fin (m1z := m1) rfl rfl rfl s1 rs1 (fun z => by rw [hs] at z; cases z) fun a q => by cases x <;> first | exact q.elim | cases hs
  | false =>
    obtain ⟨m2, a1, a2, a3, st2, rs2, hd⟩ := r1.held rs.av s1 rs1 hs
    refine fin a2 a1 a3 st2 rs2 (fun _ => hd) fun a q => ?_
    cases x with
    | d => exact q.elim
    | slot => exact q.elim
    | new d =>
      obtain ⟨b, rfl, n, _, _, o⟩ := hd
      have : a = b := q
      rw [this]; exact o.some
/-- which stores stand the other way round -/
def swapOk (sc : Scope) (ts vs : List Expr) : Bool := (sc.kind == .function) && decide (ts.length = vs.length) && vs.all notStar && !(vs.all (foldedForSure 8)) && !(vs.all (constantsAlone 8))
theorem kind_block {env : PySem.Env} {sc : Scope} (e : env.scope = sc) (h : (sc.kind == .function) = true) : env.blockKind = .function := by
  unfold PySem.Env.blockKind
  rw [e]
  have : sc.kind = .function := by
    revert h
    cases sc.kind <;> intro h <;> first | rfl | (revert h; decide)
  rw [this]; rfl
theorem any_star : ∀ {vs : List Expr}, vs.all notStar = true → (vs.any fun | .Starred .. => true | _ => false) = false
  | [], _ => rfl
  | e :: es, h => by
    rw [List.all_cons, Bool.and_eq_true] at h
    rw [List.any_cons, any_star h.2]
    cases e <;> first | rfl | (exact absurd h.1 (by simp [notStar]))
def parNames (sc : Scope) : Nat → List Expr → Option (List Str)
  | _, [] => some []
  | l, .Name x p :: es => if sc.names.lookup x = some .local ∧ p.line = l then (parNames sc l es).map fun r => x :: r else none
  | _, _ => none
theorem swp2 {env : PySem.Env} {sc : Scope} {x y : Str} {px py pt : Pos} {kt k2 pt2} {a b : Expr} (e : env.scope = sc) (h : swapOk sc [.Name x px, .Name y py] [a, b] = true) (hx : sc.names.lookup x = some .local) (hy : sc.names.lookup y = some .local)
    (hl : (py.line == px.line) = true) (hn : (y == x) = false) : swappedStores [.Tuple [.Name x px, .Name y py] kt pt] (.Tuple [a, b] k2 pt2) env = pure (some [x, y]) := by
  simp only [swapOk, Bool.and_eq_true, Bool.not_eq_true', decide_eq_true_eq] at h
  obtain ⟨⟨⟨⟨h1, h2⟩, h3⟩, h4⟩, h5⟩ := h
  have k1 : (env.kindOf x == some .local) = true := by unfold PySem.Env.kindOf; rw [e, hx]; rfl
  have k2 : (env.kindOf y == some .local) = true := by unfold PySem.Env.kindOf; rw [e, hy]; rfl
  have nm : ([Expr.Name x px, Expr.Name y py].filterMap fun
    | .Name id pos => if env.kindOf id == some .local && pos.line == px.line then some id else none
    | _ => none) = [x, y] := by
    simp only [List.filterMap_cons, List.filterMap_nil, k1, k2, hl, beq_self_eq_true, Bool.and_self, if_true]
  have ed : [x, y].eraseDups = [x, y] := by
    simp [List.eraseDups_cons, hn]
  unfold swappedStores
  simp only [kind_block e h1]
  simp only [List.length_cons, List.length_nil, List.head?_cons, Option.map_some, Option.getD_some, Expr.pos]
  erw [any_star h3, nm]
  rw [h4, h5, ed]
  rfl
theorem swp3 {env : PySem.Env} {sc : Scope} {x y z : Str} {px py pz pt : Pos} {kt k2 pt2} {a b c : Expr} (e : env.scope = sc) (h : swapOk sc [.Name x px, .Name y py, .Name z pz] [a, b, c] = true) (hx : sc.names.lookup x = some .local) (hy : sc.names.lookup y = some .local) (hz : sc.names.lookup z = some .local)
    (hl : (py.line == px.line) = true) (hl2 : (pz.line == px.line) = true) (hn : (y == x) = false) (hn2 : (z == x) = false) (hn3 : (z == y) = false) : swappedStores [.Tuple [.Name x px, .Name y py, .Name z pz] kt pt] (.Tuple [a, b, c] k2 pt2) env = pure (some [x, y, z]) := by
  simp only [swapOk, Bool.and_eq_true, Bool.not_eq_true', decide_eq_true_eq] at h
  obtain ⟨⟨⟨⟨h1, h2⟩, h3⟩, h4⟩, h5⟩ := h
  have k1 : (env.kindOf x == some .local) = true := by unfold PySem.Env.kindOf; rw [e, hx]; rfl
  have k2 : (env.kindOf y == some .local) = true := by unfold PySem.Env.kindOf; rw [e, hy]; rfl
  have k3 : (env.kindOf z == some .local) = true := by unfold PySem.Env.kindOf; rw [e, hz]; rfl
  have nm : ([Expr.Name x px, Expr.Name y py, Expr.Name z pz].filterMap fun
    | .Name id pos => if env.kindOf id == some .local && pos.line == px.line then some id else none
    | _ => none) = [x, y, z] := by
    simp only [List.filterMap_cons, List.filterMap_nil, k1, k2, k3, hl, hl2, beq_self_eq_true, Bool.and_self, if_true]
  have ed : [x, y, z].eraseDups = [x, y, z] := by
    simp [List.eraseDups_cons, hn, hn2, hn3]
  unfold swappedStores
  simp only [kind_block e h1]
  simp only [List.length_cons, List.length_nil, List.head?_cons, Option.map_some, Option.getD_some, Expr.pos]
  erw [any_star h3, nm]
  rw [h4, h5, ed]
  rfl
theorem par_end {l : List (Bool × Nat)} {eas : Es} {D : Ends} {σ : L2.St} {H : Hp} (h : tS X.K XR G W (.par l eas) D σ H) : tAh X.K XR G W eas σ H fun vs H1 => vs.length = l.length ∧ D.nx (setsσ σ l vs) H1 := by
  obtain ⟨m, e1, e2, rs, w⟩ := h
  subst e1 e2
  simp only [exS] at w
  refine ⟨m, rfl, rfl, rs, (WpO.toO w).mono fun m1 r v f s rs1 rr h => ?_⟩
  obtain ⟨g, hg, w2⟩ := h.of
  obtain ⟨m2, a1, a2, a3, a4, a5, a6⟩ := setRs_ok rs.av s rs1 rr hg
  have := w2 m2 a3 a4 a5
  rw [a2, a1, f] at this
  exact ⟨a6, this⟩
theorem ps_par2 {x y : Str} {a b : Expr} {i j : Nat} {o1 o2 : Bool} {eas : Es} {px py pt : Pos} {kt k2 pt2} (gd : Gs XR G X S W) (hi : S.N[i]? = some x) (hj : S.N[j]? = some y) (hij : (j == i) = false) (h : swapOk S.sc [.Name x px, .Name y py] [a, b] = true)
    (hx : S.sc.names.lookup x = some .local) (hy : S.sc.names.lookup y = some .local) (hl : (py.line == px.line) = true) (hn : (y == x) = false) (ha : PA X [a, b] (tAh X.K XR G W eas)) :
    PS X (.Assign [.Tuple [.Name x px, .Name y py] kt pt] (.Tuple [a, b] k2 pt2) pos) (tS X.K XR G W (.par [(o1, i), (o2, j)] eas)) := by
  refine PS_weak (ps_par gd.calm gd.nd (by rw [gd.N]; exact hi) (by rw [gd.N]; exact hj) (fun e => by subst e; simp at hij) (by rw [gd.sc]; exact hx) (by rw [gd.sc]; exact hy) ha (swp2 gd.sc h hx hy hl hn)) fun D σ H w => ?_
  obtain ⟨m, e1, e2, rs, w⟩ := par_end w
  refine ⟨m, e1, e2, rs, w.mono fun m1 r vs f s rs1 rr h => ?_⟩
  obtain ⟨n, h⟩ := h
  match vs, n with
  | [v, w], _ => exact ⟨v, w, rfl, h⟩
theorem ps_par3' {x y z : Str} {a b c : Expr} {i j k : Nat} {o1 o2 o3 : Bool} {eas : Es} {px py pz pt : Pos} {kt k2 pt2} (gd : Gs XR G X S W) (hi : S.N[i]? = some x) (hj : S.N[j]? = some y) (hk : S.N[k]? = some z) (hij : (j == i) = false) (hik : (k == i) = false) (hjk : (k == j) = false)
    (h : swapOk S.sc [.Name x px, .Name y py, .Name z pz] [a, b, c] = true)
    (hx : S.sc.names.lookup x = some .local) (hy : S.sc.names.lookup y = some .local) (hz : S.sc.names.lookup z = some .local) (hl : (py.line == px.line) = true) (hl2 : (pz.line == px.line) = true) (hn : (y == x) = false) (hn2 : (z == x) = false) (hn3 : (z == y) = false)
    (ha : PA X [a, b, c] (tAh X.K XR G W eas)) : PS X (.Assign [.Tuple [.Name x px, .Name y py, .Name z pz] kt pt] (.Tuple [a, b, c] k2 pt2) pos) (tS X.K XR G W (.par [(o1, i), (o2, j), (o3, k)] eas)) := by
  have ne : ∀ {i j : Nat}, (j == i) = false → i ≠ j := fun h e => by subst e; simp at h
  refine PS_weak (ps_par3 gd.calm gd.nd (by rw [gd.N]; exact hi) (by rw [gd.N]; exact hj) (by rw [gd.N]; exact hk) (ne hij) (ne hik) (ne hjk) (by rw [gd.sc]; exact hx) (by rw [gd.sc]; exact hy) (by rw [gd.sc]; exact hz) ha (swp3 gd.sc h hx hy hz hl hl2 hn hn2 hn3)) fun D σ H w => ?_
  obtain ⟨m, e1, e2, rs, w⟩ := par_end w
  refine ⟨m, e1, e2, rs, w.mono fun m1 r vs f s rs1 rr h => ?_⟩
  obtain ⟨n, h⟩ := h
  match vs, n with
  | [u, v, w], _ => exact ⟨u, v, w, rfl, h⟩
end
end AW

/-! P21: stores into a slot's object, op=. -/
namespace AW
open PySem PySem.Spec L2
def putR {β : Type} : List (Key × β) → Key → β → List (Key × β)
  | [], k, v => [(k, v)]
  | p :: r, k, v => if p.1 = k then (p.1, v) :: r else p :: putR r k v
theorem putK_eq {k : Key} {v : V} : ∀ {kvs : List (Key × V)}, (kvs.map (·.1)).Nodup → putK kvs k v = putR kvs k v
  | [], _ => rfl
  | p :: r, h => by
    rw [List.map_cons, List.nodup_cons] at h
    have ih := putK_eq (k := k) (v := v) h.2
    unfold putK putR
    by_cases e : p.1 = k
    · rw [if_pos (by simp [e]), if_pos e, List.map_cons, if_pos e]
      congr 1
      have : ∀ q ∈ r, (if q.1 = k then (q.1, v) else q) = q := fun q hq => by
        rw [if_neg]
        intro z
        exact h.1 (List.mem_map.mpr ⟨q, hq, z.trans e.symm⟩)
      exact (List.map_congr_left this).trans (by simp)
    · rw [if_neg e]
      unfold putK at ih
      have ea : ((p :: r).any fun kv => decide (kv.1 = k)) = (r.any fun kv => decide (kv.1 = k)) := by simp [e]
      rw [ea, ← ih]
      by_cases ha : (r.any fun kv => decide (kv.1 = k)) = true
      · rw [if_pos ha, if_pos ha, List.map_cons, if_neg e]
      · rw [if_neg ha, if_neg ha]; rfl
theorem putR_mem {k : Key} {v : V} {x : Key} : ∀ {kvs : List (Key × V)}, x ∈ (putR kvs k v).map (·.1) → x = k ∨ x ∈ kvs.map (·.1)
  | [], h => by simpa [putR] using h
  | p :: r, h => by
    unfold putR at h
    by_cases e : p.1 = k
    · rw [if_pos e] at h
      simp only [List.map_cons, List.mem_cons] at h ⊢
      exact .inr h
    · rw [if_neg e] at h
      simp only [List.map_cons, List.mem_cons] at h ⊢
      rcases h with h | h
      · exact .inr (.inl h)
      · exact (putR_mem h).elim .inl fun z => .inr (.inr z)
theorem putR_nodup {k : Key} {v : V} : ∀ {kvs : List (Key × V)}, (kvs.map (·.1)).Nodup → ((putR kvs k v).map (·.1)).Nodup
  | [], _ => by simp [putR]
  | p :: r, h => by
    rw [List.map_cons, List.nodup_cons] at h
    unfold putR
    by_cases e : p.1 = k
    · rw [if_pos e, List.map_cons, List.nodup_cons]; exact h
    · rw [if_neg e, List.map_cons, List.nodup_cons]
      exact ⟨fun z => (putR_mem z).elim e h.1, putR_nodup h.2⟩
theorem kD_nodup : ∀ {l : List Key}, l.Nodup → (l.map kD).Nodup
  | [], _ => .nil
  | k :: l, h => by
    rw [List.nodup_cons] at h
    rw [List.map_cons, List.nodup_cons]
    refine ⟨fun z => ?_, kD_nodup h.2⟩
    obtain ⟨b, hb, e⟩ := List.mem_map.mp z
    exact h.1 (kD_inj e ▸ hb)
theorem kD_nodup' : ∀ {l : List Key}, (l.map kD).Nodup → l.Nodup
  | [], _ => .nil
  | k :: l, h => by
    rw [List.map_cons, List.nodup_cons] at h
    rw [List.nodup_cons]
    exact ⟨fun z => h.1 (List.mem_map.mpr ⟨k, z, rfl⟩), kD_nodup' h.2⟩
theorem dput_ok {K : Fg} {Av : Zn} {H : Hp} {k : Key} {d : D} {v : V} (rd : Rep K Av H d v) : ∀ {kvs : List (Key × V)} {l : List D}, Reps K Av H l (kvs.map (·.2)) →
    (dput (kvs.map fun p => kD p.1) l (kD k) d).1 = (putR kvs k v).map (fun p => kD p.1) ∧ Reps K Av H (dput (kvs.map fun p => kD p.1) l (kD k) d).2 ((putR kvs k v).map (·.2))
  | [], l, r => by
    cases l with
    | nil => exact ⟨rfl, Reps.cons rd Reps.nil⟩
    | cons e l => obtain ⟨_, _, z, _⟩ := r; cases z
  | p :: kvs, l, r => by
    cases l with
    | nil => cases r
    | cons e l =>
      obtain ⟨v0, w, e1, r1, r2⟩ := r
      injection e1 with e1 e2
      subst e1 e2
      obtain ⟨ih1, ih2⟩ := dput_ok (k := k) rd r2
      simp only [List.map_cons, dput, putR, eqD_kD, decide_eq_true_eq]
      by_cases h : p.1 = k
      · rw [if_pos h, if_pos h]
        exact ⟨rfl, Reps.cons rd r2⟩
      · rw [if_neg h, if_neg h]
        exact ⟨by simp [ih1], Reps.cons r1 ih2⟩
def rSto (K : Fg) : TSet := fun o i v H Q => ∃ Av a d dk dv d', o = .ref a ∧ Av a ∧ OwnAt K Av H a d ∧ Rep K Av H dk i ∧ Rep K Av H dv v ∧ stoD d dk dv = some d' ∧ ∀ H', Chg H a H' → OwnAt K Av H' a d' → Q H'
theorem isKey_okK {K : Fg} {Av : Zn} {H : Hp} {d : D} {v : V} (r : Rep K Av H d v) (h : isKey false d = true) : okK d = true := by
  cases d with
  | str => exact r.2
  | int => rfl
  | _ => simp [isKey] at h
theorem put_own {K : Fg} {Av : Zn} {H : Hp} {a : Addr} {kvs : List (Key × V)} {l : List D} {dk dv : D} {k : Key} {v : V} (ha : Av a) (ok : (kvs.map fun p => kD p.1).all okK = true) (nd : (kvs.map fun p => kD p.1).Nodup)
    (r : Reps K Av H l (kvs.map (·.2))) (ek : dk = kD k) (okk : okK dk = true) (rv : Rep K Av H dv v) :
    OwnAt K Av (upd H a (.dK (putK kvs k v))) a (.dct false (dput (kvs.map fun p => kD p.1) l dk dv).1 (dput (kvs.map fun p => kD p.1) l dk dv).2) := by
  subst ek
  have nd' : (kvs.map (·.1)).Nodup := kD_nodup' (by rw [List.map_map]; exact nd)
  obtain ⟨p1, p2⟩ := dput_ok (k := k) rv r
  rw [putK_eq nd', p1]
  refine ⟨_, _, ⟨⟨?_, ?_⟩, ?_⟩, upd_same, Reps.imp (chg_upd.keep ha) _ _ p2⟩
  · rw [List.all_eq_true]
    intro x hx
    obtain ⟨q, hq, rfl⟩ := List.mem_map.mp hx
    rcases putR_mem (List.mem_map.mpr ⟨q, hq, rfl⟩) with z | z
    · rw [z]; exact okk
    · obtain ⟨q2, hq2, e2⟩ := List.mem_map.mp z
      rw [← e2]
      exact List.all_eq_true.mp ok _ (List.mem_map.mpr ⟨q2, hq2, rfl⟩)
  · have := kD_nodup (putR_nodup (k := k) (v := v) nd')
    rwa [List.map_map] at this
  · rw [if_neg Bool.false_ne_true]
    exact ⟨_, rfl, rfl, rfl⟩
section
variable {XR : XRel} {G : Env} {X : Cx} {S : SC} {W : WX} {pos : Pos}
theorem set_sto (hu : X.A.units + 1 < cLine) : PSet X (rSto X.K) := by
  intro pins s σ H o i v ov iv u Q I ro ri rv ⟨Av, a, d, dk, dv, d', e, ha, oa, rk, rd, g, q⟩
  subst e
  cases d with
  | lst l =>
    simp only [stoD] at g
    cases dk with
    | int k =>
      simp only at g
      cases hj : ixN l.length k with
      | none => rw [hj] at g; cases g
      | some j =>
        rw [hj] at g
        cases g
        obtain ⟨vs, hl, rl⟩ := oa
        cases rk
        exact set_list pins s σ H _ _ v ov iv u Q I ro ri rv ⟨a, vs, k, j, rfl, rfl, hl, by rw [← rl.length]; exact hj, q _ chg_upd ⟨_, upd_same, Reps.imp (chg_upd.keep ha) _ _ (rl.set j rd)⟩⟩
    | _ => simp at g
  | dct t ks l =>
    simp only [stoD] at g
    split at g
    · rename_i hk
      cases g
      have := dct_key hk.1
      subst this
      obtain ⟨vs, o, ⟨⟨ok, nd⟩, hd⟩, hH, rl⟩ := oa
      rw [if_neg Bool.false_ne_true] at hd
      obtain ⟨kvs, rfl, rfl, rfl⟩ := hd
      obtain ⟨k, ek⟩ := keyOf_some hk.1 rfl
      have ei := rep_key rk ek
      have ekd := keyOf_kD ek
      have hlen : kvs.length < sizeLine := by have := hk.2; rw [List.length_map] at this; exact Nat.lt_of_lt_of_le this (by decide)
      refine set_dict hu pins s σ H _ _ v ov iv u Q I ro ri rv ⟨a, _, rfl, .inl ⟨kvs, k, hH, ei, hlen, rfl⟩, q _ chg_upd ?_⟩
      exact put_own ha ok nd rl ekd (isKey_okK rk hk.1) rd
    · cases g
  | _ => simp [stoD] at g
theorem sto_fin {m0 m : M} {i : Nat} {h : Bool} {c c' dk dv : D} {ik x : V} {D : Ends} {σ : L2.St} (st : Step m0 m) (rs : RS X.K m) (av : ∀ a, m0.Av a → m0.H a ≠ none) (hg : m.g[i]? = some (some (.own h c))) (rk : Rep X.K m.Av m.H dk ik) (rd : Rep X.K m.Av m.H dv x) (e : stoD c dk dv = some c')
    {a : Addr} (hs : m.σ[i]? = some (some (.ref a))) (w : WpO X.K XR W m0 (.nx (m.g.set i (some (.own h c')))) D) (eσ : m.σ = σ) : rSto X.K (.ref a) ik x m.H fun H3 => D.nx σ H3 := by
  obtain ⟨a', e1, ca, oa⟩ := rs.own i h c hg
  rw [hs] at e1; cases e1
  refine ⟨m.Av, a, c, dk, dv, c', rfl, rs.cav a ca, oa, rk, rd, e, fun H' ch o => ?_⟩
  obtain ⟨rs3, s3⟩ := rs.chg hg hs ch o
  have := w _ rfl (st.trans av s3) rs3
  rw [← eσ]
  exact this
theorem ps_sto {x : Str} {i : Nat} {xpos spos : Pos} {kx e : Expr} {ek ee : E} (gd : Gs XR G X S W) (hN : S.N[i]? = some x) (hv : visB S.sc x = true) (h1 : (x == ("__debug__" : Str)) = false) (h2 : (x == ("__classdict__" : Str)) = false)
    (hk : PE X kx (tE X.K XR G W ek)) (he : PE X e (tE X.K XR G W ee)) (hns : notSlice kx = true) (hc : notComp e = true) : PS X (.Assign [.Subscript (.Name x xpos) kx spos] e pos) (tS X.K XR G W (.sto i ek ee)) := by
  have hv' : PE X (.Name x xpos) (tVar i) := pe_var (i := i) (by rw [gd.N]; exact hN) (by rw [gd.sc]; exact vis_of hv) h1 h2
  have hu : X.A.units + 1 < cLine := by have := gd.room.un; omega
  refine PS_weak (ps_asg he (pg_sub (pos := spos) hv' hk (set_sto hu) ?_) (by cases e <;> first | rfl | (exact absurd hc (by simp [notComp]))) rfl rfl) fun D σ H ⟨m, e1, e2, rs, w⟩ => ?_
  · intro v
    cases kx <;> first | rfl | (exact absurd hns (by simp [notSlice]))
  subst e1 e2
  simp only [exS] at w
  refine ⟨m, rfl, rfl, rs, (WpO.toO w).mono fun m1 r v f s rs1 rr h => ?_⟩
  cases hz : frz m1.g r with
  | none => rw [hz] at h; exact h.elim
  | some z =>
    obtain ⟨d, g1⟩ := z
    rw [hz] at h
    obtain ⟨m2, a1, a2, a3, st2, rs2, r2⟩ := Pend.frz rs1 rr.pend hz
    subst a3
    have s2 := s.trans rs.av st2
    simp only at h
    split at h
    · rename_i h0 c0 hg0
      obtain ⟨a, q1, _, _⟩ := rs2.own i h0 c0 hg0
      have q0 : m.σ[i]? = some (some (.ref a)) := by rw [← f, ← a2]; exact q1
      refine ⟨.ref a, q0, m2, a2.trans f, a1, rs2, (WpO.toO (h.step rs.av s2)).mono fun m3 rk vk f3 s3 rs3 rrk h3 => ?_⟩
      cases rk with
      | d dk =>
        simp only at h3
        split at h3
        · rename_i hh c hg
          split at h3
          · rename_i c' hst
            have es : m3.σ = m.σ := f3.trans (a2.trans f)
            exact sto_fin s3 rs3 rs2.av hg rrk (s3.rep rs2 r2) hst (by rw [es]; exact q0) h3 es
          · exact h3.elim
        · exact h3.elim
      | _ => exact h3.elim
    · exact h.elim
theorem get_dg (hu : X.A.units + 1 < cLine) : PGet X fun o i H Q => ∃ Av a d dk d0, o = .ref a ∧ OwnAt X.K Av H a d ∧ Rep X.K Av H dk i ∧ dgD d dk = some d0 ∧ ∀ v, Rep X.K Av H d0 v → Q v H := by
  intro pins s σ H o i ov iv Q I ro ri ⟨Av, a, d, dk, d0, e, oa, rk, g, q⟩
  subst e
  cases d with
  | dct t ks l =>
    simp only [dgD] at g
    split at g
    · rename_i hk
      have := dct_key hk
      subst this
      obtain ⟨a', o, e, dg, f1, f2⟩ := dget_ok (K := X.K) (x := .ref a) oa.view rk.view hk
      cases e
      obtain ⟨w, rfl, rw'⟩ := f1 d0 g
      cases ro
      exact d_getItem hu I dg ri fun w' s' I' rr => ⟨w, H, I', rr, q w rw'⟩
    · cases g
  | _ => simp [dgD] at g
def augOp : BOp → Operator
  | .sub => .Sub
  | _ => .Add
def augOk : BOp → Bool
  | .add => true
  | .sub => true
  | _ => false
def rAug (o : BOp) : TIp := fun x y H Q => ∃ i j, x = .int i ∧ y = .int j ∧ ∀ d, augD o (.int i) (.int j) = some (.int d) → Q (.int d) H
theorem ip_aug {o : BOp} (h : augOk o = true) : PIp X (augOp o) (rAug o) := by
  intro pins s σ H x y v u Q I r1 r2 ⟨i, j, e1, e2, q⟩
  cases o with
  | add => exact ip_add pins s σ H x y v u Q I r1 r2 ⟨i, j, e1, e2, q _ rfl⟩
  | sub => exact ip_sub pins s σ H x y v u Q I r1 r2 ⟨i, j, e1, e2, q _ rfl⟩
  | _ => cases h
theorem augD_int {o : BOp} {x y d : D} (h : augD o x y = some d) : ∃ i j k, x = .int i ∧ y = .int j ∧ d = .int k := by
  cases x <;> cases y <;> first | (simp [augD] at h; done) | skip
  cases o <;> simp [augD] at h <;> exact ⟨_, _, _, rfl, rfl, h.symm⟩
theorem ps_au {o : BOp} {x : Str} {i : Nat} {xpos : Pos} {e : Expr} {ee : E} (gd : Gs XR G X S W) (ok : augOk o = true) (hN : S.N[i]? = some x) (hs : S.sto x = true) (he : PE X e (tE X.K XR G W ee)) : PS X (.AugAssign (.Name x xpos) (augOp o) e pos) (tS X.K XR G W (.aug o i ee)) := by
  obtain ⟨s1, s2⟩ := gd.sto x hs
  refine PS_weak (ps_aug gd.nd (by rw [gd.N]; exact hN) s1 he (ip_aug ok) s2) fun D σ H ⟨m, e1, e2, rs, w⟩ => ?_
  subst e1 e2
  simp only [exS] at w
  split at w
  · rename_i d hg
    obtain ⟨v, q1, rv⟩ := rs.val i d hg
    refine ⟨v, q1, m, rfl, rfl, rs, (WpO.toO w).mono fun m1 r y f s rs1 rr h => ?_⟩
    cases r with
    | d d' =>
      simp only at h
      split at h
      · rename_i d2 h2
        obtain ⟨a, b, c, rfl, rfl, rfl⟩ := augD_int h2
        cases rv
        cases rr
        refine ⟨a, b, rfl, rfl, fun k hk => ?_⟩
        rw [h2] at hk
        cases hk
        obtain ⟨g, hg, w2⟩ := h.of
        obtain ⟨qH, qr, qs, _⟩ := setV_ok (K := X.K) (d := .int c) (x := .int c) rs1 (show V.int c = V.int c from rfl) hg
        have : D.nx (m1.σ.set i (some (.int c))) m1.H := w2 _ rfl (s.trans rs.av qs) qr
        rwa [f] at this
      · exact h.elim
    | _ => exact h.elim
  · exact w.elim
theorem ps_aus {o : BOp} {x : Str} {i : Nat} {xpos spos : Pos} {kx e : Expr} {ek ee : E} (gd : Gs XR G X S W) (ok : augOk o = true) (hN : S.N[i]? = some x) (hv : visB S.sc x = true) (h1 : (x == ("__debug__" : Str)) = false) (h2 : (x == ("__classdict__" : Str)) = false)
    (hk : PE X kx (tE X.K XR G W ek)) (he : PE X e (tE X.K XR G W ee)) (hns : notSlice kx = true) : PS X (.AugAssign (.Subscript (.Name x xpos) kx spos) (augOp o) e pos) (tS X.K XR G W (.aus o i ek ee)) := by
  have hv' : PE X (.Name x xpos) (tVar i) := pe_var (i := i) (by rw [gd.N]; exact hN) (by rw [gd.sc]; exact vis_of hv) h1 h2
  have hu : X.A.units + 1 < cLine := by have := gd.room.un; omega
  refine PS_weak (ps_augS hv' hk (get_dg hu) he (ip_aug ok) (set_sto hu) ?_) fun D σ H ⟨m, e1, e2, rs, w⟩ => ?_
  · intro ov iv new
    cases kx <;> first | rfl | (exact absurd hns (by simp [notSlice]))
  subst e1 e2
  simp only [exS] at w
  split at w
  · rename_i h0 c0 hg0
    obtain ⟨a, q0, _, _⟩ := rs.own i h0 c0 hg0
    refine ⟨.ref a, q0, m, rfl, rfl, rs, (WpO.toO w).mono fun m1 rk vk f s rs1 rrk h => ?_⟩
    cases rk with
    | d dk =>
      simp only at h
      split at h
      · rename_i h1 c hg1
        split at h
        · rename_i d0 hd0
          obtain ⟨a1, q1, ca, oa⟩ := rs1.own i h1 c hg1
          rw [f, q0] at q1
          cases q1
          refine ⟨m1.Av, a, c, dk, d0, rfl, oa, rrk, hd0, fun v0 r0 => ?_⟩
          refine ⟨m1, f, rfl, rs1, (WpO.toO (h.step rs.av s)).mono fun m2 r y f2 s2 rs2 rr h => ?_⟩
          cases r with
          | d d1 =>
            simp only at h
            split at h
            · rename_i d2 h2
              obtain ⟨u, w', z, rfl, rfl, rfl⟩ := augD_int h2
              cases r0
              cases rr
              refine ⟨u, w', rfl, rfl, fun k hk => ?_⟩
              rw [h2] at hk
              cases hk
              split at h
              · rename_i hh c2 hg2
                split at h
                · rename_i c3 hst
                  have es : m2.σ = m.σ := f2.trans f
                  exact sto_fin s2 rs2 rs1.av hg2 (s2.rep rs1 rrk) (dv := .int z) (x := .int z) (show V.int z = V.int z from rfl) hst (by rw [es]; exact q0) h es
                · exact h.elim
              · exact h.elim
            · exact h.elim
          | _ => exact h.elim
        · exact h.elim
      · exact h.elim
    | _ => exact h.elim
  · exact w.elim
end
end AW

/-! P22: loops. -/
namespace AW
open PySem PySem.Spec L2
section
variable {K : Fg} {XR : XRel} {W : WX} {m0 : M} {D : Ends}
/-- a turn of a loop, F: what is left -/
def turnO (F : Sg → O) : O → O
  | .nx σ => F σ
  | .ct σ => F σ
  | .bk σ => .nx σ
  | o => o
theorem WpO.turn {m1 : M} {o : O} {F : Sg → O} (av : ∀ a, m0.Av a → m0.H a ≠ none) (st : Step m0 m1) (h : WpO K XR W m0 (turnO F o) D) :
    WpO K XR W m1 o { D with nx := fun σ H => ∃ m, m.σ = σ ∧ m.H = H ∧ RS K m ∧ Step m1 m ∧ WpO K XR W m0 (F m.g) D, ct := fun σ H => ∃ m, m.σ = σ ∧ m.H = H ∧ RS K m ∧ Step m1 m ∧ WpO K XR W m0 (F m.g) D, bk := D.nx } := by
  cases o with
  | nx g => exact fun m e s rs => ⟨m, rfl, rfl, rs, s, by rw [e]; exact h⟩
  | ct g => exact fun m e s rs => ⟨m, rfl, rfl, rs, s, by rw [e]; exact h⟩
  | bk g => exact fun m e s rs => h m e (st.trans av s) rs
  | rt r g => exact fun m v e s rs r => h m v e (st.trans av s) rs (early_repR _ _ _ _ _ st.there r)
  | exc c p g => exact fun m cls dx e s rs x => h m cls dx e (st.trans av s) rs x
  | stuck => exact h
end
theorem WpO.toO' {K : Fg} {XR : XRel} {W : WX} {m0 m1 : M} {D : Ends} {α β : Type} {rel : M → M → α → β → Prop} {r : R α} {f : α → Sg → O} (av : ∀ a, m0.Av a → m0.H a ≠ none) (st : Step m0 m1) (h : WpO K XR W m0 (r.toO f) D) :
    Wp K XR W rel m1 r (fun m a _ => WpO K XR W m0 (f a m.g) D) := by
  cases r with
  | stuck => exact h
  | exc c p g => exact fun m cls dx _ e s rs x => h m cls dx e (st.trans av s) rs x
  | ok a g => exact fun m b _ e s rs _ => by show WpO K XR W m0 (f a m.g) D; rw [e]; exact h
theorem for_cons {tg : Tg} {body : Sg → O} {x : AW.D} {xs : List AW.D} {σ : Sg} : forLoop tg body (x :: xs) σ = match setT σ tg x with
    | some σ' => turnO (forLoop tg body xs) (body σ')
    | none => .stuck := by
  simp only [forLoop]
  cases setT σ tg x with
  | none => rfl
  | some σ' => cases body σ' <;> rfl
theorem wh_succ {test : Sg → R RV} {body : Sg → O} {n : Nat} {σ : Sg} : whLoop test body (n + 1) σ = (test σ).toO fun c σ' => match look σ' c with
    | some dc => match truth dc with
      | some true => turnO (whLoop test body n) (body σ')
      | some false => .nx σ'
      | none => .stuck
    | none => .stuck := by
  simp only [whLoop]
  rfl
section
variable {XR : XRel} {G : Env} {X : Cx} {S : SC} {W : WX} {pos : Pos}
theorem ps_fr {t : Tg} {sk : SK} {es : Es} {b : Ss} {tg iter : Expr} {body : List Stmt} (gd : Gs XR G X S W) (ht : ckTg S t tg = true) (hi : PI X tg iter (tI X.K XR G W sk es)) (hb : PSs X body (tSs X.K XR G W b)) (hs : notSet iter = true) :
    PS X (.For tg iter body [] pos) (tS X.K XR G W (.fr t sk es b)) := by
  refine PS_weak (ps_for gd.passes gd.calm hi (pg_ok gd.toGd ht) hb (set_of hs _)) fun D σ H ⟨m, e1, e2, rs, w⟩ => ?_
  subst e1 e2
  have eq : exS G (.fr t sk es b) m.g = (srcR G sk es m.g).toO fun its σ2 => forLoop t (exSs G b) its σ2 := by
    simp only [exS, srcR]
    cases evs G es m.g with
    | stuck => rfl
    | exc => rfl
    | ok x σ1 =>
      simp only [R.toO, R.bind]
      cases frzs σ1 x with
      | none => rfl
      | some z =>
        simp only
        cases srcD sk z.1 <;> rfl
  rw [eq] at w
  refine ⟨m, rfl, rfl, rs, (WpO.toO (rel := WalkR X.K) w).mono fun m1 its J f s rs1 ⟨src, wk, sr, hz⟩ h => ?_⟩
  refine ⟨fun i k σ H => ∃ m2, m2.σ = σ ∧ m2.H = H ∧ RS X.K m2 ∧ Step m m2 ∧ src m2.Av m2.H ∧ i ≤ its.length ∧ k = its.length - i ∧ WpO X.K XR W m (forLoop t (exSs G b) (its.drop i) m2.g) D, ⟨_, m1, f, rfl, rs1, s, sr, Nat.zero_le _, rfl, h⟩, ?_⟩
  rintro i k σ H ⟨m2, e1, e2, rs2, s2, sr2, hi', ek, w2⟩
  subst e1 e2
  by_cases hlt : i < its.length
  · refine .inr ⟨wk.go _ _ _ hlt sr2, fun σ' H' => ∃ m3, m3.σ = σ' ∧ m3.H = H' ∧ RS X.K m3 ∧ Step m m3 ∧ src m3.Av m3.H ∧ WpO X.K XR W m (forLoop t (exSs G b) (its.drop (i + 1)) m3.g) D, ?_, ?_⟩
    · rintro σ' H' ⟨m3, a1, a2, a3, a4, a5, a6⟩
      exact ⟨its.length - (i + 1), by omega, m3, a1, a2, a3, a4, a5, hlt, rfl, a6⟩
    · intro x H' hy
      obtain ⟨sm, d, hd, rd⟩ := wk.yld _ _ _ _ _ sr2 rs2.av hlt hy
      have ed : its.drop i = d :: its.drop (i + 1) := by
        rw [List.drop_eq_getElem_cons hlt]
        congr 1
        rw [List.getElem?_eq_getElem hlt] at hd
        exact Option.some.inj hd
      rw [ed, for_cons] at w2
      have rs3 := rs2.grow sm
      have s3 := s2.trans rs.av (Step.grow (m := m2) sm)
      cases hset : setT m2.g t d with
      | none => rw [hset] at w2; exact w2.elim
      | some g' =>
        rw [hset] at w2
        refine gT_mono (setT_ok (K := X.K) (m := { m2 with H := H' }) rs3 rd hset) fun σ2 H2 st => ?_
        have eH : H2 = H' := st.H
        subst eH
        have s4 := s3.trans rs.av st.st
        refine ⟨⟨m2.Av, m2.C, H2, σ2, g'⟩, rfl, rfl, st.rs, ?_⟩
        refine (w2.turn rs.av s4).mono ?_ (fun _ _ _ h => h) ?_ (fun _ _ h => h)
        all_goals
          rintro m5 s5 rs5 ⟨m6, b1, b2, b3, b4, b5⟩
          exact ⟨m6, b1, b2, b3, s4.trans rs.av b4, wk.keep _ _ _ _ (Step.kx rs2 ((Step.grow (m := m2) sm).trans rs2.av (st.st.trans rs3.av b4))) sr2, b5⟩
  · have : i = its.length := by omega
    subst this
    rw [List.drop_length] at w2
    exact .inl ⟨wk.stop _ _ sr2, w2 m2 rfl s2 rs2⟩
theorem ps_wh {c : Expr} {body : List Stmt} {ce : E} {b : Ss} (gd : Gs XR G X S W) (hc : PT X c (tT X.K XR G W ce)) (hb : PSs X body (tSs X.K XR G W b)) : PS X (.While c body [] pos) (tS X.K XR G W (.wh ce b)) := by
  refine PS_weak (ps_while gd.passes hc hb) fun D σ H ⟨m, e1, e2, rs, w⟩ => ?_
  subst e1 e2
  simp only [exS] at w
  refine ⟨fun k σ H => ∃ m2, m2.σ = σ ∧ m2.H = H ∧ RS X.K m2 ∧ Step m m2 ∧ WpO X.K XR W m (whLoop (ev G ce) (exSs G b) k m2.g) D, ⟨_, m, rfl, rfl, rs, .refl m, w⟩, ?_⟩
  rintro k σ H ⟨m2, e1, e2, rs2, s2, w2⟩
  subst e1 e2
  cases k with
  | zero => exact w2.elim
  | succ k =>
    have eq : whLoop (ev G ce) (exSs G b) (k + 1) m2.g = (evT G ce m2.g).toO fun t σ1 => if t = true then turnO (whLoop (ev G ce) (exSs G b) k) (exSs G b σ1) else .nx σ1 := by
      rw [wh_succ]
      simp only [evT]
      cases ev G ce m2.g with
      | stuck => rfl
      | exc => rfl
      | ok x σ1 =>
        simp only [R.toO, R.bind]
        cases look σ1 x with
        | none => rfl
        | some dx =>
          simp only
          cases truth dx with
          | none => rfl
          | some t => cases t <;> rfl
    rw [eq] at w2
    refine ⟨m2, rfl, rfl, rs2, (WpO.toO' rs.av s2 w2).mono fun m3 t t' f s rs3 e h => ?_⟩
    subst e
    have s3 := s2.trans rs.av s
    cases t with
    | false =>
      have := h m3 rfl s3 rs3
      rw [f] at this
      exact this
    | true =>
      refine ⟨fun σ' H' => ∃ m4, m4.σ = σ' ∧ m4.H = H' ∧ RS X.K m4 ∧ Step m m4 ∧ WpO X.K XR W m (whLoop (ev G ce) (exSs G b) k m4.g) D, ?_, m3, f, rfl, rs3, ?_⟩
      · rintro σ' H' ⟨m4, a1, a2, a3, a4, a5⟩
        exact ⟨k, Nat.lt_succ_self k, m4, a1, a2, a3, a4, a5⟩
      · refine (WpO.turn rs.av s3 h).mono ?_ (fun _ _ _ h => h) ?_ (fun _ _ h => h)
        all_goals
          rintro m5 s5 rs5 ⟨m6, b1, b2, b3, b4, b5⟩
          exact ⟨m6, b1, b2, b3, s3.trans rs.av b4, b5⟩
end
end AW

/-! P23: a dict's display. -/
namespace AW
open PySem PySem.Spec L2
/-- constants of the text -/
def ckK : D → Expr → Bool
  | .non, .Constant .none _ _ => true
  | .bl b, .Constant (.bool c) _ _ => b == c
  | .int i, .Constant (.int j) _ _ => decide (i = j)
  | .str s, .Constant (.str x) _ _ => decide (x = sS s) && okS s
  | _, _ => false
def ckKs : Es → List (Option Expr) → Bool
  | .nil, [] => true
  | .cons (.k d) es, some e :: xs => isKey false d && ckK d e && ckKs es xs
  | _, _ => false
theorem constK_len : ∀ {ks : Es} {keys : List (Option Expr)} {dk : List D}, ckKs ks keys = true → constK ks = some dk → dk.length = keys.length
  | .nil, [], _, _, e => by cases e; rfl
  | .nil, _ :: _, _, h, _ => by simp [ckKs] at h
  | .cons e es, [], _, h, _ => by cases e <;> simp [ckKs] at h
  | .cons e es, o :: xs, dk, h, q => by
    cases e <;> first | (cases o <;> simp [ckKs] at h; done) | skip
    rename_i d
    cases o with
    | none => simp [ckKs] at h
    | some x =>
      simp only [ckKs, Bool.and_eq_true] at h
      simp only [constK] at q
      cases h2 : constK es with
      | none => rw [h2] at q; cases q
      | some r => rw [h2] at q; cases q; simp [constK_len h.2 h2]
section
variable {XR : XRel} {G : Env} {X : Cx} {S : SC} {W : WX} {pos : Pos}
theorem ck_const {d : D} {e : Expr} (h : ckK d e = true) : ∃ v, PE X e (tC v) ∧ (∀ K Av H, Rep K Av H d v) ∧ ∀ k, keyOf d = some k → v = kV k := by
  cases e with
  | Constant c j p =>
    cases c with
    | none => cases d <;> first | (simp [ckK] at h; done) | exact ⟨.non, pe_non, fun _ _ _ => rfl, fun k e => by cases e⟩
    | bool b =>
      cases d <;> first | (simp [ckK] at h; done) | skip
      simp only [ckK, beq_iff_eq] at h
      subst h
      exact ⟨.bl _, pe_bl, fun _ _ _ => rfl, fun k e => by cases e⟩
    | int i =>
      cases d <;> first | (simp [ckK] at h; done) | skip
      simp only [ckK, decide_eq_true_eq] at h
      subst h
      exact ⟨.int _, pe_int, fun _ _ _ => rfl, fun k e => by cases e; rfl⟩
    | str x =>
      cases d <;> first | (simp [ckK] at h; done) | skip
      simp only [ckK, Bool.and_eq_true, decide_eq_true_eq] at h
      obtain ⟨rfl, h2⟩ := h
      exact ⟨.str _, pe_str, fun _ _ _ => ⟨rfl, h2⟩, fun k e => by cases e; rfl⟩
    | _ => cases d <;> simp [ckK] at h
  | _ => cases d <;> simp [ckK] at h
/-- the readings of a display's pairs -/
inductive PrS (K : Fg) (XR : XRel) (G : Env) (W : WX) : List D → Es → List (TE × TE) → Prop where
  | nil : PrS K XR G W [] .nil []
  | cons {d v e ds es trs} (hv : ∀ k, keyOf d = some k → v = kV k) (r : PrS K XR G W ds es trs) : PrS K XR G W (d :: ds) (.cons e es) ((tC v, tE K XR G W e) :: trs)
theorem prs_pairs {P : List (V × V) → Hp → Prop} : ∀ {ds : List D} {es : Es} {trs : List (TE × TE)} {m : M} {ks : List Key}, PrS X.K XR G W ds es trs → RS X.K m → ds = ks.map kD →
    Wp X.K XR W (RepRs X.K) m (evs G es m.g) (fun m' _ vs => ks.length = vs.length → P ((ks.map kV).zip vs) m'.H) → tPairs trs m.σ m.H P := by
  intro ds es trs m ks h
  induction h generalizing m ks P with
  | nil =>
    intro rs e w
    cases ks with
    | cons => cases e
    | nil =>
      simp only [evs] at w
      exact w m [] rfl rfl (.refl m) rs rfl rfl
  | @cons d v e ds es trs hv r ih =>
    intro rs ed w
    cases ks with
    | nil => cases ed
    | cons k ks =>
      injection ed with e1 e2
      subst e1
      simp only [evs] at w
      have ek : keyOf (kD k) = some k := by
        cases k with
        | inl => rfl
        | inr x => simp only [kD, keyOf]; congr 2
      refine ⟨m, rfl, rfl, rs, (Wp.bind rs.av early_reps w).mono fun m1 x y f1 s1 rs1 r1 h1 => ?_⟩
      have := ih (m := m1) (ks := ks) (P := fun ps H3 => P ((v, y) :: ps) H3) rs1 e2 ((Wp.bind rs1.av early_reps h1).mono fun m2 xs vs f2 s2 rs2 r2 h2 => ?_)
      · rwa [f1] at this
      · intro hl
        have := h2 m2 (y :: vs) rfl rfl (.refl m2) rs2 ⟨y, vs, rfl, r1.pend.step rs1 s2 f2, r2.to⟩ (by simp [hl])
        rw [hv k ek]
        exact this
theorem dctD_keys : ∀ {dk dv aks avs : List D} {d : D}, dctD false aks avs dk dv = some d → dk.length = dv.length ∧ ∀ x ∈ dk, isKey false x = true
  | [], [], _, _, _, h => ⟨rfl, fun x hx => by cases hx⟩
  | [], _ :: _, _, _, _, h => by simp [dctD] at h
  | _ :: _, [], _, _, _, h => by simp [dctD] at h
  | k :: dk, v :: dv, aks, avs, d, h => by
    simp only [dctD] at h
    split at h
    · rename_i hk
      obtain ⟨a, b⟩ := dctD_keys h
      exact ⟨by simp [a], fun x hx => (List.mem_cons.mp hx).elim (fun e => e ▸ hk) (b x)⟩
    · cases h
theorem dct_own {K : Fg} {Av : Zn} {H : Hp} {a : Addr} (ha : Av a) : ∀ {ks : List Key} {dv : List D} {vs : List V} {kvs : List (Key × V)} {avs : List D} {d : D}, Reps K Av H dv vs → (ks.map kD).all okK = true →
    (kvs.map fun p => kD p.1).all okK = true → (kvs.map fun p => kD p.1).Nodup → Reps K Av H avs (kvs.map (·.2)) → dctD false (kvs.map fun p => kD p.1) avs (ks.map kD) dv = some d →
    OwnAt K Av (upd H a (.dK (mergeK kvs (ks.zip vs)))) a d
  | [], dv, vs, kvs, avs, d, rv, _, ok, nd, r, h => by
    cases dv with
    | cons => simp [dctD] at h
    | nil =>
      simp only [List.map_nil, dctD] at h
      cases h
      exact ⟨_, _, ⟨⟨ok, nd⟩, by rw [if_neg Bool.false_ne_true]; exact ⟨kvs, rfl, rfl, rfl⟩⟩, upd_same, Reps.imp (chg_upd.keep ha) _ _ r⟩
  | k :: ks, dv, vs, kvs, avs, d, rv, okk, ok, nd, r, h => by
    cases dv with
    | nil => simp [dctD] at h
    | cons v dv =>
      obtain ⟨u, w, rfl, r1, r2⟩ := rv
      simp only [List.map_cons, dctD] at h
      rw [List.map_cons, List.all_cons, Bool.and_eq_true] at okk
      split at h
      · have nd' : (kvs.map (·.1)).Nodup := kD_nodup' (by rw [List.map_map]; exact nd)
        obtain ⟨vs2, o, ⟨⟨q1, q2⟩, q3⟩, q4, q5⟩ := put_own (H := H) (dv := v) (v := u) ha ok nd r (rfl : kD k = kD k) okk.1 r1
        obtain ⟨p1, p2⟩ := dput_ok (k := k) r1 r
        rw [p1] at h q1 q2
        have e : (putR kvs k u) = putK kvs k u := (putK_eq nd').symm
        rw [e] at h q1 q2 p2
        exact dct_own ha (kvs := putK kvs k u) r2 okk.2 q1 q2 p2 h
      · cases h
/-- the values of a display -/
inductive Pvs (X : Cx) (XR : XRel) (G : Env) (W : WX) : List Expr → Es → Prop where
  | nil : Pvs X XR G W [] .nil
  | cons {x e xs es} (h : PE X x (tE X.K XR G W e)) (r : Pvs X XR G W xs es) : Pvs X XR G W (x :: xs) (.cons e es)
theorem keyOf_of {d : D} (h : isKey false d = true) : ∃ k, d = kD k := by
  obtain ⟨k, e⟩ := keyOf_some h rfl
  exact ⟨k, keyOf_kD e⟩
theorem pps_ok : ∀ {ks vs : Es} {keys : List (Option Expr)} {values : List Expr} {dk : List D}, ckKs ks keys = true → constK ks = some dk → Pvs X XR G W values vs → keys.length = values.length →
    ∃ (trs : List (TE × TE)) (kk : List Key), PPs X pos keys values trs ∧ PrS X.K XR G W dk vs trs ∧ dk = kk.map kD ∧ dk.all okK = true
  | .nil, vs, [], values, dk, _, e, hv, hl => by
    cases e
    cases hv with
    | nil => exact ⟨[], [], pps_nil, .nil, rfl, rfl⟩
    | cons => simp at hl
  | .nil, _, _ :: _, _, _, h, _, _, _ => by simp [ckKs] at h
  | .cons e es, _, [], _, _, h, _, _, _ => by cases e <;> simp [ckKs] at h
  | .cons e es, vs, o :: xs, values, dk, h, q, hv, hl => by
    cases e <;> first | (cases o <;> simp [ckKs] at h; done) | skip
    rename_i d
    cases o with
    | none => simp [ckKs] at h
    | some x =>
      simp only [ckKs, Bool.and_eq_true] at h
      simp only [constK] at q
      cases h2 : constK es with
      | none => rw [h2] at q; cases q
      | some r =>
        rw [h2] at q; cases q
        cases hv with
        | nil => simp at hl
        | cons hx hr =>
          obtain ⟨trs, kk, a1, a2, a3, a4⟩ := pps_ok h.2 h2 hr (by simpa using hl)
          obtain ⟨v, p1, p2, p3⟩ := ck_const (X := X) h.1.2
          obtain ⟨k, rfl⟩ := keyOf_of h.1.1
          have ok : okK (kD k) = true := isKey_okK (p2 X.K (fun _ => False) (fun _ => none)) h.1.1
          exact ⟨_, k :: kk, pps_cons p1 hx a1, .cons p3 a2, by rw [a3]; rfl, by rw [List.all_cons, ok, a4]; rfl⟩
theorem ck_keysLen : ∀ {ks : Es} {keys : List (Option Expr)}, ckKs ks keys = true → (∃ dk, constK ks = some dk) ∧ keys.all (·.isSome) = true
  | .nil, [], _ => ⟨⟨_, rfl⟩, rfl⟩
  | .nil, _ :: _, h => by simp [ckKs] at h
  | .cons e es, [], h => by cases e <;> simp [ckKs] at h
  | .cons e es, o :: xs, h => by
    cases e <;> first | (cases o <;> simp [ckKs] at h; done) | skip
    cases o with
    | none => simp [ckKs] at h
    | some x =>
      simp only [ckKs, Bool.and_eq_true] at h
      obtain ⟨⟨dk, e⟩, b⟩ := ck_keysLen h.2
      exact ⟨⟨_, by simp only [constK, e, Option.map_some]; rfl⟩, by simp [b]⟩
/-- the end of a display: the new dict at p -/
theorem dct_fin {m m3 : M} {p : Addr} {o : HO} {d : D} {Q : VK} (rs : RS X.K m) (np : m.H p = none) (st : Step m m3) (rs3 : RS X.K m3) (ia : m3.Av p) (nC : ¬ m3.C p) (oa : OwnAt X.K m3.Av (upd m3.H p o) p d)
    (h : Wp X.K XR W (RepR X.K) m (.ok (.new d) m3.g) fun m' _ v => Q v m'.H) (es : m3.σ = m.σ) : Q (.ref p) (upd m3.H p o) := by
  have zz : zadd (zdel m3.Av p) p = m3.Av := by
    funext a
    refine propext ⟨fun h => h.elim (fun q => q.1) fun e => by rw [e]; exact ia, fun h => ?_⟩
    by_cases e : a = p
    · exact .inr e
    · exact .inl ⟨h, e⟩
  have full : RS X.K { m3 with H := upd m3.H p o } := rs3.off ia nC
  have less : RS X.K { m3 with H := upd m3.H p o, Av := zdel m3.Av p } := full.less (fun a z => z.1) fun a c => ⟨rs3.cav a c, fun e => nC (e ▸ c)⟩
  have st4 : Step m { m3 with H := upd m3.H p o } := st.off np
  refine h { m3 with H := upd m3.H p o, Av := zdel m3.Av p } (.ref p) es rfl ⟨st4.keep, st4.there, st4.cgrow, fun a z => st4.avgrow a z.1, fun a z c => ⟨st4.avkeep a z c, fun e => by subst e; exact rs.av _ z np⟩, st4.home⟩ less ⟨p, rfl, np, fun z => z.2 rfl, ?_, ?_⟩
  · show RS X.K { m3 with H := upd m3.H p o, Av := zadd (zdel m3.Av p) p }
    rw [zz]; exact full
  · show OwnAt X.K (zadd (zdel m3.Av p) p) (upd m3.H p o) p d
    rw [zz]; exact oa
theorem zip_left : ∀ (kk : List Key) (us : List V), (kk.map kV).zip us = (kk.zip us).map fun kv => (kV kv.1, kv.2)
  | [], us => rfl
  | k :: kk, [] => rfl
  | k :: kk, u :: us => by
    show (kV k, u) :: (kk.map kV).zip us = (kV k, u) :: (kk.zip us).map _
    rw [zip_left kk us]
theorem step_new {m : M} {p : Addr} {o : HO} (np : m.H p = none) : Step m { m with H := upd m.H p o, Av := zadd m.Av p } where
  keep a u h _ := by show upd m.H p o a = _; rw [upd_ne (fun e => by rw [e, np] at h; cases h)]; exact h
  there a h := by
    show upd m.H p o a ≠ none
    rw [upd_ne (fun e => h (by rw [e]; exact np))]; exact h
  cgrow a h := .inl h
  avgrow a h := h.elim .inl fun e => .inr (by rw [e]; exact np)
  avkeep a h _ := .inl h
  home j d h := ⟨⟨d, h⟩, rfl⟩
theorem pe_dct {ks vs : Es} {keys : List (Option Expr)} {values : List Expr} (hk : ckKs ks keys = true) (hv : Pvs X XR G W values vs) (hl : keys.length = values.length) (h15 : keys.length ≤ 15) :
    PE X (.Dict keys values pos) (tE X.K XR G W (.dct false ks vs)) := by
  obtain ⟨⟨dk, ek⟩, hall⟩ := ck_keysLen hk
  have main : ∀ {m : M} {Q : VK}, RS X.K m → ∀ {p}, m.H p = none → Wp X.K XR W (RepR X.K) m (ev G (.dct false ks vs) m.g) (fun m' _ v => Q v m'.H) →
      ∀ {kk : List Key}, dk = kk.map kD → dk.all okK = true → Wp X.K XR W (RepRs X.K) { m with H := upd m.H p (.dK []), Av := zadd m.Av p } (evs G vs m.g) fun m2 _ us => kk.length = us.length → m2.H p = some (.dK []) ∧ Q (.ref p) (upd m2.H p (.dK (mergeK [] (kk.zip us)))) := by
    intro m Q rs p np w kk edk hok
    simp only [ev, ek] at w
    have st1 := step_new (m := m) (o := .dK []) np
    have rs1 : RS X.K { m with H := upd m.H p (.dK []), Av := zadd m.Av p } := rs.clear (fun a u e => by rw [upd_ne (fun z => by rw [z, np] at e; cases e)]; exact e) np (by rw [upd_same]; simp)
    refine (Wp.step (rel := RepRs X.K) rs.av early_reps st1 rfl (Wp.bind0 (rel1 := RepRs X.K) w)).mono fun m2 ys us f2 s2 rs2 r2 h => ?_
    intro hlen
    cases hz : frzs m2.g ys with
    | none => rw [hz] at h; exact h.elim
    | some z =>
      obtain ⟨dv, g4⟩ := z
      rw [hz] at h
      obtain ⟨m3, a1, a2, a3, s3, rs3, r3⟩ := RepRs.frz rs2 r2 hz
      subst a3
      have s13 := s2.trans rs1.av s3
      have nC1 : ¬ m.C p := fun z => rs.av p (rs.cav p z) np
      have hp : m3.H p = some (.dK []) := s13.keep p _ upd_same nC1
      have ia : m3.Av p := s13.avkeep p (.inr rfl) nC1
      have nC : ¬ m3.C p := fun z => (s13.cgrow p z).elim nC1 fun e => by
        have e : upd m.H p (.dK []) p = none := e
        rw [upd_same] at e; cases e
      refine ⟨by rw [← a1]; exact hp, ?_⟩
      simp only at h
      cases hd : dctD false [] [] dk dv with
      | none => rw [hd] at h; exact h.elim
      | some d =>
        rw [hd] at h
        subst edk
        have oa := dct_own (H := m3.H) (a := p) ia (ks := kk) (kvs := []) r3 hok rfl .nil (avs := []) (show Reps X.K m3.Av m3.H [] [] from rfl) hd
        rw [← a1]
        exact dct_fin rs np (st1.trans rs.av s13) rs3 ia nC oa h (a2.trans f2)
  cases keys with
  | nil =>
    cases values with
    | cons => simp at hl
    | nil =>
      cases hv
      have edk : dk = [] := by
        have := constK_len hk ek
        simpa using this
      refine PE_weak pe_dnewK fun σ H Q ⟨m, e1, e2, rs, w⟩ => ?_
      subst e1 e2
      intro p np
      have := main rs np w (kk := []) edk (by rw [edk]; rfl)
      simp only [evs] at this
      obtain ⟨_, q⟩ := this { m with H := upd m.H p (.dK []), Av := zadd m.Av p } [] rfl rfl (.refl _) (rs.clear (fun a u e => by rw [upd_ne (fun z => by rw [z, np] at e; cases e)]; exact e) np (by rw [upd_same]; simp)) rfl rfl
      have q : Q (.ref p) (upd (upd m.H p (.dK [])) p (.dK [])) := q
      rwa [show upd (upd m.H p (.dK [])) p (.dK []) = upd m.H p (.dK []) from by funext a; unfold upd; split <;> rfl] at q
  | cons k0 ks0 =>
    obtain ⟨trs, kk, h1, h2, h3, h4⟩ := pps_ok hk ek hv hl
    refine PE_weak (pe_disp h1 hall hl (by simp) h15) fun σ H Q ⟨m, e1, e2, rs, w⟩ => ?_
    subst e1 e2
    intro p np
    have rs1 : RS X.K { m with H := upd m.H p (.dK []), Av := zadd m.Av p } := rs.clear (fun a u e => by rw [upd_ne (fun z => by rw [z, np] at e; cases e)]; exact e) np (by rw [upd_same]; simp)
    refine prs_pairs (m := { m with H := upd m.H p (.dK []), Av := zadd m.Av p }) (ks := kk) h2 rs1 h3 ((main rs np w h3 h4).mono fun m2 ys us f2 s2 rs2 r2 h => ?_)
    intro hlen
    obtain ⟨q1, q2⟩ := h hlen
    refine ⟨q1, kk.zip us, ?_, ?_, q2⟩
    · exact zip_left kk us
    · have := constK_len hk ek
      rw [h3, List.length_map] at this
      rw [List.length_zip]; omega
end
end AW

/-! P24: the intermediate language is the text's, expressions. -/
namespace AW
open PySem PySem.Spec L2
def nm (S : SC) (i : Nat) (x : Str) : Bool := decide (S.N[i]? = some x) && visB S.sc x && !(x == ("__debug__" : Str)) && !(x == ("__classdict__" : Str))
theorem nm_ok {S : SC} {i : Nat} {x : Str} (h : nm S i x = true) : S.N[i]? = some x ∧ visB S.sc x = true ∧ (x == ("__debug__" : Str)) = false ∧ (x == ("__classdict__" : Str)) = false := by
  simp only [nm, Bool.and_eq_true, decide_eq_true_eq, Bool.not_eq_true'] at h
  exact ⟨h.1.1.1, h.1.1.2, h.1.2, h.2⟩
/-- the names of the built-ins -/
def biN : Bi → Option Str
  | .len => some "len" | .tuple => some "tuple" | .list => some "list" | .int => some "int" | .abs => some "abs" | .sorted => some "sorted"
  | _ => none
theorem bi_fact {X : Cx} {b : Bi} {x : Str} (hu : X.A.units + 65 < cLine) (h : biN b = some x) : ∃ f, CallR X f (bQ X.K b) ∧ ((∃ id, f = .builtin id) ∨ ∃ T, f = .type T) ∧ bootBuiltins x = some f := by
  cases b <;> first | (simp [biN] at h; done) | (simp only [biN, Option.some.injEq] at h; subst h)
  case len => exact ⟨_, len_ok, .inl ⟨_, rfl⟩, PySem.boot_len⟩
  case tuple => exact ⟨_, tuple_ok, .inr ⟨_, rfl⟩, by decide +kernel⟩
  case list => exact ⟨_, list_ok, .inr ⟨_, rfl⟩, by decide +kernel⟩
  case sorted => exact ⟨_, sorted_ok hu, .inl ⟨_, rfl⟩, by decide +kernel⟩
  case int => exact ⟨_, int_ok, .inr ⟨_, rfl⟩, by decide +kernel⟩
  case abs => exact ⟨_, abs_ok, .inl ⟨_, rfl⟩, by decide +kernel⟩
/-- the methods -/
def muN : Mu → Nat → Option Str
  | .append, 1 => some "append" | .extend, 1 => some "extend" | .pop, 0 => some "pop"
  | _, _ => none
def ckC : D → Expr → Bool
  | .non, .Constant .none _ _ => true
  | .bl b, .Constant (.bool c) _ _ => b == c
  | _, _ => false
def isNon : E → Bool
  | .k .non => true
  | _ => false
/-- a block of a comprehension -/
def blkB (N : List Str) (sc scope : Scope) (own : List (Str × Nat)) : Bool :=
  decide (scope.kind = .function) && scope.names.all (fun y => decide (scope.names.lookup y.1 = some y.2)) && own.all (fun p => decide (N[p.2]? = some p.1)) &&
  scope.names.all (fun y => !decide (y.2 = .free) || decide (sc.names.lookup y.1 = some .cell) || decide (sc.names.lookup y.1 = some .free)) &&
  scope.names.all (fun y => !(decide (y.2 = .local) || decide (y.2 = .cell)) || (own.map (·.1)).contains y.1 || !N.contains y.1)
theorem blk_ok {N : List Str} {sc scope : Scope} {own : List (Str × Nat)} (h : blkB N sc scope own = true) : BlkOk N sc scope own := by
  simp only [blkB, Bool.and_eq_true, decide_eq_true_eq, List.all_eq_true, Bool.or_eq_true, Bool.not_eq_true', decide_eq_false_iff_not, Bool.or_eq_false_iff] at h
  obtain ⟨⟨⟨⟨h1, h2⟩, h3⟩, h4⟩, h5⟩ := h
  refine ⟨h1, h2, h3, fun y hy e => ?_, fun y hy e => ?_⟩
  · rcases h4 y hy with (z | z) | z
    · exact absurd e z
    · exact .inl z
    · exact .inr z
  · rcases h5 y hy with (z | z) | z
    · exact e.elim (fun q => absurd q z.1) fun q => absurd q z.2
    · exact .inl (by simpa using z)
    · exact .inr (by simpa using z)
def named (N : List Str) (own : List Nat) : List (Str × Nat) := own.map fun i => (N.getD i "", i)
theorem named_ix {N : List Str} : ∀ {own : List Nat}, (named N own).map (·.2) = own
  | [] => rfl
  | i :: l => by
    show i :: (named N l).map (·.2) = i :: l
    rw [named_ix]
/-- the walk's text, but for the parts -/
def ckRng (S : SC) (es : Es) (iter : Expr) : Bool := match iter with
  | .Call (.Name x _) args [] _ => (x == ("range" : Str)) && glB S.sc x && S.bn x && decide (es.len = args.length) && decide (0 < es.len) && decide (es.len ≤ 3)
  | _ => false
def ckKey (S : SC) (es : Es) (iter : Expr) : Bool := match es with
  | .cons (.v i) .nil => match iter with
    | .Name x _ => nm S i x
    | _ => false
  | _ => false
def ckSrc (S : SC) (sk : SK) (es : Es) (iter : Expr) : Bool := match sk with
  | .range => ckRng S es iter
  | .keys => ckKey S es iter
  | .seq => decide (es.len = 1) && notSet iter
  | _ => false
/-- the parts of the walk's text -/
def srcEs (sk : SK) (iter : Expr) : List Expr := match sk, iter with
  | .range, .Call _ args _ _ => args
  | _, e => [e]
mutual
def ck (ar : Nat → Nat) : E → SC → Expr → Bool
  | .k d => fun _ x => ckK d x
  | .v i => fun S x => match x with | .Name n _ => nm S i n | _ => false
  | .g i => fun S x => match x with | .Name n _ => glB S.sc n && decide (S.gl n = some i) | _ => false
  | .bin o a b => fun S x => match x with | .BinOp l op r _ => decide (op = bopOf o) && ck ar a S l && ck ar b S r | _ => false
  | .cmp o a b => fun S x => match x with | .Compare l [op] [r] _ => decide (op = copOf o) && ck ar a S l && ck ar b S r && !behindInMarks op r | _ => false
  | .chn o o' a b c => fun S x => match x with | .Compare l [op, op'] [r, r'] _ => decide (op = copOf o) && decide (op' = copOf o') && ck ar a S l && ck ar b S r && ck ar c S r' && !lastMarks [op, op'] [r, r'] | _ => false
  | .isK neg a c => fun S x => match x with | .Compare l [op] [r] _ => decide (op = if neg then .IsNot else .Is) && ck ar a S l && ckC c r | _ => false
  | .and a b => fun S x => match x with | .BoolOp .And (l :: r :: rest) p => ck ar a S l && ck ar b S (match rest with | [] => r | _ => .BoolOp .And (r :: rest) p) | _ => false
  | .or a b => fun S x => match x with | .BoolOp .Or (l :: r :: rest) p => ck ar a S l && ck ar b S (match rest with | [] => r | _ => .BoolOp .Or (r :: rest) p) | _ => false
  | .not a => fun S x => match x with | .UnaryOp .Not l _ => ck ar a S l | _ => false
  | .neg a => fun S x => match x with | .UnaryOp .USub l _ => ck ar a S l | _ => false
  | .ite c a b => fun S x => match x with | .IfExp t l r _ => ck ar c S t && ck ar a S l && ck ar b S r | _ => false
  | .idx a b => fun S x => match x with | .Subscript l r _ => ck ar a S l && ck ar b S r && notSlice r | _ => false
  | .slc a lo hi => fun S x => match x with
    | .Subscript l (.Slice u v none _) _ => ck ar a S l && (match u with | none => isNon lo | some y => !isNon lo && ck ar lo S y) && (match v with | none => isNon hi | some y => !isNon hi && ck ar hi S y)
    | _ => false
  | .rev a => fun S x => match x with | .Subscript l (.Slice none none (some (.UnaryOp .USub (.Constant (.int 1) _ _) _)) _) _ => ck ar a S l | _ => false
  | .tup es => fun S x => match x with | .Tuple xs _ _ => cks ar es S xs && decide (xs.length ≤ 1000) | _ => false
  | .lst es => fun S x => match x with | .List xs _ => cks ar es S xs && decide (xs.length ≤ 1000) | _ => false
  | .dct t ks vs => fun S x => match x with | .Dict keys values _ => !t && ckKs ks keys && cks ar vs S values && decide (keys.length = values.length) && decide (keys.length ≤ 15) | _ => false
  | .call f es => fun S x => match x with | .Call (.Name n _) (y :: ys) [] _ => decide (S.fn n = some f) && glB S.sc n && decide (es.len = ar f) && cks ar es S (y :: ys) | _ => false
  | .bi b es => fun S x => match x with | .Call (.Name n _) (y :: ys) [] _ => decide (biN b = some n) && glB S.sc n && S.bn n && cks ar es S (y :: ys) | _ => false
  | .mt _ _ _ => fun _ _ => false
  | .mu m i es => fun S x => match x with
    | .Call (.Attribute (.Name n _) name apos) ys [] cpos => decide (muN m ys.length = some name) && nm S i n && cks ar es S ys && (apos.endLine == cpos.line)
    | _ => false
  | .comp own t sk es cond elt => fun S x => match x with
    | .ListComp y [⟨tg, iter, ifs, 0⟩] scope _ => blkB S.N S.sc scope (named S.N own) && ckTg (S.blk scope) t tg && t.slots.all (fun i => own.contains i) && ckSrc S sk es iter && cks ar es S (srcEs sk iter) && ck ar elt (S.blk scope) y &&
      (match ifs with | [] => (match cond with | .k (.bl true) => true | _ => false) | [c] => ck ar cond (S.blk scope) c | _ => false)
    | _ => false
def cks (ar : Nat → Nat) : Es → SC → List Expr → Bool
  | .nil => fun _ xs => xs.isEmpty
  | .cons e es => fun S xs => match xs with | x :: xs => ck ar e S x && notStar x && cks ar es S xs | [] => false
end
/-- the guard, with the program's own functions -/
structure Amb (XR : XRel) (G : Env) (X : Cx) (S : SC) (W : WX) (ar : Nat → Nat) : Prop extends Gd XR G X S W where
  calls : ∀ x f, S.fn x = some f → ∃ (k : Nat) (fa : Addr) (fd : FuncData) (ps : List Str), FnOk X.prog X.w X.K X.mg X.base (L2.CX X.prog X.w) k fa fd ps (spF X.K XR (G.phi f) ps.length) ∧ Room k X.A ∧ X.mg x = some (.ref fa) ∧
    PySem.W.keepIn X.K (.ref fa) = true ∧ Binds X.K fd ps [] ∧ ps.length = ar f
section
variable {XR : XRel} {G : Env} {ar : Nat → Nat}
theorem Amb.hu {X : Cx} {S : SC} {W : WX} (gd : Amb XR G X S W ar) : X.A.units + 65 < cLine := by have := gd.room.un; omega
theorem Amb.blk {X : Cx} {S : SC} {W : WX} (gd : Amb XR G X S W ar) (s : Shared) (H : Hp) (scope : Scope) (C : Addr) (cl : List (Str × Addr)) (fp : List Addr) : Amb XR G (X.blk s H scope (compEnvC scope cl C X.env) fp) (S.blk scope) WN ar :=
  { gd.toGd.blk s H scope C cl fp with calls := gd.calls }
/-- what the check of an expression gives -/
structure Okk (XR : XRel) (G : Env) (X : Cx) (W : WX) (e : E) (x : Expr) : Prop where
  pe : PE X x (tE X.K XR G W e)
  pt : PT X x (tT X.K XR G W e)
  pw : ∀ op es p, x = .BoolOp op es p → PW X x (tT X.K XR G W e)
theorem Okk.plain {X : Cx} {W : WX} {e : E} {x : Expr} (h : PE X x (tE X.K XR G W e)) (hp : plainTest x = true) : Okk XR G X W e x :=
  ⟨h, pt_plain h hp, fun op es p e => by subst e; simp [plainTest] at hp⟩
structure Oks (XR : XRel) (G : Env) (X : Cx) (W : WX) (es : Es) (xs : List Expr) : Prop where
  pa : PA X xs (tA X.K XR G W es)
  ph : PA X xs (tAh X.K XR G W es)
  pv : Pvs X XR G W xs es
  len : xs.length = es.len
  star : xs.all notStar = true
  one : ∀ e, es = .cons e .nil → ∃ x, xs = [x] ∧ Okk XR G X W e x
theorem isNon_k {e : E} (h : isNon e = true) : e = .k .non := by
  cases e with
  | k d => cases d <;> first | rfl | (simp [isNon] at h)
  | _ => simp [isNon] at h
theorem partOf_some {e : E} (h : isNon e = false) {r : RV} {o : Option Int} (q : partOf e r = some o) : ∃ i, r = .d (.int i) ∧ o = some i := by
  unfold partOf at q
  split at q
  · simp [isNon] at h
  · cases q; exact ⟨_, rfl, rfl⟩
  · cases q
end
end AW

/-! P25: the check is right, expressions. -/
namespace AW
open PySem PySem.Spec L2
section
variable {XR : XRel} {G : Env} {ar : Nat → Nat}
theorem mu_fact {X : Cx} {S : SC} {W : WX} (gd : Amb XR G X S W ar) {m : Mu} {i : Nat} {es : Es} {n name : Str} {p apos cpos : Pos} {ys : List Expr} (h : muN m ys.length = some name) (hn : nm S i n = true) (ho : Oks XR G X W es ys) (hl : (apos.endLine == cpos.line) = true) :
    PE X (.Call (.Attribute (.Name n p) name apos) ys [] cpos) (tE X.K XR G W (.mu m i es)) := by
  obtain ⟨h1, h2, h3, h4⟩ := nm_ok hn
  cases ys with
  | nil =>
    cases m <;> first | (simp [muN] at h; done) | skip
    simp only [List.length_nil, muN, Option.some.injEq] at h
    subst h
    have : es = .nil := by
      cases es with
      | nil => rfl
      | cons => have := ho.len; simp [Es.len] at this
    subst this
    exact pe_mu0 gd.toGd PySem.F.slot_list_pop PySem.F.type_list_pop pop_ok h1 h2 h3 h4 hl
  | cons y ys =>
    cases ys with
    | cons => cases m <;> simp [muN] at h
    | nil =>
      cases m <;> first | (simp [muN] at h; done) | skip
      · simp only [List.length_cons, List.length_nil, Nat.zero_add, muN, Option.some.injEq] at h
        subst h
        exact pe_mu gd.toGd PySem.F.slot_list_append PySem.F.type_list_append append_ok h1 h2 h3 h4 ho.pa ho.star (by simp) hl
      · simp only [List.length_cons, List.length_nil, Nat.zero_add, muN, Option.some.injEq] at h
        subst h
        exact pe_mu gd.toGd PySem.F.slot_list_extend PySem.F.type_list_extend extend_ok h1 h2 h3 h4 ho.pa ho.star (by simp) hl
theorem src_fact {X : Cx} {S : SC} {W : WX} (gd : Amb XR G X S W ar) {sk : SK} {es : Es} {tg iter : Expr} (hk : sk ≠ .keys) (h : ckSrc S sk es iter = true) (ho : Oks XR G X W es (srcEs sk iter)) : PI X tg iter (tI X.K XR G W sk es) ∧ notSet iter = true := by
  cases sk with
  | keys => exact absurd rfl hk
  | seq =>
    simp only [ckSrc, Bool.and_eq_true, decide_eq_true_eq] at h
    cases es with
    | nil => simp [Es.len] at h
    | cons e es =>
      have : es = .nil := by
        cases es with
        | nil => rfl
        | cons => simp [Es.len] at h
      subst this
      obtain ⟨x, e1, ok⟩ := ho.one e rfl
      have e1 : [iter] = [x] := e1
      cases e1
      exact ⟨pi_seq ok.pe, h.2⟩
  | range =>
    replace h : ckRng S es iter = true := h
    unfold ckRng at h
    split at h
    · rename_i x p args pos
      simp only [Bool.and_eq_true, decide_eq_true_eq, beq_iff_eq] at h
      obtain ⟨⟨⟨⟨⟨hx, hg⟩, hb⟩, hl⟩, h0⟩, h3⟩ := h
      subst hx
      have ho : Oks XR G X W es args := ho
      have hs := ho.star
      refine ⟨?_, rfl⟩
      match args, hl, ho, hs with
      | [], hl, _, _ => rw [hl] at h0; simp at h0
      | [a], hl, ho, hs => exact pi_rng1 gd.toGd hg hb ho.pa (by simpa using hs) (by rw [hl]; rfl)
      | [a, b], hl, ho, hs =>
        simp only [List.all_cons, List.all_nil, Bool.and_true, Bool.and_eq_true] at hs
        exact pi_rng2 gd.toGd hg hb ho.pa hs.1 hs.2 (by rw [hl]; rfl)
      | [a, b, c], hl, ho, hs =>
        simp only [List.all_cons, List.all_nil, Bool.and_true, Bool.and_eq_true] at hs
        exact pi_rng3 gd.toGd hg hb ho.pa hs.1 (by simp [hs.2.1, hs.2.2]) (by rw [hl]; rfl)
      | _ :: _ :: _ :: _ :: _, hl, _, _ => rw [hl] at h3; simp at h3
    · cases h
  | _ => cases h
/-- the parts of a comprehension -/
structure CompOk (XR : XRel) (G : Env) (X : Cx) (S : SC) (t : Tg) (cond elt : E) (own : List Nat) (tg y : Expr) (ifs : List Expr) (scope : Scope) : Prop where
  ok : BlkOk X.N X.env.scope scope (named S.N own)
  hg : ∀ (s : Shared) (H : Hp) (C : Addr) (cl : List (Str × Addr)) (fp : List Addr), PG (X.blk s H scope (compEnvC scope cl C X.env) fp) tg (gT X.K t)
  htg : ∀ i ∈ t.slots, i ∈ (named S.N own).map (·.2)
  ht : ∀ (s : Shared) (H : Hp) (C : Addr) (cl : List (Str × Addr)) (fp : List Addr), PTs (X.blk s H scope (compEnvC scope cl C X.env) fp) ifs (tT X.K XR G WN cond)
  he : ∀ (s : Shared) (H : Hp) (C : Addr) (cl : List (Str × Addr)) (fp : List Addr), PE (X.blk s H scope (compEnvC scope cl C X.env) fp) y (tE X.K XR G WN elt)
theorem CompOk.pe {X : Cx} {S : SC} {W : WX} (gd : Amb XR G X S W ar) {t : Tg} {sk : SK} {es : Es} {cond elt : E} {own : List Nat} {tg y iter : Expr} {ifs : List Expr} {scope : Scope} {pos : Pos} (c : CompOk XR G X S t cond elt own tg y ifs scope)
    (h : ckSrc S sk es iter = true) (ho : Oks XR G X W es (srcEs sk iter)) : PE X (.ListComp y [⟨tg, iter, ifs, 0⟩] scope pos) (tE X.K XR G W (.comp own t sk es cond elt)) := by
  by_cases hk : sk = .keys
  · subst hk
    replace h : ckKey S es iter = true := h
    unfold ckKey at h
    split at h
    · split at h
      · rename_i x p
        obtain ⟨h1, h2, h3, h4⟩ := nm_ok h
        have := pe_compK (W := W) (pos := pos) (ipos := p) gd.toGd h1 h2 h3 h4 c.ok c.hg c.htg c.ht c.he
        rwa [named_ix] at this
      · cases h
    · cases h
  · obtain ⟨hi, hs⟩ := src_fact (tg := tg) gd hk h ho
    have := pe_comp (pos := pos) gd.toGd hi c.ok c.hg c.htg c.ht c.he hs
    rwa [named_ix] at this
mutual
theorem ck_ok : ∀ (e : E) {S : SC} {x : Expr} {X : Cx} {W : WX}, ck ar e S x = true → Amb XR G X S W ar → Okk XR G X W e x
  | .k d, S, x, X, W, h, gd => by
    have h : ckK d x = true := by simpa only [ck] using h
    obtain ⟨v, h1, h2, _⟩ := ck_const (X := X) h
    refine .plain (pe_k gd.toGd h1 (h2 X.K)) ?_
    cases x <;> first | rfl | (cases d <;> simp [ckK] at h)
  | .v i, S, x, X, W, h, gd => by
    simp only [ck] at h
    split at h
    · obtain ⟨h1, h2, h3, h4⟩ := nm_ok h
      exact .plain (pe_v gd.toGd h1 h2 h3 h4) rfl
    · cases h
  | .g i, S, x, X, W, h, gd => by
    simp only [ck] at h
    split at h
    · simp only [Bool.and_eq_true, decide_eq_true_eq] at h
      exact .plain (pe_g gd.toGd h.1 h.2) rfl
    · cases h
  | .bin o a b, S, x, X, W, h, gd => by
    simp only [ck] at h
    split at h
    · simp only [Bool.and_eq_true, decide_eq_true_eq] at h
      obtain ⟨⟨rfl, h2⟩, h3⟩ := h
      exact .plain (pe_bin (ck_ok a h2 gd).pe (ck_ok b h3 gd).pe) rfl
    · cases h
  | .cmp o a b, S, x, X, W, h, gd => by
    simp only [ck] at h
    split at h
    · simp only [Bool.and_eq_true, decide_eq_true_eq, Bool.not_eq_true'] at h
      obtain ⟨⟨⟨rfl, h2⟩, h3⟩, h4⟩ := h
      exact ⟨pe_cmp2 gd.hu (ck_ok a h2 gd).pe (ck_ok b h3 gd).pe h4, pt_cmp2 gd.hu (ck_ok a h2 gd).pe (ck_ok b h3 gd).pe h4, fun _ _ _ e => by cases e⟩
    · cases h
  | .chn o o' a b c, S, x, X, W, h, gd => by
    simp only [ck] at h
    split at h
    · simp only [Bool.and_eq_true, decide_eq_true_eq, Bool.not_eq_true'] at h
      obtain ⟨⟨⟨⟨⟨rfl, rfl⟩, h2⟩, h3⟩, h4⟩, h5⟩ := h
      obtain ⟨q1, q2⟩ := pe_chn (W := W) gd.hu (ck_ok a h2 gd).pe (ck_ok b h3 gd).pe (ck_ok c h4 gd).pe h5
      exact ⟨q1, q2, fun _ _ _ e => by cases e⟩
    · cases h
  | .isK neg a c, S, x, X, W, h, gd => by
    simp only [ck] at h
    split at h
    · simp only [Bool.and_eq_true, decide_eq_true_eq] at h
      obtain ⟨⟨rfl, h2⟩, h3⟩ := h
      rename_i l r p
      have : ∃ cv, PE X r (tC cv) ∧ (c = .non ∧ cv = .non ∨ ∃ t, c = .bl t ∧ cv = .bl t) := by
        cases c <;> cases r <;> first | (simp [ckC] at h3; done) | (rename_i cc _ _; cases cc <;> first | (simp [ckC] at h3; done) | skip)
        · exact ⟨_, pe_non, .inl ⟨rfl, rfl⟩⟩
        · simp only [ckC, beq_iff_eq] at h3
          subst h3
          exact ⟨_, pe_bl, .inr ⟨_, rfl, rfl⟩⟩
      obtain ⟨cv, q1, q2⟩ := this
      exact ⟨pe_isK (ck_ok a h2 gd).pe q1 q2, pt_isK (ck_ok a h2 gd).pe q1 q2, fun _ _ _ e => by cases e⟩
    · cases h
  | .and a b, S, x, X, W, h, gd => by
    simp only [ck] at h
    split at h
    · rename_i l r rest p
      simp only [Bool.and_eq_true] at h
      have ha := ck_ok a h.1 gd
      have hb := ck_ok b h.2 gd
      have key : PE X (.BoolOp .And (r :: rest) p) (tE X.K XR G W b) ∧ PW X (.BoolOp .And (r :: rest) p) (tT X.K XR G W b) := by
        cases rest with
        | nil => exact ⟨pe_one hb.pe, pw_and1 hb.pt⟩
        | cons => exact ⟨hb.pe, hb.pw _ _ _ rfl⟩
      have pw := pw_and2 (W := W) ha.pt key.2
      exact ⟨pe_and2 ha.pe key.1, pw.pt, fun _ _ _ e => by cases e; exact pw⟩
    · cases h
  | .or a b, S, x, X, W, h, gd => by
    simp only [ck] at h
    split at h
    · rename_i l r rest p
      simp only [Bool.and_eq_true] at h
      have ha := ck_ok a h.1 gd
      have hb := ck_ok b h.2 gd
      have key : PE X (.BoolOp .Or (r :: rest) p) (tE X.K XR G W b) ∧ PW X (.BoolOp .Or (r :: rest) p) (tT X.K XR G W b) := by
        cases rest with
        | nil => exact ⟨pe_one hb.pe, pw_or1 hb.pt⟩
        | cons => exact ⟨hb.pe, hb.pw _ _ _ rfl⟩
      have pw := pw_or2 (W := W) ha.pt key.2
      exact ⟨pe_or2 ha.pe key.1, pw.pt, fun _ _ _ e => by cases e; exact pw⟩
    · cases h
  | .not a, S, x, X, W, h, gd => by
    simp only [ck] at h
    split at h
    · have ha := ck_ok a h gd
      exact ⟨pe_not2 ha.pe, pt_not2 ha.pt, fun _ _ _ e => by cases e⟩
    · cases h
  | .neg a, S, x, X, W, h, gd => by
    simp only [ck] at h
    split at h
    · exact .plain (pe_neg2 (ck_ok a h gd).pe) rfl
    · cases h
  | .ite c a b, S, x, X, W, h, gd => by
    simp only [ck] at h
    split at h
    · simp only [Bool.and_eq_true] at h
      have hc := ck_ok c h.1.1 gd
      have ha := ck_ok a h.1.2 gd
      have hb := ck_ok b h.2 gd
      exact ⟨pe_ite2 hc.pt ha.pe hb.pe, pt_ite2 hc.pt ha.pt hb.pt, fun _ _ _ e => by cases e⟩
    · cases h
  | .idx a b, S, x, X, W, h, gd => by
    simp only [ck] at h
    split at h
    · simp only [Bool.and_eq_true] at h
      exact .plain (pe_idx gd.hu (ck_ok a h.1.1 gd).pe (ck_ok b h.1.2 gd).pe h.2) rfl
    · cases h
  | .slc a lo hi, S, x, X, W, h, gd => by
    simp only [ck] at h
    split at h
    · rename_i l u v p2 p
      simp only [Bool.and_eq_true] at h
      have pl : PO X u (tO X.K XR G W lo) := by
        cases u with
        | none => rw [isNon_k h.1.2]; exact po_no
        | some y =>
          have h2 := h.1.2
          simp only [Bool.and_eq_true, Bool.not_eq_true'] at h2
          exact po_yes (ck_ok lo h2.2 gd).pe fun r o q => partOf_some h2.1 q
      have ph : PO X v (tO X.K XR G W hi) := by
        cases v with
        | none => rw [isNon_k h.2]; exact po_no
        | some y =>
          have h2 := h.2
          simp only [Bool.and_eq_true, Bool.not_eq_true'] at h2
          exact po_yes (ck_ok hi h2.2 gd).pe fun r o q => partOf_some h2.1 q
      exact .plain (pe_slc (ck_ok a h.1.1 gd).pe pl ph) rfl
    · cases h
  | .rev a, S, x, X, W, h, gd => by
    simp only [ck] at h
    split at h
    · exact .plain (pe_rev (ck_ok a h gd).pe) rfl
    · cases h
  | .tup es, S, x, X, W, h, gd => by
    simp only [ck] at h
    split at h
    · simp only [Bool.and_eq_true, decide_eq_true_eq] at h
      have ho := cks_ok es h.1 gd
      exact .plain (pe_tup2 ho.pa ho.len (Nat.le_trans h.2 (by decide))) rfl
    · cases h
  | .lst es, S, x, X, W, h, gd => by
    simp only [ck] at h
    split at h
    · simp only [Bool.and_eq_true, decide_eq_true_eq] at h
      have ho := cks_ok es h.1 gd
      exact .plain (pe_lst2 ho.pa ho.len (Nat.le_trans h.2 (by decide))) rfl
    · cases h
  | .dct t ks vs, S, x, X, W, h, gd => by
    simp only [ck] at h
    split at h
    · simp only [Bool.and_eq_true, decide_eq_true_eq, Bool.not_eq_true'] at h
      obtain ⟨⟨⟨⟨rfl, h1⟩, h2⟩, h3⟩, h4⟩ := h
      have ho := cks_ok vs h2 gd
      exact .plain (pe_dct h1 ho.pv h3 h4) rfl
    · cases h
  | .call f es, S, x, X, W, h, gd => by
    simp only [ck] at h
    split at h
    · simp only [Bool.and_eq_true, decide_eq_true_eq] at h
      obtain ⟨⟨⟨h1, h2⟩, h3⟩, h4⟩ := h
      have ho := cks_ok es h4 gd
      obtain ⟨k, fa, fd, ps, F, hr, hm, hk, hb, hn⟩ := gd.calls _ _ h1
      exact .plain (pe_fn gd.toGd F hr h2 hm hk hb ho.pa ho.star ho.len (h3.trans hn.symm)) rfl
    · cases h
  | .bi b es, S, x, X, W, h, gd => by
    simp only [ck] at h
    split at h
    · simp only [Bool.and_eq_true, decide_eq_true_eq] at h
      obtain ⟨⟨⟨h1, h2⟩, h3⟩, h4⟩ := h
      have ho := cks_ok es h4 gd
      obtain ⟨f, c1, c2, c3⟩ := bi_fact (X := X) gd.hu h1
      exact .plain (pe_bi gd.toGd h2 h3 c1 c2 c3 ho.pa ho.star) rfl
    · cases h
  | .mt m o es, S, x, X, W, h, gd => by simp [ck] at h
  | .mu m i es, S, x, X, W, h, gd => by
    simp only [ck] at h
    split at h
    · simp only [Bool.and_eq_true, decide_eq_true_eq] at h
      obtain ⟨⟨⟨h1, h2⟩, h3⟩, h4⟩ := h
      exact .plain (mu_fact gd h1 h2 (cks_ok es h3 gd) h4) rfl
    · cases h
  | .comp own t sk es cond elt, S, x, X, W, h, gd => by
    simp only [ck] at h
    split at h
    · rename_i y tg iter ifs scope pos
      simp only [Bool.and_eq_true] at h
      obtain ⟨⟨⟨⟨⟨⟨h1, h2⟩, h3⟩, h4⟩, h5⟩, h6⟩, h7⟩ := h
      have ho := cks_ok es h5 gd
      have h7' : ∀ (s : Shared) (H : Hp) (C : Addr) (cl : List (Str × Addr)) (fp : List Addr), PTs (X.blk s H scope (compEnvC scope cl C X.env) fp) ifs (tT X.K XR G WN cond) := by
        intro s H C cl fp
        split at h7
        · split at h7
          · exact pts_none
          · cases h7
        · exact pts_one (ck_ok cond h7 (gd.blk s H scope C cl fp)).pt
        · cases h7
      refine .plain (CompOk.pe gd (S := S) ⟨?_, fun s H C cl fp => pg_ok (gd.blk s H scope C cl fp).toGd h2, ?_, h7', fun s H C cl fp => (ck_ok elt h6 (gd.blk s H scope C cl fp)).pe⟩ h4 ho) rfl
      · have := blk_ok h1
        rw [gd.N, gd.sc]; exact this
      · intro i hi
        rw [named_ix]
        have := List.all_eq_true.mp h3 i hi
        simpa using this
    · cases h
theorem cks_ok : ∀ (es : Es) {S : SC} {xs : List Expr} {X : Cx} {W : WX}, cks ar es S xs = true → Amb XR G X S W ar → Oks XR G X W es xs
  | .nil, S, xs, X, W, h, gd => by
    simp only [cks] at h
    cases xs with
    | nil => exact ⟨pa_no, pah_no, .nil, rfl, rfl, fun e q => by cases q⟩
    | cons => simp at h
  | .cons e es, S, xs, X, W, h, gd => by
    simp only [cks] at h
    split at h
    · simp only [Bool.and_eq_true] at h
      have h1 := ck_ok e h.1.1 gd
      have h2 := cks_ok es h.2 gd
      exact ⟨pa_more h1.pe h2.pa h.1.2, pah_more h1.pe h2.ph h.1.2, .cons h1.pe h2.pv, by simp [h2.len, Es.len], by simp [h.1.2, h2.star], fun e' q => by
        cases q
        have : _ = 0 := h2.len
        rw [List.length_eq_zero_iff] at this
        exact ⟨_, by rw [this], h1⟩⟩
    · cases h
end
end
end AW

/-! P26: the check, statements. -/
namespace AW
open PySem PySem.Spec L2
def notTup : Expr → Bool
  | .Tuple _ _ _ => false
  | _ => true
def lcl (S : SC) (x : Str) : Bool := decide (S.sc.names.lookup x = some .local)
/-- a comprehension stored in a name -/
def ckCm (S : SC) (e : E) (y : Str) (py : Pos) (v : Expr) : Bool := match e with
  | .comp _ _ sk _ _ _ => match v with
    | .ListComp _ _ scope pos => !decide (sk = .keys) && lcl S y && (py.line == pos.line) && !(scope.names.any fun (n, k) => n == y && (k == .local || k == .cell))
    | _ => false
  | _ => false
def ckPar (S : SC) (l : List (Bool × Nat)) (ts vs : List Expr) : Bool := match l with
  | [(_, i), (_, j)] => match ts with
    | [.Name x px, .Name y py] => match vs with
      | [_, _] => decide (S.N[i]? = some x) && decide (S.N[j]? = some y) && !(j == i) && swapOk S.sc ts vs && lcl S x && lcl S y && (py.line == px.line) && !(y == x)
      | _ => false
    | _ => false
  | [(_, i), (_, j), (_, k)] => match ts with
    | [.Name x px, .Name y py, .Name z pz] => match vs with
      | [_, _, _] => decide (S.N[i]? = some x) && decide (S.N[j]? = some y) && decide (S.N[k]? = some z) && !(j == i) && !(k == i) && !(k == j) && swapOk S.sc ts vs && lcl S x && lcl S y && lcl S z && (py.line == px.line) && (pz.line == px.line) && !(y == x) && !(z == x) && !(z == y)
      | _ => false
    | _ => false
  | _ => false
def isFrg : AW.S → Bool
  | .frg _ => true
  | _ => false
mutual
def ckS (ar : Nat → Nat) : AW.S → SC → Stmt → Bool
  | .asg _ i e => fun S x => match x with
    | .Assign [.Name y py] v _ => decide (S.N[i]? = some y) && S.sto y && ck ar e S v && (notComp v || ckCm S e y py v)
    | _ => false
  | .unp l e => fun S x => match x with
    | .Assign [tg] v _ => ckTg S (.many l) tg && ck ar e S v && notComp v && notTup v
    | _ => false
  | .par l es => fun S x => match x with
    | .Assign [.Tuple ts _ _] (.Tuple vs _ _) _ => ckPar S l ts vs && cks ar es S vs
    | _ => false
  | .aug o i e => fun S x => match x with
    | .AugAssign (.Name y _) op v _ => decide (op = augOp o) && augOk o && decide (S.N[i]? = some y) && S.sto y && ck ar e S v
    | _ => false
  | .sto i k e => fun S x => match x with
    | .Assign [.Subscript (.Name y _) kx _] v _ => nm S i y && ck ar k S kx && ck ar e S v && notSlice kx && notComp v
    | _ => false
  | .aus o i k e => fun S x => match x with
    | .AugAssign (.Subscript (.Name y _) kx _) op v _ => decide (op = augOp o) && augOk o && nm S i y && ck ar k S kx && ck ar e S v && notSlice kx
    | _ => false
  | .ex e => fun S x => match x with
    | .Expr v _ => ck ar e S v && notComp v
    | _ => false
  | .ifs c a b => fun S x => match x with
    | .If c' a' b' _ => ck ar c S c' && ckSs ar a S a' && ckSs ar b S b'
    | _ => false
  | .fr t sk es b => fun S x => match x with
    | .For tg iter body [] _ => ckTg S t tg && !decide (sk = .keys) && ckSrc S sk es iter && cks ar es S (srcEs sk iter) && ckSs ar b S body
    | _ => false
  | .wh c b => fun S x => match x with
    | .While c' body [] _ => ck ar c S c' && ckSs ar b S body
    | _ => false
  | .ret e => fun S x => match x with | .Return (some v) _ => ck ar e S v | _ => false
  | .retN => fun _ x => match x with | .Return none _ => true | _ => false
  | .brk => fun _ x => match x with | .Break _ => true | _ => false
  | .cnt => fun _ x => match x with | .Continue _ => true | _ => false
  | .pas => fun _ x => match x with | .Pass _ => true | .Expr (.Constant (.str _) _ _) _ => true | _ => false
  | .rse _ _ => fun _ _ => false
  | .frg _ => fun _ _ => false
def ckSs (ar : Nat → Nat) : Ss → SC → List Stmt → Bool
  | .nil => fun _ xs => xs.isEmpty
  | .cons s ss => fun S xs => if isFrg s then ckSs ar ss S xs else match xs with | x :: xs => ckS ar s S x && ckSs ar ss S xs | [] => false
end
/-- the guard of a def's body -/
structure AmbS (XR : XRel) (G : Env) (X : Cx) (S : SC) (W : WX) (ar : Nat → Nat) : Prop extends Amb XR G X S W ar where
  passes : PassesOwn (model X.prog X.w) X.A X.env X.xe
  fun_ : X.env.scope.kind = .function
section
variable {XR : XRel} {G : Env} {ar : Nat → Nat} {X : Cx} {S : SC} {W : WX}
theorem AmbS.gs (gd : AmbS XR G X S W ar) : Gs XR G X S W := { gd.toGd with passes := gd.passes, fun_ := gd.fun_ }
theorem comp_inv {own : List Nat} {t : Tg} {sk : SK} {es : Es} {cond elt : E} {y : Expr} {gens : List Comprehension} {scope : Scope} {pos : Pos} (h : ck ar (.comp own t sk es cond elt) S (.ListComp y gens scope pos) = true) (gd : Amb XR G X S W ar) :
    ∃ tg iter ifs, gens = [⟨tg, iter, ifs, 0⟩] ∧ CompOk XR G X S t cond elt own tg y ifs scope ∧ ckSrc S sk es iter = true ∧ Oks XR G X W es (srcEs sk iter) := by
  simp only [ck] at h
  split at h
  · rename_i y tg iter ifs scope pos e
    cases e
    simp only [Bool.and_eq_true] at h
    obtain ⟨⟨⟨⟨⟨⟨h1, h2⟩, h3⟩, h4⟩, h5⟩, h6⟩, h7⟩ := h
    have ho := cks_ok es h5 gd
    have h7' : ∀ (s : Shared) (H : Hp) (C : Addr) (cl : List (Str × Addr)) (fp : List Addr), PTs (X.blk s H scope (compEnvC scope cl C X.env) fp) ifs (tT X.K XR G WN cond) := by
      intro s H C cl fp
      split at h7
      · split at h7
        · exact pts_none
        · cases h7
      · exact pts_one (ck_ok cond h7 (gd.blk s H scope C cl fp)).pt
      · cases h7
    refine ⟨tg, iter, ifs, rfl, ⟨?_, fun s H C cl fp => pg_ok (gd.blk s H scope C cl fp).toGd h2, ?_, h7', fun s H C cl fp => (ck_ok elt h6 (gd.blk s H scope C cl fp)).pe⟩, h4, ho⟩
    · have := blk_ok h1
      rw [gd.N, gd.sc]; exact this
    · intro i hi
      rw [named_ix]
      have := List.all_eq_true.mp h3 i hi
      simpa using this
  · cases h
theorem asg_fact {own : Bool} {i : Nat} {e : E} {y : Str} {py pos : Pos} {v : Expr} (gd : AmbS XR G X S W ar) (h1 : S.N[i]? = some y) (h2 : S.sto y = true) (h3 : ck ar e S v = true) (h4 : notComp v = true ∨ ckCm S e y py v = true) : PS X (.Assign [.Name y py] v pos) (tS X.K XR G W (.asg own i e)) := by
  rcases h4 with h4 | h4
  · exact ps_as gd.gs h1 h2 (ck_ok e h3 gd.toAmb).pe h4
  · unfold ckCm at h4
    split at h4
    · split at h4
      · rename_i sk es cond elt _ _ _ _
        simp only [Bool.and_eq_true, Bool.not_eq_true', decide_eq_false_iff_not, lcl, decide_eq_true_eq] at h4
        obtain ⟨⟨⟨k1, k2⟩, k3⟩, k4⟩ := h4
        obtain ⟨tg, iter, ifs, rfl, c, hs, ho⟩ := comp_inv h3 gd.toAmb
        obtain ⟨hi, hn⟩ := src_fact (tg := tg) gd.toAmb k1 hs ho
        have := ps_comp (spos := pos) gd.toGd h1 k2 k3 k4 hi c.ok gd.fun_ c.hg c.htg c.ht c.he hn
        rw [named_ix] at this
        exact PS_weak this fun D σ H q => asg_ok q
      · cases h4
    · cases h4
theorem unp_sw {tg v : Expr} {l : Nat} {env : PySem.Env} (h : notComp v = true) (h2 : notTup v = true) : swapsWithSole [tg] v l env = pure false ∧ swappedStores [tg] v env = pure none := by
  constructor
  · cases v <;> first | rfl | (exact absurd h (by simp [notComp]))
  · cases v <;> first | (cases tg <;> rfl) | (simp [notTup] at h2; done)
theorem par_fact {l : List (Bool × Nat)} {es : Es} {ts vs : List Expr} {k1 k2} {p1 p2 pos : Pos} (gd : AmbS XR G X S W ar) (h : ckPar S l ts vs = true) (ho : Oks XR G X W es vs) : PS X (.Assign [.Tuple ts k1 p1] (.Tuple vs k2 p2) pos) (tS X.K XR G W (.par l es)) := by
  unfold ckPar at h
  split at h
  · split at h
    · split at h
      · simp only [Bool.and_eq_true, decide_eq_true_eq, Bool.not_eq_true', lcl] at h
        obtain ⟨⟨⟨⟨⟨⟨⟨h1, h2⟩, h3⟩, h4⟩, h5⟩, h6⟩, h7⟩, h8⟩ := h
        exact ps_par2 gd.gs h1 h2 h3 h4 h5 h6 h7 h8 ho.ph
      · cases h
    · cases h
  · split at h
    · split at h
      · simp only [Bool.and_eq_true, decide_eq_true_eq, Bool.not_eq_true', lcl] at h
        obtain ⟨⟨⟨⟨⟨⟨⟨⟨⟨⟨⟨⟨⟨⟨h1, h2⟩, h3⟩, h4⟩, h5⟩, h6⟩, h7⟩, h8⟩, h9⟩, h10⟩, h11⟩, h12⟩, h13⟩, h14⟩, h15⟩ := h
        exact ps_par3' gd.gs h1 h2 h3 h4 h5 h6 h7 h8 h9 h10 h11 h12 h13 h14 h15 ho.ph
      · cases h
    · cases h
  · cases h
mutual
theorem ckS_ok : ∀ (s : AW.S) {x : Stmt}, ckS ar s S x = true → AmbS XR G X S W ar → PS X x (tS X.K XR G W s)
  | .asg own i e, x, h, gd => by
    simp only [ckS] at h
    split at h
    · simp only [Bool.and_eq_true, decide_eq_true_eq, Bool.or_eq_true] at h
      exact asg_fact gd h.1.1.1 h.1.1.2 h.1.2 h.2
    · cases h
  | .unp l e, x, h, gd => by
    simp only [ckS] at h
    split at h
    · simp only [Bool.and_eq_true] at h
      obtain ⟨a, b⟩ := unp_sw h.1.2 h.2
      exact ps_un gd.gs h.1.1.1 (ck_ok e h.1.1.2 gd.toAmb).pe a b
    · cases h
  | .par l es, x, h, gd => by
    simp only [ckS] at h
    split at h
    · simp only [Bool.and_eq_true] at h
      exact par_fact gd h.1 (cks_ok es h.2 gd.toAmb)
    · cases h
  | .aug o i e, x, h, gd => by
    simp only [ckS] at h
    split at h
    · simp only [Bool.and_eq_true, decide_eq_true_eq] at h
      obtain ⟨⟨⟨⟨rfl, h2⟩, h3⟩, h4⟩, h5⟩ := h
      exact ps_au gd.gs h2 h3 h4 (ck_ok e h5 gd.toAmb).pe
    · cases h
  | .sto i k e, x, h, gd => by
    simp only [ckS] at h
    split at h
    · simp only [Bool.and_eq_true] at h
      obtain ⟨⟨⟨⟨h1, h2⟩, h3⟩, h4⟩, h5⟩ := h
      obtain ⟨n1, n2, n3, n4⟩ := nm_ok h1
      exact ps_sto gd.gs n1 n2 n3 n4 (ck_ok k h2 gd.toAmb).pe (ck_ok e h3 gd.toAmb).pe h4 h5
    · cases h
  | .aus o i k e, x, h, gd => by
    simp only [ckS] at h
    split at h
    · simp only [Bool.and_eq_true, decide_eq_true_eq] at h
      obtain ⟨⟨⟨⟨⟨rfl, h0⟩, h1⟩, h2⟩, h3⟩, h4⟩ := h
      obtain ⟨n1, n2, n3, n4⟩ := nm_ok h1
      exact ps_aus gd.gs h0 n1 n2 n3 n4 (ck_ok k h2 gd.toAmb).pe (ck_ok e h3 gd.toAmb).pe h4
    · cases h
  | .ex e, x, h, gd => by
    simp only [ckS] at h
    split at h
    · simp only [Bool.and_eq_true] at h
      exact ps_drop (ck_ok e h.1 gd.toAmb).pe h.2
    · cases h
  | .ifs c a b, x, h, gd => by
    simp only [ckS] at h
    split at h
    · simp only [Bool.and_eq_true] at h
      exact ps_iff (ck_ok c h.1.1 gd.toAmb).pt (ckSs_ok a h.1.2 gd) (ckSs_ok b h.2 gd)
    · cases h
  | .fr t sk es b, x, h, gd => by
    simp only [ckS] at h
    split at h
    · simp only [Bool.and_eq_true, Bool.not_eq_true', decide_eq_false_iff_not] at h
      obtain ⟨⟨⟨⟨h1, h2⟩, h3⟩, h4⟩, h5⟩ := h
      obtain ⟨hi, hn⟩ := src_fact (W := W) gd.toAmb h2 h3 (cks_ok es h4 gd.toAmb)
      exact ps_fr gd.gs h1 hi (ckSs_ok b h5 gd) hn
    · cases h
  | .wh c b, x, h, gd => by
    simp only [ckS] at h
    split at h
    · simp only [Bool.and_eq_true] at h
      exact ps_wh gd.gs (ck_ok c h.1 gd.toAmb).pt (ckSs_ok b h.2 gd)
    · cases h
  | .ret e, x, h, gd => by
    simp only [ckS] at h
    split at h
    · exact ps_rt (ck_ok e h gd.toAmb).pe
    · cases h
  | .retN, x, h, gd => by
    simp only [ckS] at h
    split at h
    · exact ps_rtN
    · cases h
  | .brk, x, h, gd => by
    simp only [ckS] at h
    split at h
    · exact ps_brk
    · cases h
  | .cnt, x, h, gd => by
    simp only [ckS] at h
    split at h
    · exact ps_cnt
    · cases h
  | .pas, x, h, gd => by
    simp only [ckS] at h
    split at h
    · exact ps_pass'
    · exact PS_weak ps_doc fun D σ H ⟨m, e1, e2, rs, w⟩ => by
        subst e1 e2
        simp only [exS] at w
        exact w m rfl (.refl m) rs
    · cases h
  | .rse c es, x, h, gd => by simp [ckS] at h
  | .frg l, x, h, gd => by simp [ckS] at h
theorem ckSs_ok : ∀ (s : Ss) {x : List Stmt}, ckSs ar s S x = true → AmbS XR G X S W ar → PSs X x (tSs X.K XR G W s)
  | .nil, x, h, gd => by
    simp only [ckSs] at h
    cases x with
    | nil => exact pss_no
    | cons => simp at h
  | .cons s ss, x, h, gd => by
    simp only [ckSs] at h
    split at h
    · rename_i hf
      cases s <;> simp [isFrg] at hf
      exact pss_frg (ckSs_ok ss h gd)
    split at h
    · simp only [Bool.and_eq_true] at h
      exact pss_more (ckS_ok s h.1 gd) (ckSs_ok ss h.2 gd)
    · cases h
end
end
end AW

/-! P27: a def's body. -/
namespace AW
open PySem PySem.Spec L2
theorem out_get : ∀ {cs : List Cell} {g : Sg} {r : List Cell}, outCells g cs = some r → r.length = cs.length ∧ ∀ (j : Nat) (c : Cell), r[j]? = some c →
    (∃ d, c = .val d ∧ cs[j]? = some (.val d)) ∨ (∃ d h d', c = .own true d ∧ cs[j]? = some (.own h d') ∧ g[j]? = some (some (.own true d)))
  | [], g, r, h => by cases h; exact ⟨rfl, fun j c h => by simp at h⟩
  | .val d :: cs, g, r, h => by
    simp only [outCells] at h
    cases h1 : outCells (g.drop 1) cs with
    | none => rw [h1] at h; cases h
    | some r1 =>
      rw [h1] at h; cases h
      obtain ⟨l, q⟩ := out_get h1
      refine ⟨by simp [l], fun j c hj => ?_⟩
      cases j with
      | zero => simp at hj; subst hj; exact .inl ⟨d, rfl, rfl⟩
      | succ j =>
        simp only [List.getElem?_cons_succ] at hj
        rcases q j c hj with ⟨d', e, e2⟩ | ⟨d1, h1, d2, e, e2, e3⟩
        · exact .inl ⟨d', e, e2⟩
        · refine .inr ⟨d1, h1, d2, e, e2, ?_⟩
          rw [List.getElem?_drop, Nat.add_comm] at e3
          exact e3
  | .own h0 d0 :: cs, g, r, h => by
    simp only [outCells] at h
    split at h
    · rename_i d tl
      cases h1 : outCells ((some (.own true d) :: tl).drop 1) cs with
      | none => rw [h1] at h; cases h
      | some r1 =>
        rw [h1] at h; cases h
        obtain ⟨l, q⟩ := out_get h1
        refine ⟨by simp [l], fun j c hj => ?_⟩
        cases j with
        | zero => simp at hj; subst hj; exact .inr ⟨d, h0, d0, rfl, rfl, rfl⟩
        | succ j =>
          simp only [List.getElem?_cons_succ] at hj
          rcases q j c hj with ⟨d', e, e2⟩ | ⟨d1, h1, d2, e, e2, e3⟩
          · exact .inl ⟨d', e, e2⟩
          · exact .inr ⟨d1, h1, d2, e, e2, e3⟩
    · cases h
section
variable {K : Fg} {XR : XRel}
/-- the facts at a body's end -/
structure Exit (K : Fg) (Av C : Zn) (H : Hp) (vs : List V) (cs : List Cell) (m : M) (r : List Cell) : Prop where
  rs : RS K ⟨Av, C, m.H, vs.map some, r.map some⟩
  st : Step ⟨Av, C, H, vs.map some, cs.map some⟩ ⟨Av, C, m.H, vs.map some, r.map some⟩
  sub : ∀ a, Av a → m.Av a
  home : ∀ a, C a → ∃ (j : Nat) (d : D), m.g[j]? = some (some (.own true d)) ∧ m.σ[j]? = some (some (.ref a))
theorem exit_ok {Av C : Zn} {H : Hp} {vs : List V} {cs : List Cell} {g0 : Sg} {σ0 : L2.St} {m : M} {r : List Cell} (hl : vs.length = cs.length) (rs0 : RS K ⟨Av, C, H, vs.map some, cs.map some⟩)
    (hC : ∀ a, C a → ∃ (j : Nat) (d : D), cs[j]? = some (.own true d) ∧ vs[j]? = some (.ref a)) (hh : ∀ (j : Nat) (h : Bool) (d : D), cs[j]? = some (.own h d) → h = true) (hσ : ∀ j, j < cs.length → σ0[j]? = (vs.map some)[j]?)
    (st : Step ⟨Av, C, H, σ0, g0⟩ m) (rs : RS K m) (ho : outCells m.g cs = some r) :
    Exit K Av C H vs cs m r ∧ ∀ Z : Zn, (∀ a, Z a → m.H a ≠ none) → (∀ a, Av a → Z a) → (∀ a, Z a → Av a ∨ H a = none) → (∀ (j : Nat) (d : D) (a : Addr), m.g[j]? = some (some (.own true d)) → m.σ[j]? = some (some (.ref a)) → OwnAt K Z m.H a d) →
      RS K ⟨Z, C, m.H, vs.map some, r.map some⟩ := by
  obtain ⟨lr, q⟩ := out_get ho
  have hown : ∀ (j : Nat) (d : D), r[j]? = some (.own true d) → ∃ h d' a, cs[j]? = some (.own h d') ∧ m.g[j]? = some (some (.own true d)) ∧ vs[j]? = some (.ref a) ∧ m.σ[j]? = some (some (.ref a)) ∧ C a ∧ m.C a ∧ OwnAt K m.Av m.H a d := by
    intro j d hj
    rcases q j _ hj with ⟨d', e, _⟩ | ⟨d1, h1, d2, e, e2, e3⟩
    · cases e
    · cases e
      obtain ⟨a, s1, c1, o1⟩ := rs.own j true d e3
      obtain ⟨_, es⟩ := st.home j d e3
      have hj' := lt_of_get e2
      rw [s1] at es
      have es : some (some (V.ref a)) = σ0[j]? := es
      rw [hσ j hj'] at es
      obtain ⟨a2, s2, c2, _⟩ := rs0.own j h1 d2 (get_map_some.mpr e2)
      have s2 : (vs.map some)[j]? = some (some (.ref a2)) := s2
      rw [← es] at s2
      cases s2
      exact ⟨h1, d2, a, e2, e3, get_map_some.mp es.symm, s1, c2, c1, o1⟩
  have hhome : ∀ a, C a → ∃ (j : Nat) (d : D), m.g[j]? = some (some (.own true d)) ∧ m.σ[j]? = some (some (.ref a)) := by
    intro a ca
    obtain ⟨j, d, e1, e2⟩ := hC a ca
    have hj : j < r.length := by rw [lr]; exact lt_of_get e1
    rcases q j r[j] (List.getElem?_eq_getElem hj) with ⟨d', _, e⟩ | ⟨d1, h1, d2, e, _, _⟩
    · rw [e1] at e; cases e
    · have hr : r[j]? = some (.own true d1) := by rw [List.getElem?_eq_getElem hj, e]
      obtain ⟨_, _, a', _, g1, v1, s1, _⟩ := hown j d1 hr
      rw [e2] at v1; cases v1
      exact ⟨j, d1, g1, s1⟩
  have sub : ∀ a, Av a → m.Av a := by
    intro a ha
    by_cases c : C a
    · obtain ⟨j, d, g1, s1⟩ := hhome a c
      obtain ⟨a', s2, c2, _⟩ := rs.own j true d g1
      rw [s1] at s2; cases s2
      exact rs.cav a c2
    · exact st.avkeep a ha c
  have main : ∀ Z : Zn, (∀ a, Z a → m.H a ≠ none) → (∀ a, Av a → Z a) → (∀ a, Z a → Av a ∨ H a = none) → (∀ (j : Nat) (d : D) (a : Addr), m.g[j]? = some (some (.own true d)) → m.σ[j]? = some (some (.ref a)) → OwnAt K Z m.H a d) →
      RS K ⟨Z, C, m.H, vs.map some, r.map some⟩ := by
    intro Z z1 z2 z3 z4
    refine ⟨by simp [lr, hl], z1, fun a c => z2 a (rs0.cav a c), fun j d hj => ?_, fun j h d hj => ?_, fun j k h d h' d' a h1 h2 s1 s2 => ?_⟩
    · have hj : r[j]? = some (.val d) := get_map_some.mp hj
      rcases q j _ hj with ⟨d', e, e2⟩ | ⟨d1, h1, d2, e, _⟩
      · cases e
        obtain ⟨v, s1, rep⟩ := rs0.val j d (get_map_some.mpr e2)
        refine ⟨v, s1, Rep.imp (.of fun a o ha na => ⟨st.keep a o ha fun c => na (rs0.cav a c), fun z => (z3 a z).elim na fun w => ?_⟩) _ _ rep⟩
        have ha : H a = some o := ha
        rw [w] at ha; cases ha
      · cases e
    · have hj : r[j]? = some (.own h d) := get_map_some.mp hj
      have hh : h = true := by
        rcases q j _ hj with ⟨d', e, e2⟩ | ⟨d1, h1, d2, e, _⟩
        · cases e
        · cases e; rfl
      subst hh
      obtain ⟨_, _, a, _, g1, v1, s1, c0, _, _⟩ := hown j d hj
      exact ⟨a, get_map_some.mpr v1, c0, z4 j d a g1 s1⟩
    · have f : ∀ {j : Nat} {h : Bool} {d : D}, (r.map some)[j]? = some (some (.own h d)) → (vs.map some)[j]? = some (some (.ref a)) → ∃ d, m.g[j]? = some (some (.own true d)) ∧ m.σ[j]? = some (some (.ref a)) := by
        intro j h d hj hv
        have hj : r[j]? = some (.own h d) := get_map_some.mp hj
        rcases q j _ hj with ⟨d', e, e2⟩ | ⟨d1, h1, d2, e, _⟩
        · cases e
        · cases e
          obtain ⟨_, _, a', _, g1, v1, s1, _⟩ := hown j d hj
          rw [get_map_some.mp hv] at v1; cases v1
          exact ⟨d, g1, s1⟩
      obtain ⟨d1, g1, q1⟩ := f h1 s1
      obtain ⟨d2, g2, q2⟩ := f h2 s2
      exact rs.inj j k true d1 true d2 a g1 g2 q1 q2
  refine ⟨⟨main Av (fun a ha => st.there a (rs0.av a ha)) (fun a h => h) (fun a h => .inl h) fun j d a g1 s1 => ?_, ⟨st.keep, st.there, fun a c => .inl c, fun a c => .inl c, fun a h _ => h, fun j d hj => ?_⟩, sub, hhome⟩, main⟩
  · obtain ⟨a', s2, _, o⟩ := rs.own j true d g1
    rw [s1] at s2; cases s2
    exact o.imp rfl (at_sub sub)
  · have hj : r[j]? = some (.own true d) := get_map_some.mp hj
    rcases q j _ hj with ⟨d', e, e2⟩ | ⟨d1, h1, d2, e, e2, _⟩
    · cases e
    · cases e
      have := hh j h1 d2 e2
      subst this
      exact ⟨⟨d2, get_map_some.mpr e2⟩, rfl⟩
theorem body_ok {G : Env} {F : Fn} {N : List Str} {n : Nat} {vs : List V} {H : Hp} {Q : VK} {E : XK} (hXR : ∀ Av Av' H c p cls dx, XR Av H c p cls dx → XR Av' H c p cls dx) (hsp : spF K XR (fnRun G F) n vs H Q E) (hN : N.length = F.slots) :
    tSs K XR G (fun cls d _ H => E cls d H) F.body { nx := fun _ H' => Q .non H', rt := Q } (start N vs) H := by
  obtain ⟨Av, C, cs, hn, rs0, hC, hh, post⟩ := hsp
  unfold fnRun at post
  by_cases hc : cs.length = F.modes.length ∧ cs.length ≤ F.slots
  · rw [if_pos hc] at post
    have hl : vs.length = cs.length := by have := rs0.len; simpa using this
    have hσ : ∀ j, j < cs.length → (start N vs)[j]? = (vs.map some)[j]? := fun j hj => by
      unfold L2.start
      rw [List.getElem?_append_left (by simpa [hl] using hj)]
    have hg : ∀ (j : Nat) (c : Cell), (cs.map some ++ List.replicate (F.slots - cs.length) none)[j]? = some (some c) → (cs.map some)[j]? = some (some c) ∧ (start N vs)[j]? = (vs.map some)[j]? := fun j c h => by
      by_cases hj : j < cs.length
      · rw [List.getElem?_append_left (by simpa using hj)] at h
        exact ⟨h, hσ j hj⟩
      · rw [List.getElem?_append_right (by simpa using hj), List.getElem?_replicate] at h
        split at h <;> simp at h
    have rs1 : RS K ⟨Av, C, H, start N vs, cs.map some ++ List.replicate (F.slots - cs.length) none⟩ := RS.sub (m := ⟨Av, C, H, vs.map some, cs.map some⟩) rs0 (by unfold L2.start; simp [hl, hN]) hg
    refine ⟨_, rfl, rfl, rs1, ?_⟩
    have ex : ∀ {m : M} {r : List Cell}, Step ⟨Av, C, H, start N vs, cs.map some ++ List.replicate (F.slots - cs.length) none⟩ m → RS K m → outCells m.g cs = some r → _ := fun {m r} st rs ho => exit_ok hl rs0 hC hh hσ st rs ho
    show WpO K XR _ _ (exSs G F.body (cs.map some ++ List.replicate (F.slots - cs.length) none)) _
    cases hr : exSs G F.body (cs.map some ++ List.replicate (F.slots - cs.length) none) with
    | bk g => rw [hr] at post; exact post.elim
    | ct g => rw [hr] at post; exact post.elim
    | stuck => rw [hr] at post; exact post.elim
    | exc c p g =>
      rw [hr] at post
      intro m cls dx e st rs x
      exact post cls dx m.H st.keep st.there (hXR _ _ _ _ _ _ _ x)
    | nx g =>
      rw [hr] at post
      intro m e st rs
      subst e
      simp only at post
      cases ho : outCells m.g cs with
      | none => rw [ho] at post; exact post.elim
      | some r =>
        rw [ho] at post
        obtain ⟨x, _⟩ := ex st rs ho
        exact post .non m.H x.st x.rs rfl (fun i z => by cases z)
    | rt rv g =>
      rw [hr] at post
      intro m v e st rs rr
      subst e
      simp only at post
      cases hv : outRV m.g rv with
      | none => rw [hv] at post; exact post.elim
      | some v' =>
        cases ho : outCells m.g cs with
        | none => rw [hv, ho] at post; exact post.elim
        | some r =>
          rw [hv, ho] at post
          obtain ⟨x, main⟩ := ex st rs ho
          have post : ∀ v H', Step ⟨Av, C, H, vs.map some, cs.map some⟩ ⟨Av, C, H', vs.map some, r.map some⟩ → RS K ⟨Av, C, H', vs.map some, r.map some⟩ → RepR K ⟨Av, C, H, vs.map some, cs.map some⟩ ⟨Av, C, H', vs.map some, r.map some⟩ v' v → (∀ i, v' ≠ .slot i) → Q v H' := post
          have newC : ∀ {a : Addr} {d : D}, H a = none → m.H a ≠ none → (∀ (j : Nat) (d : D) (b : Addr), m.g[j]? = some (some (.own true d)) → m.σ[j]? = some (some (.ref b)) → OwnAt K (zadd Av a) m.H b d) → OwnAt K (zadd Av a) m.H a d →
              RepR K ⟨Av, C, H, vs.map some, cs.map some⟩ ⟨Av, C, m.H, vs.map some, r.map some⟩ (.new d) (.ref a) := fun {a d} n1 n2 n3 n4 =>
            ⟨a, rfl, n1, fun z => rs0.av a z n1, main (zadd Av a) (fun b z => z.elim (fun q => st.there b (rs0.av b q)) fun e => by rw [e]; exact n2) (fun b z => .inl z) (fun b z => z.elim .inl fun e => .inr (by rw [e]; exact n1)) n3, n4⟩
          cases rv with
          | d d =>
            cases hv
            exact post v m.H x.st x.rs (Rep.imp (at_sub x.sub) _ _ rr) (fun i z => by cases z)
          | new d =>
            cases hv
            obtain ⟨a, rfl, n, na, rsz, o⟩ := rr
            have sub : ∀ b, zadd Av a b → zadd m.Av a b := fun b z => z.elim (fun q => .inl (x.sub b q)) .inr
            refine post (.ref a) m.H x.st x.rs (newC n o.some (fun j d b g1 s1 => ?_) (o.imp rfl (at_sub sub))) (fun i z => by cases z)
            obtain ⟨b', s2, _, o2⟩ := rsz.own j true d g1
            have s2 : m.σ[j]? = _ := s2
            rw [s1] at s2; cases s2
            exact o2.imp rfl (at_sub sub)
          | slot i =>
            have rr : m.σ[i]? = some (some v) := rr
            simp only [outRV] at hv
            split at hv
            · rename_i d hgi
              cases hv
              obtain ⟨a, s2, ca, o⟩ := rs.own i false d hgi
              rw [rr] at s2; cases s2
              have n : H a = none := by
                refine (st.cgrow a ca).elim (fun c => ?_) id
                obtain ⟨j, d', g1, s1⟩ := x.home a c
                have := rs.inj i j _ _ _ _ a hgi g1 rr s1
                subst this
                rw [hgi] at g1; cases g1
              have sub : ∀ b, zadd Av a b → m.Av b := fun b z => z.elim (x.sub b) fun e => by rw [e]; exact rs.cav a ca
              refine post (.ref a) m.H x.st x.rs (newC n o.some (fun j d b g1 s1 => ?_) (o.imp rfl (at_sub sub))) (fun i z => by cases z)
              obtain ⟨b', s2, _, o2⟩ := rs.own j true d g1
              rw [s1] at s2; cases s2
              exact o2.imp rfl (at_sub sub)
            · rename_i d hgi
              cases hv
              obtain ⟨v2, s2, rep⟩ := rs.val i d hgi
              rw [rr] at s2; cases s2
              exact post v m.H x.st x.rs (Rep.imp (at_sub x.sub) _ _ rep) (fun i z => by cases z)
            · cases hv
  · rw [if_neg hc] at post; exact post.elim
end
end AW

/-! P28: a program's defs. -/
namespace AW
open PySem PySem.Spec L2
structure FI where
  name : Str
  st : Stmt
  ps : List Str
  N : List Str
def scOf (infos : List FI) (gls bns : List Str) (fi : FI) : SC where
  N := fi.N
  sc := defScope fi.st
  sto := fun x => decide ((defScope fi.st).names.lookup x = some .local) || decide ((defScope fi.st).names.lookup x = some .cell)
  fn := fun x => infos.findIdx? fun f => f.name == x
  gl := fun x => gls.findIdx? fun y => y == x
  bn := fun x => bns.contains x
def arOf (infos : List FI) (f : Nat) : Nat := match infos[f]? with
  | some fi => fi.ps.length
  | none => 0
def scopeB (N ps : List Str) (sc : Scope) : Bool :=
  decide (sc.kind = .function) && !sc.isCoroutine && !sc.isGenerator && decide N.Nodup && decide (N.take ps.length = ps) && ps.all (fun x => decide (sc.names.lookup x = some .local) || decide (sc.names.lookup x = some .cell)) && sc.names.all (fun y => !decide (y.2 = .free))
theorem scope_ok {N ps : List Str} {sc : Scope} (h : scopeB N ps sc = true) : FnScope N ps sc := by
  unfold scopeB at h
  simp only [Bool.and_eq_true, Bool.not_eq_true', decide_eq_true_eq, List.all_eq_true, Bool.or_eq_true, decide_eq_false_iff_not] at h
  obtain ⟨⟨⟨⟨⟨⟨h1, h2⟩, h3⟩, h4⟩, h5⟩, h6⟩, h7⟩ := h
  exact ⟨h1, h2, h3, h4, h5, h6, h7⟩
def ckFn (infos : List FI) (gls bns : List Str) (fi : FI) (F : Fn) : Bool :=
  scopeB fi.N fi.ps (defScope fi.st) && decide (fi.N.length = F.slots) && ckSs (arOf infos) F.body (scOf infos gls bns fi) (defBody fi.st)
theorem findIdx_get {α : Type} {p : α → Bool} : ∀ {l : List α} {i : Nat}, l.findIdx? p = some i → ∃ x, l[i]? = some x ∧ p x = true
  | [], i, h => by simp at h
  | x :: l, i, h => by
    rw [List.findIdx?_cons] at h
    split at h
    · cases h; exact ⟨x, rfl, by assumption⟩
    · rw [Option.map_eq_some_iff] at h
      obtain ⟨j, e, rfl⟩ := h
      obtain ⟨y, e1, e2⟩ := findIdx_get e
      exact ⟨y, e1, e2⟩
section
variable {P : Program} {w : World} {K : Fg} {mg : Str → Option Value} {base : Heap} {XR : XRel} {infos : List FI} {gls bns : List Str} {T : List Fn} {glob : Nat → Option D} {fuel : Nat}
theorem table (hXR : ∀ Av Av' H c p cls dx, XR Av H c p cls dx → XR Av' H c p cls dx)
    (hck : ∀ (i : Nat) (fi : FI), infos[i]? = some fi → ∃ F, T[i]? = some F ∧ ckFn infos gls bns fi F = true)
    (funs : ∀ (i : Nat) (fi : FI), infos[i]? = some fi → ∃ (f : Addr) (fd : FuncData), mg fi.name = some (.ref f) ∧ Fun K fi.name fi.name fi.st f fd ∧ Binds K fd fi.ps [])
    (hgl : ∀ (x : Str) (i : Nat), gls.findIdx? (fun y => y == x) = some i → ∃ (u : Value) (v : V) (d : D), mg x = some u ∧ RelV v u ∧ glob i = some d ∧ ∀ Av H, Rep K Av H d v)
    (hbn : ∀ x, bns.contains x = true → mg x = none) :
    ∀ (k i : Nat) (fi : FI) (f : Addr) (fd : FuncData), infos[i]? = some fi → Fun K fi.name fi.name fi.st f fd → FnOk P w K mg base (L2.CX P w) k f fd fi.ps (spF K XR (run T glob fuel k i) fi.ps.length) := by
  intro k
  induction k with
  | zero =>
    intro i fi f fd hi F
    have no : ∀ vs H Q E, ¬ spF K XR (run T glob fuel 0 i) fi.ps.length vs H Q E := fun vs H Q E ⟨_, _, _, _, _, _, _, p⟩ => p
    exact ⟨fun vs H Q E q => absurd q (no _ _ _ _), fun A outer s H args us vs Q E _ _ _ _ q => absurd q (no _ _ _ _)⟩
  | succ k ih =>
    intro i fi f fd hi F
    obtain ⟨Fb, hT, hc⟩ := hck i fi hi
    simp only [ckFn, Bool.and_eq_true, decide_eq_true_eq] at hc
    obtain ⟨⟨c1, c2⟩, c3⟩ := hc
    have S := scope_ok c1
    have er : run T glob fuel (k + 1) i = fnRun ⟨run T glob fuel k, fun g => match T[g]? with | some F => F.modes | none => [], glob, fuel⟩ Fb := by
      funext cs
      show (match T[i]? with | some F => _ | none => FR.stuck) = _
      rw [hT] <;> rfl
    rw [er]
    refine F.okX S (fun vs H Q E ⟨_, _, _, h, _⟩ => h) fun cdv A outer s H vs Q E hr hsp => ?_
    refine ⟨_, ckSs_ok (XR := XR) (G := ⟨run T glob fuel k, fun g => match T[g]? with | some F => F.modes | none => [], glob, fuel⟩) (W := fun cls d _ H => E cls d H) Fb.body c3 ?_, body_ok hXR hsp c2⟩
    exact
      { N := rfl, nd := S.nd, sc := rfl, calm := rfl, room := hr.mono (Nat.zero_le k), takes := takes_of rfl rfl rfl rfl
        sto := fun x hx => by
          have hx : (decide ((defScope fi.st).names.lookup x = some .local) || decide ((defScope fi.st).names.lookup x = some .cell)) = true := hx
          rw [Bool.or_eq_true, decide_eq_true_eq, decide_eq_true_eq] at hx
          exact ⟨hx, .inl rfl⟩
        gl := hgl
        bn := hbn
        calls := fun x j hj => by
          obtain ⟨fj, e1, e2⟩ := findIdx_get hj
          have e2 : fj.name = x := by simpa using e2
          subst e2
          obtain ⟨fa, fd', m1, F1, B1⟩ := funs j fj e1
          exact ⟨k, fa, fd', fj.ps, ih j fj fa fd' e1 F1, hr, m1, F1.kp, B1, by simp [arOf, e1]⟩
        passes := passes_of rfl
        fun_ := S.kind }
end
end AW

/-! P29: from the facts of the heap to the law. -/
namespace AW
open PySem PySem.Spec L2
abbrev XR0 : XRel := fun _ _ _ _ _ _ => False
theorem xr0 : ∀ Av Av' H c p cls dx, XR0 Av H c p cls dx → XR0 Av' H c p cls dx := fun _ _ _ _ _ _ _ h => h
theorem hck_of {infos : List FI} {gls bns : List Str} {T : List Fn} (h : (infos.zip T).all (fun p => ckFn infos gls bns p.1 p.2) = true) (hl : infos.length = T.length) :
    ∀ (i : Nat) (fi : FI), infos[i]? = some fi → ∃ F, T[i]? = some F ∧ ckFn infos gls bns fi F = true := fun i fi hi => by
  have hi2 := lt_of_get hi
  have ht : i < T.length := by omega
  refine ⟨T[i], List.getElem?_eq_getElem ht, ?_⟩
  refine List.all_eq_true.mp h (fi, T[i]) (List.mem_of_getElem? (i := i) ?_)
  rw [List.getElem?_zip_eq_some]
  exact ⟨hi, List.getElem?_eq_getElem ht⟩
theorem gl_of {K : Fg} {mg : Str → Option Value} {glob : Nat → Option D} {gls : List Str} (h : ∀ (i : Nat) (y : Str), gls[i]? = some y → ∃ (u : Value) (v : V) (d : D), mg y = some u ∧ RelV v u ∧ glob i = some d ∧ ∀ Av H, Rep K Av H d v) :
    ∀ (x : Str) (i : Nat), gls.findIdx? (fun y => y == x) = some i → ∃ (u : Value) (v : V) (d : D), mg x = some u ∧ RelV v u ∧ glob i = some d ∧ ∀ Av H, Rep K Av H d v := fun x i hi => by
  obtain ⟨y, e1, e2⟩ := findIdx_get hi
  have e2 : y = x := by simpa using e2
  subst e2
  exact h i y e1
theorem bn_of {mg : Str → Option Value} {bns : List Str} (h : ∀ y ∈ bns, mg y = none) : ∀ x, bns.contains x = true → mg x = none := fun x hx => h x (by simpa using hx)
/-- the script, given to the law -/
theorem law_sp {K : Fg} {H : Hp} {a : Addr} {ns : List Int} {phi : List Cell → FR} {E : XK} (hS : SqL K H a (ns.map V.int)) (h : ∃ outs, phi [.val (.cst (ns.map D.int))] = .ok (.d (.bl true)) outs) : spF K XR0 phi 1 [.ref a] H (fun v _ => v = .bl true) E := by
  obtain ⟨outs, h⟩ := h
  refine ⟨fun _ => False, fun _ => False, [.val (.cst (ns.map D.int))], rfl, ⟨rfl, fun a h => h.elim, fun a h => h, fun i d hi => ?_, fun i b d hi => ?_, fun i j b d b' d' a hi => ?_⟩, fun a h => h.elim, fun j b d hj => ?_, ?_⟩
  · cases i with
    | zero =>
      cases hi
      have ri : ∀ ns : List Int, Reps K (fun _ => False) H (ns.map D.int) (ns.map V.int) := fun ns => by
        induction ns with
        | nil => rfl
        | cons n ns ih => exact Reps.cons rfl ih
      refine ⟨.ref a, rfl, a, _, rfl, ?_, ri ns⟩
      rcases hS with hS | ⟨o, its, n, hk, hc, hd, hs, hz, r⟩
      · exact .inl ⟨hS, fun z => z⟩
      · exact .inr ⟨o, its, n, hk, hc, hd, hs, hz, r⟩
    | succ i => simp at hi
  · cases i with
    | zero => cases hi
    | succ i => simp at hi
  · cases i with
    | zero => cases hi
    | succ i => simp at hi
  · cases j with
    | zero => cases hj
    | succ i => simp at hj
  · rw [h]
    intro v H' _ _ r _
    exact r
theorem no_cx {P : Program} {w : World} {out : List PySem.Env} {H : Hp} {s : Shared} {e : Value} {s' : Shared} (h : L2.CX P w out H s (fun _ _ _ => False) e s') : False := by
  obtain ⟨_, _, _, _, _, _, _, _, _, _, _, _, z⟩ := h
  exact z.elim
end AW

/-! E1: the evaluator's equations, for symbolic evaluation by simp. -/
namespace AW
/-! ### continuations -/
def lk1 {α : Type} (σ : Sg) (x : RV) (z : α) (f : D → α) : α := match look σ x with | some d => f d | none => z
def lkS {α : Type} (c : Option (Option Cell)) (z : α) (f : D → α) : α := match c with
  | some (some (.own _ d)) => f d
  | some (some (.val d)) => f d
  | _ => z
def lks {α : Type} (σ : Sg) : List RV → α → (List D → α) → α
  | [], _, f => f []
  | r :: rs, z, f => lk1 σ r z fun d => lks σ rs z fun ds => f (d :: ds)
def fz1 {α : Type} (σ : Sg) (x : RV) (z : α) (f : D → Sg → α) : α := match frz σ x with | some (d, σ') => f d σ' | none => z
def fzS {α : Type} (σ : Sg) (i : Nat) (c : Option (Option Cell)) (z : α) (f : D → Sg → α) : α := match c with
  | some (some (.own false d)) => f d (σ.set i (some (.val d)))
  | some (some (.val d)) => f d σ
  | _ => z
def fzs {α : Type} (σ : Sg) : List RV → α → (List D → Sg → α) → α
  | [], _, f => f [] σ
  | r :: rs, z, f => fz1 σ r z fun d σ' => fzs σ' rs z fun ds σ'' => f (d :: ds) σ''
def opt {α β : Type} (o : Option β) (z : α) (f : β → α) : α := match o with | some b => f b | none => z
def cnd {α : Type} (o : Option Bool) (z x y : α) : α := match o with | some true => x | some false => y | none => z
/-- the store stands outside what follows: nothing is evaluated ahead of its turn -/
def cndS {α : Type} (o : Option Bool) (σ : Sg) (z : α) (x y : Sg → α) : α := match o with | some true => x σ | some false => y σ | none => z
def optS {α β : Type} (o : Option β) (σ : Sg) (z : α) (f : Sg → β → α) : α := match o with | some b => f σ b | none => z
def gOwnS {α : Type} (c : Option (Option Cell)) (σ : Sg) (z : α) (f : Sg → Bool → D → α) : α := match c with | some (some (.own h d)) => f σ h d | _ => z
def gValS {α : Type} (c : Option (Option Cell)) (σ : Sg) (z : α) (f : Sg → D → α) : α := match c with | some (some (.val d)) => f σ d | _ => z
def isDS {α : Type} (r : RV) (σ : Sg) (z : α) (f : Sg → D → α) : α := match r with | .d d => f σ d | _ => z
def lk1S {α : Type} (σ : Sg) (x : RV) (z : α) (f : Sg → D → α) : α := match look σ x with | some d => f σ d | none => z
def lkSS {α : Type} (c : Option (Option Cell)) (σ : Sg) (z : α) (f : Sg → D → α) : α := match c with
  | some (some (.own _ d)) => f σ d
  | some (some (.val d)) => f σ d
  | _ => z
def rdV (σ : Sg) (i : Nat) : Option (Option Cell) → R RV
  | some (some (.val d)) => .ok (.d d) σ
  | some (some (.own _ _)) => .ok (.slot i) σ
  | _ => .stuck
def isD {α : Type} (r : RV) (z : α) (f : D → α) : α := match r with | .d d => f d | _ => z
def gOwn {α : Type} (c : Option (Option Cell)) (z : α) (f : Bool → D → α) : α := match c with | some (some (.own h d)) => f h d | _ => z
def gVal {α : Type} (c : Option (Option Cell)) (z : α) (f : D → α) : α := match c with | some (some (.val d)) => f d | _ => z

theorem lk1_d {α : Type} (σ : Sg) (d : D) (z : α) (f : D → α) : lk1 σ (.d d) z f = f d := rfl
theorem lk1_new {α : Type} (σ : Sg) (d : D) (z : α) (f : D → α) : lk1 σ (.new d) z f = f d := rfl
theorem lk1_slot {α : Type} (σ : Sg) (i : Nat) (z : α) (f : D → α) : lk1 σ (.slot i) z f = lkS (σ[i]?) z f := by
  simp only [lk1, lkS, look]
  rcases σ[i]? with _ | (_ | (_ | _)) <;> rfl
theorem lkS_own {α : Type} (h : Bool) (d : D) (z : α) (f : D → α) : lkS (some (some (.own h d))) z f = f d := rfl
theorem lkS_val {α : Type} (d : D) (z : α) (f : D → α) : lkS (some (some (.val d))) z f = f d := rfl
theorem lks_nil {α : Type} (σ : Sg) (z : α) (f : List D → α) : lks σ [] z f = f [] := rfl
theorem lks_cons {α : Type} (σ : Sg) (r : RV) (rs : List RV) (z : α) (f : List D → α) : lks σ (r :: rs) z f = lk1 σ r z fun d => lks σ rs z fun ds => f (d :: ds) := rfl
theorem fz1_d {α : Type} (σ : Sg) (d : D) (z : α) (f : D → Sg → α) : fz1 σ (.d d) z f = f d σ := rfl
theorem fz1_new {α : Type} (σ : Sg) (d : D) (z : α) (f : D → Sg → α) : fz1 σ (.new d) z f = f d σ := rfl
theorem fz1_slot {α : Type} (σ : Sg) (i : Nat) (z : α) (f : D → Sg → α) : fz1 σ (.slot i) z f = fzS σ i (σ[i]?) z f := by
  simp only [fz1, fzS, frz]
  rcases σ[i]? with _ | (_ | (_ | ⟨_ | _, _⟩)) <;> rfl
theorem fzS_own {α : Type} (σ : Sg) (i : Nat) (d : D) (z : α) (f : D → Sg → α) : fzS σ i (some (some (.own false d))) z f = f d (σ.set i (some (.val d))) := rfl
theorem fzS_val {α : Type} (σ : Sg) (i : Nat) (d : D) (z : α) (f : D → Sg → α) : fzS σ i (some (some (.val d))) z f = f d σ := rfl
theorem fzs_nil {α : Type} (σ : Sg) (z : α) (f : List D → Sg → α) : fzs σ [] z f = f [] σ := rfl
theorem fzs_cons {α : Type} (σ : Sg) (r : RV) (rs : List RV) (z : α) (f : List D → Sg → α) : fzs σ (r :: rs) z f = fz1 σ r z fun d σ' => fzs σ' rs z fun ds σ'' => f (d :: ds) σ'' := rfl
theorem opt_some {α β : Type} (b : β) (z : α) (f : β → α) : opt (some b) z f = f b := rfl
theorem opt_none {α β : Type} (z : α) (f : β → α) : opt (none : Option β) z f = z := rfl
theorem cnd_some {α : Type} (b : Bool) (z x y : α) : cnd (some b) z x y = if b = true then x else y := by cases b <;> rfl
theorem cndS_some {α : Type} (b : Bool) (σ : Sg) (z : α) (x y : Sg → α) : cndS (some b) σ z x y = if b = true then x σ else y σ := by cases b <;> rfl
theorem optS_some {α β : Type} (b : β) (σ : Sg) (z : α) (f : Sg → β → α) : optS (some b) σ z f = f σ b := rfl
theorem gOwnS_own {α : Type} (h : Bool) (d : D) (σ : Sg) (z : α) (f : Sg → Bool → D → α) : gOwnS (some (some (.own h d))) σ z f = f σ h d := rfl
theorem gValS_val {α : Type} (d : D) (σ : Sg) (z : α) (f : Sg → D → α) : gValS (some (some (.val d))) σ z f = f σ d := rfl
theorem isDS_d {α : Type} (d : D) (σ : Sg) (z : α) (f : Sg → D → α) : isDS (.d d) σ z f = f σ d := rfl
theorem lk1S_d {α : Type} (σ : Sg) (d : D) (z : α) (f : Sg → D → α) : lk1S σ (.d d) z f = f σ d := rfl
theorem lk1S_new {α : Type} (σ : Sg) (d : D) (z : α) (f : Sg → D → α) : lk1S σ (.new d) z f = f σ d := rfl
theorem lk1S_slot {α : Type} (σ : Sg) (i : Nat) (z : α) (f : Sg → D → α) : lk1S σ (.slot i) z f = lkSS (σ[i]?) σ z f := by
  simp only [lk1S, lkSS, look]
  rcases σ[i]? with _ | (_ | (_ | _)) <;> rfl
theorem lkSS_own {α : Type} (h : Bool) (d : D) (σ : Sg) (z : α) (f : Sg → D → α) : lkSS (some (some (.own h d))) σ z f = f σ d := rfl
theorem lkSS_val {α : Type} (d : D) (σ : Sg) (z : α) (f : Sg → D → α) : lkSS (some (some (.val d))) σ z f = f σ d := rfl
theorem rdV_val (σ : Sg) (i : Nat) (d : D) : rdV σ i (some (some (.val d))) = .ok (.d d) σ := rfl
theorem rdV_own (σ : Sg) (i : Nat) (h : Bool) (d : D) : rdV σ i (some (some (.own h d))) = .ok (.slot i) σ := rfl
theorem isD_d {α : Type} (d : D) (z : α) (f : D → α) : isD (.d d) z f = f d := rfl
theorem gOwn_own {α : Type} (h : Bool) (d : D) (z : α) (f : Bool → D → α) : gOwn (some (some (.own h d))) z f = f h d := rfl
theorem gVal_val {α : Type} (d : D) (z : α) (f : D → α) : gVal (some (some (.val d))) z f = f d := rfl


/-! ### results -/
theorem bind_ok {α β : Type} (a : α) (σ : Sg) (f : α → Sg → R β) : (R.ok a σ).bind f = f a σ := rfl
theorem bind_stuck {α β : Type} (f : α → Sg → R β) : (R.stuck : R α).bind f = .stuck := rfl
theorem bind_exc {α β : Type} (c : Nat) (p : List D) (σ : Sg) (f : α → Sg → R β) : (R.exc c p σ : R α).bind f = .exc c p σ := rfl
theorem bind_ite {α β : Type} (c : Prop) [Decidable c] (x y : R α) (f : α → Sg → R β) : (if c then x else y).bind f = if c then x.bind f else y.bind f := by split <;> rfl
theorem toO_ok {α : Type} (a : α) (σ : Sg) (f : α → Sg → O) : (R.ok a σ).toO f = f a σ := rfl
theorem toO_stuck {α : Type} (f : α → Sg → O) : (R.stuck : R α).toO f = .stuck := rfl
theorem toO_exc {α : Type} (c : Nat) (p : List D) (σ : Sg) (f : α → Sg → O) : (R.exc c p σ : R α).toO f = .exc c p σ := rfl
theorem toO_ite {α : Type} (c : Prop) [Decidable c] (x y : R α) (f : α → Sg → O) : (if c then x else y).toO f = if c then x.toO f else y.toO f := by split <;> rfl
theorem obind_nx (σ : Sg) (f : Sg → O) : (O.nx σ).bind f = f σ := rfl
theorem obind_bk (σ : Sg) (f : Sg → O) : (O.bk σ).bind f = .bk σ := rfl
theorem obind_ct (σ : Sg) (f : Sg → O) : (O.ct σ).bind f = .ct σ := rfl
theorem obind_rt (r : RV) (σ : Sg) (f : Sg → O) : (O.rt r σ).bind f = .rt r σ := rfl
theorem obind_exc (c : Nat) (p : List D) (σ : Sg) (f : Sg → O) : (O.exc c p σ).bind f = .exc c p σ := rfl
theorem obind_stuck (f : Sg → O) : O.stuck.bind f = .stuck := rfl
theorem obind_ite (c : Prop) [Decidable c] (x y : O) (f : Sg → O) : (if c then x else y).bind f = if c then x.bind f else y.bind f := by split <;> rfl
theorem of_some {α : Type} (σ : Sg) (a : α) : R.of σ (some a) = .ok a σ := rfl
theorem of_ite {α : Type} (σ : Sg) (c : Prop) [Decidable c] (x y : Option α) : R.of σ (if c then x else y) = if c then R.of σ x else R.of σ y := by split <;> rfl
theorem oof_some (σ : Sg) : O.of (some σ) = .nx σ := rfl

/-! ### expressions -/
variable (G : Env) (σ : Sg)
theorem q_k (d : D) : ev G (.k d) σ = .ok (.d d) σ := rfl
theorem q_v (i : Nat) : ev G (.v i) σ = rdV σ i (σ[i]?) := by
  simp only [ev]; unfold rdV; split <;> simp_all
theorem q_g (i : Nat) : ev G (.g i) σ = R.of σ ((G.glob i).map RV.d) := by
  simp only [ev]; cases G.glob i <;> rfl
theorem q_bin (o : BOp) (a b : E) : ev G (.bin o a b) σ = (ev G a σ).bind fun x σ1 => (ev G b σ1).bind fun y σ2 => lk1 σ2 x .stuck fun dx => lk1 σ2 y .stuck fun dy => R.of σ2 (binD o dx dy) := by
  simp only [ev, lk1]; congr; funext x σ1; congr; funext y σ2; cases look σ2 x <;> cases look σ2 y <;> rfl
theorem q_cmp (o : COp) (a b : E) : ev G (.cmp o a b) σ = (ev G a σ).bind fun x σ1 => (ev G b σ1).bind fun y σ2 => lk1 σ2 x .stuck fun dx => lk1 σ2 y .stuck fun dy => R.of σ2 ((cmpD o dx dy).map fun c => .d (.bl c)) := by
  simp only [ev, lk1]; congr; funext x σ1; congr; funext y σ2; cases look σ2 x <;> cases look σ2 y <;> rfl
theorem q_chn (o o' : COp) (a b c : E) : ev G (.chn o o' a b c) σ = (ev G a σ).bind fun x σ1 => (ev G b σ1).bind fun y σ2 => lk1S σ2 x .stuck fun σ2 dx => lk1S σ2 y .stuck fun σ2 dy => cndS (cmpD o dx dy) σ2 .stuck
    (fun σ2 => (ev G c σ2).bind fun z σ3 => lk1 σ3 y .stuck fun dy' => lk1 σ3 z .stuck fun dz => R.of σ3 ((cmpD o' dy' dz).map fun c => .d (.bl c))) (fun σ2 => .ok (.d (.bl false)) σ2) := by
  simp only [ev, lk1, lk1S, cndS]; congr; funext x σ1; congr; funext y σ2
  cases look σ2 x with
  | none => rfl
  | some dx =>
    cases look σ2 y with
    | none => rfl
    | some dy =>
      simp only
      rcases cmpD o dx dy with _ | (_ | _) <;> simp only
      congr; funext z σ3; cases look σ3 y <;> cases look σ3 z <;> rfl
theorem q_isK (neg : Bool) (a : E) (c : D) : ev G (.isK neg a c) σ = (ev G a σ).bind fun x σ1 => isD x .stuck fun dx => R.of σ1 ((isKD neg c dx).map fun c => .d (.bl c)) := by
  simp only [ev, isD] <;> first | rfl | (congr; funext x σ1; cases x <;> rfl)
theorem q_and (a b : E) : ev G (.and a b) σ = (ev G a σ).bind fun x σ1 => isDS x σ1 .stuck fun σ1 dx => cndS (truth dx) σ1 .stuck (ev G b) (R.ok (.d dx)) := by
  simp only [ev, isDS, cndS] <;> first | rfl | (congr; funext x σ1; cases x <;> first | rfl | (simp only; rcases truth _ with _ | (_ | _) <;> rfl))
theorem q_or (a b : E) : ev G (.or a b) σ = (ev G a σ).bind fun x σ1 => isDS x σ1 .stuck fun σ1 dx => cndS (truth dx) σ1 .stuck (R.ok (.d dx)) (ev G b) := by
  simp only [ev, isDS, cndS] <;> first | rfl | (congr; funext x σ1; cases x <;> first | rfl | (simp only; rcases truth _ with _ | (_ | _) <;> rfl))
theorem q_not (a : E) : ev G (.not a) σ = (ev G a σ).bind fun x σ1 => lk1 σ1 x .stuck fun dx => R.of σ1 ((truth dx).map fun c => .d (.bl (!c))) := by
  simp only [ev, lk1] <;> first | rfl | (congr; funext x σ1; cases look σ1 x <;> rfl)
theorem q_neg (a : E) : ev G (.neg a) σ = (ev G a σ).bind fun x σ1 => isD x .stuck fun dx => match dx with | .int i => .ok (.d (.int (-i))) σ1 | _ => .stuck := by
  simp only [ev, isD]; congr; funext x σ1; cases x with
  | d d => cases d <;> rfl
  | new => rfl
  | slot => rfl
theorem q_ite (c a b : E) : ev G (.ite c a b) σ = (ev G c σ).bind fun x σ1 => lk1S σ1 x .stuck fun σ1 dx => cndS (truth dx) σ1 .stuck (ev G a) (ev G b) := by
  simp only [ev, lk1S, cndS] <;> rfl
theorem q_idx (a b : E) : ev G (.idx a b) σ = (ev G a σ).bind fun x σ1 => (ev G b σ1).bind fun y σ2 => lk1 σ2 x .stuck fun dx => lk1 σ2 y .stuck fun dy => R.of σ2 ((idxD dx dy).map fun d => .d d) := by
  simp only [ev, lk1]; congr; funext x σ1; congr; funext y σ2; cases look σ2 x <;> cases look σ2 y <;> rfl
theorem q_slc (a lo hi : E) : ev G (.slc a lo hi) σ = (ev G a σ).bind fun x σ1 => (ev G lo σ1).bind fun y σ2 => optS (partOf lo y) σ2 .stuck fun σ2 l => (ev G hi σ2).bind fun z σ3 => lk1 σ3 x .stuck fun dx => opt (partOf hi z) .stuck fun h => R.of σ3 (slcD dx l h) := by
  simp only [ev, lk1, opt, optS]; congr; funext x σ1; congr; funext y σ2; cases partOf lo y with
  | none => rfl
  | some l => simp only; congr; funext z σ3; cases look σ3 x <;> cases partOf hi z <;> rfl
theorem q_rev (a : E) : ev G (.rev a) σ = (ev G a σ).bind fun x σ1 => lk1 σ1 x .stuck fun dx => R.of σ1 (revD dx) := by
  simp only [ev, lk1] <;> first | rfl | (congr; funext x σ1; cases look σ1 x <;> rfl)
theorem lks_eq {α : Type} (σ : Sg) (xs : List RV) (z : α) (f : List D → α) : lks σ xs z f = match looks σ xs with | some ds => f ds | none => z := by
  induction xs generalizing f with
  | nil => rfl
  | cons x xs ih =>
    simp only [lks, looks, lk1]
    cases look σ x with
    | none => rfl
    | some d => simp only [ih]; cases looks σ xs <;> rfl
theorem fzs_eq {α : Type} (σ : Sg) (xs : List RV) (z : α) (f : List D → Sg → α) : fzs σ xs z f = match frzs σ xs with | some (ds, σ') => f ds σ' | none => z := by
  induction xs generalizing f σ with
  | nil => rfl
  | cons x xs ih =>
    simp only [fzs, frzs, fz1]
    rcases frz σ x with _ | ⟨d, σ'⟩
    · rfl
    · simp only [ih]; rcases frzs σ' xs with _ | ⟨ds, σ''⟩ <;> rfl
theorem q_tup (es : Es) : ev G (.tup es) σ = (evs G es σ).bind fun xs σ1 => fzs σ1 xs .stuck fun ds σ2 => .ok (.d (.tup ds)) σ2 := by
  simp only [ev, fzs_eq] <;> rfl
theorem q_lst (es : Es) : ev G (.lst es) σ = (evs G es σ).bind fun xs σ1 => fzs σ1 xs .stuck fun ds σ2 => .ok (.new (.lst ds)) σ2 := by
  simp only [ev, fzs_eq] <;> rfl
theorem q_dct (t : Bool) (ks vs : Es) : ev G (.dct t ks vs) σ = optS (constK ks) σ .stuck fun τ dk => (evs G vs τ).bind fun ys σ2 => fzs σ2 ys .stuck fun dv σ4 => R.of σ4 ((dctD t [] [] dk dv).map fun d => .new d) := by
  simp only [ev, fzs_eq, optS]; cases constK ks <;> rfl
def callK (G : Env) (f : Nat) (bs : List Nat) (σ2 : Sg) (r : FR) : R RV := match r with
  | .ok rv outs => opt (backCells σ2 bs outs) .stuck fun σ3 => .ok rv σ3
  | .exc c p => .exc c p (loseCells σ2 bs)
  | .stuck => .stuck
theorem q_call (f : Nat) (es : Es) : ev G (.call f es) σ = (evs G es σ).bind fun xs σ1 => opt (argCells (G.modes f) xs σ1 []) .stuck fun p => callK G f p.2.2 p.2.1 (G.phi f p.1) := by
  simp only [ev, opt, callK]; congr; funext xs σ1
  rcases argCells (G.modes f) xs σ1 [] with _ | ⟨cs, σ2, bs⟩
  · rfl
  · simp only; cases G.phi f cs <;> simp only
    rename_i rv outs
    cases backCells σ2 bs outs <;> rfl
theorem callK_ok (G : Env) (f : Nat) (bs : List Nat) (σ2 : Sg) (rv : RV) (outs : List Cell) : callK G f bs σ2 (.ok rv outs) = opt (backCells σ2 bs outs) .stuck fun σ3 => .ok rv σ3 := rfl
theorem callK_exc (G : Env) (f : Nat) (bs : List Nat) (σ2 : Sg) (c : Nat) (p : List D) : callK G f bs σ2 (.exc c p) = .exc c p (loseCells σ2 bs) := rfl
theorem callK_ite (G : Env) (f : Nat) (bs : List Nat) (σ2 : Sg) (c : Prop) [Decidable c] (x y : FR) : callK G f bs σ2 (if c then x else y) = if c then callK G f bs σ2 x else callK G f bs σ2 y := by split <;> rfl
theorem q_bi (b : Bi) (es : Es) : ev G (.bi b es) σ = (evs G es σ).bind fun xs σ1 => lks σ1 xs .stuck fun ds => R.of σ1 (biD b ds) := by
  simp only [ev, lks_eq] <;> rfl
theorem q_mt (m : Mt) (o : E) (es : Es) : ev G (.mt m o es) σ = (ev G o σ).bind fun x σ1 => (evs G es σ1).bind fun xs σ2 => lk1 σ2 x .stuck fun d => lks σ2 xs .stuck fun ds => R.of σ2 (mtD m d ds) := by
  simp only [ev, lks_eq, lk1]; congr; funext x σ1; congr; funext xs σ2; cases look σ2 x <;> cases looks σ2 xs <;> rfl
def isLst {α : Type} (d : D) (σ : Sg) (z : α) (x : Sg → α) : α := match d with | .lst _ => x σ | _ => z
theorem isLst_lst {α : Type} (l : List D) (σ : Sg) (z : α) (x : Sg → α) : isLst (.lst l) σ z x = x σ := rfl
theorem q_mu (m : Mu) (i : Nat) (es : Es) : ev G (.mu m i es) σ = gOwnS (σ[i]?) σ .stuck fun τ _ d0 => isLst d0 τ .stuck fun τ => (evs G es τ).bind fun xs σ1 => fzs σ1 xs .stuck fun ds σ2 => gOwn (σ2[i]?) .stuck fun h d => opt (muD m d ds) .stuck fun p => .ok (.d p.2) (σ2.set i (some (.own h p.1))) := by
  simp only [ev, fzs_eq, gOwn, gOwnS, isLst, opt]
  rcases σ[i]? with _ | (_ | (_ | ⟨h, d⟩)) <;> try rfl
  cases d <;> try rfl
  simp only; congr; funext xs σ1; rcases frzs σ1 xs with _ | ⟨ds, σ2⟩
  · rfl
  simp only
  rcases σ2[i]? with _ | (_ | (_ | ⟨h, d⟩)) <;> try rfl
  simp only
  rcases muD m d ds with _ | ⟨d', r⟩ <;> rfl

/-! ### comprehensions -/
theorem wipe_set_comm (σ : Sg) (v : Nat) : ∀ vs : List Nat, wipe (σ.set v none) vs = (wipe σ vs).set v none
  | [] => rfl
  | u :: vs => by
    show (wipe (σ.set v none) vs).set u none = ((wipe σ vs).set u none).set v none
    rw [wipe_set_comm σ v vs]
    by_cases h : u = v
    · subst h; rfl
    · exact List.set_comm _ _ (fun z => h z.symm)
theorem ewipe_wipe (σ : Sg) : ∀ vs : List Nat, wipe (wipe σ vs) vs = wipe σ vs
  | [] => rfl
  | v :: vs => by
    show (wipe ((wipe σ vs).set v none) vs).set v none = (wipe σ vs).set v none
    rw [wipe_set_comm, ewipe_wipe σ vs, List.set_set]
theorem unwipe_set_comm (σ0 σ : Sg) (v : Nat) (c : Option Cell) : ∀ vs : List Nat, v ∉ vs → unwipe σ0 (σ.set v c) vs = (unwipe σ0 σ vs).set v c
  | [], _ => rfl
  | u :: vs, h => by
    show (unwipe σ0 (σ.set v c) vs).set u _ = ((unwipe σ0 σ vs).set u _).set v c
    rw [unwipe_set_comm σ0 σ v c vs (fun z => h (List.mem_cons_of_mem _ z))]
    exact List.set_comm _ _ (fun z => h (by rw [z]; exact List.mem_cons_self))
theorem unwipe_set_mem (σ0 σ : Sg) (v : Nat) (c : Option Cell) : ∀ vs : List Nat, v ∈ vs → unwipe σ0 (σ.set v c) vs = unwipe σ0 σ vs
  | [], h => by cases h
  | u :: vs, h => by
    show (unwipe σ0 (σ.set v c) vs).set u _ = (unwipe σ0 σ vs).set u _
    by_cases m : v ∈ vs
    · rw [unwipe_set_mem σ0 σ v c vs m]
    · rw [unwipe_set_comm σ0 σ v c vs m]
      have : v = u := by simpa [m] using h
      subst this
      rw [List.set_set]
theorem unewipe_wipe (σ0 σ : Sg) (vs : List Nat) : unwipe σ0 (wipe σ vs) vs = unwipe σ0 σ vs := by
  suffices h : ∀ ws : List Nat, (∀ w ∈ ws, w ∈ vs) → unwipe σ0 (wipe σ ws) vs = unwipe σ0 σ vs from h vs fun _ h => h
  intro ws
  induction ws with
  | nil => intro _; rfl
  | cons w ws ih =>
    intro h
    show unwipe σ0 ((wipe σ ws).set w none) vs = _
    rw [unwipe_set_mem _ _ _ _ _ (h w List.mem_cons_self)]
    exact ih fun x hx => h x (List.mem_cons_of_mem _ hx)
/-- one turn of a comprehension; its names are forgotten behind it -/
def turnW (G : Env) (own : List Nat) (tg : Tg) (cond elt : E) (x : D) (σ : Sg) : R (Option D) :=
  opt (setT σ tg x) .stuck fun σ' => (ev G cond σ').bind fun c σ'' => lk1S σ'' c .stuck fun σ'' dc => cndS (truth dc) σ'' .stuck
    (fun σ'' => (ev G elt σ'').bind fun y σ3 => fz1 σ3 y .stuck fun d σ4 => .ok (some d) (wipe σ4 own)) (fun σ'' => .ok none (wipe σ'' own))
def compW (turn : D → Sg → R (Option D)) : List D → Sg → List D → R (List D)
  | [], σ, acc => .ok acc σ
  | x :: xs, σ, acc => (turn x σ).bind fun o σ' => compW turn xs σ' (match o with | some d => acc ++ [d] | none => acc)
def killR {α : Type} : R α → R α
  | .exc _ _ _ => .stuck
  | r => r
theorem compW_eq (own : List Nat) (tg : Tg) (cond elt : E) : ∀ (xs : List D) (σ : Sg) (acc : List D) (σ2 : Sg),
    (compLoop (fun x σ => match setT (wipe σ own) tg x with
          | some σ' => (ev G cond σ').bind fun c σ'' => match look σ'' c with
            | some dc => match truth dc with
              | some true => (ev G elt σ'').bind fun y σ3 => match frz σ3 y with
                | some (d, σ4) => .ok (some d) σ4
                | none => .stuck
              | some false => .ok none σ''
              | none => .stuck
            | none => .stuck
          | none => .stuck) xs σ acc).bind (fun acc σ3 => R.ok (RV.new (.lst acc)) (unwipe σ2 σ3 own)) = (killR (compW (turnW G own tg cond elt) xs (wipe σ own) acc)).bind fun acc σ3 => .ok (.new (.lst acc)) (unwipe σ2 σ3 own)
  | [], σ, acc, σ2 => by simp only [compLoop, compW, killR, R.bind, unewipe_wipe]
  | x :: xs, σ, acc, σ2 => by
    simp only [compLoop, compW, turnW, opt]
    cases setT (wipe σ own) tg x with
    | none => rfl
    | some σ' =>
      simp only
      cases ev G cond σ' with
      | stuck => rfl
      | exc => rfl
      | ok c σ'' =>
        simp only [R.bind, lk1S, cndS]
        cases look σ'' c with
        | none => rfl
        | some dc =>
          simp only
          rcases truth dc with _ | (_ | _)
          · rfl
          · simp only [R.bind]
            have := compW_eq own tg cond elt xs σ'' acc σ2
            simp only [R.bind] at this
            exact this
          · simp only
            cases ev G elt σ'' with
            | stuck => rfl
            | exc => rfl
            | ok y σ3 =>
              simp only [R.bind, fz1]
              rcases frz σ3 y with _ | ⟨d, σ4⟩
              · rfl
              · simp only [R.bind]
                have := compW_eq own tg cond elt xs σ4 (acc ++ [d]) σ2
                simp only [R.bind] at this
                exact this
def compK (σ2 : Sg) (own : List Nat) (r : R (List D)) : R RV := match r with
  | .ok acc σ3 => .ok (.new (.lst acc)) (unwipe σ2 σ3 own)
  | _ => .stuck
theorem compK_ok (σ2 : Sg) (own : List Nat) (acc : List D) (σ3 : Sg) : compK σ2 own (.ok acc σ3) = .ok (.new (.lst acc)) (unwipe σ2 σ3 own) := rfl
theorem compK_eq (σ2 : Sg) (own : List Nat) (r : R (List D)) : ((killR r).bind fun acc σ3 => R.ok (RV.new (.lst acc)) (unwipe σ2 σ3 own)) = compK σ2 own r := by cases r <;> rfl
theorem q_comp (own : List Nat) (tg : Tg) (sk : SK) (es : Es) (cond elt : E) : ev G (.comp own tg sk es cond elt) σ = (evs G es σ).bind fun xs σ1 => fzs σ1 xs .stuck fun ds σ2 => opt (srcD sk ds) .stuck fun its => compK σ2 own (compW (turnW G own tg cond elt) its (wipe σ2 own) []) := by
  simp only [ev, fzs_eq, opt]; congr; funext xs σ1
  rcases frzs σ1 xs with _ | ⟨ds, σ2⟩
  · rfl
  · simp only; cases srcD sk ds with
    | none => rfl
    | some its => exact (compW_eq G own tg cond elt its σ2 [] σ2).trans (compK_eq _ _ _)
theorem compW_nil (turn : D → Sg → R (Option D)) (acc : List D) : compW turn [] σ acc = .ok acc σ := rfl
theorem compW_cons (turn : D → Sg → R (Option D)) (x : D) (xs acc : List D) : compW turn (x :: xs) σ acc = (turn x σ).bind fun o σ' => compW turn xs σ' (match o with | some d => acc ++ [d] | none => acc) := rfl
/-- a comprehension that changes nothing -/
theorem compW_pure {A : Type} {turn : D → Sg → R (Option D)} {σ : Sg} (e : A → D) (f : A → Option D) : ∀ (l : List A) (acc : List D), (∀ a ∈ l, turn (e a) σ = .ok (f a) σ) → compW turn (l.map e) σ acc = .ok (acc ++ l.filterMap f) σ
  | [], acc, _ => by simp [compW]
  | a :: l, acc, h => by
    simp only [List.map_cons, compW, h a List.mem_cons_self, R.bind, List.filterMap_cons]
    rw [compW_pure e f l _ fun b hb => h b (List.mem_cons_of_mem _ hb)]
    cases f a <;> simp
theorem compW_map {A : Type} {turn : D → Sg → R (Option D)} {σ : Sg} (e : A → D) (f : A → D) (l : List A) (acc : List D) (h : ∀ a ∈ l, turn (e a) σ = .ok (some (f a)) σ) : compW turn (l.map e) σ acc = .ok (acc ++ l.map f) σ := by
  rw [compW_pure e (fun a => some (f a)) l acc h]
  congr 2
  induction l with
  | nil => rfl
  | cons a l ih => simp [ih fun b hb => h b (List.mem_cons_of_mem _ hb)]
theorem compW_filter {A : Type} {turn : D → Sg → R (Option D)} {σ : Sg} (e : A → D) (p : A → Bool) (l : List A) (acc : List D) (h : ∀ a ∈ l, turn (e a) σ = .ok (if p a = true then some (e a) else none) σ) : compW turn (l.map e) σ acc = .ok (acc ++ (l.filter p).map e) σ := by
  rw [compW_pure e _ l acc h]
  congr 2
  clear h
  induction l with
  | nil => rfl
  | cons a l ih => by_cases q : p a = true <;> simp [q, ih]
theorem q_nil : evs G .nil σ = .ok [] σ := rfl
theorem q_cons (e : E) (es : Es) : evs G (.cons e es) σ = (ev G e σ).bind fun x σ1 => (evs G es σ1).bind fun xs σ2 => .ok (x :: xs) σ2 := rfl

/-! ### statements -/
theorem q_asg (own : Bool) (i : Nat) (e : E) : exS G (.asg own i e) σ = (ev G e σ).toO fun r σ1 => .of (setR σ1 own i r) := rfl
theorem q_unp (l : List Nat) (e : E) : exS G (.unp l e) σ = (ev G e σ).toO fun r σ1 => fz1 σ1 r .stuck fun d σ2 => .of (setT σ2 (.many l) d) := by
  simp only [exS, fz1] <;> first | rfl | (congr; funext r σ1; rcases frz σ1 r with _ | ⟨d, σ2⟩ <;> rfl)
theorem q_par (l : List (Bool × Nat)) (es : Es) : exS G (.par l es) σ = (evs G es σ).toO fun rs σ1 => .of (setRs σ1 l rs) := rfl
theorem q_aug (o : BOp) (i : Nat) (e : E) : exS G (.aug o i e) σ = gValS (σ[i]?) σ .stuck fun τ d => (ev G e τ).toO fun r σ1 => isD r .stuck fun d' => opt (augD o d d') .stuck fun d2 => .of (setV σ1 i d2) := by
  simp only [exS, gValS, isD, opt]
  rcases σ[i]? with _ | (_ | (d | _)) <;> try rfl
  simp only; congr; funext r σ1; cases r <;> try rfl
  simp only; cases augD o d _ <;> rfl
theorem q_sto (i : Nat) (k e : E) : exS G (.sto i k e) σ = (ev G e σ).toO fun r σ1 => fz1 σ1 r .stuck fun d σ2 => gOwnS (σ2[i]?) σ2 .stuck fun σ2 _ _ => (ev G k σ2).toO fun rk σ3 => isD rk .stuck fun dk => gOwn (σ3[i]?) .stuck fun h c => opt (stoD c dk d) .stuck fun c' => .nx (σ3.set i (some (.own h c'))) := by
  simp only [exS, fz1, gOwn, gOwnS, isD, opt]; congr; funext r σ1; rcases frz σ1 r with _ | ⟨d, σ2⟩ <;> try rfl
  simp only; rcases σ2[i]? with _ | (_ | (_ | ⟨h, c⟩)) <;> try rfl
  simp only; congr; funext rk σ3; cases rk <;> try rfl
  simp only; rcases σ3[i]? with _ | (_ | (_ | ⟨h, c⟩)) <;> try rfl
  simp only; cases stoD c _ d <;> rfl
theorem q_aus (o : BOp) (i : Nat) (k e : E) : exS G (.aus o i k e) σ = gOwnS (σ[i]?) σ .stuck fun τ _ _ => (ev G k τ).toO fun rk σ1 => isDS rk σ1 .stuck fun σ1 dk => gOwnS (σ1[i]?) σ1 .stuck fun σ1 _ c => optS (dgD c dk) σ1 .stuck fun σ1 d0 => (ev G e σ1).toO fun r σ2 => isD r .stuck fun d1 => opt (augD o d0 d1) .stuck fun d2 => gOwn (σ2[i]?) .stuck fun h c2 => opt (stoD c2 dk d2) .stuck fun c3 => .nx (σ2.set i (some (.own h c3))) := by
  simp only [exS, fz1, gOwn, gOwnS, isD, isDS, opt, optS]
  rcases σ[i]? with _ | (_ | (_ | ⟨h, c⟩)) <;> try rfl
  simp only; congr; funext rk σ1; cases rk <;> try rfl
  simp only; rcases σ1[i]? with _ | (_ | (_ | ⟨h, c⟩)) <;> try rfl
  simp only; rename_i dk; cases dgD c dk <;> try rfl
  simp only; congr; funext r σ2; cases r <;> try rfl
  simp only; rename_i d0 d1; cases augD o d0 d1 <;> try rfl
  simp only; rcases σ2[i]? with _ | (_ | (_ | ⟨h, c⟩)) <;> try rfl
  simp only; cases stoD _ dk _ <;> rfl
theorem q_ex (e : E) : exS G (.ex e) σ = (ev G e σ).toO fun _ σ1 => .nx σ1 := rfl
theorem q_ifs (c : E) (a b : Ss) : exS G (.ifs c a b) σ = (ev G c σ).toO fun x σ1 => lk1S σ1 x .stuck fun σ1 dx => cndS (truth dx) σ1 .stuck (exSs G a) (exSs G b) := by
  simp only [exS, lk1S, cndS] <;> rfl
theorem q_fr (tg : Tg) (sk : SK) (es : Es) (b : Ss) : exS G (.fr tg sk es b) σ = (evs G es σ).toO fun xs σ1 => fzs σ1 xs .stuck fun ds σ2 => opt (srcD sk ds) .stuck fun its => forLoop tg (exSs G b) its σ2 := by
  simp only [exS, fzs_eq, opt]; congr; funext xs σ1; rcases frzs σ1 xs with _ | ⟨ds, σ2⟩
  · rfl
  · simp only; cases srcD sk ds <;> rfl
theorem q_wh (c : E) (b : Ss) : exS G (.wh c b) σ = whLoop (ev G c) (exSs G b) G.fuel σ := rfl
theorem q_ret (e : E) : exS G (.ret e) σ = (ev G e σ).toO fun r σ1 => .rt r σ1 := rfl
theorem q_retN : exS G .retN σ = .rt (.d .non) σ := rfl
theorem q_brk : exS G .brk σ = .bk σ := rfl
theorem q_cnt : exS G .cnt σ = .ct σ := rfl
theorem q_pas : exS G .pas σ = .nx σ := rfl
theorem q_frg (l : List Nat) : exS G (.frg l) σ = .nx (wipe σ l) := rfl
theorem q_rse (c : Nat) (es : Es) : exS G (.rse c es) σ = (evs G es σ).toO fun xs σ1 => fzs σ1 xs .stuck fun ds σ2 => .exc c ds σ2 := by
  simp only [exS, fzs_eq] <;> rfl
theorem q_snil : exSs G .nil σ = .nx σ := rfl
theorem q_scons (s : S) (ss : Ss) : exSs G (.cons s ss) σ = (exS G s σ).bind (exSs G ss) := rfl

/-! ### stores -/
def setVc (σ : Sg) (i : Nat) (d : D) : Option (Option Cell) → Option Sg
  | some (some (.own true _)) => none
  | some _ => some (σ.set i (some (.val d)))
  | none => none
theorem setV_eq (i : Nat) (d : D) : setV σ i d = setVc σ i d (σ[i]?) := by
  unfold setV setVc; rcases σ[i]? with _ | (_ | (_ | ⟨_ | _, _⟩)) <;> rfl
theorem setVc_none (i : Nat) (d : D) : setVc σ i d (some none) = some (σ.set i (some (.val d))) := rfl
theorem setVc_val (i : Nat) (d e : D) : setVc σ i d (some (some (.val e))) = some (σ.set i (some (.val d))) := rfl
theorem setVc_own (i : Nat) (d e : D) : setVc σ i d (some (some (.own false e))) = some (σ.set i (some (.val d))) := rfl
def setOc (σ : Sg) (i : Nat) (d : D) : Option (Option Cell) → Option Sg
  | some (some (.own true _)) => none
  | some _ => some (σ.set i (some (.own false d)))
  | none => none
theorem setO_eq (i : Nat) (d : D) : setO σ i d = setOc σ i d (σ[i]?) := by
  unfold setO setOc; rcases σ[i]? with _ | (_ | (_ | ⟨_ | _, _⟩)) <;> rfl
theorem setOc_none (i : Nat) (d : D) : setOc σ i d (some none) = some (σ.set i (some (.own false d))) := rfl
theorem setOc_val (i : Nat) (d e : D) : setOc σ i d (some (some (.val e))) = some (σ.set i (some (.own false d))) := rfl
theorem setOc_own (i : Nat) (d e : D) : setOc σ i d (some (some (.own false e))) = some (σ.set i (some (.own false d))) := rfl
theorem setVs_nil : setVs σ [] [] = some σ := rfl
theorem setVs_cons (i : Nat) (is : List Nat) (d : D) (ds : List D) : setVs σ (i :: is) (d :: ds) = opt (setV σ i d) none fun σ' => setVs σ' is ds := by
  simp only [setVs, opt]; cases setV σ i d <;> rfl
theorem setT_one (i : Nat) (d : D) : setT σ (.one i) d = setV σ i d := rfl
theorem setT_many (l : List Nat) (ds : List D) : setT σ (.many l) (.tup ds) = setVs σ l ds := rfl
theorem setR_d (i : Nat) (d : D) : setR σ false i (.d d) = setV σ i d := rfl
theorem setR_new (i : Nat) (d : D) : setR σ false i (.new d) = setV σ i d := rfl
theorem setR_slot (i j : Nat) : setR σ false i (.slot j) = fzS σ j (σ[j]?) none fun d σ' => setV σ' i d := by
  simp only [setR, frz, fzS, Bool.false_eq_true, if_false]; rcases σ[j]? with _ | (_ | (_ | ⟨_ | _, _⟩)) <;> rfl
theorem setR_own (i : Nat) (d : D) : setR σ true i (.new d) = setO σ i d := rfl
theorem setRs_nil : setRs σ [] [] = some σ := rfl
theorem setRs_d (p : Bool × Nat) (ps : List (Bool × Nat)) (d : D) (rs : List RV) : setRs σ (p :: ps) (.d d :: rs) = opt (setR σ p.1 p.2 (.d d)) none fun σ' => setRs σ' ps rs := by
  simp only [setRs, isSlot, opt, Bool.false_eq_true, if_false]; cases setR σ p.1 p.2 (.d d) <;> rfl
theorem setRs_new (p : Bool × Nat) (ps : List (Bool × Nat)) (d : D) (rs : List RV) : setRs σ (p :: ps) (.new d :: rs) = opt (setR σ p.1 p.2 (.new d)) none fun σ' => setRs σ' ps rs := by
  simp only [setRs, isSlot, opt, Bool.false_eq_true, if_false]; cases setR σ p.1 p.2 (.new d) <;> rfl
theorem wipe_nil : wipe σ [] = σ := rfl
theorem wipe_cons (v : Nat) (vs : List Nat) : wipe σ (v :: vs) = (wipe σ vs).set v none := rfl
def unwC (c : Option (Option Cell)) : Option Cell := match c with | some (some (.val d)) => some (.val d) | _ => none
theorem unwipe_nil (σ0 : Sg) : unwipe σ0 σ [] = σ := rfl
theorem unwipe_cons (σ0 : Sg) (v : Nat) (vs : List Nat) : unwipe σ0 σ (v :: vs) = (unwipe σ0 σ vs).set v (unwC (σ0[v]?)) := by
  simp only [unwipe, unwC] <;> (rcases σ0[v]? with _ | (_ | (_ | _)) <;> rfl)
theorem unwC_val (d : D) : unwC (some (some (.val d))) = some (.val d) := rfl
theorem unwC_none : unwC (some none) = none := rfl
theorem unwC_own (h : Bool) (d : D) : unwC (some (some (.own h d))) = none := rfl

/-! ### loops -/
theorem fl_nil (tg : Tg) (body : Sg → O) : forLoop tg body [] σ = .nx σ := rfl
def flK (tg : Tg) (body : Sg → O) (xs : List D) : O → O
  | .nx σ => forLoop tg body xs σ
  | .ct σ => forLoop tg body xs σ
  | .bk σ => .nx σ
  | o => o
theorem fl_cons (tg : Tg) (body : Sg → O) (x : D) (xs : List D) : forLoop tg body (x :: xs) σ = opt (setT σ tg x) .stuck fun σ' => flK tg body xs (body σ') := by
  simp only [forLoop, opt, flK]; cases setT σ tg x with
  | none => rfl
  | some σ' => simp only <;> (cases body σ' <;> rfl)
theorem flK_nx (tg : Tg) (body : Sg → O) (xs : List D) : flK tg body xs (.nx σ) = forLoop tg body xs σ := rfl
theorem flK_ct (tg : Tg) (body : Sg → O) (xs : List D) : flK tg body xs (.ct σ) = forLoop tg body xs σ := rfl
theorem flK_bk (tg : Tg) (body : Sg → O) (xs : List D) : flK tg body xs (.bk σ) = .nx σ := rfl
theorem flK_rt (tg : Tg) (body : Sg → O) (xs : List D) (r : RV) : flK tg body xs (.rt r σ) = .rt r σ := rfl
theorem flK_exc (tg : Tg) (body : Sg → O) (xs : List D) (c : Nat) (p : List D) : flK tg body xs (.exc c p σ) = .exc c p σ := rfl
theorem flK_ite (tg : Tg) (body : Sg → O) (xs : List D) (c : Prop) [Decidable c] (x y : O) : flK tg body xs (if c then x else y) = if c then flK tg body xs x else flK tg body xs y := by split <;> rfl
def whK (test : Sg → R RV) (body : Sg → O) (n : Nat) : O → O
  | .nx σ => whLoop test body n σ
  | .ct σ => whLoop test body n σ
  | .bk σ => .nx σ
  | o => o
theorem whl_succ (test : Sg → R RV) (body : Sg → O) (n : Nat) : whLoop test body (n + 1) σ = (test σ).toO fun c σ' => lk1S σ' c .stuck fun σ' dc => cndS (truth dc) σ' .stuck (fun σ' => whK test body n (body σ')) O.nx := by
  simp only [whLoop, lk1S, cndS, whK] <;> rfl
theorem whK_nx (test : Sg → R RV) (body : Sg → O) (n : Nat) : whK test body n (.nx σ) = whLoop test body n σ := rfl
theorem whK_ct (test : Sg → R RV) (body : Sg → O) (n : Nat) : whK test body n (.ct σ) = whLoop test body n σ := rfl
theorem whK_bk (test : Sg → R RV) (body : Sg → O) (n : Nat) : whK test body n (.bk σ) = .nx σ := rfl
theorem whK_rt (test : Sg → R RV) (body : Sg → O) (n : Nat) (r : RV) : whK test body n (.rt r σ) = .rt r σ := rfl
theorem whK_exc (test : Sg → R RV) (body : Sg → O) (n : Nat) (c : Nat) (p : List D) : whK test body n (.exc c p σ) = .exc c p σ := rfl
theorem whK_ite (test : Sg → R RV) (body : Sg → O) (n : Nat) (c : Prop) [Decidable c] (x y : O) : whK test body n (if c then x else y) = if c then whK test body n x else whK test body n y := by split <;> rfl

/-! ### calls -/
def finK (cs : List Cell) (o : O) : FR := match o with
  | .nx σ => opt (outCells σ cs) .stuck fun r => .ok (.d .non) r
  | .rt rv σ => opt (outRV σ rv) .stuck fun v => opt (outCells σ cs) .stuck fun r => .ok v r
  | .exc c p _ => .exc c p
  | _ => .stuck
theorem finK_nx (cs : List Cell) : finK cs (.nx σ) = opt (outCells σ cs) .stuck fun r => .ok (.d .non) r := rfl
theorem finK_rt (cs : List Cell) (rv : RV) : finK cs (.rt rv σ) = opt (outRV σ rv) .stuck fun v => opt (outCells σ cs) .stuck fun r => .ok v r := rfl
theorem finK_exc (cs : List Cell) (c : Nat) (p : List D) : finK cs (.exc c p σ) = .exc c p := rfl
theorem finK_ite (cs : List Cell) (c : Prop) [Decidable c] (x y : O) : finK cs (if c then x else y) = if c then finK cs x else finK cs y := by split <;> rfl
theorem fnRun_eq (F : Fn) (cs : List Cell) (h : cs.length = F.modes.length ∧ cs.length ≤ F.slots) : fnRun G F cs = finK cs (exSs G F.body (cs.map some ++ List.replicate (F.slots - cs.length) none)) := by
  rw [fnRun, if_pos h]; unfold finK opt; cases exSs G F.body _ <;> simp only
  · cases outCells _ _ <;> rfl
  · cases outRV _ _ <;> cases outCells _ _ <;> rfl
theorem outRV_d (d : D) : outRV σ (.d d) = some (.d d) := rfl
theorem outRV_new (d : D) : outRV σ (.new d) = some (.new d) := rfl
def outS : Option (Option Cell) → Option RV
  | some (some (.own false d)) => some (.new d)
  | some (some (.val d)) => some (.d d)
  | _ => none
theorem outRV_slot (i : Nat) : outRV σ (.slot i) = outS (σ[i]?) := by
  simp only [outRV, outS] <;> (rcases σ[i]? with _ | (_ | (_ | ⟨_ | _, _⟩)) <;> rfl)
theorem outS_own (d : D) : outS (some (some (.own false d))) = some (.new d) := rfl
theorem outS_val (d : D) : outS (some (some (.val d))) = some (.d d) := rfl
theorem outCells_nil : outCells σ [] = some [] := rfl
theorem outCells_val (c : Option Cell) (d : D) (cs : List Cell) : outCells (c :: σ) (.val d :: cs) = (outCells σ cs).map fun r => .val d :: r := rfl
theorem outCells_own (h : Bool) (d e : D) (cs : List Cell) : outCells (some (.own true d) :: σ) (.own h e :: cs) = (outCells σ cs).map fun r => .own true d :: r := rfl
theorem backCells_nil : backCells σ [] [] = some σ := rfl
theorem backCells_0 (bs : List Nat) (c : Cell) (cs : List Cell) : backCells σ (0 :: bs) (c :: cs) = backCells σ bs cs := rfl
theorem backCells_s (i : Nat) (bs : List Nat) (h : Bool) (d : D) (cs : List Cell) : backCells σ ((i + 1) :: bs) (.own h d :: cs) = gOwn (σ[i]?) none fun h' _ => backCells (σ.set i (some (.own h' d))) bs cs := by
  simp only [backCells, gOwn]; rcases σ[i]? with _ | (_ | (_ | _)) <;> rfl
def argK (ms : List Bool) (rs : List RV) (used : List Nat) (o : Option (Cell × Sg × Nat)) : Option (List Cell × Sg × List Nat) :=
  opt o none fun p => opt (argCells ms rs p.2.1 (p.2.2 :: used)) none fun q => some (p.1 :: q.1, q.2.1, p.2.2 :: q.2.2)
theorem argCells_nil (used : List Nat) : argCells [] [] σ used = some ([], σ, []) := rfl
theorem argCells_cons (m : Bool) (ms : List Bool) (r : RV) (rs : List RV) (used : List Nat) : argCells (m :: ms) (r :: rs) σ used = argK ms rs used (arg1 m r σ used) := by
  simp only [argCells, argK, opt]; rcases arg1 m r σ used with _ | ⟨c, σ', b⟩
  · rfl
  · simp only; rcases argCells ms rs σ' (b :: used) with _ | ⟨cs, σ'', bs⟩ <;> rfl
theorem argK_some (ms : List Bool) (rs : List RV) (used : List Nat) (c : Cell) (b : Nat) : argK ms rs used (some (c, σ, b)) = opt (argCells ms rs σ (b :: used)) none fun q => some (c :: q.1, q.2.1, b :: q.2.2) := rfl
theorem arg1_d (d : D) (used : List Nat) : arg1 false (.d d) σ used = some (.val d, σ, 0) := rfl
theorem arg1_new (d : D) (used : List Nat) : arg1 false (.new d) σ used = some (.val d, σ, 0) := rfl
def argS (m : Bool) (i : Nat) (σ : Sg) (c : Option (Option Cell)) : Option (Cell × Sg × Nat) := match c with
  | some (some (.own h d)) => if m || h then some (.own true d, σ, i + 1) else some (.val d, σ.set i (some (.val d)), 0)
  | some (some (.val d)) => if m then none else some (.val d, σ, 0)
  | _ => none
theorem arg1_slot (m : Bool) (i : Nat) (used : List Nat) : arg1 m (.slot i) σ used = if used.contains (i + 1) then none else argS m i σ (σ[i]?) := by
  simp only [arg1, argS] <;> (rcases σ[i]? with _ | (_ | (_ | _)) <;> rfl)
theorem argS_true (i : Nat) (h : Bool) (d : D) : argS true i σ (some (some (.own h d))) = some (.own true d, σ, i + 1) := rfl
theorem argS_home (m : Bool) (i : Nat) (d : D) : argS m i σ (some (some (.own true d))) = some (.own true d, σ, i + 1) := by cases m <;> rfl
theorem argS_give (i : Nat) (d : D) : argS false i σ (some (some (.own false d))) = some (.val d, σ.set i (some (.val d)), 0) := rfl
theorem argS_val (i : Nat) (d : D) : argS false i σ (some (some (.val d))) = some (.val d, σ, 0) := rfl
/-! ### at a known store -/
theorem r_k (c₀ : Option Cell) (s₀ : Sg) (d : D) : ev G (.k d) (c₀ :: s₀) = .ok (.d d) (c₀ :: s₀) := q_k G (c₀ :: s₀) d
theorem r_v (c₀ : Option Cell) (s₀ : Sg) (i : Nat) : ev G (.v i) (c₀ :: s₀) = rdV (c₀ :: s₀) i ((c₀ :: s₀)[i]?) := q_v G (c₀ :: s₀) i
theorem r_g (c₀ : Option Cell) (s₀ : Sg) (i : Nat) : ev G (.g i) (c₀ :: s₀) = R.of (c₀ :: s₀) ((G.glob i).map RV.d) := q_g G (c₀ :: s₀) i
theorem r_bin (c₀ : Option Cell) (s₀ : Sg) (o : BOp) (a b : E) : ev G (.bin o a b) (c₀ :: s₀) = (ev G a (c₀ :: s₀)).bind fun x σ1 => (ev G b σ1).bind fun y σ2 => lk1 σ2 x .stuck fun dx => lk1 σ2 y .stuck fun dy => R.of σ2 (binD o dx dy) := q_bin G (c₀ :: s₀) o a b
theorem r_cmp (c₀ : Option Cell) (s₀ : Sg) (o : COp) (a b : E) : ev G (.cmp o a b) (c₀ :: s₀) = (ev G a (c₀ :: s₀)).bind fun x σ1 => (ev G b σ1).bind fun y σ2 => lk1 σ2 x .stuck fun dx => lk1 σ2 y .stuck fun dy => R.of σ2 ((cmpD o dx dy).map fun c => .d (.bl c)) := q_cmp G (c₀ :: s₀) o a b
theorem r_chn (c₀ : Option Cell) (s₀ : Sg) (o o' : COp) (a b c : E) : ev G (.chn o o' a b c) (c₀ :: s₀) = (ev G a (c₀ :: s₀)).bind fun x σ1 => (ev G b σ1).bind fun y σ2 => lk1S σ2 x .stuck fun σ2 dx => lk1S σ2 y .stuck fun σ2 dy => cndS (cmpD o dx dy) σ2 .stuck
    (fun σ2 => (ev G c σ2).bind fun z σ3 => lk1 σ3 y .stuck fun dy' => lk1 σ3 z .stuck fun dz => R.of σ3 ((cmpD o' dy' dz).map fun c => .d (.bl c))) (fun σ2 => .ok (.d (.bl false)) σ2) := q_chn G (c₀ :: s₀) o o' a b c
theorem r_isK (c₀ : Option Cell) (s₀ : Sg) (neg : Bool) (a : E) (c : D) : ev G (.isK neg a c) (c₀ :: s₀) = (ev G a (c₀ :: s₀)).bind fun x σ1 => isD x .stuck fun dx => R.of σ1 ((isKD neg c dx).map fun c => .d (.bl c)) := q_isK G (c₀ :: s₀) neg a c
theorem r_and (c₀ : Option Cell) (s₀ : Sg) (a b : E) : ev G (.and a b) (c₀ :: s₀) = (ev G a (c₀ :: s₀)).bind fun x σ1 => isDS x σ1 .stuck fun σ1 dx => cndS (truth dx) σ1 .stuck (ev G b) (R.ok (.d dx)) := q_and G (c₀ :: s₀) a b
theorem r_or (c₀ : Option Cell) (s₀ : Sg) (a b : E) : ev G (.or a b) (c₀ :: s₀) = (ev G a (c₀ :: s₀)).bind fun x σ1 => isDS x σ1 .stuck fun σ1 dx => cndS (truth dx) σ1 .stuck (R.ok (.d dx)) (ev G b) := q_or G (c₀ :: s₀) a b
theorem r_not (c₀ : Option Cell) (s₀ : Sg) (a : E) : ev G (.not a) (c₀ :: s₀) = (ev G a (c₀ :: s₀)).bind fun x σ1 => lk1 σ1 x .stuck fun dx => R.of σ1 ((truth dx).map fun c => .d (.bl (!c))) := q_not G (c₀ :: s₀) a
theorem r_neg (c₀ : Option Cell) (s₀ : Sg) (a : E) : ev G (.neg a) (c₀ :: s₀) = (ev G a (c₀ :: s₀)).bind fun x σ1 => isD x .stuck fun dx => match dx with | .int i => .ok (.d (.int (-i))) σ1 | _ => .stuck := q_neg G (c₀ :: s₀) a
theorem r_ite (c₀ : Option Cell) (s₀ : Sg) (c a b : E) : ev G (.ite c a b) (c₀ :: s₀) = (ev G c (c₀ :: s₀)).bind fun x σ1 => lk1S σ1 x .stuck fun σ1 dx => cndS (truth dx) σ1 .stuck (ev G a) (ev G b) := q_ite G (c₀ :: s₀) c a b
theorem r_idx (c₀ : Option Cell) (s₀ : Sg) (a b : E) : ev G (.idx a b) (c₀ :: s₀) = (ev G a (c₀ :: s₀)).bind fun x σ1 => (ev G b σ1).bind fun y σ2 => lk1 σ2 x .stuck fun dx => lk1 σ2 y .stuck fun dy => R.of σ2 ((idxD dx dy).map fun d => .d d) := q_idx G (c₀ :: s₀) a b
theorem r_slc (c₀ : Option Cell) (s₀ : Sg) (a lo hi : E) : ev G (.slc a lo hi) (c₀ :: s₀) = (ev G a (c₀ :: s₀)).bind fun x σ1 => (ev G lo σ1).bind fun y σ2 => optS (partOf lo y) σ2 .stuck fun σ2 l => (ev G hi σ2).bind fun z σ3 => lk1 σ3 x .stuck fun dx => opt (partOf hi z) .stuck fun h => R.of σ3 (slcD dx l h) := q_slc G (c₀ :: s₀) a lo hi
theorem r_rev (c₀ : Option Cell) (s₀ : Sg) (a : E) : ev G (.rev a) (c₀ :: s₀) = (ev G a (c₀ :: s₀)).bind fun x σ1 => lk1 σ1 x .stuck fun dx => R.of σ1 (revD dx) := q_rev G (c₀ :: s₀) a
theorem r_tup (c₀ : Option Cell) (s₀ : Sg) (es : Es) : ev G (.tup es) (c₀ :: s₀) = (evs G es (c₀ :: s₀)).bind fun xs σ1 => fzs σ1 xs .stuck fun ds σ2 => .ok (.d (.tup ds)) σ2 := q_tup G (c₀ :: s₀) es
theorem r_lst (c₀ : Option Cell) (s₀ : Sg) (es : Es) : ev G (.lst es) (c₀ :: s₀) = (evs G es (c₀ :: s₀)).bind fun xs σ1 => fzs σ1 xs .stuck fun ds σ2 => .ok (.new (.lst ds)) σ2 := q_lst G (c₀ :: s₀) es
theorem r_dct (c₀ : Option Cell) (s₀ : Sg) (t : Bool) (ks vs : Es) : ev G (.dct t ks vs) (c₀ :: s₀) = optS (constK ks) (c₀ :: s₀) .stuck fun τ dk => (evs G vs τ).bind fun ys σ2 => fzs σ2 ys .stuck fun dv σ4 => R.of σ4 ((dctD t [] [] dk dv).map fun d => .new d) := q_dct G (c₀ :: s₀) t ks vs
theorem r_call (c₀ : Option Cell) (s₀ : Sg) (f : Nat) (es : Es) : ev G (.call f es) (c₀ :: s₀) = (evs G es (c₀ :: s₀)).bind fun xs σ1 => opt (argCells (G.modes f) xs σ1 []) .stuck fun p => callK G f p.2.2 p.2.1 (G.phi f p.1) := q_call G (c₀ :: s₀) f es
theorem r_bi (c₀ : Option Cell) (s₀ : Sg) (b : Bi) (es : Es) : ev G (.bi b es) (c₀ :: s₀) = (evs G es (c₀ :: s₀)).bind fun xs σ1 => lks σ1 xs .stuck fun ds => R.of σ1 (biD b ds) := q_bi G (c₀ :: s₀) b es
theorem r_mt (c₀ : Option Cell) (s₀ : Sg) (m : Mt) (o : E) (es : Es) : ev G (.mt m o es) (c₀ :: s₀) = (ev G o (c₀ :: s₀)).bind fun x σ1 => (evs G es σ1).bind fun xs σ2 => lk1 σ2 x .stuck fun d => lks σ2 xs .stuck fun ds => R.of σ2 (mtD m d ds) := q_mt G (c₀ :: s₀) m o es
theorem r_mu (c₀ : Option Cell) (s₀ : Sg) (m : Mu) (i : Nat) (es : Es) : ev G (.mu m i es) (c₀ :: s₀) = gOwnS ((c₀ :: s₀)[i]?) (c₀ :: s₀) .stuck fun τ _ d0 => isLst d0 τ .stuck fun τ => (evs G es τ).bind fun xs σ1 => fzs σ1 xs .stuck fun ds σ2 => gOwn (σ2[i]?) .stuck fun h d => opt (muD m d ds) .stuck fun p => .ok (.d p.2) (σ2.set i (some (.own h p.1))) := q_mu G (c₀ :: s₀) m i es
theorem r_comp (c₀ : Option Cell) (s₀ : Sg) (own : List Nat) (tg : Tg) (sk : SK) (es : Es) (cond elt : E) : ev G (.comp own tg sk es cond elt) (c₀ :: s₀) = (evs G es (c₀ :: s₀)).bind fun xs σ1 => fzs σ1 xs .stuck fun ds σ2 => opt (srcD sk ds) .stuck fun its => compK σ2 own (compW (turnW G own tg cond elt) its (wipe σ2 own) []) := q_comp G (c₀ :: s₀) own tg sk es cond elt
theorem r_nil (c₀ : Option Cell) (s₀ : Sg) : evs G .nil (c₀ :: s₀) = .ok [] (c₀ :: s₀) := q_nil G (c₀ :: s₀) 
theorem r_cons (c₀ : Option Cell) (s₀ : Sg) (e : E) (es : Es) : evs G (.cons e es) (c₀ :: s₀) = (ev G e (c₀ :: s₀)).bind fun x σ1 => (evs G es σ1).bind fun xs σ2 => .ok (x :: xs) σ2 := q_cons G (c₀ :: s₀) e es
theorem r_asg (c₀ : Option Cell) (s₀ : Sg) (own : Bool) (i : Nat) (e : E) : exS G (.asg own i e) (c₀ :: s₀) = (ev G e (c₀ :: s₀)).toO fun r σ1 => .of (setR σ1 own i r) := q_asg G (c₀ :: s₀) own i e
theorem r_unp (c₀ : Option Cell) (s₀ : Sg) (l : List Nat) (e : E) : exS G (.unp l e) (c₀ :: s₀) = (ev G e (c₀ :: s₀)).toO fun r σ1 => fz1 σ1 r .stuck fun d σ2 => .of (setT σ2 (.many l) d) := q_unp G (c₀ :: s₀) l e
theorem r_par (c₀ : Option Cell) (s₀ : Sg) (l : List (Bool × Nat)) (es : Es) : exS G (.par l es) (c₀ :: s₀) = (evs G es (c₀ :: s₀)).toO fun rs σ1 => .of (setRs σ1 l rs) := rfl
theorem r_aug (c₀ : Option Cell) (s₀ : Sg) (o : BOp) (i : Nat) (e : E) : exS G (.aug o i e) (c₀ :: s₀) = gValS ((c₀ :: s₀)[i]?) (c₀ :: s₀) .stuck fun τ d => (ev G e τ).toO fun r σ1 => isD r .stuck fun d' => opt (augD o d d') .stuck fun d2 => .of (setV σ1 i d2) := q_aug G (c₀ :: s₀) o i e
theorem r_sto (c₀ : Option Cell) (s₀ : Sg) (i : Nat) (k e : E) : exS G (.sto i k e) (c₀ :: s₀) = (ev G e (c₀ :: s₀)).toO fun r σ1 => fz1 σ1 r .stuck fun d σ2 => gOwnS (σ2[i]?) σ2 .stuck fun σ2 _ _ => (ev G k σ2).toO fun rk σ3 => isD rk .stuck fun dk => gOwn (σ3[i]?) .stuck fun h c => opt (stoD c dk d) .stuck fun c' => .nx (σ3.set i (some (.own h c'))) := q_sto G (c₀ :: s₀) i k e
theorem r_aus (c₀ : Option Cell) (s₀ : Sg) (o : BOp) (i : Nat) (k e : E) : exS G (.aus o i k e) (c₀ :: s₀) = gOwnS ((c₀ :: s₀)[i]?) (c₀ :: s₀) .stuck fun τ _ _ => (ev G k τ).toO fun rk σ1 => isDS rk σ1 .stuck fun σ1 dk => gOwnS (σ1[i]?) σ1 .stuck fun σ1 _ c => optS (dgD c dk) σ1 .stuck fun σ1 d0 => (ev G e σ1).toO fun r σ2 => isD r .stuck fun d1 => opt (augD o d0 d1) .stuck fun d2 => gOwn (σ2[i]?) .stuck fun h c2 => opt (stoD c2 dk d2) .stuck fun c3 => .nx (σ2.set i (some (.own h c3))) := q_aus G (c₀ :: s₀) o i k e
theorem r_ex (c₀ : Option Cell) (s₀ : Sg) (e : E) : exS G (.ex e) (c₀ :: s₀) = (ev G e (c₀ :: s₀)).toO fun _ σ1 => .nx σ1 := q_ex G (c₀ :: s₀) e
theorem r_ifs (c₀ : Option Cell) (s₀ : Sg) (c : E) (a b : Ss) : exS G (.ifs c a b) (c₀ :: s₀) = (ev G c (c₀ :: s₀)).toO fun x σ1 => lk1S σ1 x .stuck fun σ1 dx => cndS (truth dx) σ1 .stuck (exSs G a) (exSs G b) := q_ifs G (c₀ :: s₀) c a b
theorem r_fr (c₀ : Option Cell) (s₀ : Sg) (tg : Tg) (sk : SK) (es : Es) (b : Ss) : exS G (.fr tg sk es b) (c₀ :: s₀) = (evs G es (c₀ :: s₀)).toO fun xs σ1 => fzs σ1 xs .stuck fun ds σ2 => opt (srcD sk ds) .stuck fun its => forLoop tg (exSs G b) its σ2 := q_fr G (c₀ :: s₀) tg sk es b
theorem r_wh (c₀ : Option Cell) (s₀ : Sg) (c : E) (b : Ss) : exS G (.wh c b) (c₀ :: s₀) = whLoop (ev G c) (exSs G b) G.fuel (c₀ :: s₀) := q_wh G (c₀ :: s₀) c b
theorem r_ret (c₀ : Option Cell) (s₀ : Sg) (e : E) : exS G (.ret e) (c₀ :: s₀) = (ev G e (c₀ :: s₀)).toO fun r σ1 => .rt r σ1 := q_ret G (c₀ :: s₀) e
theorem r_retN (c₀ : Option Cell) (s₀ : Sg) : exS G .retN (c₀ :: s₀) = .rt (.d .non) (c₀ :: s₀) := q_retN G (c₀ :: s₀) 
theorem r_brk (c₀ : Option Cell) (s₀ : Sg) : exS G .brk (c₀ :: s₀) = .bk (c₀ :: s₀) := q_brk G (c₀ :: s₀) 
theorem r_cnt (c₀ : Option Cell) (s₀ : Sg) : exS G .cnt (c₀ :: s₀) = .ct (c₀ :: s₀) := q_cnt G (c₀ :: s₀) 
theorem r_pas (c₀ : Option Cell) (s₀ : Sg) : exS G .pas (c₀ :: s₀) = .nx (c₀ :: s₀) := q_pas G (c₀ :: s₀) 
theorem r_frg (c₀ : Option Cell) (s₀ : Sg) (l : List Nat) : exS G (.frg l) (c₀ :: s₀) = .nx (wipe (c₀ :: s₀) l) := q_frg G (c₀ :: s₀) l
theorem r_rse (c₀ : Option Cell) (s₀ : Sg) (c : Nat) (es : Es) : exS G (.rse c es) (c₀ :: s₀) = (evs G es (c₀ :: s₀)).toO fun xs σ1 => fzs σ1 xs .stuck fun ds σ2 => .exc c ds σ2 := q_rse G (c₀ :: s₀) c es
theorem r_snil (c₀ : Option Cell) (s₀ : Sg) : exSs G .nil (c₀ :: s₀) = .nx (c₀ :: s₀) := q_snil G (c₀ :: s₀) 
theorem r_scons (c₀ : Option Cell) (s₀ : Sg) (s : S) (ss : Ss) : exSs G (.cons s ss) (c₀ :: s₀) = (exS G s (c₀ :: s₀)).bind (exSs G ss) := q_scons G (c₀ :: s₀) s ss
end AW

/-! E2: operations on data, codes. -/
namespace AW
abbrev St := List Nat
/-! ### operations -/
theorem o_addI (i j : Int) : binD .add (.int i) (.int j) = some (.d (.int (i + j))) := rfl
theorem o_subI (i j : Int) : binD .sub (.int i) (.int j) = some (.d (.int (i - j))) := rfl
theorem o_addS {s t : St} (h : s.length + t.length ≤ line) : binD .add (.str s) (.str t) = some (.d (.str (s ++ t))) := by simp [binD, h]
theorem o_addT {s t : List D} (h : s.length + t.length ≤ line) : binD .add (.tup s) (.tup t) = some (.d (.tup (s ++ t))) := by simp [binD, h]
theorem o_addL {s t : List D} (h : s.length + t.length ≤ line) : binD .add (.lst s) (.lst t) = some (.new (.lst (s ++ t))) := by simp [binD, h]
theorem o_mul1 {i j : Int} (h : -(2 ^ 64) < i ∧ i < 2 ^ 64) : binD .mul (.int i) (.int j) = some (.d (.int (i * j))) := by simp only [binD, if_pos (Or.inl h)]
theorem o_mul2 {i j : Int} (h : -(2 ^ 64) < j ∧ j < 2 ^ 64) : binD .mul (.int i) (.int j) = some (.d (.int (i * j))) := by simp only [binD, if_pos (Or.inr h)]
theorem o_fdv {i j : Int} (h : j ≠ 0 ∧ j.natAbs < 1073741824) : binD .fdv (.int i) (.int j) = some (.d (.int (i.fdiv j))) := by simp only [binD, if_pos h]
theorem o_mod {i j : Int} (h : j ≠ 0) : binD .mod (.int i) (.int j) = some (.d (.int (i.fmod j))) := by simp only [binD, if_pos h]
theorem o_eqI (i j : Int) : cmpD .eq (.int i) (.int j) = some (decide (i = j)) := by
  have : (i == j) = decide (i = j) := rfl
  simp [cmpD, dep, eqD, this]
theorem o_neI (i j : Int) : cmpD .ne (.int i) (.int j) = some (!decide (i = j)) := by
  have : (i == j) = decide (i = j) := rfl
  simp [cmpD, dep, eqD, this]
theorem o_eqB (i j : Bool) : cmpD .eq (.bl i) (.bl j) = some (i == j) := by simp [cmpD, dep, eqD]
theorem o_neB (i j : Bool) : cmpD .ne (.bl i) (.bl j) = some (!(i == j)) := by simp [cmpD, dep, eqD]
theorem o_ltI (i j : Int) : cmpD .lt (.int i) (.int j) = some (decide (i < j)) := rfl
theorem o_leI (i j : Int) : cmpD .le (.int i) (.int j) = some (decide (i ≤ j)) := rfl
theorem o_gtI (i j : Int) : cmpD .gt (.int i) (.int j) = some (decide (j < i)) := rfl
theorem o_geI (i j : Int) : cmpD .ge (.int i) (.int j) = some (decide (j ≤ i)) := rfl
theorem o_ltS (i j : St) : cmpD .lt (.str i) (.str j) = some (ltS i j) := rfl
theorem o_leS (i j : St) : cmpD .le (.str i) (.str j) = some (!ltS j i) := rfl
theorem o_gtS (i j : St) : cmpD .gt (.str i) (.str j) = some (ltS j i) := rfl
theorem o_geS (i j : St) : cmpD .ge (.str i) (.str j) = some (!ltS i j) := rfl
theorem o_eqS (i j : St) : cmpD .eq (.str i) (.str j) = some (decide (i = j)) := by
  have : (i == j) = decide (i = j) := by by_cases h : i = j <;> simp [h]
  simp [cmpD, dep, eqD, this]
theorem o_neS (i j : St) : cmpD .ne (.str i) (.str j) = some (!decide (i = j)) := by
  have : (i == j) = decide (i = j) := by by_cases h : i = j <;> simp [h]
  simp [cmpD, dep, eqD, this]
theorem eqDs_nil (l : List D) : eqDs l [] = l.isEmpty := by cases l <;> rfl
theorem eqDs_nil' (l : List D) : eqDs [] l = l.isEmpty := by cases l <;> rfl
/-- compared with an empty one -/
theorem o_eqL0 {l : List D} (h : depL l ≤ 59) : cmpD .eq (.lst l) (.lst []) = some l.isEmpty := by
  simp [cmpD, dep, depL, eqD, eqDs_nil]; omega
theorem o_neL0 {l : List D} (h : depL l ≤ 59) : cmpD .ne (.lst l) (.lst []) = some (!l.isEmpty) := by
  simp [cmpD, dep, depL, eqD, eqDs_nil]; omega
theorem o_eqT0 {l : List D} (h : depL l ≤ 59) : cmpD .eq (.tup l) (.tup []) = some l.isEmpty := by
  simp [cmpD, dep, depL, eqD, eqDs_nil]; omega
theorem o_neT0 {l : List D} (h : depL l ≤ 59) : cmpD .ne (.tup l) (.tup []) = some (!l.isEmpty) := by
  simp [cmpD, dep, depL, eqD, eqDs_nil]; omega
theorem o_isN (d : D) : isKD false .non d = some (match d with | .non => true | _ => false) := by cases d <;> rfl
theorem o_isnN (d : D) : isKD true .non d = some (match d with | .non => false | _ => true) := by cases d <;> rfl
theorem o_isB (b c : Bool) : isKD false (.bl b) (.bl c) = some (decide (c = b)) := rfl
theorem kn_non : isKD false .non .non = some true := rfl
theorem kx_non : isKD true .non .non = some false := rfl
theorem kn_str (s : St) : isKD false .non (.str s) = some false := rfl
theorem kx_str (s : St) : isKD true .non (.str s) = some true := rfl
theorem kn_int (s : Int) : isKD false .non (.int s) = some false := rfl
theorem kx_int (s : Int) : isKD true .non (.int s) = some true := rfl
theorem kn_tup (s : List D) : isKD false .non (.tup s) = some false := rfl
theorem kx_tup (s : List D) : isKD true .non (.tup s) = some true := rfl
theorem kn_lst (s : List D) : isKD false .non (.lst s) = some false := rfl
theorem kx_lst (s : List D) : isKD true .non (.lst s) = some true := rfl
theorem kn_bl (s : Bool) : isKD false .non (.bl s) = some false := rfl
theorem kx_bl (s : Bool) : isKD true .non (.bl s) = some true := rfl
theorem t_non : truth .non = some false := rfl
theorem t_bl (b : Bool) : truth (.bl b) = some b := rfl
theorem t_int (i : Int) : truth (.int i) = some (i != 0) := rfl
theorem t_str (l : St) : truth (.str l) = some (!l.isEmpty) := rfl
theorem t_tup (l : List D) : truth (.tup l) = some (!l.isEmpty) := rfl
theorem t_lst (l : List D) : truth (.lst l) = some (!l.isEmpty) := rfl
theorem atI_nat {α : Type} (l : List α) (n : Nat) : L2.atI l (n : Int) = l[n]? := by
  simp only [L2.atI, L2.ixN]
  rw [if_pos (by omega)]
  by_cases h : n < l.length
  · rw [if_pos (by omega)]; simp
  · rw [if_neg (by omega)]; simp [List.getElem?_eq_none (by omega : l.length ≤ n)]
theorem atI_last {α : Type} (l : List α) : L2.atI l (-1) = l.getLast? := by
  simp only [L2.atI, L2.ixN]
  rw [if_neg (by decide)]
  cases l with
  | nil => rfl
  | cons a l =>
    rw [if_pos (by simp only [List.length_cons]; omega)]
    rw [List.getLast?_eq_getElem?]
    simp only [Option.bind_some, List.length_cons]
    congr 1
    omega
theorem ix_L (l : List D) (n : Nat) : idxD (.lst l) (.int (n : Int)) = l[n]? := atI_nat l n
theorem ix_T (l : List D) (n : Nat) : idxD (.tup l) (.int (n : Int)) = l[n]? := atI_nat l n
theorem ix_C (l : List D) (n : Nat) : idxD (.cst l) (.int (n : Int)) = l[n]? := atI_nat l n
theorem ix_S (l : St) (n : Nat) : idxD (.str l) (.int (n : Int)) = (l[n]?).map fun c => .str [c] := by
  show (L2.atI l n).map _ = _; rw [atI_nat]
theorem ix_L0 (l : List D) : idxD (.lst l) (.int 0) = l[0]? := ix_L l 0
theorem ix_T0 (l : List D) : idxD (.tup l) (.int 0) = l[0]? := ix_T l 0
theorem ix_T1 (l : List D) : idxD (.tup l) (.int 1) = l[1]? := ix_T l 1
theorem ix_T2 (l : List D) : idxD (.tup l) (.int 2) = l[2]? := ix_T l 2
theorem ix_T3 (l : List D) : idxD (.tup l) (.int 3) = l[3]? := ix_T l 3
theorem ix_T4 (l : List D) : idxD (.tup l) (.int 4) = l[4]? := ix_T l 4
theorem ix_Tm (l : List D) : idxD (.tup l) (.int (-1)) = l.getLast? := atI_last l
theorem ix_Lm (l : List D) : idxD (.lst l) (.int (-1)) = l.getLast? := atI_last l
theorem ix_D (t : Bool) (ks vs : List D) (k : D) (h : isKey t k = true) : idxD (.dct t ks vs) k = dget ks vs k := by simp [idxD, h]
theorem bi_lenL (l : List D) : biD .len [.lst l] = some (.d (.int l.length)) := rfl
theorem bi_lenC (l : List D) : biD .len [.cst l] = some (.d (.int l.length)) := rfl
theorem bi_lenT (l : List D) : biD .len [.tup l] = some (.d (.int l.length)) := rfl
theorem bi_lenS (l : St) : biD .len [.str l] = some (.d (.int l.length)) := rfl
theorem bi_tupL (l : List D) : biD .tuple [.lst l] = some (.d (.tup l)) := rfl
theorem bi_tupT (l : List D) : biD .tuple [.tup l] = some (.d (.tup l)) := rfl
theorem bi_lstL (l : List D) : biD .list [.lst l] = some (.new (.lst l)) := rfl
theorem bi_lstT (l : List D) : biD .list [.tup l] = some (.new (.lst l)) := rfl
theorem bi_intI (i : Int) : biD .int [.int i] = some (.d (.int i)) := rfl
theorem bi_abs (i : Int) : biD .abs [.int i] = some (.d (.int (if i < 0 then -i else i))) := rfl
theorem bi_sortL (l : List D) : biD .sorted [.lst l] = (sortD l).map fun r => .new (.lst r) := rfl
theorem bi_sortT (l : List D) : biD .sorted [.tup l] = (sortD l).map fun r => .new (.lst r) := rfl
theorem s_L (l : List D) : srcD .seq [.lst l] = some l := rfl
theorem s_T (l : List D) : srcD .seq [.tup l] = some l := rfl
theorem s_S (l : St) : srcD .seq [.str l] = some (l.map fun c => .str [c]) := rfl
theorem s_K (ks vs : List D) : srcD .keys [.dct false ks vs] = some ks := rfl
theorem s_rng {n : Nat} (h : n ≤ 8388608) : srcD .range [.int (n : Int)] = some ((List.range n).map fun i => .int (i : Int)) := by
  have : small62 (n : Int) = true := by simp only [small62, decide_eq_true_eq]; omega
  simp [srcD, this, rngL]
theorem a_app {l : List D} {x : D} (h : l.length < line) : muD .append (.lst l) [x] = some (.lst (l ++ [x]), .non) := by simp [muD, h]
theorem a_ext {l r : List D} (h : l.length + r.length ≤ line) : muD .extend (.lst l) [.lst r] = some (.lst (l ++ r), .non) := by simp [muD, items, h]
theorem a_extT {l r : List D} (h : l.length + r.length ≤ line) : muD .extend (.lst l) [.tup r] = some (.lst (l ++ r), .non) := by simp [muD, items, h]
theorem a_pop (l : List D) (x : D) : muD .pop (.lst (l ++ [x])) [] = some (.lst l, x) := by simp [muD]
theorem g_addI (i j : Int) : augD .add (.int i) (.int j) = some (.int (i + j)) := rfl
theorem p_non (x : RV) : partOf (.k .non) x = some none := by cases x <;> rfl
theorem p_int (e : E) (i : Int) (h : (match e with | .k .non => true | _ => false) = false) : partOf e (.d (.int i)) = some (some i) := by
  unfold partOf; split <;> simp_all

/-! ### codes -/
structure Cod (α : Type) [DecidableEq α] where
  enc : α → D
  d : Nat
  eq : ∀ a b, eqD (enc a) (enc b) = decide (a = b)
  dp : ∀ a, dep (enc a) ≤ d
variable {α β : Type} [DecidableEq α] [DecidableEq β]
theorem depL_map {γ : Type} (f : γ → D) {n : Nat} (h : ∀ a, dep (f a) ≤ n) : ∀ l : List γ, depL (l.map f) ≤ n
  | [] => Nat.zero_le _
  | a :: l => by simp only [List.map_cons, depL]; exact Nat.max_le.mpr ⟨h a, depL_map f h l⟩
theorem depL_map' {γ : Type} (f : γ → D) {n : Nat} : ∀ l : List γ, (∀ a ∈ l, dep (f a) ≤ n) → depL (l.map f) ≤ n
  | [], _ => Nat.zero_le _
  | a :: l, h => by simp only [List.map_cons, depL]; exact Nat.max_le.mpr ⟨h a List.mem_cons_self, depL_map' f l fun b hb => h b (List.mem_cons_of_mem _ hb)⟩
theorem eqDs_map (f : α → D) (h : ∀ a b, eqD (f a) (f b) = decide (a = b)) : ∀ l m : List α, eqDs (l.map f) (m.map f) = decide (l = m)
  | [], m => by cases m <;> simp [eqDs]
  | a :: l, m => by
    cases m with
    | nil => simp [eqDs]
    | cons b m => simp [eqDs, h, eqDs_map f h l m]
def cStr : Cod St := ⟨.str, 0, fun a b => by by_cases h : a = b <;> simp [eqD, h], fun a => Nat.le_refl 0⟩
def cInt : Cod Int := ⟨.int, 0, fun a b => by by_cases h : a = b <;> simp [eqD, h], fun a => Nat.le_refl 0⟩
def cBl : Cod Bool := ⟨.bl, 0, fun a b => by cases a <;> cases b <;> rfl, fun a => Nat.le_refl 0⟩
def cTup (c : Cod α) : Cod (List α) := ⟨fun l => .tup (l.map c.enc), c.d + 1, fun l m => by simp only [eqD]; exact eqDs_map c.enc c.eq l m, fun l => by simp only [dep]; exact Nat.succ_le_succ (depL_map _ c.dp l)⟩
def cLst (c : Cod α) : Cod (List α) := ⟨fun l => .lst (l.map c.enc), c.d + 1, fun l m => by simp only [eqD]; exact eqDs_map c.enc c.eq l m, fun l => by simp only [dep]; exact Nat.succ_le_succ (depL_map _ c.dp l)⟩
def cPair (c : Cod α) (e : Cod β) : Cod (α × β) := ⟨fun p => .tup [c.enc p.1, e.enc p.2], max c.d e.d + 1, fun p q => by
    simp only [eqD, eqDs, c.eq, e.eq, Bool.and_true, Prod.ext_iff, Bool.decide_and], fun p => by
    simp only [dep, depL]; have := c.dp p.1; have := e.dp p.2; omega⟩
theorem Cod.eqD (c : Cod α) (h : c.d ≤ 60) (a b : α) : cmpD .eq (c.enc a) (c.enc b) = some (decide (a = b)) := by
  have := c.dp a; have := c.dp b
  simp only [cmpD, c.eq]; rw [if_pos (by omega)]
theorem Cod.neD (c : Cod α) (h : c.d ≤ 60) (a b : α) : cmpD .ne (c.enc a) (c.enc b) = some (!decide (a = b)) := by
  have := c.dp a; have := c.dp b
  simp only [cmpD, c.eq]; rw [if_pos (by omega)]
theorem Cod.any (c : Cod α) (a : α) : ∀ l : List α, (l.map c.enc).any (fun y => AW.eqD y (c.enc a)) = decide (a ∈ l)
  | [] => by simp
  | b :: l => by
    rw [List.map_cons, List.any_cons, c.any a l, c.eq]
    by_cases h : b = a
    · simp [h]
    · have : ¬ a = b := fun z => h z.symm
      simp [h, this]
theorem Cod.memT (c : Cod α) (h : c.d ≤ 59) (a : α) (l : List α) : memD (c.enc a) (.tup (l.map c.enc)) = some (decide (a ∈ l)) := by
  have := c.dp a; have := depL_map _ c.dp l
  simp only [memD, c.any, dep]; rw [if_pos (by omega)]
theorem Cod.memL (c : Cod α) (h : c.d ≤ 59) (a : α) (l : List α) : memD (c.enc a) (.lst (l.map c.enc)) = some (decide (a ∈ l)) := by
  have := c.dp a; have := depL_map _ c.dp l
  simp only [memD, c.any, dep]; rw [if_pos (by omega)]
theorem Cod.inj (c : Cod α) {a b : α} (h : c.enc a = c.enc b) : a = b := by
  have := c.eq a b; rw [h, c.eq b b] at this; simpa using this.symm
theorem cmp_mem (x y : D) : cmpD .mem x y = memD x y := rfl
theorem cmp_nmem (x y : D) : cmpD .nmem x y = (memD x y).map fun b => !b := rfl
/-- a permutation of codes is the codes of a permutation -/
theorem perm_map {γ : Type} (f : γ → D) : ∀ {r : List D} {l : List γ}, r.Perm (l.map f) → ∃ m : List γ, r = m.map f ∧ m.Perm l := by
  intro r l h
  generalize hm : l.map f = L at h
  induction h generalizing l with
  | nil => exact ⟨[], rfl, by cases l <;> simp_all⟩
  | @cons x r1 r2 p ih =>
    cases l with
    | nil => cases hm
    | cons a l =>
      simp only [List.map_cons, List.cons.injEq] at hm
      obtain ⟨m, e1, e2⟩ := ih hm.2
      exact ⟨a :: m, by simp [e1, hm.1], e2.cons a⟩
  | swap x y r1 =>
    match l, hm with
    | [], hm => cases hm
    | [_], hm => cases hm
    | a :: b :: l, hm =>
      simp only [List.map_cons, List.cons.injEq] at hm
      exact ⟨b :: a :: l, by simp [hm], List.Perm.swap _ _ _⟩
  | trans p q ih1 ih2 =>
    obtain ⟨m, e1, e2⟩ := ih2 hm
    obtain ⟨m', e1', e2'⟩ := ih1 e1.symm
    exact ⟨m', e1', e2'.trans e2⟩
/-- what can be sorted -/
theorem sortD_some {xs : List D} (k : oneK xs = true) (h : ∀ x ∈ xs, ∀ y ∈ xs, (ltD x y).isSome = true) (d : ∀ x ∈ xs, dep x ≤ 60) : ∃ r, sortD xs = some r := by
  unfold sortD
  have : (xs.all fun x => xs.all fun y => canLt x y) = true := by
    simp only [List.all_eq_true, canLt, Bool.and_eq_true, decide_eq_true_eq]
    exact fun x hx y hy => ⟨⟨h x hx y hy, d x hx⟩, d y hy⟩
  simp only [k, this, Bool.and_self, if_true]
  exact ⟨_, rfl⟩
theorem ltDs_str : ∀ (a b : List St), (ltDs (a.map .str) (b.map .str)).isSome = true
  | [], b => by cases b <;> rfl
  | x :: a, [] => rfl
  | x :: a, y :: b => by
    have := ltDs_str a b
    simp only [List.map_cons, ltDs]
    cases h : ltDs (a.map .str) (b.map .str) with
    | none => rw [h] at this; cases this
    | some r =>
      simp only
      by_cases e : eqD (.str x) (.str y) = true
      · simp only [e, if_true]
        have : x = y := by simpa [eqD] using e
        simp [this, sameD]
      · simp only [e, if_false]; rfl
end AW

/-! B1: bodies as data. -/
namespace AW
inductive Nd where | mk (l : St) (w : List St) (k : List Nd)
def Nd.l : Nd → St | .mk l _ _ => l
def Nd.w : Nd → List St | .mk _ w _ => w
def Nd.k : Nd → List Nd | .mk _ _ k => k
def encW (w : List St) : D := .tup (w.map .str)
mutual
def encN : Nd → D | .mk l w k => .tup [.str l, encW w, .tup (encNs k)]
def encNs : List Nd → List D | [] => [] | n :: k => encN n :: encNs k
end
theorem encNs_map : ∀ k : List Nd, encNs k = k.map encN
  | [] => rfl
  | n :: k => by simp [encNs, encNs_map k]
theorem encN_eq (n : Nd) : encN n = .tup [.str n.l, encW n.w, .tup (n.k.map encN)] := by
  cases n; simp [encN, encNs_map, Nd.l, Nd.w, Nd.k]
def encB (b : List Nd) : D := .tup (b.map encN)
/-- bodies so deep, at most three kids, labels once -/
def okB (m : Nat) : Nat → List Nd → Prop
  | 0, b => b = []
  | d + 1, b => b.length ≤ 3 ∧ (b.map Nd.l).Nodup ∧ ∀ n ∈ b, n.l ≠ [] ∧ n.l.length ≤ 5 ∧ n.w.length ≤ m ∧ okB m d n.k
theorem depW (w : List St) : dep (encW w) ≤ 1 := (cTup cStr).dp w
theorem okB_dep : ∀ {m d : Nat} {b : List Nd}, okB m d b → dep (encB b) ≤ 2 * d + 1
  | _, 0, b, h => by cases h; simp [encB, dep, depL]
  | _, d + 1, b, h => by
    simp only [encB, dep]
    have := depL_map' encN (n := 2 * d + 2) b fun n hn => by
      have h1 := okB_dep (h.2.2 n hn).2.2.2
      have h2 := depW n.w
      simp only [encB] at h1
      rw [encN_eq]; simp only [dep, depL] at h1 ⊢
      omega
    omega
theorem okB_depN {m d : Nat} {b : List Nd} (h : okB m d b) {n : Nd} (hn : n ∈ b) : dep (encN n) ≤ 2 * d := by
  cases d with
  | zero => cases h; cases hn
  | succ d =>
    have h1 := okB_dep (h.2.2 n hn).2.2.2
    have h2 := depW n.w
    simp only [encB] at h1
    rw [encN_eq]; simp only [dep, depL] at h1 ⊢
    omega
theorem o_neB0 {m d : Nat} {b : List Nd} (h : okB m d b) (hd : d ≤ 20) : cmpD .ne (encB b) (.tup []) = some (!b.isEmpty) := by
  have := okB_dep h
  simp only [encB, dep] at this ⊢
  rw [o_neT0 (by omega)]; cases b <;> rfl
theorem setT_N (σ : Sg) (l : List Nat) (n : Nd) : setT σ (.many l) (encN n) = setVs σ l [.str n.l, encW n.w, encB n.k] := by rw [encN_eq]; rfl
theorem o_consW {x : St} {w : List St} (h : w.length ≤ 100) : binD .add (.tup [.str x]) (encW w) = some (.d (encW (x :: w))) := by
  rw [encW, o_addT (by simp [line]; omega)]; rfl
theorem o_snocW {x : St} {w : List St} (h : w.length ≤ 100) : binD .add (encW w) (.tup [.str x]) = some (.d (encW (w ++ [x]))) := by
  rw [encW, o_addT (by simp [line]; omega)]; simp [encW]
theorem ix_N0 (n : Nd) : idxD (encN n) (.int 0) = some (.str n.l) := by rw [encN_eq, ix_T0]; rfl
theorem ix_N1 (n : Nd) : idxD (encN n) (.int 1) = some (encW n.w) := by rw [encN_eq, ix_T1]; rfl
theorem ix_N2 (n : Nd) : idxD (encN n) (.int 2) = some (encB n.k) := by rw [encN_eq, ix_T2]; rfl
theorem srcB (B : List Nd) : srcD .seq [encB B] = some (B.map encN) := rfl
theorem bi_lenB (b : List Nd) : biD .len [encB b] = some (.d (.int b.length)) := by simp only [encB, bi_lenT, List.length_map]
theorem tupB (b : List Nd) : D.tup (b.map encN) = encB b := rfl
theorem eqW (a b : List St) : cmpD .eq (encW a) (encW b) = some (decide (a = b)) := (cTup cStr).eqD (by decide) a b
theorem neW (a b : List St) : cmpD .ne (encW a) (encW b) = some (!decide (a = b)) := (cTup cStr).neD (by decide) a b
/-- rows of paths -/
def encPs (F : List (List St)) : D := .tup (F.map encW)
def lstPs (F : List (List St)) : D := .lst (F.map encW)
theorem memPs (p : List St) (F : List (List St)) : memD (encW p) (encPs F) = some (decide (p ∈ F)) := ((cTup cStr).memT (by decide) p F).trans (by congr)
theorem memLPs (p : List St) (F : List (List St)) : memD (encW p) (lstPs F) = some (decide (p ∈ F)) := ((cTup cStr).memL (by decide) p F).trans (by congr)
theorem eqPs (a b : List (List St)) : cmpD .eq (encPs a) (encPs b) = some (decide (a = b)) := (cTup (cTup cStr)).eqD (by decide) a b
theorem nePs (a b : List (List St)) : cmpD .ne (encPs a) (encPs b) = some (!decide (a = b)) := (cTup (cTup cStr)).neD (by decide) a b
theorem sortPs {F : List (List St)} (h : ∀ p ∈ F, p ≠ []) : ∃ F' : List (List St), sortD (F.map encW) = some (F'.map encW) ∧ F'.Perm F := by
  obtain ⟨r, e⟩ := sortD_some (xs := F.map encW) (by
      have : (F.map encW).all isTS = true := by
        simp only [List.all_eq_true, List.mem_map]
        rintro x ⟨p, hp, rfl⟩
        cases p with
        | nil => exact absurd rfl (h _ hp)
        | cons a p => rfl
      simp [oneK, this]) (by
      intro x hx y hy
      obtain ⟨a, _, rfl⟩ := List.mem_map.mp hx
      obtain ⟨b, _, rfl⟩ := List.mem_map.mp hy
      exact ltDs_str a b) (by
      intro x hx
      obtain ⟨a, _, rfl⟩ := List.mem_map.mp hx
      exact Nat.le_trans (depW a) (by decide))
  obtain ⟨m, rfl, hp⟩ := perm_map encW (sortD_perm e)
  exact ⟨m, e, hp⟩
/-- one step down -/
def na : List Nd → Option Nd → List St → Option (List Nd × Option Nd)
  | B, f, [] => some (B, f)
  | B, f, l :: p => match B.find? (fun n => n.l == l) with | none => none | some n => na n.k (some n) p
def encO : Option Nd → D | none => .non | some n => encN n
theorem na_app : ∀ (p q : List St) (B : List Nd) (f : Option Nd), na B f (p ++ q) = (na B f p).bind fun r => na r.1 r.2 q
  | [], q, B, f => rfl
  | l :: p, q, B, f => by
    simp only [List.cons_append, na]
    cases B.find? fun n => n.l == l with
    | none => rfl
    | some n => exact na_app p q n.k (some n)
theorem find_lab : ∀ {B : List Nd} {n : Nd}, (B.map Nd.l).Nodup → n ∈ B → B.find? (fun x => x.l == n.l) = some n
  | [], _, _, h => by cases h
  | b :: B, n, nd, h => by
    simp only [List.map_cons, List.nodup_cons] at nd
    rw [List.find?_cons]
    by_cases e : b.l = n.l
    · rcases List.mem_cons.mp h with rfl | h
      · simp
      · exact absurd (List.mem_map.mpr ⟨n, h, e.symm⟩) nd.1
    · have : (b.l == n.l) = false := by simp [e]
      rw [this]
      rcases List.mem_cons.mp h with rfl | h
      · exact absurd rfl e
      · exact find_lab nd.2 h
theorem okB_nd {m d : Nat} {b : List Nd} (h : okB m d b) : (b.map Nd.l).Nodup := by
  cases d with
  | zero => cases h; exact List.nodup_nil
  | succ d => exact h.2.1
theorem okB_len {m d : Nat} {b : List Nd} (h : okB m d b) : b.length ≤ 3 := by
  cases d with
  | zero => cases h; simp
  | succ d => exact h.1
theorem okB_kid {m d : Nat} {b : List Nd} (h : okB m d b) {n : Nd} (hn : n ∈ b) : 0 < d ∧ n.l ≠ [] ∧ n.l.length ≤ 5 ∧ n.w.length ≤ m ∧ okB m (d - 1) n.k := by
  cases d with
  | zero => cases h; cases hn
  | succ d => exact ⟨Nat.succ_pos d, h.2.2 n hn⟩
theorem na_kid {B : List Nd} {p : List St} {n : Nd} {m d : Nat} (h : na B none p = some (n.k, some n)) (ok : okB m d n.k) {kid : Nd} (hk : kid ∈ n.k) : na B none (p ++ [kid.l]) = some (kid.k, some kid) := by
  rw [na_app, h]
  simp only [Option.bind_some, na, find_lab (okB_nd ok) hk]
theorem cut_to1 {α : Type} (l : List α) : cutL l none (some 1) = l.take 1 := by
  cases l with
  | nil => rfl
  | cons a l =>
    simp only [cutL, HT.sIx, List.length_cons]
    rw [if_neg (by omega)]
    simp [Nat.min_eq_left (Nat.succ_le_succ (Nat.zero_le l.length))]
end AW

namespace AW.K75
open AW
def ir_node_at_C1c : E :=
    (.cmp .eq (.idx (.v 5) (.k (.int 0))) (.v 3))
def ir_node_at_C1 : E :=
    (.v 5)
def ir_node_at_I1 : AW.S :=
    (.ifs (.cmp .eq (.v 4) (.lst .nil)) (.cons (.ret (.k .non))
    .nil) .nil)
def ir_node_at_L1 : Ss :=
    (.cons (.asg false 4 (.comp [5] (.one 5) .seq (.cons (.v 0) .nil) ir_node_at_C1c ir_node_at_C1))
    (.cons ir_node_at_I1
    (.cons (.asg false 2 (.idx (.v 4) (.k (.int 0))))
    (.cons (.asg false 0 (.idx (.v 2) (.k (.int 2))))
    (.cons (.frg [3, 4])
    .nil)))))
/-- node_at(body, path); slots 0=body 1=path 2=found 3=label 4=able 5=node -/
def ir_node_at : Ss :=
    (.cons (.asg false 2 (.k .non))
    (.cons (.fr (.one 3) .seq (.cons (.v 1) .nil) ir_node_at_L1)
    (.cons (.ret (.v 2))
    .nil)))
/-- head_of(node); slots 0=node -/
def ir_head_of : Ss :=
    (.cons (.ret (.ite (.and (.cmp .ne (.slc (.idx (.v 0) (.k (.int 1))) (.k .non) (.k (.int 1))) (.tup .nil)) (.cmp .mem (.idx (.idx (.v 0) (.k (.int 1))) (.k (.int 0))) (.g 0))) (.idx (.idx (.v 0) (.k (.int 1))) (.k (.int 0))) (.k .non)))
    .nil)
def ir_is_met_I1 : AW.S :=
    (.ifs (.isK false (.v 4) .non) (.cons (.ret (.cmp .mem (.v 1) (.v 2)))
    .nil) .nil)
def ir_is_met_C1c : E :=
    (.call 2 (.cons (.v 0) (.cons (.bin .add (.v 1) (.tup (.cons (.idx (.v 6) (.k (.int 0))) .nil))) (.cons (.v 2) .nil))))
def ir_is_met_C1 : E :=
    (.v 6)
def ir_is_met_I2 : AW.S :=
    (.ifs (.cmp .eq (.v 4) (.k (.str [97, 108, 108]))) (.cons (.ret (.cmp .eq (.v 5) (.bi .len (.cons (.idx (.v 3) (.k (.int 2))) .nil))))
    .nil) .nil)
/-- is_met(body, path, facts); slots 0=body 1=path 2=facts 3=node 4=head 5=many 6=kid -/
def ir_is_met : Ss :=
    (.cons (.asg false 3 (.call 0 (.cons (.v 0) (.cons (.v 1) .nil))))
    (.cons (.asg false 4 (.call 1 (.cons (.v 3) .nil)))
    (.cons ir_is_met_I1
    (.cons (.asg false 5 (.bi .len (.cons (.comp [6] (.one 6) .seq (.cons (.idx (.v 3) (.k (.int 2))) .nil) ir_is_met_C1c ir_is_met_C1) .nil)))
    (.cons ir_is_met_I2
    (.cons (.ret (.ite (.cmp .eq (.v 4) (.k (.str [110, 111, 110, 101]))) (.cmp .eq (.v 5) (.k (.int 0))) (.cmp .ge (.v 5) (.ite (.cmp .eq (.v 4) (.k (.str [111, 110, 101]))) (.k (.int 1)) (.k (.int 2))))))
    .nil))))))
def ir_leaves_below_I1 : AW.S :=
    (.ifs (.isK false (.call 1 (.cons (.v 2) .nil)) .non) (.cons (.ret (.tup (.cons (.v 1) .nil)))
    .nil) .nil)
def ir_leaves_below_L1 : Ss :=
    (.cons (.ex (.mu .extend 3 (.cons (.call 3 (.cons (.v 0) (.cons (.bin .add (.v 1) (.tup (.cons (.idx (.v 4) (.k (.int 0))) .nil))) .nil))) .nil)))
    (.cons (.frg [4])
    .nil))
/-- leaves_below(body, path); slots 0=body 1=path 2=node 3=found 4=kid -/
def ir_leaves_below : Ss :=
    (.cons (.asg false 2 (.call 0 (.cons (.v 0) (.cons (.v 1) .nil))))
    (.cons ir_leaves_below_I1
    (.cons (.asg true 3 (.lst .nil))
    (.cons (.fr (.one 4) .seq (.cons (.idx (.v 2) (.k (.int 2))) .nil) ir_leaves_below_L1)
    (.cons (.ret (.bi .tuple (.cons (.v 3) .nil)))
    .nil)))))
def ir_turns_C1c : E :=
    (.cmp .ne (.v 7) (.v 5))
def ir_turns_C1 : E :=
    (.v 7)
def ir_turns_I1 : AW.S :=
    (.ifs (.cmp .mem (.v 5) (.v 2)) (.cons (.asg false 6 (.bi .tuple (.cons (.comp [7] (.one 7) .seq (.cons (.v 2) .nil) ir_turns_C1c ir_turns_C1) .nil)))
    .nil) (.cons (.asg false 6 (.bi .tuple (.cons (.bi .sorted (.cons (.bin .add (.v 2) (.tup (.cons (.v 5) .nil))) .nil)) .nil)))
    .nil))
def ir_turns_I2 : AW.S :=
    (.ifs (.cmp .ne (.call 2 (.cons (.v 0) (.cons (.v 1) (.cons (.v 6) .nil)))) (.v 3)) (.cons (.ex (.mu .append 4 (.cons (.v 5) .nil)))
    .nil) .nil)
def ir_turns_L1 : Ss :=
    (.cons ir_turns_I1
    (.cons ir_turns_I2
    (.cons (.frg [5, 6])
    .nil)))
/-- turns(body, path, facts); slots 0=body 1=path 2=facts 3=now 4=found 5=leaf 6=other 7=fact -/
def ir_turns : Ss :=
    (.cons (.asg false 3 (.call 2 (.cons (.v 0) (.cons (.v 1) (.cons (.v 2) .nil)))))
    (.cons (.asg true 4 (.lst .nil))
    (.cons (.fr (.one 5) .seq (.cons (.call 3 (.cons (.v 0) (.cons (.v 1) .nil))) .nil) ir_turns_L1)
    (.cons (.ret (.bi .tuple (.cons (.v 4) .nil)))
    .nil))))
def ir__law_draws_I1 : AW.S :=
    (.ifs (.cmp .ge (.v 5) (.bin .pow (.k (.int 10)) (.k (.int 18)))) (.cons (.asg false 6 (.v 5))
    .nil) (.cons (.ex (.mu .append 2 (.cons (.bin .mod (.bi .int (.cons (.v 5) .nil)) (.k (.int 997))) .nil)))
    (.cons (.ex (.mu .append 2 (.cons (.bin .mod (.bin .mod (.bi .int (.cons (.bin .add (.bin .mul (.v 3) (.k (.int 69621))) (.k (.int 5))) .nil)) (.k (.int 65521))) (.k (.int 997))) .nil)))
    .nil)))
def ir__law_draws_I2 : AW.S :=
    (.ifs (.cmp .gt (.v 6) (.k (.int 0))) (.cons (.ex (.mu .append 2 (.cons (.bin .mod (.bi .int (.cons (.v 6) .nil)) (.k (.int 997))) .nil)))
    (.cons (.asg false 6 (.bin .fdv (.v 6) (.k (.int 997))))
    .nil)) .nil)
def ir__law_draws_L2 : Ss :=
    (.cons ir__law_draws_I2
    (.cons (.frg [7])
    .nil))
def ir__law_draws_L1 : Ss :=
    (.cons (.asg false 5 (.bi .abs (.cons (.bi .int (.cons (.idx (.v 0) (.v 4)) .nil)) .nil)))
    (.cons (.asg false 3 (.bin .mod (.bi .int (.cons (.bin .add (.bin .add (.bin .mul (.v 3) (.k (.int 48271))) (.bin .mod (.v 5) (.k (.int 1000003)))) (.v 4)) .nil)) (.k (.int 65537))))
    (.cons (.asg false 6 (.k (.int 0)))
    (.cons ir__law_draws_I1
    (.cons (.frg [7])
    (.cons (.fr (.one 7) .range (.cons (.k (.int 60)) .nil) ir__law_draws_L2)
    (.cons (.frg [4, 5, 6, 7])
    .nil)))))))
def ir__law_draws_L3 : Ss :=
    (.cons (.asg false 3 (.bin .mod (.bi .int (.cons (.bin .add (.bin .add (.bin .mul (.v 3) (.k (.int 16807))) (.v 4)) (.k (.int 1))) .nil)) (.k (.int 65537))))
    (.cons (.ex (.mu .append 2 (.cons (.bin .mod (.bi .int (.cons (.v 3) .nil)) (.k (.int 997))) .nil)))
    (.cons (.frg [4])
    .nil)))
/-- _law_draws(script, many); slots 0=script 1=many 2=draws 3=mixed 4=k 5=cell 6=rest 7=turn -/
def ir__law_draws : Ss :=
    (.cons (.asg true 2 (.lst .nil))
    (.cons (.asg false 3 (.k (.int 7)))
    (.cons (.fr (.one 4) .range (.cons (.bi .len (.cons (.v 0) .nil)) .nil) ir__law_draws_L1)
    (.cons (.frg [4])
    (.cons (.fr (.one 4) .range (.cons (.v 1) .nil) ir__law_draws_L3)
    (.cons (.ret (.slc (.v 2) (.k .non) (.v 1)))
    .nil))))))
def ir__law_next_I1 : AW.S :=
    (.ifs (.cmp .gt (.idx (.v 0) (.k (.str [97, 116]))) (.bi .len (.cons (.idx (.v 0) (.k (.str [100, 114, 97, 119, 115]))) .nil))) (.cons (.ret (.k (.int 0)))
    .nil) .nil)
/-- _law_next(w, many); slots 0=w 1=many -/
def ir__law_next : Ss :=
    (.cons (.aus .add 0 (.k (.str [97, 116])) (.k (.int 1)))
    (.cons ir__law_next_I1
    (.cons (.ret (.bin .mod (.bi .int (.cons (.idx (.idx (.v 0) (.k (.str [100, 114, 97, 119, 115]))) (.bin .sub (.idx (.v 0) (.k (.str [97, 116]))) (.k (.int 1)))) .nil)) (.v 1)))
    .nil)))
/-- _law_pick(w, rows); slots 0=w 1=rows -/
def ir__law_pick : Ss :=
    (.cons (.ret (.idx (.v 1) (.call 6 (.cons (.v 0) (.cons (.bi .len (.cons (.v 1) .nil)) .nil)))))
    .nil)
/-- _law_is_bit(said, due); slots 0=said 1=due -/
def ir__law_is_bit : Ss :=
    (.cons (.ret (.or (.and (.v 1) (.isK false (.v 0) (.bl true))) (.and (.not (.v 1)) (.isK false (.v 0) (.bl false)))))
    .nil)
def ir__law_words_C1 : E :=
    (.call 7 (.cons (.v 0) (.cons (.lst (.cons (.k (.str [116, 104, 101])) (.cons (.k (.str [97, 49])) (.cons (.k (.str [101, 45, 109, 97, 105, 108])) (.cons (.k (.str [120, 46, 121])) (.cons (.k (.str [64, 104, 111, 109, 101])) (.cons (.k (.str [100, 111, 110, 39, 116])) (.cons (.k (.str [55])) .nil)))))))) .nil)))
/-- _law_words(w, most); slots 0=w 1=most 2=k -/
def ir__law_words : Ss :=
    (.cons (.ret (.bi .tuple (.cons (.comp [2] (.one 2) .range (.cons (.call 6 (.cons (.v 0) (.cons (.bin .add (.v 1) (.k (.int 1))) .nil))) .nil) (.k (.bl true)) ir__law_words_C1) .nil)))
    .nil)
/-- _law_label(w); slots 0=w -/
def ir__law_label : Ss :=
    (.cons (.ret (.bin .add (.call 7 (.cons (.v 0) (.cons (.lst (.cons (.k (.str [49])) (.cons (.k (.str [50])) (.cons (.k (.str [51])) .nil)))) .nil))) (.call 7 (.cons (.v 0) (.cons (.lst (.cons (.k (.str [])) (.cons (.k (.str [])) (.cons (.k (.str [97])) (.cons (.k (.str [98])) (.cons (.k (.str [97, 97])) .nil)))))) .nil)))))
    .nil)
def ir__law_key_C1c : E :=
    (.and (.cmp .le (.k (.str [48])) (.v 2)) (.cmp .le (.v 2) (.k (.str [57]))))
def ir__law_key_C1 : E :=
    (.v 2)
/-- _law_key(label); slots 0=label 1=k 2=sign -/
def ir__law_key : Ss :=
    (.cons (.asg false 1 (.bi .len (.cons (.comp [2] (.one 2) .seq (.cons (.v 0) .nil) ir__law_key_C1c ir__law_key_C1) .nil)))
    (.cons (.ret (.tup (.cons (.bi .int (.cons (.slc (.v 0) (.k .non) (.v 1)) .nil)) (.cons (.slc (.v 0) (.v 1) (.k .non)) .nil))))
    .nil))
def ir__law_body_L1 : Ss :=
    (.cons (.sto 3 (.call 10 (.cons (.v 0) .nil)) (.k (.bl true)))
    (.cons (.frg [2])
    .nil))
def ir__law_body_C1 : E :=
    (.tup (.cons (.call 11 (.cons (.v 6) .nil)) (.cons (.v 6) .nil)))
def ir__law_body_L2 : Ss :=
    (.cons (.ex (.mu .append 4 (.cons (.tup (.cons (.v 6) (.cons (.call 9 (.cons (.v 0) (.cons (.k (.int 4)) .nil))) (.cons (.ite (.cmp .gt (.v 1) (.k (.int 0))) (.call 12 (.cons (.v 0) (.cons (.bin .sub (.v 1) (.k (.int 1))) .nil))) (.tup .nil)) .nil)))) .nil)))
    (.cons (.frg [5, 6])
    .nil))
/-- _law_body(w, deep); slots 0=w 1=deep 2=k 3=labels 4=found 5=key 6=label -/
def ir__law_body : Ss :=
    (.cons (.par [(true, 3), (true, 4)] (.cons (.dct false .nil .nil) (.cons (.lst .nil) .nil)))
    (.cons (.fr (.one 2) .range (.cons (.call 6 (.cons (.v 0) (.cons (.k (.int 4)) .nil))) .nil) ir__law_body_L1)
    (.cons (.fr (.many [5, 6]) .seq (.cons (.bi .sorted (.cons (.comp [6] (.one 6) .keys (.cons (.v 3) .nil) (.k (.bl true)) ir__law_body_C1) .nil)) .nil) ir__law_body_L2)
    (.cons (.ret (.bi .tuple (.cons (.v 4) .nil)))
    .nil))))
def ir__law_listed_I1 : AW.S :=
    (.ifs (.or (.cmp .ne (.v 6) (.tup .nil)) (.cmp .eq (.call 6 (.cons (.v 0) (.cons (.k (.int 4)) .nil))) (.k (.int 0)))) (.cons (.asg false 5 (.bin .add (.tup (.cons (.call 7 (.cons (.v 0) (.cons (.v 2) .nil))) .nil)) (.v 5)))
    .nil) .nil)
def ir__law_listed_L1 : Ss :=
    (.cons ir__law_listed_I1
    (.cons (.ex (.mu .append 3 (.cons (.tup (.cons (.v 4) (.cons (.v 5) (.cons (.call 13 (.cons (.v 0) (.cons (.v 6) (.cons (.v 2) .nil)))) .nil)))) .nil)))
    (.cons (.frg [4, 5, 6])
    .nil)))
/-- _law_listed(w, body, heads); slots 0=w 1=body 2=heads 3=found 4=label 5=words 6=kids -/
def ir__law_listed : Ss :=
    (.cons (.asg true 3 (.lst .nil))
    (.cons (.fr (.many [4, 5, 6]) .seq (.cons (.v 1) .nil) ir__law_listed_L1)
    (.cons (.ret (.bi .tuple (.cons (.v 3) .nil)))
    .nil)))
/-- _law_head(node); slots 0=node -/
def ir__law_head : Ss :=
    (.cons (.ret (.ite (.and (.cmp .ne (.idx (.v 0) (.k (.int 1))) (.tup .nil)) (.cmp .mem (.idx (.idx (.v 0) (.k (.int 1))) (.k (.int 0))) (.tup (.cons (.k (.str [97, 108, 108])) (.cons (.k (.str [111, 110, 101])) (.cons (.k (.str [116, 119, 111])) (.cons (.k (.str [110, 111, 110, 101])) .nil))))))) (.idx (.idx (.v 0) (.k (.int 1))) (.k (.int 0))) (.k .non)))
    .nil)
def ir__law_met_I1 : AW.S :=
    (.ifs (.isK false (.v 3) .non) (.cons (.ret (.cmp .mem (.v 1) (.v 2)))
    .nil) .nil)
def ir__law_met_C1c : E :=
    (.call 15 (.cons (.v 5) (.cons (.bin .add (.v 1) (.tup (.cons (.idx (.v 5) (.k (.int 0))) .nil))) (.cons (.v 2) .nil))))
def ir__law_met_C1 : E :=
    (.v 5)
def ir__law_met_I2 : AW.S :=
    (.ifs (.cmp .eq (.v 3) (.k (.str [110, 111, 110, 101]))) (.cons (.ret (.cmp .eq (.v 4) (.k (.int 0))))
    .nil) .nil)
/-- _law_met(node, path, facts); slots 0=node 1=path 2=facts 3=head 4=many 5=kid -/
def ir__law_met : Ss :=
    (.cons (.asg false 3 (.call 14 (.cons (.v 0) .nil)))
    (.cons ir__law_met_I1
    (.cons (.asg false 4 (.bi .len (.cons (.comp [5] (.one 5) .seq (.cons (.idx (.v 0) (.k (.int 2))) .nil) ir__law_met_C1c ir__law_met_C1) .nil)))
    (.cons ir__law_met_I2
    (.cons (.ret (.cmp .ge (.v 4) (.ite (.cmp .eq (.v 3) (.k (.str [111, 110, 101]))) (.k (.int 1)) (.ite (.cmp .eq (.v 3) (.k (.str [116, 119, 111]))) (.k (.int 2)) (.bi .len (.cons (.idx (.v 0) (.k (.int 2))) .nil))))))
    .nil)))))
def ir__law_leaves_I1 : AW.S :=
    (.ifs (.isK false (.call 14 (.cons (.v 0) .nil)) .non) (.cons (.ret (.lst (.cons (.v 1) .nil)))
    .nil) .nil)
def ir__law_leaves_L1 : Ss :=
    (.cons (.asg false 2 (.bin .add (.v 2) (.call 16 (.cons (.v 3) (.cons (.bin .add (.v 1) (.tup (.cons (.idx (.v 3) (.k (.int 0))) .nil))) .nil)))))
    (.cons (.frg [3])
    .nil))
/-- _law_leaves(node, path); slots 0=node 1=path 2=found 3=kid -/
def ir__law_leaves : Ss :=
    (.cons ir__law_leaves_I1
    (.cons (.asg false 2 (.lst .nil))
    (.cons (.fr (.one 3) .seq (.cons (.idx (.v 0) (.k (.int 2))) .nil) ir__law_leaves_L1)
    (.cons (.ret (.v 2))
    .nil))))
def ir__law_nodes_C1 : E :=
    (.tup (.cons (.tup .nil) (.cons (.v 5) .nil)))
def ir__law_nodes_I1 : AW.S :=
    (.ifs (.cmp .eq (.v 3) (.lst .nil)) (.cons (.frg [1, 4, 5])
    (.cons .brk
    .nil)) .nil)
def ir__law_nodes_C2 : E :=
    (.tup (.cons (.v 4) (.cons (.v 6) .nil)))
def ir__law_nodes_L1 : Ss :=
    (.cons ir__law_nodes_I1
    (.cons (.unp [4, 5] (.mu .pop 3 .nil))
    (.cons (.asg false 4 (.bin .add (.v 4) (.tup (.cons (.idx (.v 5) (.k (.int 0))) .nil))))
    (.cons (.ex (.mu .append 2 (.cons (.tup (.cons (.v 4) (.cons (.v 5) .nil))) .nil)))
    (.cons (.asg true 3 (.bin .add (.v 3) (.comp [6] (.one 6) .seq (.cons (.rev (.idx (.v 5) (.k (.int 2)))) .nil) (.k (.bl true)) ir__law_nodes_C2)))
    (.cons (.frg [1, 4, 5])
    .nil))))))
/-- _law_nodes(body); slots 0=body 1=turn 2=found 3=waiting 4=path 5=node 6=kid -/
def ir__law_nodes : Ss :=
    (.cons (.par [(true, 2), (true, 3)] (.cons (.lst .nil) (.cons (.comp [5] (.one 5) .seq (.cons (.rev (.v 0)) .nil) (.k (.bl true)) ir__law_nodes_C1) .nil)))
    (.cons (.frg [5])
    (.cons (.fr (.one 1) .range (.cons (.k (.int 400)) .nil) ir__law_nodes_L1)
    (.cons (.ret (.v 2))
    .nil))))
def ir_law_C1c : E :=
    (.cmp .eq (.call 6 (.cons (.v 1) (.cons (.k (.int 2)) .nil))) (.k (.int 0)))
def ir_law_C1 : E :=
    (.v 6)
def ir_law_I1 : AW.S :=
    (.ifs (.or (.cmp .ne (.call 3 (.cons (.v 3) (.cons (.v 6) .nil))) (.bi .tuple (.cons (.v 8) .nil))) (.not (.call 8 (.cons (.call 2 (.cons (.v 3) (.cons (.v 6) (.cons (.v 5) .nil)))) (.cons (.call 15 (.cons (.v 7) (.cons (.v 6) (.cons (.v 5) .nil)))) .nil))))) (.cons (.ret (.k (.bl false)))
    .nil) .nil)
def ir_law_C2c : E :=
    (.cmp .ne (.v 12) (.v 10))
def ir_law_C2 : E :=
    (.v 12)
def ir_law_I2 : AW.S :=
    (.ifs (.cmp .ne (.call 15 (.cons (.v 7) (.cons (.v 6) (.cons (.v 11) .nil)))) (.call 15 (.cons (.v 7) (.cons (.v 6) (.cons (.v 5) .nil))))) (.cons (.ex (.mu .append 9 (.cons (.v 10) .nil)))
    .nil) .nil)
def ir_law_L3 : Ss :=
    (.cons (.asg false 11 (.bin .add (.comp [12] (.one 12) .seq (.cons (.v 5) .nil) ir_law_C2c ir_law_C2) (.ite (.cmp .nmem (.v 10) (.v 5)) (.lst (.cons (.v 10) .nil)) (.lst .nil))))
    (.cons ir_law_I2
    (.cons (.frg [10, 11])
    .nil)))
def ir_law_I3 : AW.S :=
    (.ifs (.cmp .ne (.call 4 (.cons (.v 3) (.cons (.v 6) (.cons (.v 5) .nil)))) (.bi .tuple (.cons (.v 9) .nil))) (.cons (.ret (.k (.bl false)))
    .nil) .nil)
def ir_law_L2 : Ss :=
    (.cons (.asg false 8 (.call 16 (.cons (.v 7) (.cons (.v 6) .nil))))
    (.cons ir_law_I1
    (.cons (.asg true 9 (.lst .nil))
    (.cons (.frg [10, 11])
    (.cons (.fr (.one 10) .seq (.cons (.v 8) .nil) ir_law_L3)
    (.cons ir_law_I3
    (.cons (.frg [6, 7, 8, 9, 10, 11])
    .nil)))))))
def ir_law_L1 : Ss :=
    (.cons (.asg false 3 (.call 13 (.cons (.v 1) (.cons (.call 12 (.cons (.v 1) (.cons (.k (.int 2)) .nil))) (.cons (.lst (.cons (.k (.str [97, 108, 108])) (.cons (.k (.str [111, 110, 101])) (.cons (.k (.str [116, 119, 111])) (.cons (.k (.str [110, 111, 110, 101])) (.cons (.k (.str [116, 104, 101])) .nil)))))) .nil)))))
    (.cons (.asg false 4 (.call 17 (.cons (.v 3) .nil)))
    (.cons (.asg false 5 (.bi .tuple (.cons (.bi .sorted (.cons (.comp [6, 7] (.many [6, 7]) .seq (.cons (.v 4) .nil) ir_law_C1c ir_law_C1) .nil)) .nil)))
    (.cons (.frg [6, 7, 8, 9, 10, 11])
    (.cons (.fr (.many [6, 7]) .seq (.cons (.v 4) .nil) ir_law_L2)
    (.cons (.frg [2, 3, 4, 5, 6, 7, 8, 9, 10, 11])
    .nil))))))
/-- law(script); slots 0=script 1=w 2=turn 3=body 4=nodes 5=facts 6=path 7=node 8=leaves 9=due 10=leaf 11=other 12=fact -/
def ir_law : Ss :=
    (.cons (.asg true 1 (.dct false (.cons (.k (.str [100, 114, 97, 119, 115])) (.cons (.k (.str [97, 116])) .nil)) (.cons (.call 5 (.cons (.v 0) (.cons (.k (.int 700)) .nil))) (.cons (.k (.int 0)) .nil))))
    (.cons (.fr (.one 2) .range (.cons (.k (.int 4)) .nil) ir_law_L1)
    (.cons (.ret (.k (.bl true)))
    .nil)))
def tab : List Fn := [⟨6, [false, false], ir_node_at⟩,
  ⟨1, [false], ir_head_of⟩,
  ⟨7, [false, false, false], ir_is_met⟩,
  ⟨5, [false, false], ir_leaves_below⟩,
  ⟨8, [false, false, false], ir_turns⟩,
  ⟨8, [false, false], ir__law_draws⟩,
  ⟨2, [true, false], ir__law_next⟩,
  ⟨2, [true, false], ir__law_pick⟩,
  ⟨2, [false, false], ir__law_is_bit⟩,
  ⟨3, [true, false], ir__law_words⟩,
  ⟨1, [true], ir__law_label⟩,
  ⟨3, [false], ir__law_key⟩,
  ⟨7, [true, false], ir__law_body⟩,
  ⟨7, [true, false, false], ir__law_listed⟩,
  ⟨1, [false], ir__law_head⟩,
  ⟨6, [false, false, false], ir__law_met⟩,
  ⟨4, [false, false], ir__law_leaves⟩,
  ⟨7, [false], ir__law_nodes⟩,
  ⟨13, [false], ir_law⟩]
def globD : Nat → Option D := fun i => [(.tup [(.str [97, 108, 108]), (.str [111, 110, 101]), (.str [116, 119, 111]), (.str [110, 111, 110, 101])])][i]?
theorem u_node_at_C1c (G : Env) (c₀ : Option Cell) (s₀ : Sg) : ev G ir_node_at_C1c (c₀ :: s₀) = ev G (.cmp .eq (.idx (.v 5) (.k (.int 0))) (.v 3)) (c₀ :: s₀) := rfl
theorem u_node_at_C1 (G : Env) (c₀ : Option Cell) (s₀ : Sg) : ev G ir_node_at_C1 (c₀ :: s₀) = ev G (.v 5) (c₀ :: s₀) := rfl
theorem u_node_at_I1 (G : Env) (c₀ : Option Cell) (s₀ : Sg) : exS G ir_node_at_I1 (c₀ :: s₀) = exS G (.ifs (.cmp .eq (.v 4) (.lst .nil)) (.cons (.ret (.k .non))
    .nil) .nil) (c₀ :: s₀) := rfl
theorem u_node_at_L1 (G : Env) (c₀ : Option Cell) (s₀ : Sg) : exSs G ir_node_at_L1 (c₀ :: s₀) = exSs G (.cons (.asg false 4 (.comp [5] (.one 5) .seq (.cons (.v 0) .nil) ir_node_at_C1c ir_node_at_C1))
    (.cons ir_node_at_I1
    (.cons (.asg false 2 (.idx (.v 4) (.k (.int 0))))
    (.cons (.asg false 0 (.idx (.v 2) (.k (.int 2))))
    (.cons (.frg [3, 4])
    .nil))))) (c₀ :: s₀) := rfl
theorem u_node_at (G : Env) (c₀ : Option Cell) (s₀ : Sg) : exSs G ir_node_at (c₀ :: s₀) = exSs G (.cons (.asg false 2 (.k .non))
    (.cons (.fr (.one 3) .seq (.cons (.v 1) .nil) ir_node_at_L1)
    (.cons (.ret (.v 2))
    .nil))) (c₀ :: s₀) := rfl
theorem u_head_of (G : Env) (c₀ : Option Cell) (s₀ : Sg) : exSs G ir_head_of (c₀ :: s₀) = exSs G (.cons (.ret (.ite (.and (.cmp .ne (.slc (.idx (.v 0) (.k (.int 1))) (.k .non) (.k (.int 1))) (.tup .nil)) (.cmp .mem (.idx (.idx (.v 0) (.k (.int 1))) (.k (.int 0))) (.g 0))) (.idx (.idx (.v 0) (.k (.int 1))) (.k (.int 0))) (.k .non)))
    .nil) (c₀ :: s₀) := rfl
theorem u_is_met_I1 (G : Env) (c₀ : Option Cell) (s₀ : Sg) : exS G ir_is_met_I1 (c₀ :: s₀) = exS G (.ifs (.isK false (.v 4) .non) (.cons (.ret (.cmp .mem (.v 1) (.v 2)))
    .nil) .nil) (c₀ :: s₀) := rfl
theorem u_is_met_C1c (G : Env) (c₀ : Option Cell) (s₀ : Sg) : ev G ir_is_met_C1c (c₀ :: s₀) = ev G (.call 2 (.cons (.v 0) (.cons (.bin .add (.v 1) (.tup (.cons (.idx (.v 6) (.k (.int 0))) .nil))) (.cons (.v 2) .nil)))) (c₀ :: s₀) := rfl
theorem u_is_met_C1 (G : Env) (c₀ : Option Cell) (s₀ : Sg) : ev G ir_is_met_C1 (c₀ :: s₀) = ev G (.v 6) (c₀ :: s₀) := rfl
theorem u_is_met_I2 (G : Env) (c₀ : Option Cell) (s₀ : Sg) : exS G ir_is_met_I2 (c₀ :: s₀) = exS G (.ifs (.cmp .eq (.v 4) (.k (.str [97, 108, 108]))) (.cons (.ret (.cmp .eq (.v 5) (.bi .len (.cons (.idx (.v 3) (.k (.int 2))) .nil))))
    .nil) .nil) (c₀ :: s₀) := rfl
theorem u_is_met (G : Env) (c₀ : Option Cell) (s₀ : Sg) : exSs G ir_is_met (c₀ :: s₀) = exSs G (.cons (.asg false 3 (.call 0 (.cons (.v 0) (.cons (.v 1) .nil))))
    (.cons (.asg false 4 (.call 1 (.cons (.v 3) .nil)))
    (.cons ir_is_met_I1
    (.cons (.asg false 5 (.bi .len (.cons (.comp [6] (.one 6) .seq (.cons (.idx (.v 3) (.k (.int 2))) .nil) ir_is_met_C1c ir_is_met_C1) .nil)))
    (.cons ir_is_met_I2
    (.cons (.ret (.ite (.cmp .eq (.v 4) (.k (.str [110, 111, 110, 101]))) (.cmp .eq (.v 5) (.k (.int 0))) (.cmp .ge (.v 5) (.ite (.cmp .eq (.v 4) (.k (.str [111, 110, 101]))) (.k (.int 1)) (.k (.int 2))))))
    .nil)))))) (c₀ :: s₀) := rfl
theorem u_leaves_below_I1 (G : Env) (c₀ : Option Cell) (s₀ : Sg) : exS G ir_leaves_below_I1 (c₀ :: s₀) = exS G (.ifs (.isK false (.call 1 (.cons (.v 2) .nil)) .non) (.cons (.ret (.tup (.cons (.v 1) .nil)))
    .nil) .nil) (c₀ :: s₀) := rfl
theorem u_leaves_below_L1 (G : Env) (c₀ : Option Cell) (s₀ : Sg) : exSs G ir_leaves_below_L1 (c₀ :: s₀) = exSs G (.cons (.ex (.mu .extend 3 (.cons (.call 3 (.cons (.v 0) (.cons (.bin .add (.v 1) (.tup (.cons (.idx (.v 4) (.k (.int 0))) .nil))) .nil))) .nil)))
    (.cons (.frg [4])
    .nil)) (c₀ :: s₀) := rfl
theorem u_leaves_below (G : Env) (c₀ : Option Cell) (s₀ : Sg) : exSs G ir_leaves_below (c₀ :: s₀) = exSs G (.cons (.asg false 2 (.call 0 (.cons (.v 0) (.cons (.v 1) .nil))))
    (.cons ir_leaves_below_I1
    (.cons (.asg true 3 (.lst .nil))
    (.cons (.fr (.one 4) .seq (.cons (.idx (.v 2) (.k (.int 2))) .nil) ir_leaves_below_L1)
    (.cons (.ret (.bi .tuple (.cons (.v 3) .nil)))
    .nil))))) (c₀ :: s₀) := rfl
theorem u_turns_C1c (G : Env) (c₀ : Option Cell) (s₀ : Sg) : ev G ir_turns_C1c (c₀ :: s₀) = ev G (.cmp .ne (.v 7) (.v 5)) (c₀ :: s₀) := rfl
theorem u_turns_C1 (G : Env) (c₀ : Option Cell) (s₀ : Sg) : ev G ir_turns_C1 (c₀ :: s₀) = ev G (.v 7) (c₀ :: s₀) := rfl
theorem u_turns_I1 (G : Env) (c₀ : Option Cell) (s₀ : Sg) : exS G ir_turns_I1 (c₀ :: s₀) = exS G (.ifs (.cmp .mem (.v 5) (.v 2)) (.cons (.asg false 6 (.bi .tuple (.cons (.comp [7] (.one 7) .seq (.cons (.v 2) .nil) ir_turns_C1c ir_turns_C1) .nil)))
    .nil) (.cons (.asg false 6 (.bi .tuple (.cons (.bi .sorted (.cons (.bin .add (.v 2) (.tup (.cons (.v 5) .nil))) .nil)) .nil)))
    .nil)) (c₀ :: s₀) := rfl
theorem u_turns_I2 (G : Env) (c₀ : Option Cell) (s₀ : Sg) : exS G ir_turns_I2 (c₀ :: s₀) = exS G (.ifs (.cmp .ne (.call 2 (.cons (.v 0) (.cons (.v 1) (.cons (.v 6) .nil)))) (.v 3)) (.cons (.ex (.mu .append 4 (.cons (.v 5) .nil)))
    .nil) .nil) (c₀ :: s₀) := rfl
theorem u_turns_L1 (G : Env) (c₀ : Option Cell) (s₀ : Sg) : exSs G ir_turns_L1 (c₀ :: s₀) = exSs G (.cons ir_turns_I1
    (.cons ir_turns_I2
    (.cons (.frg [5, 6])
    .nil))) (c₀ :: s₀) := rfl
theorem u_turns (G : Env) (c₀ : Option Cell) (s₀ : Sg) : exSs G ir_turns (c₀ :: s₀) = exSs G (.cons (.asg false 3 (.call 2 (.cons (.v 0) (.cons (.v 1) (.cons (.v 2) .nil)))))
    (.cons (.asg true 4 (.lst .nil))
    (.cons (.fr (.one 5) .seq (.cons (.call 3 (.cons (.v 0) (.cons (.v 1) .nil))) .nil) ir_turns_L1)
    (.cons (.ret (.bi .tuple (.cons (.v 4) .nil)))
    .nil)))) (c₀ :: s₀) := rfl
theorem u__law_draws_I1 (G : Env) (c₀ : Option Cell) (s₀ : Sg) : exS G ir__law_draws_I1 (c₀ :: s₀) = exS G (.ifs (.cmp .ge (.v 5) (.bin .pow (.k (.int 10)) (.k (.int 18)))) (.cons (.asg false 6 (.v 5))
    .nil) (.cons (.ex (.mu .append 2 (.cons (.bin .mod (.bi .int (.cons (.v 5) .nil)) (.k (.int 997))) .nil)))
    (.cons (.ex (.mu .append 2 (.cons (.bin .mod (.bin .mod (.bi .int (.cons (.bin .add (.bin .mul (.v 3) (.k (.int 69621))) (.k (.int 5))) .nil)) (.k (.int 65521))) (.k (.int 997))) .nil)))
    .nil))) (c₀ :: s₀) := rfl
theorem u__law_draws_I2 (G : Env) (c₀ : Option Cell) (s₀ : Sg) : exS G ir__law_draws_I2 (c₀ :: s₀) = exS G (.ifs (.cmp .gt (.v 6) (.k (.int 0))) (.cons (.ex (.mu .append 2 (.cons (.bin .mod (.bi .int (.cons (.v 6) .nil)) (.k (.int 997))) .nil)))
    (.cons (.asg false 6 (.bin .fdv (.v 6) (.k (.int 997))))
    .nil)) .nil) (c₀ :: s₀) := rfl
theorem u__law_draws_L2 (G : Env) (c₀ : Option Cell) (s₀ : Sg) : exSs G ir__law_draws_L2 (c₀ :: s₀) = exSs G (.cons ir__law_draws_I2
    (.cons (.frg [7])
    .nil)) (c₀ :: s₀) := rfl
theorem u__law_draws_L1 (G : Env) (c₀ : Option Cell) (s₀ : Sg) : exSs G ir__law_draws_L1 (c₀ :: s₀) = exSs G (.cons (.asg false 5 (.bi .abs (.cons (.bi .int (.cons (.idx (.v 0) (.v 4)) .nil)) .nil)))
    (.cons (.asg false 3 (.bin .mod (.bi .int (.cons (.bin .add (.bin .add (.bin .mul (.v 3) (.k (.int 48271))) (.bin .mod (.v 5) (.k (.int 1000003)))) (.v 4)) .nil)) (.k (.int 65537))))
    (.cons (.asg false 6 (.k (.int 0)))
    (.cons ir__law_draws_I1
    (.cons (.frg [7])
    (.cons (.fr (.one 7) .range (.cons (.k (.int 60)) .nil) ir__law_draws_L2)
    (.cons (.frg [4, 5, 6, 7])
    .nil))))))) (c₀ :: s₀) := rfl
theorem u__law_draws_L3 (G : Env) (c₀ : Option Cell) (s₀ : Sg) : exSs G ir__law_draws_L3 (c₀ :: s₀) = exSs G (.cons (.asg false 3 (.bin .mod (.bi .int (.cons (.bin .add (.bin .add (.bin .mul (.v 3) (.k (.int 16807))) (.v 4)) (.k (.int 1))) .nil)) (.k (.int 65537))))
    (.cons (.ex (.mu .append 2 (.cons (.bin .mod (.bi .int (.cons (.v 3) .nil)) (.k (.int 997))) .nil)))
    (.cons (.frg [4])
    .nil))) (c₀ :: s₀) := rfl
theorem u__law_draws (G : Env) (c₀ : Option Cell) (s₀ : Sg) : exSs G ir__law_draws (c₀ :: s₀) = exSs G (.cons (.asg true 2 (.lst .nil))
    (.cons (.asg false 3 (.k (.int 7)))
    (.cons (.fr (.one 4) .range (.cons (.bi .len (.cons (.v 0) .nil)) .nil) ir__law_draws_L1)
    (.cons (.frg [4])
    (.cons (.fr (.one 4) .range (.cons (.v 1) .nil) ir__law_draws_L3)
    (.cons (.ret (.slc (.v 2) (.k .non) (.v 1)))
    .nil)))))) (c₀ :: s₀) := rfl
theorem u__law_next_I1 (G : Env) (c₀ : Option Cell) (s₀ : Sg) : exS G ir__law_next_I1 (c₀ :: s₀) = exS G (.ifs (.cmp .gt (.idx (.v 0) (.k (.str [97, 116]))) (.bi .len (.cons (.idx (.v 0) (.k (.str [100, 114, 97, 119, 115]))) .nil))) (.cons (.ret (.k (.int 0)))
    .nil) .nil) (c₀ :: s₀) := rfl
theorem u__law_next (G : Env) (c₀ : Option Cell) (s₀ : Sg) : exSs G ir__law_next (c₀ :: s₀) = exSs G (.cons (.aus .add 0 (.k (.str [97, 116])) (.k (.int 1)))
    (.cons ir__law_next_I1
    (.cons (.ret (.bin .mod (.bi .int (.cons (.idx (.idx (.v 0) (.k (.str [100, 114, 97, 119, 115]))) (.bin .sub (.idx (.v 0) (.k (.str [97, 116]))) (.k (.int 1)))) .nil)) (.v 1)))
    .nil))) (c₀ :: s₀) := rfl
theorem u__law_pick (G : Env) (c₀ : Option Cell) (s₀ : Sg) : exSs G ir__law_pick (c₀ :: s₀) = exSs G (.cons (.ret (.idx (.v 1) (.call 6 (.cons (.v 0) (.cons (.bi .len (.cons (.v 1) .nil)) .nil)))))
    .nil) (c₀ :: s₀) := rfl
theorem u__law_is_bit (G : Env) (c₀ : Option Cell) (s₀ : Sg) : exSs G ir__law_is_bit (c₀ :: s₀) = exSs G (.cons (.ret (.or (.and (.v 1) (.isK false (.v 0) (.bl true))) (.and (.not (.v 1)) (.isK false (.v 0) (.bl false)))))
    .nil) (c₀ :: s₀) := rfl
theorem u__law_words_C1 (G : Env) (c₀ : Option Cell) (s₀ : Sg) : ev G ir__law_words_C1 (c₀ :: s₀) = ev G (.call 7 (.cons (.v 0) (.cons (.lst (.cons (.k (.str [116, 104, 101])) (.cons (.k (.str [97, 49])) (.cons (.k (.str [101, 45, 109, 97, 105, 108])) (.cons (.k (.str [120, 46, 121])) (.cons (.k (.str [64, 104, 111, 109, 101])) (.cons (.k (.str [100, 111, 110, 39, 116])) (.cons (.k (.str [55])) .nil)))))))) .nil))) (c₀ :: s₀) := rfl
theorem u__law_words (G : Env) (c₀ : Option Cell) (s₀ : Sg) : exSs G ir__law_words (c₀ :: s₀) = exSs G (.cons (.ret (.bi .tuple (.cons (.comp [2] (.one 2) .range (.cons (.call 6 (.cons (.v 0) (.cons (.bin .add (.v 1) (.k (.int 1))) .nil))) .nil) (.k (.bl true)) ir__law_words_C1) .nil)))
    .nil) (c₀ :: s₀) := rfl
theorem u__law_label (G : Env) (c₀ : Option Cell) (s₀ : Sg) : exSs G ir__law_label (c₀ :: s₀) = exSs G (.cons (.ret (.bin .add (.call 7 (.cons (.v 0) (.cons (.lst (.cons (.k (.str [49])) (.cons (.k (.str [50])) (.cons (.k (.str [51])) .nil)))) .nil))) (.call 7 (.cons (.v 0) (.cons (.lst (.cons (.k (.str [])) (.cons (.k (.str [])) (.cons (.k (.str [97])) (.cons (.k (.str [98])) (.cons (.k (.str [97, 97])) .nil)))))) .nil)))))
    .nil) (c₀ :: s₀) := rfl
theorem u__law_key_C1c (G : Env) (c₀ : Option Cell) (s₀ : Sg) : ev G ir__law_key_C1c (c₀ :: s₀) = ev G (.and (.cmp .le (.k (.str [48])) (.v 2)) (.cmp .le (.v 2) (.k (.str [57])))) (c₀ :: s₀) := rfl
theorem u__law_key_C1 (G : Env) (c₀ : Option Cell) (s₀ : Sg) : ev G ir__law_key_C1 (c₀ :: s₀) = ev G (.v 2) (c₀ :: s₀) := rfl
theorem u__law_key (G : Env) (c₀ : Option Cell) (s₀ : Sg) : exSs G ir__law_key (c₀ :: s₀) = exSs G (.cons (.asg false 1 (.bi .len (.cons (.comp [2] (.one 2) .seq (.cons (.v 0) .nil) ir__law_key_C1c ir__law_key_C1) .nil)))
    (.cons (.ret (.tup (.cons (.bi .int (.cons (.slc (.v 0) (.k .non) (.v 1)) .nil)) (.cons (.slc (.v 0) (.v 1) (.k .non)) .nil))))
    .nil)) (c₀ :: s₀) := rfl
theorem u__law_body_L1 (G : Env) (c₀ : Option Cell) (s₀ : Sg) : exSs G ir__law_body_L1 (c₀ :: s₀) = exSs G (.cons (.sto 3 (.call 10 (.cons (.v 0) .nil)) (.k (.bl true)))
    (.cons (.frg [2])
    .nil)) (c₀ :: s₀) := rfl
theorem u__law_body_C1 (G : Env) (c₀ : Option Cell) (s₀ : Sg) : ev G ir__law_body_C1 (c₀ :: s₀) = ev G (.tup (.cons (.call 11 (.cons (.v 6) .nil)) (.cons (.v 6) .nil))) (c₀ :: s₀) := rfl
theorem u__law_body_L2 (G : Env) (c₀ : Option Cell) (s₀ : Sg) : exSs G ir__law_body_L2 (c₀ :: s₀) = exSs G (.cons (.ex (.mu .append 4 (.cons (.tup (.cons (.v 6) (.cons (.call 9 (.cons (.v 0) (.cons (.k (.int 4)) .nil))) (.cons (.ite (.cmp .gt (.v 1) (.k (.int 0))) (.call 12 (.cons (.v 0) (.cons (.bin .sub (.v 1) (.k (.int 1))) .nil))) (.tup .nil)) .nil)))) .nil)))
    (.cons (.frg [5, 6])
    .nil)) (c₀ :: s₀) := rfl
theorem u__law_body (G : Env) (c₀ : Option Cell) (s₀ : Sg) : exSs G ir__law_body (c₀ :: s₀) = exSs G (.cons (.par [(true, 3), (true, 4)] (.cons (.dct false .nil .nil) (.cons (.lst .nil) .nil)))
    (.cons (.fr (.one 2) .range (.cons (.call 6 (.cons (.v 0) (.cons (.k (.int 4)) .nil))) .nil) ir__law_body_L1)
    (.cons (.fr (.many [5, 6]) .seq (.cons (.bi .sorted (.cons (.comp [6] (.one 6) .keys (.cons (.v 3) .nil) (.k (.bl true)) ir__law_body_C1) .nil)) .nil) ir__law_body_L2)
    (.cons (.ret (.bi .tuple (.cons (.v 4) .nil)))
    .nil)))) (c₀ :: s₀) := rfl
theorem u__law_listed_I1 (G : Env) (c₀ : Option Cell) (s₀ : Sg) : exS G ir__law_listed_I1 (c₀ :: s₀) = exS G (.ifs (.or (.cmp .ne (.v 6) (.tup .nil)) (.cmp .eq (.call 6 (.cons (.v 0) (.cons (.k (.int 4)) .nil))) (.k (.int 0)))) (.cons (.asg false 5 (.bin .add (.tup (.cons (.call 7 (.cons (.v 0) (.cons (.v 2) .nil))) .nil)) (.v 5)))
    .nil) .nil) (c₀ :: s₀) := rfl
theorem u__law_listed_L1 (G : Env) (c₀ : Option Cell) (s₀ : Sg) : exSs G ir__law_listed_L1 (c₀ :: s₀) = exSs G (.cons ir__law_listed_I1
    (.cons (.ex (.mu .append 3 (.cons (.tup (.cons (.v 4) (.cons (.v 5) (.cons (.call 13 (.cons (.v 0) (.cons (.v 6) (.cons (.v 2) .nil)))) .nil)))) .nil)))
    (.cons (.frg [4, 5, 6])
    .nil))) (c₀ :: s₀) := rfl
theorem u__law_listed (G : Env) (c₀ : Option Cell) (s₀ : Sg) : exSs G ir__law_listed (c₀ :: s₀) = exSs G (.cons (.asg true 3 (.lst .nil))
    (.cons (.fr (.many [4, 5, 6]) .seq (.cons (.v 1) .nil) ir__law_listed_L1)
    (.cons (.ret (.bi .tuple (.cons (.v 3) .nil)))
    .nil))) (c₀ :: s₀) := rfl
theorem u__law_head (G : Env) (c₀ : Option Cell) (s₀ : Sg) : exSs G ir__law_head (c₀ :: s₀) = exSs G (.cons (.ret (.ite (.and (.cmp .ne (.idx (.v 0) (.k (.int 1))) (.tup .nil)) (.cmp .mem (.idx (.idx (.v 0) (.k (.int 1))) (.k (.int 0))) (.tup (.cons (.k (.str [97, 108, 108])) (.cons (.k (.str [111, 110, 101])) (.cons (.k (.str [116, 119, 111])) (.cons (.k (.str [110, 111, 110, 101])) .nil))))))) (.idx (.idx (.v 0) (.k (.int 1))) (.k (.int 0))) (.k .non)))
    .nil) (c₀ :: s₀) := rfl
theorem u__law_met_I1 (G : Env) (c₀ : Option Cell) (s₀ : Sg) : exS G ir__law_met_I1 (c₀ :: s₀) = exS G (.ifs (.isK false (.v 3) .non) (.cons (.ret (.cmp .mem (.v 1) (.v 2)))
    .nil) .nil) (c₀ :: s₀) := rfl
theorem u__law_met_C1c (G : Env) (c₀ : Option Cell) (s₀ : Sg) : ev G ir__law_met_C1c (c₀ :: s₀) = ev G (.call 15 (.cons (.v 5) (.cons (.bin .add (.v 1) (.tup (.cons (.idx (.v 5) (.k (.int 0))) .nil))) (.cons (.v 2) .nil)))) (c₀ :: s₀) := rfl
theorem u__law_met_C1 (G : Env) (c₀ : Option Cell) (s₀ : Sg) : ev G ir__law_met_C1 (c₀ :: s₀) = ev G (.v 5) (c₀ :: s₀) := rfl
theorem u__law_met_I2 (G : Env) (c₀ : Option Cell) (s₀ : Sg) : exS G ir__law_met_I2 (c₀ :: s₀) = exS G (.ifs (.cmp .eq (.v 3) (.k (.str [110, 111, 110, 101]))) (.cons (.ret (.cmp .eq (.v 4) (.k (.int 0))))
    .nil) .nil) (c₀ :: s₀) := rfl
theorem u__law_met (G : Env) (c₀ : Option Cell) (s₀ : Sg) : exSs G ir__law_met (c₀ :: s₀) = exSs G (.cons (.asg false 3 (.call 14 (.cons (.v 0) .nil)))
    (.cons ir__law_met_I1
    (.cons (.asg false 4 (.bi .len (.cons (.comp [5] (.one 5) .seq (.cons (.idx (.v 0) (.k (.int 2))) .nil) ir__law_met_C1c ir__law_met_C1) .nil)))
    (.cons ir__law_met_I2
    (.cons (.ret (.cmp .ge (.v 4) (.ite (.cmp .eq (.v 3) (.k (.str [111, 110, 101]))) (.k (.int 1)) (.ite (.cmp .eq (.v 3) (.k (.str [116, 119, 111]))) (.k (.int 2)) (.bi .len (.cons (.idx (.v 0) (.k (.int 2))) .nil))))))
    .nil))))) (c₀ :: s₀) := rfl
theorem u__law_leaves_I1 (G : Env) (c₀ : Option Cell) (s₀ : Sg) : exS G ir__law_leaves_I1 (c₀ :: s₀) = exS G (.ifs (.isK false (.call 14 (.cons (.v 0) .nil)) .non) (.cons (.ret (.lst (.cons (.v 1) .nil)))
    .nil) .nil) (c₀ :: s₀) := rfl
theorem u__law_leaves_L1 (G : Env) (c₀ : Option Cell) (s₀ : Sg) : exSs G ir__law_leaves_L1 (c₀ :: s₀) = exSs G (.cons (.asg false 2 (.bin .add (.v 2) (.call 16 (.cons (.v 3) (.cons (.bin .add (.v 1) (.tup (.cons (.idx (.v 3) (.k (.int 0))) .nil))) .nil)))))
    (.cons (.frg [3])
    .nil)) (c₀ :: s₀) := rfl
theorem u__law_leaves (G : Env) (c₀ : Option Cell) (s₀ : Sg) : exSs G ir__law_leaves (c₀ :: s₀) = exSs G (.cons ir__law_leaves_I1
    (.cons (.asg false 2 (.lst .nil))
    (.cons (.fr (.one 3) .seq (.cons (.idx (.v 0) (.k (.int 2))) .nil) ir__law_leaves_L1)
    (.cons (.ret (.v 2))
    .nil)))) (c₀ :: s₀) := rfl
theorem u__law_nodes_C1 (G : Env) (c₀ : Option Cell) (s₀ : Sg) : ev G ir__law_nodes_C1 (c₀ :: s₀) = ev G (.tup (.cons (.tup .nil) (.cons (.v 5) .nil))) (c₀ :: s₀) := rfl
theorem u__law_nodes_I1 (G : Env) (c₀ : Option Cell) (s₀ : Sg) : exS G ir__law_nodes_I1 (c₀ :: s₀) = exS G (.ifs (.cmp .eq (.v 3) (.lst .nil)) (.cons (.frg [1, 4, 5])
    (.cons .brk
    .nil)) .nil) (c₀ :: s₀) := rfl
theorem u__law_nodes_C2 (G : Env) (c₀ : Option Cell) (s₀ : Sg) : ev G ir__law_nodes_C2 (c₀ :: s₀) = ev G (.tup (.cons (.v 4) (.cons (.v 6) .nil))) (c₀ :: s₀) := rfl
theorem u__law_nodes_L1 (G : Env) (c₀ : Option Cell) (s₀ : Sg) : exSs G ir__law_nodes_L1 (c₀ :: s₀) = exSs G (.cons ir__law_nodes_I1
    (.cons (.unp [4, 5] (.mu .pop 3 .nil))
    (.cons (.asg false 4 (.bin .add (.v 4) (.tup (.cons (.idx (.v 5) (.k (.int 0))) .nil))))
    (.cons (.ex (.mu .append 2 (.cons (.tup (.cons (.v 4) (.cons (.v 5) .nil))) .nil)))
    (.cons (.asg true 3 (.bin .add (.v 3) (.comp [6] (.one 6) .seq (.cons (.rev (.idx (.v 5) (.k (.int 2)))) .nil) (.k (.bl true)) ir__law_nodes_C2)))
    (.cons (.frg [1, 4, 5])
    .nil)))))) (c₀ :: s₀) := rfl
theorem u__law_nodes (G : Env) (c₀ : Option Cell) (s₀ : Sg) : exSs G ir__law_nodes (c₀ :: s₀) = exSs G (.cons (.par [(true, 2), (true, 3)] (.cons (.lst .nil) (.cons (.comp [5] (.one 5) .seq (.cons (.rev (.v 0)) .nil) (.k (.bl true)) ir__law_nodes_C1) .nil)))
    (.cons (.frg [5])
    (.cons (.fr (.one 1) .range (.cons (.k (.int 400)) .nil) ir__law_nodes_L1)
    (.cons (.ret (.v 2))
    .nil)))) (c₀ :: s₀) := rfl
theorem u_law_C1c (G : Env) (c₀ : Option Cell) (s₀ : Sg) : ev G ir_law_C1c (c₀ :: s₀) = ev G (.cmp .eq (.call 6 (.cons (.v 1) (.cons (.k (.int 2)) .nil))) (.k (.int 0))) (c₀ :: s₀) := rfl
theorem u_law_C1 (G : Env) (c₀ : Option Cell) (s₀ : Sg) : ev G ir_law_C1 (c₀ :: s₀) = ev G (.v 6) (c₀ :: s₀) := rfl
theorem u_law_I1 (G : Env) (c₀ : Option Cell) (s₀ : Sg) : exS G ir_law_I1 (c₀ :: s₀) = exS G (.ifs (.or (.cmp .ne (.call 3 (.cons (.v 3) (.cons (.v 6) .nil))) (.bi .tuple (.cons (.v 8) .nil))) (.not (.call 8 (.cons (.call 2 (.cons (.v 3) (.cons (.v 6) (.cons (.v 5) .nil)))) (.cons (.call 15 (.cons (.v 7) (.cons (.v 6) (.cons (.v 5) .nil)))) .nil))))) (.cons (.ret (.k (.bl false)))
    .nil) .nil) (c₀ :: s₀) := rfl
theorem u_law_C2c (G : Env) (c₀ : Option Cell) (s₀ : Sg) : ev G ir_law_C2c (c₀ :: s₀) = ev G (.cmp .ne (.v 12) (.v 10)) (c₀ :: s₀) := rfl
theorem u_law_C2 (G : Env) (c₀ : Option Cell) (s₀ : Sg) : ev G ir_law_C2 (c₀ :: s₀) = ev G (.v 12) (c₀ :: s₀) := rfl
theorem u_law_I2 (G : Env) (c₀ : Option Cell) (s₀ : Sg) : exS G ir_law_I2 (c₀ :: s₀) = exS G (.ifs (.cmp .ne (.call 15 (.cons (.v 7) (.cons (.v 6) (.cons (.v 11) .nil)))) (.call 15 (.cons (.v 7) (.cons (.v 6) (.cons (.v 5) .nil))))) (.cons (.ex (.mu .append 9 (.cons (.v 10) .nil)))
    .nil) .nil) (c₀ :: s₀) := rfl
theorem u_law_L3 (G : Env) (c₀ : Option Cell) (s₀ : Sg) : exSs G ir_law_L3 (c₀ :: s₀) = exSs G (.cons (.asg false 11 (.bin .add (.comp [12] (.one 12) .seq (.cons (.v 5) .nil) ir_law_C2c ir_law_C2) (.ite (.cmp .nmem (.v 10) (.v 5)) (.lst (.cons (.v 10) .nil)) (.lst .nil))))
    (.cons ir_law_I2
    (.cons (.frg [10, 11])
    .nil))) (c₀ :: s₀) := rfl
theorem u_law_I3 (G : Env) (c₀ : Option Cell) (s₀ : Sg) : exS G ir_law_I3 (c₀ :: s₀) = exS G (.ifs (.cmp .ne (.call 4 (.cons (.v 3) (.cons (.v 6) (.cons (.v 5) .nil)))) (.bi .tuple (.cons (.v 9) .nil))) (.cons (.ret (.k (.bl false)))
    .nil) .nil) (c₀ :: s₀) := rfl
theorem u_law_L2 (G : Env) (c₀ : Option Cell) (s₀ : Sg) : exSs G ir_law_L2 (c₀ :: s₀) = exSs G (.cons (.asg false 8 (.call 16 (.cons (.v 7) (.cons (.v 6) .nil))))
    (.cons ir_law_I1
    (.cons (.asg true 9 (.lst .nil))
    (.cons (.frg [10, 11])
    (.cons (.fr (.one 10) .seq (.cons (.v 8) .nil) ir_law_L3)
    (.cons ir_law_I3
    (.cons (.frg [6, 7, 8, 9, 10, 11])
    .nil))))))) (c₀ :: s₀) := rfl
theorem u_law_L1 (G : Env) (c₀ : Option Cell) (s₀ : Sg) : exSs G ir_law_L1 (c₀ :: s₀) = exSs G (.cons (.asg false 3 (.call 13 (.cons (.v 1) (.cons (.call 12 (.cons (.v 1) (.cons (.k (.int 2)) .nil))) (.cons (.lst (.cons (.k (.str [97, 108, 108])) (.cons (.k (.str [111, 110, 101])) (.cons (.k (.str [116, 119, 111])) (.cons (.k (.str [110, 111, 110, 101])) (.cons (.k (.str [116, 104, 101])) .nil)))))) .nil)))))
    (.cons (.asg false 4 (.call 17 (.cons (.v 3) .nil)))
    (.cons (.asg false 5 (.bi .tuple (.cons (.bi .sorted (.cons (.comp [6, 7] (.many [6, 7]) .seq (.cons (.v 4) .nil) ir_law_C1c ir_law_C1) .nil)) .nil)))
    (.cons (.frg [6, 7, 8, 9, 10, 11])
    (.cons (.fr (.many [6, 7]) .seq (.cons (.v 4) .nil) ir_law_L2)
    (.cons (.frg [2, 3, 4, 5, 6, 7, 8, 9, 10, 11])
    .nil)))))) (c₀ :: s₀) := rfl
theorem u_law (G : Env) (c₀ : Option Cell) (s₀ : Sg) : exSs G ir_law (c₀ :: s₀) = exSs G (.cons (.asg true 1 (.dct false (.cons (.k (.str [100, 114, 97, 119, 115])) (.cons (.k (.str [97, 116])) .nil)) (.cons (.call 5 (.cons (.v 0) (.cons (.k (.int 700)) .nil))) (.cons (.k (.int 0)) .nil))))
    (.cons (.fr (.one 2) .range (.cons (.k (.int 4)) .nil) ir_law_L1)
    (.cons (.ret (.k (.bl true)))
    .nil))) (c₀ :: s₀) := rfl
def GE (k : Nat) : Env := ⟨run tab globD 2000 k, fun g => match tab[g]? with | some F => F.modes | none => [], globD, 2000⟩
theorem GE_phi (k f : Nat) (cs : List Cell) : (GE k).phi f cs = run tab globD 2000 k f cs := rfl
theorem GE_fuel (k : Nat) : (GE k).fuel = 2000 := rfl
theorem GEm_0 (k : Nat) : (GE k).modes 0 = [false, false] := rfl
theorem rn_node_at (k : Nat) (c0 c1 : Cell) : run tab globD 2000 (k + 1) 0 [c0, c1] = finK [c0, c1] (exSs (GE k) ir_node_at [some c0, some c1, none, none, none, none]) := fnRun_eq _ _ _ ⟨rfl, show 2 ≤ 6 by decide⟩
theorem GEm_1 (k : Nat) : (GE k).modes 1 = [false] := rfl
theorem rn_head_of (k : Nat) (c0 : Cell) : run tab globD 2000 (k + 1) 1 [c0] = finK [c0] (exSs (GE k) ir_head_of [some c0]) := fnRun_eq _ _ _ ⟨rfl, show 1 ≤ 1 by decide⟩
theorem GEm_2 (k : Nat) : (GE k).modes 2 = [false, false, false] := rfl
theorem rn_is_met (k : Nat) (c0 c1 c2 : Cell) : run tab globD 2000 (k + 1) 2 [c0, c1, c2] = finK [c0, c1, c2] (exSs (GE k) ir_is_met [some c0, some c1, some c2, none, none, none, none]) := fnRun_eq _ _ _ ⟨rfl, show 3 ≤ 7 by decide⟩
theorem GEm_3 (k : Nat) : (GE k).modes 3 = [false, false] := rfl
theorem rn_leaves_below (k : Nat) (c0 c1 : Cell) : run tab globD 2000 (k + 1) 3 [c0, c1] = finK [c0, c1] (exSs (GE k) ir_leaves_below [some c0, some c1, none, none, none]) := fnRun_eq _ _ _ ⟨rfl, show 2 ≤ 5 by decide⟩
theorem GEm_4 (k : Nat) : (GE k).modes 4 = [false, false, false] := rfl
theorem rn_turns (k : Nat) (c0 c1 c2 : Cell) : run tab globD 2000 (k + 1) 4 [c0, c1, c2] = finK [c0, c1, c2] (exSs (GE k) ir_turns [some c0, some c1, some c2, none, none, none, none, none]) := fnRun_eq _ _ _ ⟨rfl, show 3 ≤ 8 by decide⟩
theorem GEm_5 (k : Nat) : (GE k).modes 5 = [false, false] := rfl
theorem rn__law_draws (k : Nat) (c0 c1 : Cell) : run tab globD 2000 (k + 1) 5 [c0, c1] = finK [c0, c1] (exSs (GE k) ir__law_draws [some c0, some c1, none, none, none, none, none, none]) := fnRun_eq _ _ _ ⟨rfl, show 2 ≤ 8 by decide⟩
theorem GEm_6 (k : Nat) : (GE k).modes 6 = [true, false] := rfl
theorem rn__law_next (k : Nat) (c0 c1 : Cell) : run tab globD 2000 (k + 1) 6 [c0, c1] = finK [c0, c1] (exSs (GE k) ir__law_next [some c0, some c1]) := fnRun_eq _ _ _ ⟨rfl, show 2 ≤ 2 by decide⟩
theorem GEm_7 (k : Nat) : (GE k).modes 7 = [true, false] := rfl
theorem rn__law_pick (k : Nat) (c0 c1 : Cell) : run tab globD 2000 (k + 1) 7 [c0, c1] = finK [c0, c1] (exSs (GE k) ir__law_pick [some c0, some c1]) := fnRun_eq _ _ _ ⟨rfl, show 2 ≤ 2 by decide⟩
theorem GEm_8 (k : Nat) : (GE k).modes 8 = [false, false] := rfl
theorem rn__law_is_bit (k : Nat) (c0 c1 : Cell) : run tab globD 2000 (k + 1) 8 [c0, c1] = finK [c0, c1] (exSs (GE k) ir__law_is_bit [some c0, some c1]) := fnRun_eq _ _ _ ⟨rfl, show 2 ≤ 2 by decide⟩
theorem GEm_9 (k : Nat) : (GE k).modes 9 = [true, false] := rfl
theorem rn__law_words (k : Nat) (c0 c1 : Cell) : run tab globD 2000 (k + 1) 9 [c0, c1] = finK [c0, c1] (exSs (GE k) ir__law_words [some c0, some c1, none]) := fnRun_eq _ _ _ ⟨rfl, show 2 ≤ 3 by decide⟩
theorem GEm_10 (k : Nat) : (GE k).modes 10 = [true] := rfl
theorem rn__law_label (k : Nat) (c0 : Cell) : run tab globD 2000 (k + 1) 10 [c0] = finK [c0] (exSs (GE k) ir__law_label [some c0]) := fnRun_eq _ _ _ ⟨rfl, show 1 ≤ 1 by decide⟩
theorem GEm_11 (k : Nat) : (GE k).modes 11 = [false] := rfl
theorem rn__law_key (k : Nat) (c0 : Cell) : run tab globD 2000 (k + 1) 11 [c0] = finK [c0] (exSs (GE k) ir__law_key [some c0, none, none]) := fnRun_eq _ _ _ ⟨rfl, show 1 ≤ 3 by decide⟩
theorem GEm_12 (k : Nat) : (GE k).modes 12 = [true, false] := rfl
theorem rn__law_body (k : Nat) (c0 c1 : Cell) : run tab globD 2000 (k + 1) 12 [c0, c1] = finK [c0, c1] (exSs (GE k) ir__law_body [some c0, some c1, none, none, none, none, none]) := fnRun_eq _ _ _ ⟨rfl, show 2 ≤ 7 by decide⟩
theorem GEm_13 (k : Nat) : (GE k).modes 13 = [true, false, false] := rfl
theorem rn__law_listed (k : Nat) (c0 c1 c2 : Cell) : run tab globD 2000 (k + 1) 13 [c0, c1, c2] = finK [c0, c1, c2] (exSs (GE k) ir__law_listed [some c0, some c1, some c2, none, none, none, none]) := fnRun_eq _ _ _ ⟨rfl, show 3 ≤ 7 by decide⟩
theorem GEm_14 (k : Nat) : (GE k).modes 14 = [false] := rfl
theorem rn__law_head (k : Nat) (c0 : Cell) : run tab globD 2000 (k + 1) 14 [c0] = finK [c0] (exSs (GE k) ir__law_head [some c0]) := fnRun_eq _ _ _ ⟨rfl, show 1 ≤ 1 by decide⟩
theorem GEm_15 (k : Nat) : (GE k).modes 15 = [false, false, false] := rfl
theorem rn__law_met (k : Nat) (c0 c1 c2 : Cell) : run tab globD 2000 (k + 1) 15 [c0, c1, c2] = finK [c0, c1, c2] (exSs (GE k) ir__law_met [some c0, some c1, some c2, none, none, none]) := fnRun_eq _ _ _ ⟨rfl, show 3 ≤ 6 by decide⟩
theorem GEm_16 (k : Nat) : (GE k).modes 16 = [false, false] := rfl
theorem rn__law_leaves (k : Nat) (c0 c1 : Cell) : run tab globD 2000 (k + 1) 16 [c0, c1] = finK [c0, c1] (exSs (GE k) ir__law_leaves [some c0, some c1, none, none]) := fnRun_eq _ _ _ ⟨rfl, show 2 ≤ 4 by decide⟩
theorem GEm_17 (k : Nat) : (GE k).modes 17 = [false] := rfl
theorem rn__law_nodes (k : Nat) (c0 : Cell) : run tab globD 2000 (k + 1) 17 [c0] = finK [c0] (exSs (GE k) ir__law_nodes [some c0, none, none, none, none, none, none]) := fnRun_eq _ _ _ ⟨rfl, show 1 ≤ 7 by decide⟩
theorem GEm_18 (k : Nat) : (GE k).modes 18 = [false] := rfl
theorem rn_law (k : Nat) (c0 : Cell) : run tab globD 2000 (k + 1) 18 [c0] = finK [c0] (exSs (GE k) ir_law [some c0, none, none, none, none, none, none, none, none, none, none, none, none]) := fnRun_eq _ _ _ ⟨rfl, show 1 ≤ 13 by decide⟩
theorem GEg_0 (k : Nat) : (GE k).glob 0 = some (.tup [(.str [97, 108, 108]), (.str [111, 110, 101]), (.str [116, 119, 111]), (.str [110, 111, 110, 101])]) := rfl
/-! draws, next, pick -/
def WD (ds : List Int) (n : Nat) : D := .dct false [.str [100, 114, 97, 119, 115], .str [97, 116]] [.lst (ds.map .int), .int n]
def nx (ds : List Int) (n : Nat) (m : Int) : Int := if ds.length < n + 1 then 0 else (ds.getD n 0).fmod m
theorem nx_lo {ds : List Int} {n : Nat} {m : Int} (h : 0 < m) : 0 ≤ nx ds n m := by
  unfold nx; split
  · exact Int.le_refl 0
  · exact Int.fmod_nonneg_of_pos _ h
theorem nx_hi {ds : List Int} {n : Nat} {m : Int} (h : 0 < m) : nx ds n m < m := by
  unfold nx; split
  · exact h
  · exact Int.fmod_lt_of_pos _ h
theorem cutL_map {α β : Type} (f : α → β) (l : List α) (a b : Option Int) : cutL (l.map f) a b = (cutL l a b).map f := by
  simp [cutL]
theorem draws_L2 (k : Nat) (S M : D) (mx kk ce : D) : ∀ (is : List Nat) (ds : List Int) (r : Int), ds.length + is.length < line →
    ∃ (ds' : List Int) (r' : Int), ds'.length ≤ ds.length + is.length ∧ forLoop (.one 7) (exSs (GE k) ir__law_draws_L2) (is.map fun i : Nat => D.int (i : Int)) [some (.val S), some (.val M), some (.own false (.lst (ds.map .int))), some (.val mx), some (.val kk), some (.val ce), some (.val (.int r)), none] =
      .nx [some (.val S), some (.val M), some (.own false (.lst (ds'.map .int))), some (.val mx), some (.val kk), some (.val ce), some (.val (.int r')), none]
  | [], ds, r, _ => ⟨ds, r, Nat.le_refl _, rfl⟩
  | i :: is, ds, r, h => by
    simp only [List.length_cons] at h
    have hl : (ds.map D.int).length < line := by simp; omega
    by_cases c : 0 < r
    · obtain ⟨ds', r', h1, h2⟩ := draws_L2 k S M mx kk ce is (ds ++ [r.fmod 997]) (r.fdiv 997) (by simp; omega)
      refine ⟨ds', r', by simp at h1 ⊢; omega, ?_⟩
      simp only [List.map_cons, fl_cons, ↓r_k, ↓r_v, ↓r_g, ↓r_bin, ↓r_cmp, ↓r_chn, ↓r_isK, ↓r_and, ↓r_or, ↓r_not, ↓r_neg, ↓r_ite, ↓r_idx, ↓r_slc, ↓r_rev, ↓r_tup, ↓r_lst, ↓r_dct, ↓r_call, ↓r_bi, ↓r_mt, ↓r_mu, ↓r_comp, ↓r_nil, ↓r_cons, ↓r_asg, ↓r_unp, ↓r_par, ↓r_aug, ↓r_sto, ↓r_aus, ↓r_ex, ↓r_ifs, ↓r_fr, ↓r_wh, ↓r_ret, ↓r_retN, ↓r_brk, ↓r_cnt, ↓r_pas, ↓r_frg, ↓r_rse, ↓r_snil, ↓r_scons, lk1_d, lk1_new, lk1_slot, lkS_own, lkS_val, lks_nil, lks_cons, fz1_d, fz1_new, fz1_slot, fzS_own, fzS_val, fzs_nil, fzs_cons, opt_some, opt_none, cndS_some, optS_some, gOwnS_own, gValS_val, isDS_d, lk1S_d, lk1S_new, lk1S_slot, lkSS_own, lkSS_val, rdV_val, rdV_own, isD_d, gOwn_own, gVal_val, bind_ok, bind_stuck, bind_exc, bind_ite, toO_ok, toO_stuck, toO_exc, toO_ite, obind_nx, obind_bk, obind_ct, obind_rt, obind_exc, obind_stuck, obind_ite, of_some, of_ite, oof_some, callK_ok, callK_exc, callK_ite, isLst_lst, compK_ok, compW_nil, setV_eq, setVc_none, setVc_val, setVc_own, setO_eq, setOc_none, setOc_val, setOc_own, setVs_nil, setVs_cons, setT_one, setT_many, setR_d, setR_new, setR_slot, setR_own, setRs_nil, setRs_d, setRs_new, wipe_nil, wipe_cons, unwipe_nil, unwipe_cons, unwC_val, unwC_none, unwC_own, fl_nil, flK_nx, flK_ct, flK_bk, flK_rt, flK_exc, flK_ite, whK_nx, whK_ct, whK_bk, whK_rt, whK_exc, whK_ite, finK_nx, finK_rt, finK_exc, finK_ite, outRV_d, outRV_new, outRV_slot, outS_own, outS_val, outCells_nil, outCells_val, outCells_own, backCells_nil, backCells_0, backCells_s, argCells_nil, argCells_cons, argK_some, arg1_d, arg1_new, arg1_slot, argS_true, argS_home, argS_give, argS_val, List.getElem?_cons_zero, List.getElem?_cons_succ, List.set_cons_zero, List.set_cons_succ, Option.map_some, Option.map_none, GE_phi, GE_fuel, o_addI, o_subI, o_eqI, o_neI, o_eqB, o_neB, o_ltI, o_leI, o_gtI, o_geI, o_ltS, o_leS, o_gtS, o_geS, o_eqS, o_neS, o_isB, t_non, t_bl, t_int, t_str, t_tup, t_lst, ix_L0, ix_T0, ix_T1, ix_T2, ix_T3, ix_T4, ix_Tm, ix_Lm, bi_lenL, bi_lenC, bi_lenT, bi_lenS, bi_tupL, bi_tupT, bi_lstL, bi_lstT, bi_intI, bi_sortL, bi_sortT, s_L, s_T, s_S, s_K, p_non, kn_non, kx_non, kn_str, kx_str, kn_int, kx_int, kn_tup, kx_tup, kn_lst, kx_lst, kn_bl, kx_bl, g_addI, cmp_mem, cmp_nmem, ↓reduceIte, ↓u_node_at_C1c, ↓u_node_at_C1, ↓u_node_at_I1, ↓u_node_at_L1, ↓u_node_at, ↓u_head_of, ↓u_is_met_I1, ↓u_is_met_C1c, ↓u_is_met_C1, ↓u_is_met_I2, ↓u_is_met, ↓u_leaves_below_I1, ↓u_leaves_below_L1, ↓u_leaves_below, ↓u_turns_C1c, ↓u_turns_C1, ↓u_turns_I1, ↓u_turns_I2, ↓u_turns_L1, ↓u_turns, ↓u__law_draws_I1, ↓u__law_draws_I2, ↓u__law_draws_L2, ↓u__law_draws_L1, ↓u__law_draws_L3, ↓u__law_draws, ↓u__law_next_I1, ↓u__law_next, ↓u__law_pick, ↓u__law_is_bit, ↓u__law_words_C1, ↓u__law_words, ↓u__law_label, ↓u__law_key_C1c, ↓u__law_key_C1, ↓u__law_key, ↓u__law_body_L1, ↓u__law_body_C1, ↓u__law_body_L2, ↓u__law_body, ↓u__law_listed_I1, ↓u__law_listed_L1, ↓u__law_listed, ↓u__law_head, ↓u__law_met_I1, ↓u__law_met_C1c, ↓u__law_met_C1, ↓u__law_met_I2, ↓u__law_met, ↓u__law_leaves_I1, ↓u__law_leaves_L1, ↓u__law_leaves, ↓u__law_nodes_C1, ↓u__law_nodes_I1, ↓u__law_nodes_C2, ↓u__law_nodes_L1, ↓u__law_nodes, ↓u_law_C1c, ↓u_law_C1, ↓u_law_I1, ↓u_law_C2c, ↓u_law_C2, ↓u_law_I2, ↓u_law_L3, ↓u_law_I3, ↓u_law_L2, ↓u_law_L1, ↓u_law, GEm_0, GEm_1, GEm_2, GEm_3, GEm_4, GEm_5, GEm_6, GEm_7, GEm_8, GEm_9, GEm_10, GEm_11, GEm_12, GEm_13, GEm_14, GEm_15, GEm_16, GEm_17, GEm_18, GEg_0, decide_eq_true c, o_mod (show (997 : Int) ≠ 0 by decide), a_app hl, o_fdv (show (997 : Int) ≠ 0 ∧ (997 : Int).natAbs < 1073741824 by decide)]
      simpa only [List.map_append, List.map_cons, List.map_nil] using h2
    · obtain ⟨ds', r', h1, h2⟩ := draws_L2 k S M mx kk ce is ds r (by omega)
      refine ⟨ds', r', by simp only [List.length_cons]; omega, ?_⟩
      simp only [List.map_cons, fl_cons, ↓r_k, ↓r_v, ↓r_g, ↓r_bin, ↓r_cmp, ↓r_chn, ↓r_isK, ↓r_and, ↓r_or, ↓r_not, ↓r_neg, ↓r_ite, ↓r_idx, ↓r_slc, ↓r_rev, ↓r_tup, ↓r_lst, ↓r_dct, ↓r_call, ↓r_bi, ↓r_mt, ↓r_mu, ↓r_comp, ↓r_nil, ↓r_cons, ↓r_asg, ↓r_unp, ↓r_par, ↓r_aug, ↓r_sto, ↓r_aus, ↓r_ex, ↓r_ifs, ↓r_fr, ↓r_wh, ↓r_ret, ↓r_retN, ↓r_brk, ↓r_cnt, ↓r_pas, ↓r_frg, ↓r_rse, ↓r_snil, ↓r_scons, lk1_d, lk1_new, lk1_slot, lkS_own, lkS_val, lks_nil, lks_cons, fz1_d, fz1_new, fz1_slot, fzS_own, fzS_val, fzs_nil, fzs_cons, opt_some, opt_none, cndS_some, optS_some, gOwnS_own, gValS_val, isDS_d, lk1S_d, lk1S_new, lk1S_slot, lkSS_own, lkSS_val, rdV_val, rdV_own, isD_d, gOwn_own, gVal_val, bind_ok, bind_stuck, bind_exc, bind_ite, toO_ok, toO_stuck, toO_exc, toO_ite, obind_nx, obind_bk, obind_ct, obind_rt, obind_exc, obind_stuck, obind_ite, of_some, of_ite, oof_some, callK_ok, callK_exc, callK_ite, isLst_lst, compK_ok, compW_nil, setV_eq, setVc_none, setVc_val, setVc_own, setO_eq, setOc_none, setOc_val, setOc_own, setVs_nil, setVs_cons, setT_one, setT_many, setR_d, setR_new, setR_slot, setR_own, setRs_nil, setRs_d, setRs_new, wipe_nil, wipe_cons, unwipe_nil, unwipe_cons, unwC_val, unwC_none, unwC_own, fl_nil, flK_nx, flK_ct, flK_bk, flK_rt, flK_exc, flK_ite, whK_nx, whK_ct, whK_bk, whK_rt, whK_exc, whK_ite, finK_nx, finK_rt, finK_exc, finK_ite, outRV_d, outRV_new, outRV_slot, outS_own, outS_val, outCells_nil, outCells_val, outCells_own, backCells_nil, backCells_0, backCells_s, argCells_nil, argCells_cons, argK_some, arg1_d, arg1_new, arg1_slot, argS_true, argS_home, argS_give, argS_val, List.getElem?_cons_zero, List.getElem?_cons_succ, List.set_cons_zero, List.set_cons_succ, Option.map_some, Option.map_none, GE_phi, GE_fuel, o_addI, o_subI, o_eqI, o_neI, o_eqB, o_neB, o_ltI, o_leI, o_gtI, o_geI, o_ltS, o_leS, o_gtS, o_geS, o_eqS, o_neS, o_isB, t_non, t_bl, t_int, t_str, t_tup, t_lst, ix_L0, ix_T0, ix_T1, ix_T2, ix_T3, ix_T4, ix_Tm, ix_Lm, bi_lenL, bi_lenC, bi_lenT, bi_lenS, bi_tupL, bi_tupT, bi_lstL, bi_lstT, bi_intI, bi_sortL, bi_sortT, s_L, s_T, s_S, s_K, p_non, kn_non, kx_non, kn_str, kx_str, kn_int, kx_int, kn_tup, kx_tup, kn_lst, kx_lst, kn_bl, kx_bl, g_addI, cmp_mem, cmp_nmem, ↓reduceIte, ↓u_node_at_C1c, ↓u_node_at_C1, ↓u_node_at_I1, ↓u_node_at_L1, ↓u_node_at, ↓u_head_of, ↓u_is_met_I1, ↓u_is_met_C1c, ↓u_is_met_C1, ↓u_is_met_I2, ↓u_is_met, ↓u_leaves_below_I1, ↓u_leaves_below_L1, ↓u_leaves_below, ↓u_turns_C1c, ↓u_turns_C1, ↓u_turns_I1, ↓u_turns_I2, ↓u_turns_L1, ↓u_turns, ↓u__law_draws_I1, ↓u__law_draws_I2, ↓u__law_draws_L2, ↓u__law_draws_L1, ↓u__law_draws_L3, ↓u__law_draws, ↓u__law_next_I1, ↓u__law_next, ↓u__law_pick, ↓u__law_is_bit, ↓u__law_words_C1, ↓u__law_words, ↓u__law_label, ↓u__law_key_C1c, ↓u__law_key_C1, ↓u__law_key, ↓u__law_body_L1, ↓u__law_body_C1, ↓u__law_body_L2, ↓u__law_body, ↓u__law_listed_I1, ↓u__law_listed_L1, ↓u__law_listed, ↓u__law_head, ↓u__law_met_I1, ↓u__law_met_C1c, ↓u__law_met_C1, ↓u__law_met_I2, ↓u__law_met, ↓u__law_leaves_I1, ↓u__law_leaves_L1, ↓u__law_leaves, ↓u__law_nodes_C1, ↓u__law_nodes_I1, ↓u__law_nodes_C2, ↓u__law_nodes_L1, ↓u__law_nodes, ↓u_law_C1c, ↓u_law_C1, ↓u_law_I1, ↓u_law_C2c, ↓u_law_C2, ↓u_law_I2, ↓u_law_L3, ↓u_law_I3, ↓u_law_L2, ↓u_law_L1, ↓u_law, GEm_0, GEm_1, GEm_2, GEm_3, GEm_4, GEm_5, GEm_6, GEm_7, GEm_8, GEm_9, GEm_10, GEm_11, GEm_12, GEm_13, GEm_14, GEm_15, GEm_16, GEm_17, GEm_18, GEg_0, decide_eq_false c, Bool.false_eq_true]
      exact h2
theorem pow18 : binD .pow (.int 10) (.int 18) = some (.d (.int 1000000000000000000)) := rfl
theorem draws_L1 (k : Nat) (ns : List Int) (M : D) : ∀ (is : List Nat) (ds : List Int) (mx : Int), (∀ i ∈ is, i < ns.length) → ds.length + 62 * is.length < line → 0 ≤ mx → mx < 65537 →
    ∃ (ds' : List Int) (mx' : Int), ds'.length ≤ ds.length + 62 * is.length ∧ 0 ≤ mx' ∧ mx' < 65537 ∧ forLoop (.one 4) (exSs (GE k) ir__law_draws_L1) (is.map fun i : Nat => D.int (i : Int)) [some (.val (.cst (ns.map .int))), some (.val M), some (.own false (.lst (ds.map .int))), some (.val (.int mx)), none, none, none, none] =
      .nx [some (.val (.cst (ns.map .int))), some (.val M), some (.own false (.lst (ds'.map .int))), some (.val (.int mx')), none, none, none, none]
  | [], ds, mx, _, _, h1, h2 => ⟨ds, mx, Nat.le_refl _, h1, h2, rfl⟩
  | i :: is, ds, mx, hi, h, h1, h2 => by
    simp only [List.length_cons] at h
    have hlt := hi i List.mem_cons_self
    have hx : (ns.map D.int)[i]? = some (.int ns[i]) := by simp [List.getElem?_eq_getElem hlt]
    generalize hce : (if ns[i] < 0 then -ns[i] else ns[i]) = ce
    generalize hmx : (mx * 48271 + ce.fmod 1000003 + (i : Int)).fmod 65537 = mx2
    have m1 : 0 ≤ mx2 := by rw [← hmx]; exact Int.fmod_nonneg_of_pos _ (by decide)
    have m2 : mx2 < 65537 := by rw [← hmx]; exact Int.fmod_lt_of_pos _ (by decide)
    have e60 : srcD .range [.int 60] = some ((List.range 60).map fun i : Nat => D.int (i : Int)) := s_rng (n := 60) (by decide)
    by_cases c : (1000000000000000000 : Int) ≤ ce
    · obtain ⟨ds1, r1, g1, g2⟩ := draws_L2 k (.cst (ns.map .int)) M (.int mx2) (.int i) (.int ce) (List.range 60) ds ce (by simp; omega)
      simp only [List.length_range] at g1
      obtain ⟨ds', mx', k1, k2, k3, k4⟩ := draws_L1 k ns M is ds1 mx2 (fun j hj => hi j (List.mem_cons_of_mem _ hj)) (by omega) m1 m2
      refine ⟨ds', mx', by simp only [List.length_cons]; omega, k2, k3, ?_⟩
      simp only [List.map_cons, fl_cons, ↓r_k, ↓r_v, ↓r_g, ↓r_bin, ↓r_cmp, ↓r_chn, ↓r_isK, ↓r_and, ↓r_or, ↓r_not, ↓r_neg, ↓r_ite, ↓r_idx, ↓r_slc, ↓r_rev, ↓r_tup, ↓r_lst, ↓r_dct, ↓r_call, ↓r_bi, ↓r_mt, ↓r_mu, ↓r_comp, ↓r_nil, ↓r_cons, ↓r_asg, ↓r_unp, ↓r_par, ↓r_aug, ↓r_sto, ↓r_aus, ↓r_ex, ↓r_ifs, ↓r_fr, ↓r_wh, ↓r_ret, ↓r_retN, ↓r_brk, ↓r_cnt, ↓r_pas, ↓r_frg, ↓r_rse, ↓r_snil, ↓r_scons, lk1_d, lk1_new, lk1_slot, lkS_own, lkS_val, lks_nil, lks_cons, fz1_d, fz1_new, fz1_slot, fzS_own, fzS_val, fzs_nil, fzs_cons, opt_some, opt_none, cndS_some, optS_some, gOwnS_own, gValS_val, isDS_d, lk1S_d, lk1S_new, lk1S_slot, lkSS_own, lkSS_val, rdV_val, rdV_own, isD_d, gOwn_own, gVal_val, bind_ok, bind_stuck, bind_exc, bind_ite, toO_ok, toO_stuck, toO_exc, toO_ite, obind_nx, obind_bk, obind_ct, obind_rt, obind_exc, obind_stuck, obind_ite, of_some, of_ite, oof_some, callK_ok, callK_exc, callK_ite, isLst_lst, compK_ok, compW_nil, setV_eq, setVc_none, setVc_val, setVc_own, setO_eq, setOc_none, setOc_val, setOc_own, setVs_nil, setVs_cons, setT_one, setT_many, setR_d, setR_new, setR_slot, setR_own, setRs_nil, setRs_d, setRs_new, wipe_nil, wipe_cons, unwipe_nil, unwipe_cons, unwC_val, unwC_none, unwC_own, fl_nil, flK_nx, flK_ct, flK_bk, flK_rt, flK_exc, flK_ite, whK_nx, whK_ct, whK_bk, whK_rt, whK_exc, whK_ite, finK_nx, finK_rt, finK_exc, finK_ite, outRV_d, outRV_new, outRV_slot, outS_own, outS_val, outCells_nil, outCells_val, outCells_own, backCells_nil, backCells_0, backCells_s, argCells_nil, argCells_cons, argK_some, arg1_d, arg1_new, arg1_slot, argS_true, argS_home, argS_give, argS_val, List.getElem?_cons_zero, List.getElem?_cons_succ, List.set_cons_zero, List.set_cons_succ, Option.map_some, Option.map_none, GE_phi, GE_fuel, o_addI, o_subI, o_eqI, o_neI, o_eqB, o_neB, o_ltI, o_leI, o_gtI, o_geI, o_ltS, o_leS, o_gtS, o_geS, o_eqS, o_neS, o_isB, t_non, t_bl, t_int, t_str, t_tup, t_lst, ix_L0, ix_T0, ix_T1, ix_T2, ix_T3, ix_T4, ix_Tm, ix_Lm, bi_lenL, bi_lenC, bi_lenT, bi_lenS, bi_tupL, bi_tupT, bi_lstL, bi_lstT, bi_intI, bi_sortL, bi_sortT, s_L, s_T, s_S, s_K, p_non, kn_non, kx_non, kn_str, kx_str, kn_int, kx_int, kn_tup, kx_tup, kn_lst, kx_lst, kn_bl, kx_bl, g_addI, cmp_mem, cmp_nmem, ↓reduceIte, ↓u_node_at_C1c, ↓u_node_at_C1, ↓u_node_at_I1, ↓u_node_at_L1, ↓u_node_at, ↓u_head_of, ↓u_is_met_I1, ↓u_is_met_C1c, ↓u_is_met_C1, ↓u_is_met_I2, ↓u_is_met, ↓u_leaves_below_I1, ↓u_leaves_below_L1, ↓u_leaves_below, ↓u_turns_C1c, ↓u_turns_C1, ↓u_turns_I1, ↓u_turns_I2, ↓u_turns_L1, ↓u_turns, ↓u__law_draws_I1, ↓u__law_draws_I2, ↓u__law_draws_L2, ↓u__law_draws_L1, ↓u__law_draws_L3, ↓u__law_draws, ↓u__law_next_I1, ↓u__law_next, ↓u__law_pick, ↓u__law_is_bit, ↓u__law_words_C1, ↓u__law_words, ↓u__law_label, ↓u__law_key_C1c, ↓u__law_key_C1, ↓u__law_key, ↓u__law_body_L1, ↓u__law_body_C1, ↓u__law_body_L2, ↓u__law_body, ↓u__law_listed_I1, ↓u__law_listed_L1, ↓u__law_listed, ↓u__law_head, ↓u__law_met_I1, ↓u__law_met_C1c, ↓u__law_met_C1, ↓u__law_met_I2, ↓u__law_met, ↓u__law_leaves_I1, ↓u__law_leaves_L1, ↓u__law_leaves, ↓u__law_nodes_C1, ↓u__law_nodes_I1, ↓u__law_nodes_C2, ↓u__law_nodes_L1, ↓u__law_nodes, ↓u_law_C1c, ↓u_law_C1, ↓u_law_I1, ↓u_law_C2c, ↓u_law_C2, ↓u_law_I2, ↓u_law_L3, ↓u_law_I3, ↓u_law_L2, ↓u_law_L1, ↓u_law, GEm_0, GEm_1, GEm_2, GEm_3, GEm_4, GEm_5, GEm_6, GEm_7, GEm_8, GEm_9, GEm_10, GEm_11, GEm_12, GEm_13, GEm_14, GEm_15, GEm_16, GEm_17, GEm_18, GEg_0, ix_C, hx, bi_abs, hce, o_mul1 (show -(2 ^ 64) < mx ∧ mx < 2 ^ 64 by omega), o_mod (show (1000003 : Int) ≠ 0 by decide), o_mod (show (65537 : Int) ≠ 0 by decide), hmx, pow18, decide_eq_true c, e60, g2]
      exact k4
    · have hl : (ds.map D.int).length < line := by simp; omega
      have hl2 : ∀ x, (ds.map D.int ++ [x]).length < line := by intro x; simp; omega
      obtain ⟨ds1, r1, g1, g2⟩ := draws_L2 k (.cst (ns.map .int)) M (.int mx2) (.int i) (.int ce) (List.range 60) (ds ++ [ce.fmod 997] ++ [((mx2 * 69621 + 5).fmod 65521).fmod 997]) 0 (by simp; omega)
      simp only [List.length_range, List.length_append, List.length_cons, List.length_nil] at g1
      simp only [List.map_append, List.map_cons, List.map_nil] at g2
      obtain ⟨ds', mx', k1, k2, k3, k4⟩ := draws_L1 k ns M is ds1 mx2 (fun j hj => hi j (List.mem_cons_of_mem _ hj)) (by omega) m1 m2
      refine ⟨ds', mx', by simp only [List.length_cons]; omega, k2, k3, ?_⟩
      simp only [List.map_cons, fl_cons, ↓r_k, ↓r_v, ↓r_g, ↓r_bin, ↓r_cmp, ↓r_chn, ↓r_isK, ↓r_and, ↓r_or, ↓r_not, ↓r_neg, ↓r_ite, ↓r_idx, ↓r_slc, ↓r_rev, ↓r_tup, ↓r_lst, ↓r_dct, ↓r_call, ↓r_bi, ↓r_mt, ↓r_mu, ↓r_comp, ↓r_nil, ↓r_cons, ↓r_asg, ↓r_unp, ↓r_par, ↓r_aug, ↓r_sto, ↓r_aus, ↓r_ex, ↓r_ifs, ↓r_fr, ↓r_wh, ↓r_ret, ↓r_retN, ↓r_brk, ↓r_cnt, ↓r_pas, ↓r_frg, ↓r_rse, ↓r_snil, ↓r_scons, lk1_d, lk1_new, lk1_slot, lkS_own, lkS_val, lks_nil, lks_cons, fz1_d, fz1_new, fz1_slot, fzS_own, fzS_val, fzs_nil, fzs_cons, opt_some, opt_none, cndS_some, optS_some, gOwnS_own, gValS_val, isDS_d, lk1S_d, lk1S_new, lk1S_slot, lkSS_own, lkSS_val, rdV_val, rdV_own, isD_d, gOwn_own, gVal_val, bind_ok, bind_stuck, bind_exc, bind_ite, toO_ok, toO_stuck, toO_exc, toO_ite, obind_nx, obind_bk, obind_ct, obind_rt, obind_exc, obind_stuck, obind_ite, of_some, of_ite, oof_some, callK_ok, callK_exc, callK_ite, isLst_lst, compK_ok, compW_nil, setV_eq, setVc_none, setVc_val, setVc_own, setO_eq, setOc_none, setOc_val, setOc_own, setVs_nil, setVs_cons, setT_one, setT_many, setR_d, setR_new, setR_slot, setR_own, setRs_nil, setRs_d, setRs_new, wipe_nil, wipe_cons, unwipe_nil, unwipe_cons, unwC_val, unwC_none, unwC_own, fl_nil, flK_nx, flK_ct, flK_bk, flK_rt, flK_exc, flK_ite, whK_nx, whK_ct, whK_bk, whK_rt, whK_exc, whK_ite, finK_nx, finK_rt, finK_exc, finK_ite, outRV_d, outRV_new, outRV_slot, outS_own, outS_val, outCells_nil, outCells_val, outCells_own, backCells_nil, backCells_0, backCells_s, argCells_nil, argCells_cons, argK_some, arg1_d, arg1_new, arg1_slot, argS_true, argS_home, argS_give, argS_val, List.getElem?_cons_zero, List.getElem?_cons_succ, List.set_cons_zero, List.set_cons_succ, Option.map_some, Option.map_none, GE_phi, GE_fuel, o_addI, o_subI, o_eqI, o_neI, o_eqB, o_neB, o_ltI, o_leI, o_gtI, o_geI, o_ltS, o_leS, o_gtS, o_geS, o_eqS, o_neS, o_isB, t_non, t_bl, t_int, t_str, t_tup, t_lst, ix_L0, ix_T0, ix_T1, ix_T2, ix_T3, ix_T4, ix_Tm, ix_Lm, bi_lenL, bi_lenC, bi_lenT, bi_lenS, bi_tupL, bi_tupT, bi_lstL, bi_lstT, bi_intI, bi_sortL, bi_sortT, s_L, s_T, s_S, s_K, p_non, kn_non, kx_non, kn_str, kx_str, kn_int, kx_int, kn_tup, kx_tup, kn_lst, kx_lst, kn_bl, kx_bl, g_addI, cmp_mem, cmp_nmem, ↓reduceIte, ↓u_node_at_C1c, ↓u_node_at_C1, ↓u_node_at_I1, ↓u_node_at_L1, ↓u_node_at, ↓u_head_of, ↓u_is_met_I1, ↓u_is_met_C1c, ↓u_is_met_C1, ↓u_is_met_I2, ↓u_is_met, ↓u_leaves_below_I1, ↓u_leaves_below_L1, ↓u_leaves_below, ↓u_turns_C1c, ↓u_turns_C1, ↓u_turns_I1, ↓u_turns_I2, ↓u_turns_L1, ↓u_turns, ↓u__law_draws_I1, ↓u__law_draws_I2, ↓u__law_draws_L2, ↓u__law_draws_L1, ↓u__law_draws_L3, ↓u__law_draws, ↓u__law_next_I1, ↓u__law_next, ↓u__law_pick, ↓u__law_is_bit, ↓u__law_words_C1, ↓u__law_words, ↓u__law_label, ↓u__law_key_C1c, ↓u__law_key_C1, ↓u__law_key, ↓u__law_body_L1, ↓u__law_body_C1, ↓u__law_body_L2, ↓u__law_body, ↓u__law_listed_I1, ↓u__law_listed_L1, ↓u__law_listed, ↓u__law_head, ↓u__law_met_I1, ↓u__law_met_C1c, ↓u__law_met_C1, ↓u__law_met_I2, ↓u__law_met, ↓u__law_leaves_I1, ↓u__law_leaves_L1, ↓u__law_leaves, ↓u__law_nodes_C1, ↓u__law_nodes_I1, ↓u__law_nodes_C2, ↓u__law_nodes_L1, ↓u__law_nodes, ↓u_law_C1c, ↓u_law_C1, ↓u_law_I1, ↓u_law_C2c, ↓u_law_C2, ↓u_law_I2, ↓u_law_L3, ↓u_law_I3, ↓u_law_L2, ↓u_law_L1, ↓u_law, GEm_0, GEm_1, GEm_2, GEm_3, GEm_4, GEm_5, GEm_6, GEm_7, GEm_8, GEm_9, GEm_10, GEm_11, GEm_12, GEm_13, GEm_14, GEm_15, GEm_16, GEm_17, GEm_18, GEg_0, ix_C, hx, bi_abs, hce, o_mul1 (show -(2 ^ 64) < mx ∧ mx < 2 ^ 64 by omega), o_mul1 (show -(2 ^ 64) < mx2 ∧ mx2 < 2 ^ 64 by omega), o_mod (show (1000003 : Int) ≠ 0 by decide), o_mod (show (65537 : Int) ≠ 0 by decide), o_mod (show (65521 : Int) ≠ 0 by decide), o_mod (show (997 : Int) ≠ 0 by decide), hmx, pow18, decide_eq_false c, Bool.false_eq_true, e60, a_app hl, a_app (hl2 _), g2]
      exact k4
theorem draws_L3 (k : Nat) (S M : D) : ∀ (is : List Nat) (ds : List Int) (mx : Int), ds.length + is.length < line → 0 ≤ mx → mx < 65537 →
    ∃ (ds' : List Int) (mx' : Int), ds'.length ≤ ds.length + is.length ∧ forLoop (.one 4) (exSs (GE k) ir__law_draws_L3) (is.map fun i : Nat => D.int (i : Int)) [some (.val S), some (.val M), some (.own false (.lst (ds.map .int))), some (.val (.int mx)), none, none, none, none] =
      .nx [some (.val S), some (.val M), some (.own false (.lst (ds'.map .int))), some (.val (.int mx')), none, none, none, none]
  | [], ds, mx, _, _, _ => ⟨ds, mx, Nat.le_refl _, rfl⟩
  | i :: is, ds, mx, h, h1, h2 => by
    simp only [List.length_cons] at h
    have hl : (ds.map D.int).length < line := by simp; omega
    generalize hmx : (mx * 16807 + (i : Int) + 1).fmod 65537 = mx2
    have m1 : 0 ≤ mx2 := by rw [← hmx]; exact Int.fmod_nonneg_of_pos _ (by decide)
    have m2 : mx2 < 65537 := by rw [← hmx]; exact Int.fmod_lt_of_pos _ (by decide)
    obtain ⟨ds', mx', g1, g2⟩ := draws_L3 k S M is (ds ++ [mx2.fmod 997]) mx2 (by simp; omega) m1 m2
    refine ⟨ds', mx', by simp at g1 ⊢; omega, ?_⟩
    simp only [List.map_cons, fl_cons, ↓r_k, ↓r_v, ↓r_g, ↓r_bin, ↓r_cmp, ↓r_chn, ↓r_isK, ↓r_and, ↓r_or, ↓r_not, ↓r_neg, ↓r_ite, ↓r_idx, ↓r_slc, ↓r_rev, ↓r_tup, ↓r_lst, ↓r_dct, ↓r_call, ↓r_bi, ↓r_mt, ↓r_mu, ↓r_comp, ↓r_nil, ↓r_cons, ↓r_asg, ↓r_unp, ↓r_par, ↓r_aug, ↓r_sto, ↓r_aus, ↓r_ex, ↓r_ifs, ↓r_fr, ↓r_wh, ↓r_ret, ↓r_retN, ↓r_brk, ↓r_cnt, ↓r_pas, ↓r_frg, ↓r_rse, ↓r_snil, ↓r_scons, lk1_d, lk1_new, lk1_slot, lkS_own, lkS_val, lks_nil, lks_cons, fz1_d, fz1_new, fz1_slot, fzS_own, fzS_val, fzs_nil, fzs_cons, opt_some, opt_none, cndS_some, optS_some, gOwnS_own, gValS_val, isDS_d, lk1S_d, lk1S_new, lk1S_slot, lkSS_own, lkSS_val, rdV_val, rdV_own, isD_d, gOwn_own, gVal_val, bind_ok, bind_stuck, bind_exc, bind_ite, toO_ok, toO_stuck, toO_exc, toO_ite, obind_nx, obind_bk, obind_ct, obind_rt, obind_exc, obind_stuck, obind_ite, of_some, of_ite, oof_some, callK_ok, callK_exc, callK_ite, isLst_lst, compK_ok, compW_nil, setV_eq, setVc_none, setVc_val, setVc_own, setO_eq, setOc_none, setOc_val, setOc_own, setVs_nil, setVs_cons, setT_one, setT_many, setR_d, setR_new, setR_slot, setR_own, setRs_nil, setRs_d, setRs_new, wipe_nil, wipe_cons, unwipe_nil, unwipe_cons, unwC_val, unwC_none, unwC_own, fl_nil, flK_nx, flK_ct, flK_bk, flK_rt, flK_exc, flK_ite, whK_nx, whK_ct, whK_bk, whK_rt, whK_exc, whK_ite, finK_nx, finK_rt, finK_exc, finK_ite, outRV_d, outRV_new, outRV_slot, outS_own, outS_val, outCells_nil, outCells_val, outCells_own, backCells_nil, backCells_0, backCells_s, argCells_nil, argCells_cons, argK_some, arg1_d, arg1_new, arg1_slot, argS_true, argS_home, argS_give, argS_val, List.getElem?_cons_zero, List.getElem?_cons_succ, List.set_cons_zero, List.set_cons_succ, Option.map_some, Option.map_none, GE_phi, GE_fuel, o_addI, o_subI, o_eqI, o_neI, o_eqB, o_neB, o_ltI, o_leI, o_gtI, o_geI, o_ltS, o_leS, o_gtS, o_geS, o_eqS, o_neS, o_isB, t_non, t_bl, t_int, t_str, t_tup, t_lst, ix_L0, ix_T0, ix_T1, ix_T2, ix_T3, ix_T4, ix_Tm, ix_Lm, bi_lenL, bi_lenC, bi_lenT, bi_lenS, bi_tupL, bi_tupT, bi_lstL, bi_lstT, bi_intI, bi_sortL, bi_sortT, s_L, s_T, s_S, s_K, p_non, kn_non, kx_non, kn_str, kx_str, kn_int, kx_int, kn_tup, kx_tup, kn_lst, kx_lst, kn_bl, kx_bl, g_addI, cmp_mem, cmp_nmem, ↓reduceIte, ↓u_node_at_C1c, ↓u_node_at_C1, ↓u_node_at_I1, ↓u_node_at_L1, ↓u_node_at, ↓u_head_of, ↓u_is_met_I1, ↓u_is_met_C1c, ↓u_is_met_C1, ↓u_is_met_I2, ↓u_is_met, ↓u_leaves_below_I1, ↓u_leaves_below_L1, ↓u_leaves_below, ↓u_turns_C1c, ↓u_turns_C1, ↓u_turns_I1, ↓u_turns_I2, ↓u_turns_L1, ↓u_turns, ↓u__law_draws_I1, ↓u__law_draws_I2, ↓u__law_draws_L2, ↓u__law_draws_L1, ↓u__law_draws_L3, ↓u__law_draws, ↓u__law_next_I1, ↓u__law_next, ↓u__law_pick, ↓u__law_is_bit, ↓u__law_words_C1, ↓u__law_words, ↓u__law_label, ↓u__law_key_C1c, ↓u__law_key_C1, ↓u__law_key, ↓u__law_body_L1, ↓u__law_body_C1, ↓u__law_body_L2, ↓u__law_body, ↓u__law_listed_I1, ↓u__law_listed_L1, ↓u__law_listed, ↓u__law_head, ↓u__law_met_I1, ↓u__law_met_C1c, ↓u__law_met_C1, ↓u__law_met_I2, ↓u__law_met, ↓u__law_leaves_I1, ↓u__law_leaves_L1, ↓u__law_leaves, ↓u__law_nodes_C1, ↓u__law_nodes_I1, ↓u__law_nodes_C2, ↓u__law_nodes_L1, ↓u__law_nodes, ↓u_law_C1c, ↓u_law_C1, ↓u_law_I1, ↓u_law_C2c, ↓u_law_C2, ↓u_law_I2, ↓u_law_L3, ↓u_law_I3, ↓u_law_L2, ↓u_law_L1, ↓u_law, GEm_0, GEm_1, GEm_2, GEm_3, GEm_4, GEm_5, GEm_6, GEm_7, GEm_8, GEm_9, GEm_10, GEm_11, GEm_12, GEm_13, GEm_14, GEm_15, GEm_16, GEm_17, GEm_18, GEg_0, o_mul1 (show -(2 ^ 64) < mx ∧ mx < 2 ^ 64 by omega), o_mod (show (65537 : Int) ≠ 0 by decide), o_mod (show (997 : Int) ≠ 0 by decide), hmx, a_app hl]
    simpa only [List.map_append, List.map_cons, List.map_nil] using g2
theorem draws_sp (k : Nat) (ns : List Int) (hl : ns.length ≤ 63) (M : Nat) (hM : M ≤ 1000) : ∃ ds : List Int, run tab globD 2000 (k + 1) 5 [.val (.cst (ns.map .int)), .val (.int M)] = .ok (.new (.lst (ds.map .int))) [.val (.cst (ns.map .int)), .val (.int M)] := by
  obtain ⟨d1, m1, g1, g2, g3, g4⟩ := draws_L1 k ns (.int M) (List.range ns.length) [] 7 (fun i h => List.mem_range.mp h) (by simp [line]; omega) (by decide) (by decide)
  simp only [List.length_range, List.length_nil, List.map_nil] at g1 g4
  obtain ⟨d2, m2, k1, k2⟩ := draws_L3 k (.cst (ns.map .int)) (.int M) (List.range M) d1 m1 (by simp [line]; omega) g2 g3
  refine ⟨cutL d2 none (some M), ?_⟩
  simp only [rn__law_draws, ↓r_k, ↓r_v, ↓r_g, ↓r_bin, ↓r_cmp, ↓r_chn, ↓r_isK, ↓r_and, ↓r_or, ↓r_not, ↓r_neg, ↓r_ite, ↓r_idx, ↓r_slc, ↓r_rev, ↓r_tup, ↓r_lst, ↓r_dct, ↓r_call, ↓r_bi, ↓r_mt, ↓r_mu, ↓r_comp, ↓r_nil, ↓r_cons, ↓r_asg, ↓r_unp, ↓r_par, ↓r_aug, ↓r_sto, ↓r_aus, ↓r_ex, ↓r_ifs, ↓r_fr, ↓r_wh, ↓r_ret, ↓r_retN, ↓r_brk, ↓r_cnt, ↓r_pas, ↓r_frg, ↓r_rse, ↓r_snil, ↓r_scons, lk1_d, lk1_new, lk1_slot, lkS_own, lkS_val, lks_nil, lks_cons, fz1_d, fz1_new, fz1_slot, fzS_own, fzS_val, fzs_nil, fzs_cons, opt_some, opt_none, cndS_some, optS_some, gOwnS_own, gValS_val, isDS_d, lk1S_d, lk1S_new, lk1S_slot, lkSS_own, lkSS_val, rdV_val, rdV_own, isD_d, gOwn_own, gVal_val, bind_ok, bind_stuck, bind_exc, bind_ite, toO_ok, toO_stuck, toO_exc, toO_ite, obind_nx, obind_bk, obind_ct, obind_rt, obind_exc, obind_stuck, obind_ite, of_some, of_ite, oof_some, callK_ok, callK_exc, callK_ite, isLst_lst, compK_ok, compW_nil, setV_eq, setVc_none, setVc_val, setVc_own, setO_eq, setOc_none, setOc_val, setOc_own, setVs_nil, setVs_cons, setT_one, setT_many, setR_d, setR_new, setR_slot, setR_own, setRs_nil, setRs_d, setRs_new, wipe_nil, wipe_cons, unwipe_nil, unwipe_cons, unwC_val, unwC_none, unwC_own, fl_nil, flK_nx, flK_ct, flK_bk, flK_rt, flK_exc, flK_ite, whK_nx, whK_ct, whK_bk, whK_rt, whK_exc, whK_ite, finK_nx, finK_rt, finK_exc, finK_ite, outRV_d, outRV_new, outRV_slot, outS_own, outS_val, outCells_nil, outCells_val, outCells_own, backCells_nil, backCells_0, backCells_s, argCells_nil, argCells_cons, argK_some, arg1_d, arg1_new, arg1_slot, argS_true, argS_home, argS_give, argS_val, List.getElem?_cons_zero, List.getElem?_cons_succ, List.set_cons_zero, List.set_cons_succ, Option.map_some, Option.map_none, GE_phi, GE_fuel, o_addI, o_subI, o_eqI, o_neI, o_eqB, o_neB, o_ltI, o_leI, o_gtI, o_geI, o_ltS, o_leS, o_gtS, o_geS, o_eqS, o_neS, o_isB, t_non, t_bl, t_int, t_str, t_tup, t_lst, ix_L0, ix_T0, ix_T1, ix_T2, ix_T3, ix_T4, ix_Tm, ix_Lm, bi_lenL, bi_lenC, bi_lenT, bi_lenS, bi_tupL, bi_tupT, bi_lstL, bi_lstT, bi_intI, bi_sortL, bi_sortT, s_L, s_T, s_S, s_K, p_non, kn_non, kx_non, kn_str, kx_str, kn_int, kx_int, kn_tup, kx_tup, kn_lst, kx_lst, kn_bl, kx_bl, g_addI, cmp_mem, cmp_nmem, ↓reduceIte, ↓u_node_at_C1c, ↓u_node_at_C1, ↓u_node_at_I1, ↓u_node_at_L1, ↓u_node_at, ↓u_head_of, ↓u_is_met_I1, ↓u_is_met_C1c, ↓u_is_met_C1, ↓u_is_met_I2, ↓u_is_met, ↓u_leaves_below_I1, ↓u_leaves_below_L1, ↓u_leaves_below, ↓u_turns_C1c, ↓u_turns_C1, ↓u_turns_I1, ↓u_turns_I2, ↓u_turns_L1, ↓u_turns, ↓u__law_draws_I1, ↓u__law_draws_I2, ↓u__law_draws_L2, ↓u__law_draws_L1, ↓u__law_draws_L3, ↓u__law_draws, ↓u__law_next_I1, ↓u__law_next, ↓u__law_pick, ↓u__law_is_bit, ↓u__law_words_C1, ↓u__law_words, ↓u__law_label, ↓u__law_key_C1c, ↓u__law_key_C1, ↓u__law_key, ↓u__law_body_L1, ↓u__law_body_C1, ↓u__law_body_L2, ↓u__law_body, ↓u__law_listed_I1, ↓u__law_listed_L1, ↓u__law_listed, ↓u__law_head, ↓u__law_met_I1, ↓u__law_met_C1c, ↓u__law_met_C1, ↓u__law_met_I2, ↓u__law_met, ↓u__law_leaves_I1, ↓u__law_leaves_L1, ↓u__law_leaves, ↓u__law_nodes_C1, ↓u__law_nodes_I1, ↓u__law_nodes_C2, ↓u__law_nodes_L1, ↓u__law_nodes, ↓u_law_C1c, ↓u_law_C1, ↓u_law_I1, ↓u_law_C2c, ↓u_law_C2, ↓u_law_I2, ↓u_law_L3, ↓u_law_I3, ↓u_law_L2, ↓u_law_L1, ↓u_law, GEm_0, GEm_1, GEm_2, GEm_3, GEm_4, GEm_5, GEm_6, GEm_7, GEm_8, GEm_9, GEm_10, GEm_11, GEm_12, GEm_13, GEm_14, GEm_15, GEm_16, GEm_17, GEm_18, GEg_0, List.length_map, s_rng (show ns.length ≤ 8388608 by omega), g4, s_rng (show M ≤ 8388608 by omega), k2, p_int (.v 1) M rfl, slcD, cutL_map]
theorem next_sp (k : Nat) (ds : List Int) (n : Nat) (m : Int) (hm : 0 < m) : run tab globD 2000 (k + 1) 6 [.own true (WD ds n), .val (.int m)] = .ok (.d (.int (nx ds n m))) [.own true (WD ds (n + 1)), .val (.int m)] := by
  have e1 : isKey false (.str [97, 116]) = true := rfl
  have e2 : isKey false (.str [100, 114, 97, 119, 115]) = true := rfl
  have e3 (a b : D) : dget [.str [100, 114, 97, 119, 115], .str [97, 116]] [a, b] (.str [97, 116]) = some b := rfl
  have e4 (a b : D) : dget [.str [100, 114, 97, 119, 115], .str [97, 116]] [a, b] (.str [100, 114, 97, 119, 115]) = some a := rfl
  have e5 (a b c : D) : stoD (.dct false [.str [100, 114, 97, 119, 115], .str [97, 116]] [a, b]) (.str [97, 116]) c = some (.dct false [.str [100, 114, 97, 119, 115], .str [97, 116]] [a, c]) := rfl
  have e6 (a b : D) : dgD (.dct false [.str [100, 114, 97, 119, 115], .str [97, 116]] [a, b]) (.str [97, 116]) = some b := rfl
  simp only [rn__law_next, ↓r_k, ↓r_v, ↓r_g, ↓r_bin, ↓r_cmp, ↓r_chn, ↓r_isK, ↓r_and, ↓r_or, ↓r_not, ↓r_neg, ↓r_ite, ↓r_idx, ↓r_slc, ↓r_rev, ↓r_tup, ↓r_lst, ↓r_dct, ↓r_call, ↓r_bi, ↓r_mt, ↓r_mu, ↓r_comp, ↓r_nil, ↓r_cons, ↓r_asg, ↓r_unp, ↓r_par, ↓r_aug, ↓r_sto, ↓r_aus, ↓r_ex, ↓r_ifs, ↓r_fr, ↓r_wh, ↓r_ret, ↓r_retN, ↓r_brk, ↓r_cnt, ↓r_pas, ↓r_frg, ↓r_rse, ↓r_snil, ↓r_scons, lk1_d, lk1_new, lk1_slot, lkS_own, lkS_val, lks_nil, lks_cons, fz1_d, fz1_new, fz1_slot, fzS_own, fzS_val, fzs_nil, fzs_cons, opt_some, opt_none, cndS_some, optS_some, gOwnS_own, gValS_val, isDS_d, lk1S_d, lk1S_new, lk1S_slot, lkSS_own, lkSS_val, rdV_val, rdV_own, isD_d, gOwn_own, gVal_val, bind_ok, bind_stuck, bind_exc, bind_ite, toO_ok, toO_stuck, toO_exc, toO_ite, obind_nx, obind_bk, obind_ct, obind_rt, obind_exc, obind_stuck, obind_ite, of_some, of_ite, oof_some, callK_ok, callK_exc, callK_ite, isLst_lst, compK_ok, compW_nil, setV_eq, setVc_none, setVc_val, setVc_own, setO_eq, setOc_none, setOc_val, setOc_own, setVs_nil, setVs_cons, setT_one, setT_many, setR_d, setR_new, setR_slot, setR_own, setRs_nil, setRs_d, setRs_new, wipe_nil, wipe_cons, unwipe_nil, unwipe_cons, unwC_val, unwC_none, unwC_own, fl_nil, flK_nx, flK_ct, flK_bk, flK_rt, flK_exc, flK_ite, whK_nx, whK_ct, whK_bk, whK_rt, whK_exc, whK_ite, finK_nx, finK_rt, finK_exc, finK_ite, outRV_d, outRV_new, outRV_slot, outS_own, outS_val, outCells_nil, outCells_val, outCells_own, backCells_nil, backCells_0, backCells_s, argCells_nil, argCells_cons, argK_some, arg1_d, arg1_new, arg1_slot, argS_true, argS_home, argS_give, argS_val, List.getElem?_cons_zero, List.getElem?_cons_succ, List.set_cons_zero, List.set_cons_succ, Option.map_some, Option.map_none, GE_phi, GE_fuel, o_addI, o_subI, o_eqI, o_neI, o_eqB, o_neB, o_ltI, o_leI, o_gtI, o_geI, o_ltS, o_leS, o_gtS, o_geS, o_eqS, o_neS, o_isB, t_non, t_bl, t_int, t_str, t_tup, t_lst, ix_L0, ix_T0, ix_T1, ix_T2, ix_T3, ix_T4, ix_Tm, ix_Lm, bi_lenL, bi_lenC, bi_lenT, bi_lenS, bi_tupL, bi_tupT, bi_lstL, bi_lstT, bi_intI, bi_sortL, bi_sortT, s_L, s_T, s_S, s_K, p_non, kn_non, kx_non, kn_str, kx_str, kn_int, kx_int, kn_tup, kx_tup, kn_lst, kx_lst, kn_bl, kx_bl, g_addI, cmp_mem, cmp_nmem, ↓reduceIte, ↓u_node_at_C1c, ↓u_node_at_C1, ↓u_node_at_I1, ↓u_node_at_L1, ↓u_node_at, ↓u_head_of, ↓u_is_met_I1, ↓u_is_met_C1c, ↓u_is_met_C1, ↓u_is_met_I2, ↓u_is_met, ↓u_leaves_below_I1, ↓u_leaves_below_L1, ↓u_leaves_below, ↓u_turns_C1c, ↓u_turns_C1, ↓u_turns_I1, ↓u_turns_I2, ↓u_turns_L1, ↓u_turns, ↓u__law_draws_I1, ↓u__law_draws_I2, ↓u__law_draws_L2, ↓u__law_draws_L1, ↓u__law_draws_L3, ↓u__law_draws, ↓u__law_next_I1, ↓u__law_next, ↓u__law_pick, ↓u__law_is_bit, ↓u__law_words_C1, ↓u__law_words, ↓u__law_label, ↓u__law_key_C1c, ↓u__law_key_C1, ↓u__law_key, ↓u__law_body_L1, ↓u__law_body_C1, ↓u__law_body_L2, ↓u__law_body, ↓u__law_listed_I1, ↓u__law_listed_L1, ↓u__law_listed, ↓u__law_head, ↓u__law_met_I1, ↓u__law_met_C1c, ↓u__law_met_C1, ↓u__law_met_I2, ↓u__law_met, ↓u__law_leaves_I1, ↓u__law_leaves_L1, ↓u__law_leaves, ↓u__law_nodes_C1, ↓u__law_nodes_I1, ↓u__law_nodes_C2, ↓u__law_nodes_L1, ↓u__law_nodes, ↓u_law_C1c, ↓u_law_C1, ↓u_law_I1, ↓u_law_C2c, ↓u_law_C2, ↓u_law_I2, ↓u_law_L3, ↓u_law_I3, ↓u_law_L2, ↓u_law_L1, ↓u_law, GEm_0, GEm_1, GEm_2, GEm_3, GEm_4, GEm_5, GEm_6, GEm_7, GEm_8, GEm_9, GEm_10, GEm_11, GEm_12, GEm_13, GEm_14, GEm_15, GEm_16, GEm_17, GEm_18, GEg_0, WD, e6, e5, ix_D _ _ _ _ e1, ix_D _ _ _ _ e2, e3, e4, List.length_map, decide_eq_true_eq]
  by_cases c : (ds.length : Int) < n + 1
  · have : ds.length < n + 1 := by omega
    simp only [if_pos c, nx, this, ↓r_k, ↓r_v, ↓r_g, ↓r_bin, ↓r_cmp, ↓r_chn, ↓r_isK, ↓r_and, ↓r_or, ↓r_not, ↓r_neg, ↓r_ite, ↓r_idx, ↓r_slc, ↓r_rev, ↓r_tup, ↓r_lst, ↓r_dct, ↓r_call, ↓r_bi, ↓r_mt, ↓r_mu, ↓r_comp, ↓r_nil, ↓r_cons, ↓r_asg, ↓r_unp, ↓r_par, ↓r_aug, ↓r_sto, ↓r_aus, ↓r_ex, ↓r_ifs, ↓r_fr, ↓r_wh, ↓r_ret, ↓r_retN, ↓r_brk, ↓r_cnt, ↓r_pas, ↓r_frg, ↓r_rse, ↓r_snil, ↓r_scons, lk1_d, lk1_new, lk1_slot, lkS_own, lkS_val, lks_nil, lks_cons, fz1_d, fz1_new, fz1_slot, fzS_own, fzS_val, fzs_nil, fzs_cons, opt_some, opt_none, cndS_some, optS_some, gOwnS_own, gValS_val, isDS_d, lk1S_d, lk1S_new, lk1S_slot, lkSS_own, lkSS_val, rdV_val, rdV_own, isD_d, gOwn_own, gVal_val, bind_ok, bind_stuck, bind_exc, bind_ite, toO_ok, toO_stuck, toO_exc, toO_ite, obind_nx, obind_bk, obind_ct, obind_rt, obind_exc, obind_stuck, obind_ite, of_some, of_ite, oof_some, callK_ok, callK_exc, callK_ite, isLst_lst, compK_ok, compW_nil, setV_eq, setVc_none, setVc_val, setVc_own, setO_eq, setOc_none, setOc_val, setOc_own, setVs_nil, setVs_cons, setT_one, setT_many, setR_d, setR_new, setR_slot, setR_own, setRs_nil, setRs_d, setRs_new, wipe_nil, wipe_cons, unwipe_nil, unwipe_cons, unwC_val, unwC_none, unwC_own, fl_nil, flK_nx, flK_ct, flK_bk, flK_rt, flK_exc, flK_ite, whK_nx, whK_ct, whK_bk, whK_rt, whK_exc, whK_ite, finK_nx, finK_rt, finK_exc, finK_ite, outRV_d, outRV_new, outRV_slot, outS_own, outS_val, outCells_nil, outCells_val, outCells_own, backCells_nil, backCells_0, backCells_s, argCells_nil, argCells_cons, argK_some, arg1_d, arg1_new, arg1_slot, argS_true, argS_home, argS_give, argS_val, List.getElem?_cons_zero, List.getElem?_cons_succ, List.set_cons_zero, List.set_cons_succ, Option.map_some, Option.map_none, GE_phi, GE_fuel, o_addI, o_subI, o_eqI, o_neI, o_eqB, o_neB, o_ltI, o_leI, o_gtI, o_geI, o_ltS, o_leS, o_gtS, o_geS, o_eqS, o_neS, o_isB, t_non, t_bl, t_int, t_str, t_tup, t_lst, ix_L0, ix_T0, ix_T1, ix_T2, ix_T3, ix_T4, ix_Tm, ix_Lm, bi_lenL, bi_lenC, bi_lenT, bi_lenS, bi_tupL, bi_tupT, bi_lstL, bi_lstT, bi_intI, bi_sortL, bi_sortT, s_L, s_T, s_S, s_K, p_non, kn_non, kx_non, kn_str, kx_str, kn_int, kx_int, kn_tup, kx_tup, kn_lst, kx_lst, kn_bl, kx_bl, g_addI, cmp_mem, cmp_nmem, ↓reduceIte, ↓u_node_at_C1c, ↓u_node_at_C1, ↓u_node_at_I1, ↓u_node_at_L1, ↓u_node_at, ↓u_head_of, ↓u_is_met_I1, ↓u_is_met_C1c, ↓u_is_met_C1, ↓u_is_met_I2, ↓u_is_met, ↓u_leaves_below_I1, ↓u_leaves_below_L1, ↓u_leaves_below, ↓u_turns_C1c, ↓u_turns_C1, ↓u_turns_I1, ↓u_turns_I2, ↓u_turns_L1, ↓u_turns, ↓u__law_draws_I1, ↓u__law_draws_I2, ↓u__law_draws_L2, ↓u__law_draws_L1, ↓u__law_draws_L3, ↓u__law_draws, ↓u__law_next_I1, ↓u__law_next, ↓u__law_pick, ↓u__law_is_bit, ↓u__law_words_C1, ↓u__law_words, ↓u__law_label, ↓u__law_key_C1c, ↓u__law_key_C1, ↓u__law_key, ↓u__law_body_L1, ↓u__law_body_C1, ↓u__law_body_L2, ↓u__law_body, ↓u__law_listed_I1, ↓u__law_listed_L1, ↓u__law_listed, ↓u__law_head, ↓u__law_met_I1, ↓u__law_met_C1c, ↓u__law_met_C1, ↓u__law_met_I2, ↓u__law_met, ↓u__law_leaves_I1, ↓u__law_leaves_L1, ↓u__law_leaves, ↓u__law_nodes_C1, ↓u__law_nodes_I1, ↓u__law_nodes_C2, ↓u__law_nodes_L1, ↓u__law_nodes, ↓u_law_C1c, ↓u_law_C1, ↓u_law_I1, ↓u_law_C2c, ↓u_law_C2, ↓u_law_I2, ↓u_law_L3, ↓u_law_I3, ↓u_law_L2, ↓u_law_L1, ↓u_law, GEm_0, GEm_1, GEm_2, GEm_3, GEm_4, GEm_5, GEm_6, GEm_7, GEm_8, GEm_9, GEm_10, GEm_11, GEm_12, GEm_13, GEm_14, GEm_15, GEm_16, GEm_17, GEm_18, GEg_0]
    rfl
  · have h : n < ds.length := by omega
    have e7 : idxD (.lst (ds.map .int)) (.int ((n : Int) + 1 - 1)) = some (.int (ds.getD n 0)) := by
      rw [show (n : Int) + 1 - 1 = n by omega, ix_L]
      simp [List.getElem?_eq_getElem h]
    have : ¬ ds.length < n + 1 := by omega
    simp only [if_neg c, nx, this, e7, ↓r_k, ↓r_v, ↓r_g, ↓r_bin, ↓r_cmp, ↓r_chn, ↓r_isK, ↓r_and, ↓r_or, ↓r_not, ↓r_neg, ↓r_ite, ↓r_idx, ↓r_slc, ↓r_rev, ↓r_tup, ↓r_lst, ↓r_dct, ↓r_call, ↓r_bi, ↓r_mt, ↓r_mu, ↓r_comp, ↓r_nil, ↓r_cons, ↓r_asg, ↓r_unp, ↓r_par, ↓r_aug, ↓r_sto, ↓r_aus, ↓r_ex, ↓r_ifs, ↓r_fr, ↓r_wh, ↓r_ret, ↓r_retN, ↓r_brk, ↓r_cnt, ↓r_pas, ↓r_frg, ↓r_rse, ↓r_snil, ↓r_scons, lk1_d, lk1_new, lk1_slot, lkS_own, lkS_val, lks_nil, lks_cons, fz1_d, fz1_new, fz1_slot, fzS_own, fzS_val, fzs_nil, fzs_cons, opt_some, opt_none, cndS_some, optS_some, gOwnS_own, gValS_val, isDS_d, lk1S_d, lk1S_new, lk1S_slot, lkSS_own, lkSS_val, rdV_val, rdV_own, isD_d, gOwn_own, gVal_val, bind_ok, bind_stuck, bind_exc, bind_ite, toO_ok, toO_stuck, toO_exc, toO_ite, obind_nx, obind_bk, obind_ct, obind_rt, obind_exc, obind_stuck, obind_ite, of_some, of_ite, oof_some, callK_ok, callK_exc, callK_ite, isLst_lst, compK_ok, compW_nil, setV_eq, setVc_none, setVc_val, setVc_own, setO_eq, setOc_none, setOc_val, setOc_own, setVs_nil, setVs_cons, setT_one, setT_many, setR_d, setR_new, setR_slot, setR_own, setRs_nil, setRs_d, setRs_new, wipe_nil, wipe_cons, unwipe_nil, unwipe_cons, unwC_val, unwC_none, unwC_own, fl_nil, flK_nx, flK_ct, flK_bk, flK_rt, flK_exc, flK_ite, whK_nx, whK_ct, whK_bk, whK_rt, whK_exc, whK_ite, finK_nx, finK_rt, finK_exc, finK_ite, outRV_d, outRV_new, outRV_slot, outS_own, outS_val, outCells_nil, outCells_val, outCells_own, backCells_nil, backCells_0, backCells_s, argCells_nil, argCells_cons, argK_some, arg1_d, arg1_new, arg1_slot, argS_true, argS_home, argS_give, argS_val, List.getElem?_cons_zero, List.getElem?_cons_succ, List.set_cons_zero, List.set_cons_succ, Option.map_some, Option.map_none, GE_phi, GE_fuel, o_addI, o_subI, o_eqI, o_neI, o_eqB, o_neB, o_ltI, o_leI, o_gtI, o_geI, o_ltS, o_leS, o_gtS, o_geS, o_eqS, o_neS, o_isB, t_non, t_bl, t_int, t_str, t_tup, t_lst, ix_L0, ix_T0, ix_T1, ix_T2, ix_T3, ix_T4, ix_Tm, ix_Lm, bi_lenL, bi_lenC, bi_lenT, bi_lenS, bi_tupL, bi_tupT, bi_lstL, bi_lstT, bi_intI, bi_sortL, bi_sortT, s_L, s_T, s_S, s_K, p_non, kn_non, kx_non, kn_str, kx_str, kn_int, kx_int, kn_tup, kx_tup, kn_lst, kx_lst, kn_bl, kx_bl, g_addI, cmp_mem, cmp_nmem, ↓reduceIte, ↓u_node_at_C1c, ↓u_node_at_C1, ↓u_node_at_I1, ↓u_node_at_L1, ↓u_node_at, ↓u_head_of, ↓u_is_met_I1, ↓u_is_met_C1c, ↓u_is_met_C1, ↓u_is_met_I2, ↓u_is_met, ↓u_leaves_below_I1, ↓u_leaves_below_L1, ↓u_leaves_below, ↓u_turns_C1c, ↓u_turns_C1, ↓u_turns_I1, ↓u_turns_I2, ↓u_turns_L1, ↓u_turns, ↓u__law_draws_I1, ↓u__law_draws_I2, ↓u__law_draws_L2, ↓u__law_draws_L1, ↓u__law_draws_L3, ↓u__law_draws, ↓u__law_next_I1, ↓u__law_next, ↓u__law_pick, ↓u__law_is_bit, ↓u__law_words_C1, ↓u__law_words, ↓u__law_label, ↓u__law_key_C1c, ↓u__law_key_C1, ↓u__law_key, ↓u__law_body_L1, ↓u__law_body_C1, ↓u__law_body_L2, ↓u__law_body, ↓u__law_listed_I1, ↓u__law_listed_L1, ↓u__law_listed, ↓u__law_head, ↓u__law_met_I1, ↓u__law_met_C1c, ↓u__law_met_C1, ↓u__law_met_I2, ↓u__law_met, ↓u__law_leaves_I1, ↓u__law_leaves_L1, ↓u__law_leaves, ↓u__law_nodes_C1, ↓u__law_nodes_I1, ↓u__law_nodes_C2, ↓u__law_nodes_L1, ↓u__law_nodes, ↓u_law_C1c, ↓u_law_C1, ↓u_law_I1, ↓u_law_C2c, ↓u_law_C2, ↓u_law_I2, ↓u_law_L3, ↓u_law_I3, ↓u_law_L2, ↓u_law_L1, ↓u_law, GEm_0, GEm_1, GEm_2, GEm_3, GEm_4, GEm_5, GEm_6, GEm_7, GEm_8, GEm_9, GEm_10, GEm_11, GEm_12, GEm_13, GEm_14, GEm_15, GEm_16, GEm_17, GEm_18, GEg_0, o_mod (show m ≠ 0 by omega)]
    rfl
def pk {α : Type} [Inhabited α] (ds : List Int) (n : Nat) (L : List α) : α := L.getD (nx ds n L.length).toNat default
theorem pk_mem {α : Type} [Inhabited α] {ds : List Int} {n : Nat} {L : List α} (h : L ≠ []) : pk ds n L ∈ L := by
  have hp : 0 < L.length := List.length_pos_iff.mpr h
  have h1 := nx_hi (ds := ds) (n := n) (m := L.length) (by omega)
  have h2 := nx_lo (ds := ds) (n := n) (m := L.length) (by omega)
  unfold pk
  rw [List.getD_eq_getElem?_getD, List.getElem?_eq_getElem (by omega : (nx ds n L.length).toNat < L.length)]
  exact List.getElem_mem _
theorem pick_sp {α : Type} [Inhabited α] (k : Nat) (ds : List Int) (n : Nat) (e : α → D) (L : List α) (h : 0 < L.length) : run tab globD 2000 (k + 2) 7 [.own true (WD ds n), .val (.lst (L.map e))] = .ok (.d (e (pk ds n L))) [.own true (WD ds (n + 1)), .val (.lst (L.map e))] := by
  have h1 := nx_hi (ds := ds) (n := n) (m := L.length) (by omega)
  have h2 := nx_lo (ds := ds) (n := n) (m := L.length) (by omega)
  have e1 : idxD (.lst (L.map e)) (.int (nx ds n L.length)) = some (e (pk ds n L)) := by
    have : nx ds n L.length = ((nx ds n L.length).toNat : Int) := by omega
    rw [this, ix_L]
    unfold pk
    simp only [List.getElem?_map]
    rw [List.getD_eq_getElem?_getD, List.getElem?_eq_getElem (by omega : (nx ds n L.length).toNat < L.length)]
    simp
  simp only [rn__law_pick, ↓r_k, ↓r_v, ↓r_g, ↓r_bin, ↓r_cmp, ↓r_chn, ↓r_isK, ↓r_and, ↓r_or, ↓r_not, ↓r_neg, ↓r_ite, ↓r_idx, ↓r_slc, ↓r_rev, ↓r_tup, ↓r_lst, ↓r_dct, ↓r_call, ↓r_bi, ↓r_mt, ↓r_mu, ↓r_comp, ↓r_nil, ↓r_cons, ↓r_asg, ↓r_unp, ↓r_par, ↓r_aug, ↓r_sto, ↓r_aus, ↓r_ex, ↓r_ifs, ↓r_fr, ↓r_wh, ↓r_ret, ↓r_retN, ↓r_brk, ↓r_cnt, ↓r_pas, ↓r_frg, ↓r_rse, ↓r_snil, ↓r_scons, lk1_d, lk1_new, lk1_slot, lkS_own, lkS_val, lks_nil, lks_cons, fz1_d, fz1_new, fz1_slot, fzS_own, fzS_val, fzs_nil, fzs_cons, opt_some, opt_none, cndS_some, optS_some, gOwnS_own, gValS_val, isDS_d, lk1S_d, lk1S_new, lk1S_slot, lkSS_own, lkSS_val, rdV_val, rdV_own, isD_d, gOwn_own, gVal_val, bind_ok, bind_stuck, bind_exc, bind_ite, toO_ok, toO_stuck, toO_exc, toO_ite, obind_nx, obind_bk, obind_ct, obind_rt, obind_exc, obind_stuck, obind_ite, of_some, of_ite, oof_some, callK_ok, callK_exc, callK_ite, isLst_lst, compK_ok, compW_nil, setV_eq, setVc_none, setVc_val, setVc_own, setO_eq, setOc_none, setOc_val, setOc_own, setVs_nil, setVs_cons, setT_one, setT_many, setR_d, setR_new, setR_slot, setR_own, setRs_nil, setRs_d, setRs_new, wipe_nil, wipe_cons, unwipe_nil, unwipe_cons, unwC_val, unwC_none, unwC_own, fl_nil, flK_nx, flK_ct, flK_bk, flK_rt, flK_exc, flK_ite, whK_nx, whK_ct, whK_bk, whK_rt, whK_exc, whK_ite, finK_nx, finK_rt, finK_exc, finK_ite, outRV_d, outRV_new, outRV_slot, outS_own, outS_val, outCells_nil, outCells_val, outCells_own, backCells_nil, backCells_0, backCells_s, argCells_nil, argCells_cons, argK_some, arg1_d, arg1_new, arg1_slot, argS_true, argS_home, argS_give, argS_val, List.getElem?_cons_zero, List.getElem?_cons_succ, List.set_cons_zero, List.set_cons_succ, Option.map_some, Option.map_none, GE_phi, GE_fuel, o_addI, o_subI, o_eqI, o_neI, o_eqB, o_neB, o_ltI, o_leI, o_gtI, o_geI, o_ltS, o_leS, o_gtS, o_geS, o_eqS, o_neS, o_isB, t_non, t_bl, t_int, t_str, t_tup, t_lst, ix_L0, ix_T0, ix_T1, ix_T2, ix_T3, ix_T4, ix_Tm, ix_Lm, bi_lenL, bi_lenC, bi_lenT, bi_lenS, bi_tupL, bi_tupT, bi_lstL, bi_lstT, bi_intI, bi_sortL, bi_sortT, s_L, s_T, s_S, s_K, p_non, kn_non, kx_non, kn_str, kx_str, kn_int, kx_int, kn_tup, kx_tup, kn_lst, kx_lst, kn_bl, kx_bl, g_addI, cmp_mem, cmp_nmem, ↓reduceIte, ↓u_node_at_C1c, ↓u_node_at_C1, ↓u_node_at_I1, ↓u_node_at_L1, ↓u_node_at, ↓u_head_of, ↓u_is_met_I1, ↓u_is_met_C1c, ↓u_is_met_C1, ↓u_is_met_I2, ↓u_is_met, ↓u_leaves_below_I1, ↓u_leaves_below_L1, ↓u_leaves_below, ↓u_turns_C1c, ↓u_turns_C1, ↓u_turns_I1, ↓u_turns_I2, ↓u_turns_L1, ↓u_turns, ↓u__law_draws_I1, ↓u__law_draws_I2, ↓u__law_draws_L2, ↓u__law_draws_L1, ↓u__law_draws_L3, ↓u__law_draws, ↓u__law_next_I1, ↓u__law_next, ↓u__law_pick, ↓u__law_is_bit, ↓u__law_words_C1, ↓u__law_words, ↓u__law_label, ↓u__law_key_C1c, ↓u__law_key_C1, ↓u__law_key, ↓u__law_body_L1, ↓u__law_body_C1, ↓u__law_body_L2, ↓u__law_body, ↓u__law_listed_I1, ↓u__law_listed_L1, ↓u__law_listed, ↓u__law_head, ↓u__law_met_I1, ↓u__law_met_C1c, ↓u__law_met_C1, ↓u__law_met_I2, ↓u__law_met, ↓u__law_leaves_I1, ↓u__law_leaves_L1, ↓u__law_leaves, ↓u__law_nodes_C1, ↓u__law_nodes_I1, ↓u__law_nodes_C2, ↓u__law_nodes_L1, ↓u__law_nodes, ↓u_law_C1c, ↓u_law_C1, ↓u_law_I1, ↓u_law_C2c, ↓u_law_C2, ↓u_law_I2, ↓u_law_L3, ↓u_law_I3, ↓u_law_L2, ↓u_law_L1, ↓u_law, GEm_0, GEm_1, GEm_2, GEm_3, GEm_4, GEm_5, GEm_6, GEm_7, GEm_8, GEm_9, GEm_10, GEm_11, GEm_12, GEm_13, GEm_14, GEm_15, GEm_16, GEm_17, GEm_18, GEg_0, List.length_map, next_sp k ds n L.length (by omega), e1, List.contains_nil, Bool.false_eq_true]
theorem pick_ex {α : Type} [Inhabited α] (k : Nat) (ds : List Int) (n : Nat) (e : α → D) (L : List α) (h : L ≠ []) : ∃ x, x ∈ L ∧ run tab globD 2000 (k + 2) 7 [.own true (WD ds n), .val (.lst (L.map e))] = .ok (.d (e x)) [.own true (WD ds (n + 1)), .val (.lst (L.map e))] :=
  ⟨_, pk_mem h, pick_sp k ds n e L (List.length_pos_iff.mpr h)⟩

def labA : List St := [[49], [50], [51]]
def keyD (l : St) : D := .tup [.int (((digits 0 (l.takeWhile fun c => decide (48 ≤ c ∧ c ≤ 57))).getD 0 : Nat) : Int), .str (l.dropWhile fun c => decide (48 ≤ c ∧ c ≤ 57))]

/-! words, labels, keys, bodies -/
def wds : List St := [[116, 104, 101], [97, 49], [101, 45, 109, 97, 105, 108], [120, 46, 121], [64, 104, 111, 109, 101], [100, 111, 110, 39, 116], [55]]
theorem srcR {j : Int} (h : 0 ≤ j) (h2 : j ≤ 8388608) : srcD .range [.int j] = some ((List.range j.toNat).map fun i : Nat => D.int (i : Int)) := by
  have := s_rng (n := j.toNat) (by omega)
  rwa [show ((j.toNat : Nat) : Int) = j by omega] at this
theorem words_C1 (k : Nat) (ds : List Int) (M : D) : ∀ (is : List Nat) (n : Nat) (acc : List D), ∃ (ws : List St) (n' : Nat), ws.length = is.length ∧ (∀ w ∈ ws, w ∈ wds) ∧
    compW (turnW (GE (k + 2)) [2] (.one 2) (.k (.bl true)) ir__law_words_C1) (is.map fun i : Nat => D.int (i : Int)) [some (.own true (WD ds n)), some (.val M), none] acc = .ok (acc ++ ws.map .str) [some (.own true (WD ds n')), some (.val M), none]
  | [], n, acc => ⟨[], n, rfl, by simp, by simp [compW]⟩
  | i :: is, n, acc => by
    obtain ⟨x, hx, p⟩ := pick_ex k ds n D.str wds (by decide)
    obtain ⟨ws, n', h1, h2, h3⟩ := words_C1 k ds M is (n + 1) (acc ++ [.str x])
    refine ⟨x :: ws, n', by simp [h1], fun w hw => (List.mem_cons.mp hw).elim (fun e => e ▸ hx) (h2 w), ?_⟩
    simp only [wds, List.map_cons, List.map_nil] at p
    simp only [List.map_cons, compW_cons, turnW, ↓r_k, ↓r_v, ↓r_g, ↓r_bin, ↓r_cmp, ↓r_chn, ↓r_isK, ↓r_and, ↓r_or, ↓r_not, ↓r_neg, ↓r_ite, ↓r_idx, ↓r_slc, ↓r_rev, ↓r_tup, ↓r_lst, ↓r_dct, ↓r_call, ↓r_bi, ↓r_mt, ↓r_mu, ↓r_comp, ↓r_nil, ↓r_cons, ↓r_asg, ↓r_unp, ↓r_par, ↓r_aug, ↓r_sto, ↓r_aus, ↓r_ex, ↓r_ifs, ↓r_fr, ↓r_wh, ↓r_ret, ↓r_retN, ↓r_brk, ↓r_cnt, ↓r_pas, ↓r_frg, ↓r_rse, ↓r_snil, ↓r_scons, lk1_d, lk1_new, lk1_slot, lkS_own, lkS_val, lks_nil, lks_cons, fz1_d, fz1_new, fz1_slot, fzS_own, fzS_val, fzs_nil, fzs_cons, opt_some, opt_none, cndS_some, optS_some, gOwnS_own, gValS_val, isDS_d, lk1S_d, lk1S_new, lk1S_slot, lkSS_own, lkSS_val, rdV_val, rdV_own, isD_d, gOwn_own, gVal_val, bind_ok, bind_stuck, bind_exc, bind_ite, toO_ok, toO_stuck, toO_exc, toO_ite, obind_nx, obind_bk, obind_ct, obind_rt, obind_exc, obind_stuck, obind_ite, of_some, of_ite, oof_some, callK_ok, callK_exc, callK_ite, isLst_lst, compK_ok, compW_nil, setV_eq, setVc_none, setVc_val, setVc_own, setO_eq, setOc_none, setOc_val, setOc_own, setVs_nil, setVs_cons, setT_one, setT_many, setR_d, setR_new, setR_slot, setR_own, setRs_nil, setRs_d, setRs_new, wipe_nil, wipe_cons, unwipe_nil, unwipe_cons, unwC_val, unwC_none, unwC_own, fl_nil, flK_nx, flK_ct, flK_bk, flK_rt, flK_exc, flK_ite, whK_nx, whK_ct, whK_bk, whK_rt, whK_exc, whK_ite, finK_nx, finK_rt, finK_exc, finK_ite, outRV_d, outRV_new, outRV_slot, outS_own, outS_val, outCells_nil, outCells_val, outCells_own, backCells_nil, backCells_0, backCells_s, argCells_nil, argCells_cons, argK_some, arg1_d, arg1_new, arg1_slot, argS_true, argS_home, argS_give, argS_val, List.getElem?_cons_zero, List.getElem?_cons_succ, List.set_cons_zero, List.set_cons_succ, Option.map_some, Option.map_none, GE_phi, GE_fuel, o_addI, o_subI, o_eqI, o_neI, o_eqB, o_neB, o_ltI, o_leI, o_gtI, o_geI, o_ltS, o_leS, o_gtS, o_geS, o_eqS, o_neS, o_isB, t_non, t_bl, t_int, t_str, t_tup, t_lst, ix_L0, ix_T0, ix_T1, ix_T2, ix_T3, ix_T4, ix_Tm, ix_Lm, bi_lenL, bi_lenC, bi_lenT, bi_lenS, bi_tupL, bi_tupT, bi_lstL, bi_lstT, bi_intI, bi_sortL, bi_sortT, s_L, s_T, s_S, s_K, p_non, kn_non, kx_non, kn_str, kx_str, kn_int, kx_int, kn_tup, kx_tup, kn_lst, kx_lst, kn_bl, kx_bl, g_addI, cmp_mem, cmp_nmem, ↓reduceIte, ↓u_node_at_C1c, ↓u_node_at_C1, ↓u_node_at_I1, ↓u_node_at_L1, ↓u_node_at, ↓u_head_of, ↓u_is_met_I1, ↓u_is_met_C1c, ↓u_is_met_C1, ↓u_is_met_I2, ↓u_is_met, ↓u_leaves_below_I1, ↓u_leaves_below_L1, ↓u_leaves_below, ↓u_turns_C1c, ↓u_turns_C1, ↓u_turns_I1, ↓u_turns_I2, ↓u_turns_L1, ↓u_turns, ↓u__law_draws_I1, ↓u__law_draws_I2, ↓u__law_draws_L2, ↓u__law_draws_L1, ↓u__law_draws_L3, ↓u__law_draws, ↓u__law_next_I1, ↓u__law_next, ↓u__law_pick, ↓u__law_is_bit, ↓u__law_words_C1, ↓u__law_words, ↓u__law_label, ↓u__law_key_C1c, ↓u__law_key_C1, ↓u__law_key, ↓u__law_body_L1, ↓u__law_body_C1, ↓u__law_body_L2, ↓u__law_body, ↓u__law_listed_I1, ↓u__law_listed_L1, ↓u__law_listed, ↓u__law_head, ↓u__law_met_I1, ↓u__law_met_C1c, ↓u__law_met_C1, ↓u__law_met_I2, ↓u__law_met, ↓u__law_leaves_I1, ↓u__law_leaves_L1, ↓u__law_leaves, ↓u__law_nodes_C1, ↓u__law_nodes_I1, ↓u__law_nodes_C2, ↓u__law_nodes_L1, ↓u__law_nodes, ↓u_law_C1c, ↓u_law_C1, ↓u_law_I1, ↓u_law_C2c, ↓u_law_C2, ↓u_law_I2, ↓u_law_L3, ↓u_law_I3, ↓u_law_L2, ↓u_law_L1, ↓u_law, GEm_0, GEm_1, GEm_2, GEm_3, GEm_4, GEm_5, GEm_6, GEm_7, GEm_8, GEm_9, GEm_10, GEm_11, GEm_12, GEm_13, GEm_14, GEm_15, GEm_16, GEm_17, GEm_18, GEg_0, List.contains_nil, Bool.false_eq_true, p, h3, List.append_assoc, List.cons_append, List.nil_append]
theorem words_sp (k : Nat) (ds : List Int) (n : Nat) (M : Int) (hM : 0 ≤ M ∧ M ≤ 20) : ∃ (ws : List St) (n' : Nat), (ws.length : Int) ≤ M ∧ (∀ w ∈ ws, w ∈ wds) ∧ run tab globD 2000 (k + 3) 9 [.own true (WD ds n), .val (.int M)] = .ok (.d (encW ws)) [.own true (WD ds n'), .val (.int M)] := by
  have a1 := nx_lo (ds := ds) (n := n) (m := M + 1) (by omega)
  have a2 := nx_hi (ds := ds) (n := n) (m := M + 1) (by omega)
  obtain ⟨ws, n', h1, h2, h3⟩ := words_C1 k ds (.int M) (List.range (nx ds n (M + 1)).toNat) (n + 1) []
  refine ⟨ws, n', by simp only [List.length_range] at h1; omega, h2, ?_⟩
  simp only [rn__law_words, ↓r_k, ↓r_v, ↓r_g, ↓r_bin, ↓r_cmp, ↓r_chn, ↓r_isK, ↓r_and, ↓r_or, ↓r_not, ↓r_neg, ↓r_ite, ↓r_idx, ↓r_slc, ↓r_rev, ↓r_tup, ↓r_lst, ↓r_dct, ↓r_call, ↓r_bi, ↓r_mt, ↓r_mu, ↓r_comp, ↓r_nil, ↓r_cons, ↓r_asg, ↓r_unp, ↓r_par, ↓r_aug, ↓r_sto, ↓r_aus, ↓r_ex, ↓r_ifs, ↓r_fr, ↓r_wh, ↓r_ret, ↓r_retN, ↓r_brk, ↓r_cnt, ↓r_pas, ↓r_frg, ↓r_rse, ↓r_snil, ↓r_scons, lk1_d, lk1_new, lk1_slot, lkS_own, lkS_val, lks_nil, lks_cons, fz1_d, fz1_new, fz1_slot, fzS_own, fzS_val, fzs_nil, fzs_cons, opt_some, opt_none, cndS_some, optS_some, gOwnS_own, gValS_val, isDS_d, lk1S_d, lk1S_new, lk1S_slot, lkSS_own, lkSS_val, rdV_val, rdV_own, isD_d, gOwn_own, gVal_val, bind_ok, bind_stuck, bind_exc, bind_ite, toO_ok, toO_stuck, toO_exc, toO_ite, obind_nx, obind_bk, obind_ct, obind_rt, obind_exc, obind_stuck, obind_ite, of_some, of_ite, oof_some, callK_ok, callK_exc, callK_ite, isLst_lst, compK_ok, compW_nil, setV_eq, setVc_none, setVc_val, setVc_own, setO_eq, setOc_none, setOc_val, setOc_own, setVs_nil, setVs_cons, setT_one, setT_many, setR_d, setR_new, setR_slot, setR_own, setRs_nil, setRs_d, setRs_new, wipe_nil, wipe_cons, unwipe_nil, unwipe_cons, unwC_val, unwC_none, unwC_own, fl_nil, flK_nx, flK_ct, flK_bk, flK_rt, flK_exc, flK_ite, whK_nx, whK_ct, whK_bk, whK_rt, whK_exc, whK_ite, finK_nx, finK_rt, finK_exc, finK_ite, outRV_d, outRV_new, outRV_slot, outS_own, outS_val, outCells_nil, outCells_val, outCells_own, backCells_nil, backCells_0, backCells_s, argCells_nil, argCells_cons, argK_some, arg1_d, arg1_new, arg1_slot, argS_true, argS_home, argS_give, argS_val, List.getElem?_cons_zero, List.getElem?_cons_succ, List.set_cons_zero, List.set_cons_succ, Option.map_some, Option.map_none, GE_phi, GE_fuel, o_addI, o_subI, o_eqI, o_neI, o_eqB, o_neB, o_ltI, o_leI, o_gtI, o_geI, o_ltS, o_leS, o_gtS, o_geS, o_eqS, o_neS, o_isB, t_non, t_bl, t_int, t_str, t_tup, t_lst, ix_L0, ix_T0, ix_T1, ix_T2, ix_T3, ix_T4, ix_Tm, ix_Lm, bi_lenL, bi_lenC, bi_lenT, bi_lenS, bi_tupL, bi_tupT, bi_lstL, bi_lstT, bi_intI, bi_sortL, bi_sortT, s_L, s_T, s_S, s_K, p_non, kn_non, kx_non, kn_str, kx_str, kn_int, kx_int, kn_tup, kx_tup, kn_lst, kx_lst, kn_bl, kx_bl, g_addI, cmp_mem, cmp_nmem, ↓reduceIte, ↓u_node_at_C1c, ↓u_node_at_C1, ↓u_node_at_I1, ↓u_node_at_L1, ↓u_node_at, ↓u_head_of, ↓u_is_met_I1, ↓u_is_met_C1c, ↓u_is_met_C1, ↓u_is_met_I2, ↓u_is_met, ↓u_leaves_below_I1, ↓u_leaves_below_L1, ↓u_leaves_below, ↓u_turns_C1c, ↓u_turns_C1, ↓u_turns_I1, ↓u_turns_I2, ↓u_turns_L1, ↓u_turns, ↓u__law_draws_I1, ↓u__law_draws_I2, ↓u__law_draws_L2, ↓u__law_draws_L1, ↓u__law_draws_L3, ↓u__law_draws, ↓u__law_next_I1, ↓u__law_next, ↓u__law_pick, ↓u__law_is_bit, ↓u__law_words_C1, ↓u__law_words, ↓u__law_label, ↓u__law_key_C1c, ↓u__law_key_C1, ↓u__law_key, ↓u__law_body_L1, ↓u__law_body_C1, ↓u__law_body_L2, ↓u__law_body, ↓u__law_listed_I1, ↓u__law_listed_L1, ↓u__law_listed, ↓u__law_head, ↓u__law_met_I1, ↓u__law_met_C1c, ↓u__law_met_C1, ↓u__law_met_I2, ↓u__law_met, ↓u__law_leaves_I1, ↓u__law_leaves_L1, ↓u__law_leaves, ↓u__law_nodes_C1, ↓u__law_nodes_I1, ↓u__law_nodes_C2, ↓u__law_nodes_L1, ↓u__law_nodes, ↓u_law_C1c, ↓u_law_C1, ↓u_law_I1, ↓u_law_C2c, ↓u_law_C2, ↓u_law_I2, ↓u_law_L3, ↓u_law_I3, ↓u_law_L2, ↓u_law_L1, ↓u_law, GEm_0, GEm_1, GEm_2, GEm_3, GEm_4, GEm_5, GEm_6, GEm_7, GEm_8, GEm_9, GEm_10, GEm_11, GEm_12, GEm_13, GEm_14, GEm_15, GEm_16, GEm_17, GEm_18, GEg_0, List.contains_nil, Bool.false_eq_true, next_sp (k + 1) ds n (M + 1) (by omega), srcR a1 (by omega), h3, List.nil_append, encW]
def labB : List St := [[], [], [97], [98], [97, 97]]
def labs : List St := labA.flatMap fun a => labB.map fun b => a ++ b
theorem label_sp (k : Nat) (ds : List Int) (n : Nat) : ∃ l, l ∈ labs ∧ run tab globD 2000 (k + 3) 10 [.own true (WD ds n)] = .ok (.d (.str l)) [.own true (WD ds (n + 2))] := by
  obtain ⟨x, hx, p⟩ := pick_ex k ds n D.str labA (by decide)
  obtain ⟨y, hy, q⟩ := pick_ex k ds (n + 1) D.str labB (by decide)
  refine ⟨x ++ y, ?_, ?_⟩
  · simp only [labs, List.mem_flatMap, List.mem_map]
    exact ⟨_, hx, _, hy, rfl⟩
  · have hl : x.length + y.length ≤ line := by
      have h1 : ∀ a ∈ labA, a.length ≤ 10 := by decide
      have h2 : ∀ a ∈ labB, a.length ≤ 10 := by decide
      have := h1 _ hx
      have := h2 _ hy
      simp only [line]; omega
    simp only [labA, labB, List.map_cons, List.map_nil] at p q
    simp only [rn__law_label, ↓r_k, ↓r_v, ↓r_g, ↓r_bin, ↓r_cmp, ↓r_chn, ↓r_isK, ↓r_and, ↓r_or, ↓r_not, ↓r_neg, ↓r_ite, ↓r_idx, ↓r_slc, ↓r_rev, ↓r_tup, ↓r_lst, ↓r_dct, ↓r_call, ↓r_bi, ↓r_mt, ↓r_mu, ↓r_comp, ↓r_nil, ↓r_cons, ↓r_asg, ↓r_unp, ↓r_par, ↓r_aug, ↓r_sto, ↓r_aus, ↓r_ex, ↓r_ifs, ↓r_fr, ↓r_wh, ↓r_ret, ↓r_retN, ↓r_brk, ↓r_cnt, ↓r_pas, ↓r_frg, ↓r_rse, ↓r_snil, ↓r_scons, lk1_d, lk1_new, lk1_slot, lkS_own, lkS_val, lks_nil, lks_cons, fz1_d, fz1_new, fz1_slot, fzS_own, fzS_val, fzs_nil, fzs_cons, opt_some, opt_none, cndS_some, optS_some, gOwnS_own, gValS_val, isDS_d, lk1S_d, lk1S_new, lk1S_slot, lkSS_own, lkSS_val, rdV_val, rdV_own, isD_d, gOwn_own, gVal_val, bind_ok, bind_stuck, bind_exc, bind_ite, toO_ok, toO_stuck, toO_exc, toO_ite, obind_nx, obind_bk, obind_ct, obind_rt, obind_exc, obind_stuck, obind_ite, of_some, of_ite, oof_some, callK_ok, callK_exc, callK_ite, isLst_lst, compK_ok, compW_nil, setV_eq, setVc_none, setVc_val, setVc_own, setO_eq, setOc_none, setOc_val, setOc_own, setVs_nil, setVs_cons, setT_one, setT_many, setR_d, setR_new, setR_slot, setR_own, setRs_nil, setRs_d, setRs_new, wipe_nil, wipe_cons, unwipe_nil, unwipe_cons, unwC_val, unwC_none, unwC_own, fl_nil, flK_nx, flK_ct, flK_bk, flK_rt, flK_exc, flK_ite, whK_nx, whK_ct, whK_bk, whK_rt, whK_exc, whK_ite, finK_nx, finK_rt, finK_exc, finK_ite, outRV_d, outRV_new, outRV_slot, outS_own, outS_val, outCells_nil, outCells_val, outCells_own, backCells_nil, backCells_0, backCells_s, argCells_nil, argCells_cons, argK_some, arg1_d, arg1_new, arg1_slot, argS_true, argS_home, argS_give, argS_val, List.getElem?_cons_zero, List.getElem?_cons_succ, List.set_cons_zero, List.set_cons_succ, Option.map_some, Option.map_none, GE_phi, GE_fuel, o_addI, o_subI, o_eqI, o_neI, o_eqB, o_neB, o_ltI, o_leI, o_gtI, o_geI, o_ltS, o_leS, o_gtS, o_geS, o_eqS, o_neS, o_isB, t_non, t_bl, t_int, t_str, t_tup, t_lst, ix_L0, ix_T0, ix_T1, ix_T2, ix_T3, ix_T4, ix_Tm, ix_Lm, bi_lenL, bi_lenC, bi_lenT, bi_lenS, bi_tupL, bi_tupT, bi_lstL, bi_lstT, bi_intI, bi_sortL, bi_sortT, s_L, s_T, s_S, s_K, p_non, kn_non, kx_non, kn_str, kx_str, kn_int, kx_int, kn_tup, kx_tup, kn_lst, kx_lst, kn_bl, kx_bl, g_addI, cmp_mem, cmp_nmem, ↓reduceIte, ↓u_node_at_C1c, ↓u_node_at_C1, ↓u_node_at_I1, ↓u_node_at_L1, ↓u_node_at, ↓u_head_of, ↓u_is_met_I1, ↓u_is_met_C1c, ↓u_is_met_C1, ↓u_is_met_I2, ↓u_is_met, ↓u_leaves_below_I1, ↓u_leaves_below_L1, ↓u_leaves_below, ↓u_turns_C1c, ↓u_turns_C1, ↓u_turns_I1, ↓u_turns_I2, ↓u_turns_L1, ↓u_turns, ↓u__law_draws_I1, ↓u__law_draws_I2, ↓u__law_draws_L2, ↓u__law_draws_L1, ↓u__law_draws_L3, ↓u__law_draws, ↓u__law_next_I1, ↓u__law_next, ↓u__law_pick, ↓u__law_is_bit, ↓u__law_words_C1, ↓u__law_words, ↓u__law_label, ↓u__law_key_C1c, ↓u__law_key_C1, ↓u__law_key, ↓u__law_body_L1, ↓u__law_body_C1, ↓u__law_body_L2, ↓u__law_body, ↓u__law_listed_I1, ↓u__law_listed_L1, ↓u__law_listed, ↓u__law_head, ↓u__law_met_I1, ↓u__law_met_C1c, ↓u__law_met_C1, ↓u__law_met_I2, ↓u__law_met, ↓u__law_leaves_I1, ↓u__law_leaves_L1, ↓u__law_leaves, ↓u__law_nodes_C1, ↓u__law_nodes_I1, ↓u__law_nodes_C2, ↓u__law_nodes_L1, ↓u__law_nodes, ↓u_law_C1c, ↓u_law_C1, ↓u_law_I1, ↓u_law_C2c, ↓u_law_C2, ↓u_law_I2, ↓u_law_L3, ↓u_law_I3, ↓u_law_L2, ↓u_law_L1, ↓u_law, GEm_0, GEm_1, GEm_2, GEm_3, GEm_4, GEm_5, GEm_6, GEm_7, GEm_8, GEm_9, GEm_10, GEm_11, GEm_12, GEm_13, GEm_14, GEm_15, GEm_16, GEm_17, GEm_18, GEg_0, List.contains_nil, Bool.false_eq_true, p, q, o_addS hl]
def itemD (l : St) : D := .tup [keyD l, .str l]
theorem key_sp (k : Nat) (l : St) (h : l ∈ labs) : run tab globD 2000 (k + 1) 11 [.val (.str l)] = .ok (.d (keyD l)) [.val (.str l)] := by
  simp only [labs, labA, labB, List.flatMap_cons, List.flatMap_nil, List.map_cons, List.map_nil, List.cons_append, List.nil_append, List.append_nil, List.mem_cons, List.not_mem_nil, or_false] at h
  rcases h with h | h | h | h | h | h | h | h | h | h | h | h | h | h | h <;> subst h <;> rfl
def insL (Ls : List St) (l : St) : List St := if l ∈ Ls then Ls else Ls ++ [l]
theorem dput_lab (l : St) : ∀ Ls : List St, dput (Ls.map .str) (Ls.map fun _ => .bl true) (.str l) (.bl true) = ((insL Ls l).map .str, (insL Ls l).map fun _ => .bl true)
  | [] => rfl
  | x :: Ls => by
    simp only [List.map_cons, dput, dput_lab l Ls]
    by_cases h : x = l
    · simp [eqD, h, insL]
    · have h' : ¬ l = x := fun z => h z.symm
      have : eqD (.str x) (.str l) = false := by simp [eqD, h]
      simp only [this, insL]
      by_cases m : l ∈ Ls <;> simp [m, h']
theorem insL_len (Ls : List St) (l : St) : (insL Ls l).length ≤ Ls.length + 1 := by unfold insL; split <;> simp
theorem insL_nd {Ls : List St} (h : Ls.Nodup) (l : St) : (insL Ls l).Nodup := by
  unfold insL; split
  · exact h
  · rename_i n
    rw [List.nodup_append]
    refine ⟨h, by simp, fun a ha b hb e => ?_⟩
    simp at hb; subst hb; subst e; exact n ha
theorem insL_mem {Ls : List St} {l x : St} (h : x ∈ insL Ls l) : x ∈ Ls ∨ x = l := by
  unfold insL at h; split at h
  · exact .inl h
  · simpa using h
theorem body_L1 (k : Nat) (ds : List Int) (M F : D) : ∀ (is : List Nat) (n : Nat) (Ls : List St), Ls.Nodup → (∀ l ∈ Ls, l ∈ labs) → Ls.length + is.length ≤ 100 → ∃ (n' : Nat) (Ls' : List St), Ls'.Nodup ∧ (∀ l ∈ Ls', l ∈ labs) ∧ Ls'.length ≤ Ls.length + is.length ∧
    forLoop (.one 2) (exSs (GE (k + 3)) ir__law_body_L1) (is.map fun i : Nat => D.int (i : Int)) [some (.own true (WD ds n)), some (.val M), none, some (.own false (.dct false (Ls.map .str) (Ls.map fun _ => .bl true))), some (.own false F), none, none] =
      .nx [some (.own true (WD ds n')), some (.val M), none, some (.own false (.dct false (Ls'.map .str) (Ls'.map fun _ => .bl true))), some (.own false F), none, none]
  | [], n, Ls, h1, h2, _ => ⟨n, Ls, h1, h2, Nat.le_refl _, rfl⟩
  | i :: is, n, Ls, h1, h2, h3 => by
    simp only [List.length_cons] at h3
    obtain ⟨l, hl, hr⟩ := label_sp k ds n
    have hi := insL_len Ls l
    obtain ⟨n', Ls', g1, g2, g3, g4⟩ := body_L1 k ds M F is (n + 2) (insL Ls l) (insL_nd h1 l) (fun x hx => (insL_mem hx).elim (h2 x) fun e => e ▸ hl) (by omega)
    refine ⟨n', Ls', g1, g2, by simp only [List.length_cons]; omega, ?_⟩
    have st : stoD (.dct false (Ls.map .str) (Ls.map fun _ => .bl true)) (.str l) (.bl true) = some (.dct false ((insL Ls l).map .str) ((insL Ls l).map fun _ => .bl true)) := by
      simp only [stoD, dput_lab]
      rw [if_pos ⟨rfl, by simp [line]; omega⟩]
    simp only [List.map_cons, fl_cons, ↓r_k, ↓r_v, ↓r_g, ↓r_bin, ↓r_cmp, ↓r_chn, ↓r_isK, ↓r_and, ↓r_or, ↓r_not, ↓r_neg, ↓r_ite, ↓r_idx, ↓r_slc, ↓r_rev, ↓r_tup, ↓r_lst, ↓r_dct, ↓r_call, ↓r_bi, ↓r_mt, ↓r_mu, ↓r_comp, ↓r_nil, ↓r_cons, ↓r_asg, ↓r_unp, ↓r_par, ↓r_aug, ↓r_sto, ↓r_aus, ↓r_ex, ↓r_ifs, ↓r_fr, ↓r_wh, ↓r_ret, ↓r_retN, ↓r_brk, ↓r_cnt, ↓r_pas, ↓r_frg, ↓r_rse, ↓r_snil, ↓r_scons, lk1_d, lk1_new, lk1_slot, lkS_own, lkS_val, lks_nil, lks_cons, fz1_d, fz1_new, fz1_slot, fzS_own, fzS_val, fzs_nil, fzs_cons, opt_some, opt_none, cndS_some, optS_some, gOwnS_own, gValS_val, isDS_d, lk1S_d, lk1S_new, lk1S_slot, lkSS_own, lkSS_val, rdV_val, rdV_own, isD_d, gOwn_own, gVal_val, bind_ok, bind_stuck, bind_exc, bind_ite, toO_ok, toO_stuck, toO_exc, toO_ite, obind_nx, obind_bk, obind_ct, obind_rt, obind_exc, obind_stuck, obind_ite, of_some, of_ite, oof_some, callK_ok, callK_exc, callK_ite, isLst_lst, compK_ok, compW_nil, setV_eq, setVc_none, setVc_val, setVc_own, setO_eq, setOc_none, setOc_val, setOc_own, setVs_nil, setVs_cons, setT_one, setT_many, setR_d, setR_new, setR_slot, setR_own, setRs_nil, setRs_d, setRs_new, wipe_nil, wipe_cons, unwipe_nil, unwipe_cons, unwC_val, unwC_none, unwC_own, fl_nil, flK_nx, flK_ct, flK_bk, flK_rt, flK_exc, flK_ite, whK_nx, whK_ct, whK_bk, whK_rt, whK_exc, whK_ite, finK_nx, finK_rt, finK_exc, finK_ite, outRV_d, outRV_new, outRV_slot, outS_own, outS_val, outCells_nil, outCells_val, outCells_own, backCells_nil, backCells_0, backCells_s, argCells_nil, argCells_cons, argK_some, arg1_d, arg1_new, arg1_slot, argS_true, argS_home, argS_give, argS_val, List.getElem?_cons_zero, List.getElem?_cons_succ, List.set_cons_zero, List.set_cons_succ, Option.map_some, Option.map_none, GE_phi, GE_fuel, o_addI, o_subI, o_eqI, o_neI, o_eqB, o_neB, o_ltI, o_leI, o_gtI, o_geI, o_ltS, o_leS, o_gtS, o_geS, o_eqS, o_neS, o_isB, t_non, t_bl, t_int, t_str, t_tup, t_lst, ix_L0, ix_T0, ix_T1, ix_T2, ix_T3, ix_T4, ix_Tm, ix_Lm, bi_lenL, bi_lenC, bi_lenT, bi_lenS, bi_tupL, bi_tupT, bi_lstL, bi_lstT, bi_intI, bi_sortL, bi_sortT, s_L, s_T, s_S, s_K, p_non, kn_non, kx_non, kn_str, kx_str, kn_int, kx_int, kn_tup, kx_tup, kn_lst, kx_lst, kn_bl, kx_bl, g_addI, cmp_mem, cmp_nmem, ↓reduceIte, ↓u_node_at_C1c, ↓u_node_at_C1, ↓u_node_at_I1, ↓u_node_at_L1, ↓u_node_at, ↓u_head_of, ↓u_is_met_I1, ↓u_is_met_C1c, ↓u_is_met_C1, ↓u_is_met_I2, ↓u_is_met, ↓u_leaves_below_I1, ↓u_leaves_below_L1, ↓u_leaves_below, ↓u_turns_C1c, ↓u_turns_C1, ↓u_turns_I1, ↓u_turns_I2, ↓u_turns_L1, ↓u_turns, ↓u__law_draws_I1, ↓u__law_draws_I2, ↓u__law_draws_L2, ↓u__law_draws_L1, ↓u__law_draws_L3, ↓u__law_draws, ↓u__law_next_I1, ↓u__law_next, ↓u__law_pick, ↓u__law_is_bit, ↓u__law_words_C1, ↓u__law_words, ↓u__law_label, ↓u__law_key_C1c, ↓u__law_key_C1, ↓u__law_key, ↓u__law_body_L1, ↓u__law_body_C1, ↓u__law_body_L2, ↓u__law_body, ↓u__law_listed_I1, ↓u__law_listed_L1, ↓u__law_listed, ↓u__law_head, ↓u__law_met_I1, ↓u__law_met_C1c, ↓u__law_met_C1, ↓u__law_met_I2, ↓u__law_met, ↓u__law_leaves_I1, ↓u__law_leaves_L1, ↓u__law_leaves, ↓u__law_nodes_C1, ↓u__law_nodes_I1, ↓u__law_nodes_C2, ↓u__law_nodes_L1, ↓u__law_nodes, ↓u_law_C1c, ↓u_law_C1, ↓u_law_I1, ↓u_law_C2c, ↓u_law_C2, ↓u_law_I2, ↓u_law_L3, ↓u_law_I3, ↓u_law_L2, ↓u_law_L1, ↓u_law, GEm_0, GEm_1, GEm_2, GEm_3, GEm_4, GEm_5, GEm_6, GEm_7, GEm_8, GEm_9, GEm_10, GEm_11, GEm_12, GEm_13, GEm_14, GEm_15, GEm_16, GEm_17, GEm_18, GEg_0, List.contains_nil, Bool.false_eq_true, hr, st]
    exact g4
theorem body_C1 (k : Nat) (w M F : D) (Ls : List St) (h : ∀ l ∈ Ls, l ∈ labs) (dd : Cell) : compW (turnW (GE (k + 1)) [6] (.one 6) (.k (.bl true)) ir__law_body_C1) (Ls.map .str) [some (.own true w), some (.val M), none, some dd, some (.own false F), none, none] [] = .ok (Ls.map itemD) [some (.own true w), some (.val M), none, some dd, some (.own false F), none, none] := by
  rw [compW_map D.str itemD]
  · rfl
  intro l hl
  simp only [turnW, ↓r_k, ↓r_v, ↓r_g, ↓r_bin, ↓r_cmp, ↓r_chn, ↓r_isK, ↓r_and, ↓r_or, ↓r_not, ↓r_neg, ↓r_ite, ↓r_idx, ↓r_slc, ↓r_rev, ↓r_tup, ↓r_lst, ↓r_dct, ↓r_call, ↓r_bi, ↓r_mt, ↓r_mu, ↓r_comp, ↓r_nil, ↓r_cons, ↓r_asg, ↓r_unp, ↓r_par, ↓r_aug, ↓r_sto, ↓r_aus, ↓r_ex, ↓r_ifs, ↓r_fr, ↓r_wh, ↓r_ret, ↓r_retN, ↓r_brk, ↓r_cnt, ↓r_pas, ↓r_frg, ↓r_rse, ↓r_snil, ↓r_scons, lk1_d, lk1_new, lk1_slot, lkS_own, lkS_val, lks_nil, lks_cons, fz1_d, fz1_new, fz1_slot, fzS_own, fzS_val, fzs_nil, fzs_cons, opt_some, opt_none, cndS_some, optS_some, gOwnS_own, gValS_val, isDS_d, lk1S_d, lk1S_new, lk1S_slot, lkSS_own, lkSS_val, rdV_val, rdV_own, isD_d, gOwn_own, gVal_val, bind_ok, bind_stuck, bind_exc, bind_ite, toO_ok, toO_stuck, toO_exc, toO_ite, obind_nx, obind_bk, obind_ct, obind_rt, obind_exc, obind_stuck, obind_ite, of_some, of_ite, oof_some, callK_ok, callK_exc, callK_ite, isLst_lst, compK_ok, compW_nil, setV_eq, setVc_none, setVc_val, setVc_own, setO_eq, setOc_none, setOc_val, setOc_own, setVs_nil, setVs_cons, setT_one, setT_many, setR_d, setR_new, setR_slot, setR_own, setRs_nil, setRs_d, setRs_new, wipe_nil, wipe_cons, unwipe_nil, unwipe_cons, unwC_val, unwC_none, unwC_own, fl_nil, flK_nx, flK_ct, flK_bk, flK_rt, flK_exc, flK_ite, whK_nx, whK_ct, whK_bk, whK_rt, whK_exc, whK_ite, finK_nx, finK_rt, finK_exc, finK_ite, outRV_d, outRV_new, outRV_slot, outS_own, outS_val, outCells_nil, outCells_val, outCells_own, backCells_nil, backCells_0, backCells_s, argCells_nil, argCells_cons, argK_some, arg1_d, arg1_new, arg1_slot, argS_true, argS_home, argS_give, argS_val, List.getElem?_cons_zero, List.getElem?_cons_succ, List.set_cons_zero, List.set_cons_succ, Option.map_some, Option.map_none, GE_phi, GE_fuel, o_addI, o_subI, o_eqI, o_neI, o_eqB, o_neB, o_ltI, o_leI, o_gtI, o_geI, o_ltS, o_leS, o_gtS, o_geS, o_eqS, o_neS, o_isB, t_non, t_bl, t_int, t_str, t_tup, t_lst, ix_L0, ix_T0, ix_T1, ix_T2, ix_T3, ix_T4, ix_Tm, ix_Lm, bi_lenL, bi_lenC, bi_lenT, bi_lenS, bi_tupL, bi_tupT, bi_lstL, bi_lstT, bi_intI, bi_sortL, bi_sortT, s_L, s_T, s_S, s_K, p_non, kn_non, kx_non, kn_str, kx_str, kn_int, kx_int, kn_tup, kx_tup, kn_lst, kx_lst, kn_bl, kx_bl, g_addI, cmp_mem, cmp_nmem, ↓reduceIte, ↓u_node_at_C1c, ↓u_node_at_C1, ↓u_node_at_I1, ↓u_node_at_L1, ↓u_node_at, ↓u_head_of, ↓u_is_met_I1, ↓u_is_met_C1c, ↓u_is_met_C1, ↓u_is_met_I2, ↓u_is_met, ↓u_leaves_below_I1, ↓u_leaves_below_L1, ↓u_leaves_below, ↓u_turns_C1c, ↓u_turns_C1, ↓u_turns_I1, ↓u_turns_I2, ↓u_turns_L1, ↓u_turns, ↓u__law_draws_I1, ↓u__law_draws_I2, ↓u__law_draws_L2, ↓u__law_draws_L1, ↓u__law_draws_L3, ↓u__law_draws, ↓u__law_next_I1, ↓u__law_next, ↓u__law_pick, ↓u__law_is_bit, ↓u__law_words_C1, ↓u__law_words, ↓u__law_label, ↓u__law_key_C1c, ↓u__law_key_C1, ↓u__law_key, ↓u__law_body_L1, ↓u__law_body_C1, ↓u__law_body_L2, ↓u__law_body, ↓u__law_listed_I1, ↓u__law_listed_L1, ↓u__law_listed, ↓u__law_head, ↓u__law_met_I1, ↓u__law_met_C1c, ↓u__law_met_C1, ↓u__law_met_I2, ↓u__law_met, ↓u__law_leaves_I1, ↓u__law_leaves_L1, ↓u__law_leaves, ↓u__law_nodes_C1, ↓u__law_nodes_I1, ↓u__law_nodes_C2, ↓u__law_nodes_L1, ↓u__law_nodes, ↓u_law_C1c, ↓u_law_C1, ↓u_law_I1, ↓u_law_C2c, ↓u_law_C2, ↓u_law_I2, ↓u_law_L3, ↓u_law_I3, ↓u_law_L2, ↓u_law_L1, ↓u_law, GEm_0, GEm_1, GEm_2, GEm_3, GEm_4, GEm_5, GEm_6, GEm_7, GEm_8, GEm_9, GEm_10, GEm_11, GEm_12, GEm_13, GEm_14, GEm_15, GEm_16, GEm_17, GEm_18, GEg_0, key_sp k l (h l hl)]
  rfl
theorem item_lt : ∀ a ∈ labs, ∀ b ∈ labs, (ltD (itemD a) (itemD b)).isSome = true := by decide +kernel
theorem sort_items {Ls : List St} (h : ∀ l ∈ Ls, l ∈ labs) : ∃ Ls' : List St, sortD (Ls.map itemD) = some (Ls'.map itemD) ∧ Ls'.Perm Ls := by
  obtain ⟨r, e⟩ := sortD_some (xs := Ls.map itemD) (by
      have : (Ls.map itemD).all isTT = true := by
        simp only [List.all_eq_true, List.mem_map]
        rintro x ⟨l, hl, rfl⟩
        have : ∀ l ∈ labs, isTT (itemD l) = true := by decide +kernel
        exact this l (h l hl)
      simp [oneK, this]) (by
      intro x hx y hy
      obtain ⟨a, ha, rfl⟩ := List.mem_map.mp hx
      obtain ⟨b, hb, rfl⟩ := List.mem_map.mp hy
      exact item_lt a (h a ha) b (h b hb)) (by
      intro x hx
      obtain ⟨a, ha, rfl⟩ := List.mem_map.mp hx
      have : ∀ l ∈ labs, dep (itemD l) ≤ 60 := by decide +kernel
      exact this a (h a ha))
  obtain ⟨m, rfl, hp⟩ := perm_map itemD (sortD_perm e)
  exact ⟨m, e, hp⟩
/-- what a body's text gives -/
def BodyAt (k : Nat) (deep : Nat) : Prop := ∀ (ds : List Int) (n : Nat), ∃ (b : List Nd) (n' : Nat), okB 4 (deep + 1) b ∧ run tab globD 2000 k 12 [.own true (WD ds n), .val (.int deep)] = .ok (.d (encB b)) [.own true (WD ds n'), .val (.int deep)]
theorem labs_ok : ∀ l ∈ labs, l ≠ [] ∧ l.length ≤ 5 := by decide
theorem body_L2 (k : Nat) (deep : Nat) (hk : 0 < deep → BodyAt (k + 3) (deep - 1)) (ds : List Int) (dd' : Cell) : ∀ (Ls : List St) (n : Nat) (acc : List Nd), (∀ l ∈ Ls, l ∈ labs) → acc.length + Ls.length ≤ 100 → (∀ a ∈ acc, a.l ≠ [] ∧ a.l.length ≤ 5 ∧ a.w.length ≤ 4 ∧ okB 4 deep a.k) →
    ∃ (b : List Nd) (n' : Nat), (∀ a ∈ b, a.l ≠ [] ∧ a.l.length ≤ 5 ∧ a.w.length ≤ 4 ∧ okB 4 deep a.k) ∧ b.map Nd.l = acc.map Nd.l ++ Ls ∧
    forLoop (.many [5, 6]) (exSs (GE (k + 3)) ir__law_body_L2) (Ls.map itemD) [some (.own true (WD ds n)), some (.val (.int deep)), none, some dd', some (.own false (.lst (acc.map encN))), none, none] =
      .nx [some (.own true (WD ds n')), some (.val (.int deep)), none, some dd', some (.own false (.lst (b.map encN))), none, none]
  | [], n, acc, h1, h2, h3 => ⟨acc, n, h3, by simp, rfl⟩
  | l :: Ls, n, acc, h1, h2, h3 => by
    simp only [List.length_cons] at h2
    obtain ⟨ws, n1, w1, _, w3⟩ := words_sp k ds n 4 (by decide)
    have hl := h1 l List.mem_cons_self
    have ha : (acc.map encN).length < line := by simp [line]; omega
    have key : ∃ (kids : List Nd) (n2 : Nat), okB 4 deep kids ∧ ((0 < deep ∧ run tab globD 2000 (k + 3) 12 [.own true (WD ds n1), .val (.int ((deep : Int) - 1))] = .ok (.d (encB kids)) [.own true (WD ds n2), .val (.int ((deep : Int) - 1))]) ∨ (deep = 0 ∧ kids = [] ∧ n2 = n1)) := by
      by_cases c : 0 < deep
      · obtain ⟨b, n2, b1, b2⟩ := hk c ds n1
        have e : ((deep : Int) - 1) = ((deep - 1 : Nat) : Int) := by omega
        refine ⟨b, n2, by rwa [show deep - 1 + 1 = deep by omega] at b1, .inl ⟨c, ?_⟩⟩
        rw [e]; exact b2
      · have : deep = 0 := by omega
        subst this
        exact ⟨[], n1, rfl, .inr ⟨rfl, rfl, rfl⟩⟩
    obtain ⟨kids, n2, kk, kr⟩ := key
    obtain ⟨b, n', g1, g2, g3⟩ := body_L2 k deep hk ds dd' Ls n2 (acc ++ [.mk l ws kids]) (fun x hx => h1 x (List.mem_cons_of_mem _ hx)) (by simp; omega) (by
      intro a ha
      rcases List.mem_append.mp ha with ha | ha
      · exact h3 a ha
      · simp at ha; subst ha
        exact ⟨(labs_ok l hl).1, (labs_ok l hl).2, by simp only [Nd.w]; omega, kk⟩)
    refine ⟨b, n', g1, by simp [g2, Nd.l], ?_⟩
    have en : encN (.mk l ws kids) = .tup [.str l, encW ws, encB kids] := encN_eq _
    simp only [List.map_append, List.map_cons, List.map_nil, en] at g3
    rcases kr with ⟨c, kr⟩ | ⟨rfl, rfl, rfl⟩
    · have c' : (0 : Int) < deep := by omega
      simp only [List.map_cons, fl_cons, ↓r_k, ↓r_v, ↓r_g, ↓r_bin, ↓r_cmp, ↓r_chn, ↓r_isK, ↓r_and, ↓r_or, ↓r_not, ↓r_neg, ↓r_ite, ↓r_idx, ↓r_slc, ↓r_rev, ↓r_tup, ↓r_lst, ↓r_dct, ↓r_call, ↓r_bi, ↓r_mt, ↓r_mu, ↓r_comp, ↓r_nil, ↓r_cons, ↓r_asg, ↓r_unp, ↓r_par, ↓r_aug, ↓r_sto, ↓r_aus, ↓r_ex, ↓r_ifs, ↓r_fr, ↓r_wh, ↓r_ret, ↓r_retN, ↓r_brk, ↓r_cnt, ↓r_pas, ↓r_frg, ↓r_rse, ↓r_snil, ↓r_scons, lk1_d, lk1_new, lk1_slot, lkS_own, lkS_val, lks_nil, lks_cons, fz1_d, fz1_new, fz1_slot, fzS_own, fzS_val, fzs_nil, fzs_cons, opt_some, opt_none, cndS_some, optS_some, gOwnS_own, gValS_val, isDS_d, lk1S_d, lk1S_new, lk1S_slot, lkSS_own, lkSS_val, rdV_val, rdV_own, isD_d, gOwn_own, gVal_val, bind_ok, bind_stuck, bind_exc, bind_ite, toO_ok, toO_stuck, toO_exc, toO_ite, obind_nx, obind_bk, obind_ct, obind_rt, obind_exc, obind_stuck, obind_ite, of_some, of_ite, oof_some, callK_ok, callK_exc, callK_ite, isLst_lst, compK_ok, compW_nil, setV_eq, setVc_none, setVc_val, setVc_own, setO_eq, setOc_none, setOc_val, setOc_own, setVs_nil, setVs_cons, setT_one, setT_many, setR_d, setR_new, setR_slot, setR_own, setRs_nil, setRs_d, setRs_new, wipe_nil, wipe_cons, unwipe_nil, unwipe_cons, unwC_val, unwC_none, unwC_own, fl_nil, flK_nx, flK_ct, flK_bk, flK_rt, flK_exc, flK_ite, whK_nx, whK_ct, whK_bk, whK_rt, whK_exc, whK_ite, finK_nx, finK_rt, finK_exc, finK_ite, outRV_d, outRV_new, outRV_slot, outS_own, outS_val, outCells_nil, outCells_val, outCells_own, backCells_nil, backCells_0, backCells_s, argCells_nil, argCells_cons, argK_some, arg1_d, arg1_new, arg1_slot, argS_true, argS_home, argS_give, argS_val, List.getElem?_cons_zero, List.getElem?_cons_succ, List.set_cons_zero, List.set_cons_succ, Option.map_some, Option.map_none, GE_phi, GE_fuel, o_addI, o_subI, o_eqI, o_neI, o_eqB, o_neB, o_ltI, o_leI, o_gtI, o_geI, o_ltS, o_leS, o_gtS, o_geS, o_eqS, o_neS, o_isB, t_non, t_bl, t_int, t_str, t_tup, t_lst, ix_L0, ix_T0, ix_T1, ix_T2, ix_T3, ix_T4, ix_Tm, ix_Lm, bi_lenL, bi_lenC, bi_lenT, bi_lenS, bi_tupL, bi_tupT, bi_lstL, bi_lstT, bi_intI, bi_sortL, bi_sortT, s_L, s_T, s_S, s_K, p_non, kn_non, kx_non, kn_str, kx_str, kn_int, kx_int, kn_tup, kx_tup, kn_lst, kx_lst, kn_bl, kx_bl, g_addI, cmp_mem, cmp_nmem, ↓reduceIte, ↓u_node_at_C1c, ↓u_node_at_C1, ↓u_node_at_I1, ↓u_node_at_L1, ↓u_node_at, ↓u_head_of, ↓u_is_met_I1, ↓u_is_met_C1c, ↓u_is_met_C1, ↓u_is_met_I2, ↓u_is_met, ↓u_leaves_below_I1, ↓u_leaves_below_L1, ↓u_leaves_below, ↓u_turns_C1c, ↓u_turns_C1, ↓u_turns_I1, ↓u_turns_I2, ↓u_turns_L1, ↓u_turns, ↓u__law_draws_I1, ↓u__law_draws_I2, ↓u__law_draws_L2, ↓u__law_draws_L1, ↓u__law_draws_L3, ↓u__law_draws, ↓u__law_next_I1, ↓u__law_next, ↓u__law_pick, ↓u__law_is_bit, ↓u__law_words_C1, ↓u__law_words, ↓u__law_label, ↓u__law_key_C1c, ↓u__law_key_C1, ↓u__law_key, ↓u__law_body_L1, ↓u__law_body_C1, ↓u__law_body_L2, ↓u__law_body, ↓u__law_listed_I1, ↓u__law_listed_L1, ↓u__law_listed, ↓u__law_head, ↓u__law_met_I1, ↓u__law_met_C1c, ↓u__law_met_C1, ↓u__law_met_I2, ↓u__law_met, ↓u__law_leaves_I1, ↓u__law_leaves_L1, ↓u__law_leaves, ↓u__law_nodes_C1, ↓u__law_nodes_I1, ↓u__law_nodes_C2, ↓u__law_nodes_L1, ↓u__law_nodes, ↓u_law_C1c, ↓u_law_C1, ↓u_law_I1, ↓u_law_C2c, ↓u_law_C2, ↓u_law_I2, ↓u_law_L3, ↓u_law_I3, ↓u_law_L2, ↓u_law_L1, ↓u_law, GEm_0, GEm_1, GEm_2, GEm_3, GEm_4, GEm_5, GEm_6, GEm_7, GEm_8, GEm_9, GEm_10, GEm_11, GEm_12, GEm_13, GEm_14, GEm_15, GEm_16, GEm_17, GEm_18, GEg_0, itemD, w3, kr, List.contains_nil, Bool.false_eq_true, a_app ha, decide_eq_true c']
      exact g3
    · have c' : ¬ (0 : Int) < ((0 : Nat) : Int) := by omega
      simp only [List.map_cons, fl_cons, ↓r_k, ↓r_v, ↓r_g, ↓r_bin, ↓r_cmp, ↓r_chn, ↓r_isK, ↓r_and, ↓r_or, ↓r_not, ↓r_neg, ↓r_ite, ↓r_idx, ↓r_slc, ↓r_rev, ↓r_tup, ↓r_lst, ↓r_dct, ↓r_call, ↓r_bi, ↓r_mt, ↓r_mu, ↓r_comp, ↓r_nil, ↓r_cons, ↓r_asg, ↓r_unp, ↓r_par, ↓r_aug, ↓r_sto, ↓r_aus, ↓r_ex, ↓r_ifs, ↓r_fr, ↓r_wh, ↓r_ret, ↓r_retN, ↓r_brk, ↓r_cnt, ↓r_pas, ↓r_frg, ↓r_rse, ↓r_snil, ↓r_scons, lk1_d, lk1_new, lk1_slot, lkS_own, lkS_val, lks_nil, lks_cons, fz1_d, fz1_new, fz1_slot, fzS_own, fzS_val, fzs_nil, fzs_cons, opt_some, opt_none, cndS_some, optS_some, gOwnS_own, gValS_val, isDS_d, lk1S_d, lk1S_new, lk1S_slot, lkSS_own, lkSS_val, rdV_val, rdV_own, isD_d, gOwn_own, gVal_val, bind_ok, bind_stuck, bind_exc, bind_ite, toO_ok, toO_stuck, toO_exc, toO_ite, obind_nx, obind_bk, obind_ct, obind_rt, obind_exc, obind_stuck, obind_ite, of_some, of_ite, oof_some, callK_ok, callK_exc, callK_ite, isLst_lst, compK_ok, compW_nil, setV_eq, setVc_none, setVc_val, setVc_own, setO_eq, setOc_none, setOc_val, setOc_own, setVs_nil, setVs_cons, setT_one, setT_many, setR_d, setR_new, setR_slot, setR_own, setRs_nil, setRs_d, setRs_new, wipe_nil, wipe_cons, unwipe_nil, unwipe_cons, unwC_val, unwC_none, unwC_own, fl_nil, flK_nx, flK_ct, flK_bk, flK_rt, flK_exc, flK_ite, whK_nx, whK_ct, whK_bk, whK_rt, whK_exc, whK_ite, finK_nx, finK_rt, finK_exc, finK_ite, outRV_d, outRV_new, outRV_slot, outS_own, outS_val, outCells_nil, outCells_val, outCells_own, backCells_nil, backCells_0, backCells_s, argCells_nil, argCells_cons, argK_some, arg1_d, arg1_new, arg1_slot, argS_true, argS_home, argS_give, argS_val, List.getElem?_cons_zero, List.getElem?_cons_succ, List.set_cons_zero, List.set_cons_succ, Option.map_some, Option.map_none, GE_phi, GE_fuel, o_addI, o_subI, o_eqI, o_neI, o_eqB, o_neB, o_ltI, o_leI, o_gtI, o_geI, o_ltS, o_leS, o_gtS, o_geS, o_eqS, o_neS, o_isB, t_non, t_bl, t_int, t_str, t_tup, t_lst, ix_L0, ix_T0, ix_T1, ix_T2, ix_T3, ix_T4, ix_Tm, ix_Lm, bi_lenL, bi_lenC, bi_lenT, bi_lenS, bi_tupL, bi_tupT, bi_lstL, bi_lstT, bi_intI, bi_sortL, bi_sortT, s_L, s_T, s_S, s_K, p_non, kn_non, kx_non, kn_str, kx_str, kn_int, kx_int, kn_tup, kx_tup, kn_lst, kx_lst, kn_bl, kx_bl, g_addI, cmp_mem, cmp_nmem, ↓reduceIte, ↓u_node_at_C1c, ↓u_node_at_C1, ↓u_node_at_I1, ↓u_node_at_L1, ↓u_node_at, ↓u_head_of, ↓u_is_met_I1, ↓u_is_met_C1c, ↓u_is_met_C1, ↓u_is_met_I2, ↓u_is_met, ↓u_leaves_below_I1, ↓u_leaves_below_L1, ↓u_leaves_below, ↓u_turns_C1c, ↓u_turns_C1, ↓u_turns_I1, ↓u_turns_I2, ↓u_turns_L1, ↓u_turns, ↓u__law_draws_I1, ↓u__law_draws_I2, ↓u__law_draws_L2, ↓u__law_draws_L1, ↓u__law_draws_L3, ↓u__law_draws, ↓u__law_next_I1, ↓u__law_next, ↓u__law_pick, ↓u__law_is_bit, ↓u__law_words_C1, ↓u__law_words, ↓u__law_label, ↓u__law_key_C1c, ↓u__law_key_C1, ↓u__law_key, ↓u__law_body_L1, ↓u__law_body_C1, ↓u__law_body_L2, ↓u__law_body, ↓u__law_listed_I1, ↓u__law_listed_L1, ↓u__law_listed, ↓u__law_head, ↓u__law_met_I1, ↓u__law_met_C1c, ↓u__law_met_C1, ↓u__law_met_I2, ↓u__law_met, ↓u__law_leaves_I1, ↓u__law_leaves_L1, ↓u__law_leaves, ↓u__law_nodes_C1, ↓u__law_nodes_I1, ↓u__law_nodes_C2, ↓u__law_nodes_L1, ↓u__law_nodes, ↓u_law_C1c, ↓u_law_C1, ↓u_law_I1, ↓u_law_C2c, ↓u_law_C2, ↓u_law_I2, ↓u_law_L3, ↓u_law_I3, ↓u_law_L2, ↓u_law_L1, ↓u_law, GEm_0, GEm_1, GEm_2, GEm_3, GEm_4, GEm_5, GEm_6, GEm_7, GEm_8, GEm_9, GEm_10, GEm_11, GEm_12, GEm_13, GEm_14, GEm_15, GEm_16, GEm_17, GEm_18, GEg_0, itemD, w3, List.contains_nil, Bool.false_eq_true, a_app ha, decide_eq_false c']
      exact g3
theorem labs_nd {Ls Ls' : List St} (h : Ls'.Perm Ls) (n : Ls.Nodup) : Ls'.Nodup := h.nodup_iff.mpr n
theorem body_go (k deep : Nat) (hk : 0 < deep → BodyAt (k + 3) (deep - 1)) : BodyAt (k + 4) deep := by
  intro ds n
  have a1 := nx_lo (ds := ds) (n := n) (m := 4) (by decide)
  have a2 := nx_hi (ds := ds) (n := n) (m := 4) (by decide)
  obtain ⟨n1, Ls, g1, g2, g3, g4⟩ := body_L1 k ds (.int deep) (.lst []) (List.range (nx ds n 4).toNat) (n + 1) [] List.nodup_nil (fun _ h => by cases h) (by simp; omega)
  simp only [List.length_range, List.length_nil, List.map_nil] at g3 g4
  obtain ⟨Ls', s1, s2⟩ := sort_items g2
  have lp := s2.length_eq
  obtain ⟨b, n', b1, b2, b3⟩ := body_L2 k deep hk ds (.val (.dct false (Ls.map .str) (Ls.map fun _ => .bl true))) Ls' n1 [] (fun l hl => g2 l (s2.mem_iff.mp hl)) (by simp; omega) (fun a h => by cases h)
  simp only [List.map_nil, List.nil_append] at b2 b3
  have c1 := body_C1 (k + 2) (WD ds n1) (.int deep) (.lst []) Ls g2 (.val <| .dct false (Ls.map .str) (Ls.map fun _ => .bl true))
  have bl : b.length = Ls'.length := by rw [← b2, List.length_map]
  refine ⟨b, n', ⟨by omega, by rw [b2]; exact labs_nd s2 g1, fun a ha => ⟨(b1 a ha).1, (b1 a ha).2.1, by have := (b1 a ha).2.2.1; omega, (b1 a ha).2.2.2⟩⟩, ?_⟩
  simp only [rn__law_body, ↓r_k, ↓r_v, ↓r_g, ↓r_bin, ↓r_cmp, ↓r_chn, ↓r_isK, ↓r_and, ↓r_or, ↓r_not, ↓r_neg, ↓r_ite, ↓r_idx, ↓r_slc, ↓r_rev, ↓r_tup, ↓r_lst, ↓r_dct, ↓r_call, ↓r_bi, ↓r_mt, ↓r_mu, ↓r_comp, ↓r_nil, ↓r_cons, ↓r_asg, ↓r_unp, ↓r_par, ↓r_aug, ↓r_sto, ↓r_aus, ↓r_ex, ↓r_ifs, ↓r_fr, ↓r_wh, ↓r_ret, ↓r_retN, ↓r_brk, ↓r_cnt, ↓r_pas, ↓r_frg, ↓r_rse, ↓r_snil, ↓r_scons, lk1_d, lk1_new, lk1_slot, lkS_own, lkS_val, lks_nil, lks_cons, fz1_d, fz1_new, fz1_slot, fzS_own, fzS_val, fzs_nil, fzs_cons, opt_some, opt_none, cndS_some, optS_some, gOwnS_own, gValS_val, isDS_d, lk1S_d, lk1S_new, lk1S_slot, lkSS_own, lkSS_val, rdV_val, rdV_own, isD_d, gOwn_own, gVal_val, bind_ok, bind_stuck, bind_exc, bind_ite, toO_ok, toO_stuck, toO_exc, toO_ite, obind_nx, obind_bk, obind_ct, obind_rt, obind_exc, obind_stuck, obind_ite, of_some, of_ite, oof_some, callK_ok, callK_exc, callK_ite, isLst_lst, compK_ok, compW_nil, setV_eq, setVc_none, setVc_val, setVc_own, setO_eq, setOc_none, setOc_val, setOc_own, setVs_nil, setVs_cons, setT_one, setT_many, setR_d, setR_new, setR_slot, setR_own, setRs_nil, setRs_d, setRs_new, wipe_nil, wipe_cons, unwipe_nil, unwipe_cons, unwC_val, unwC_none, unwC_own, fl_nil, flK_nx, flK_ct, flK_bk, flK_rt, flK_exc, flK_ite, whK_nx, whK_ct, whK_bk, whK_rt, whK_exc, whK_ite, finK_nx, finK_rt, finK_exc, finK_ite, outRV_d, outRV_new, outRV_slot, outS_own, outS_val, outCells_nil, outCells_val, outCells_own, backCells_nil, backCells_0, backCells_s, argCells_nil, argCells_cons, argK_some, arg1_d, arg1_new, arg1_slot, argS_true, argS_home, argS_give, argS_val, List.getElem?_cons_zero, List.getElem?_cons_succ, List.set_cons_zero, List.set_cons_succ, Option.map_some, Option.map_none, GE_phi, GE_fuel, o_addI, o_subI, o_eqI, o_neI, o_eqB, o_neB, o_ltI, o_leI, o_gtI, o_geI, o_ltS, o_leS, o_gtS, o_geS, o_eqS, o_neS, o_isB, t_non, t_bl, t_int, t_str, t_tup, t_lst, ix_L0, ix_T0, ix_T1, ix_T2, ix_T3, ix_T4, ix_Tm, ix_Lm, bi_lenL, bi_lenC, bi_lenT, bi_lenS, bi_tupL, bi_tupT, bi_lstL, bi_lstT, bi_intI, bi_sortL, bi_sortT, s_L, s_T, s_S, s_K, p_non, kn_non, kx_non, kn_str, kx_str, kn_int, kx_int, kn_tup, kx_tup, kn_lst, kx_lst, kn_bl, kx_bl, g_addI, cmp_mem, cmp_nmem, ↓reduceIte, ↓u_node_at_C1c, ↓u_node_at_C1, ↓u_node_at_I1, ↓u_node_at_L1, ↓u_node_at, ↓u_head_of, ↓u_is_met_I1, ↓u_is_met_C1c, ↓u_is_met_C1, ↓u_is_met_I2, ↓u_is_met, ↓u_leaves_below_I1, ↓u_leaves_below_L1, ↓u_leaves_below, ↓u_turns_C1c, ↓u_turns_C1, ↓u_turns_I1, ↓u_turns_I2, ↓u_turns_L1, ↓u_turns, ↓u__law_draws_I1, ↓u__law_draws_I2, ↓u__law_draws_L2, ↓u__law_draws_L1, ↓u__law_draws_L3, ↓u__law_draws, ↓u__law_next_I1, ↓u__law_next, ↓u__law_pick, ↓u__law_is_bit, ↓u__law_words_C1, ↓u__law_words, ↓u__law_label, ↓u__law_key_C1c, ↓u__law_key_C1, ↓u__law_key, ↓u__law_body_L1, ↓u__law_body_C1, ↓u__law_body_L2, ↓u__law_body, ↓u__law_listed_I1, ↓u__law_listed_L1, ↓u__law_listed, ↓u__law_head, ↓u__law_met_I1, ↓u__law_met_C1c, ↓u__law_met_C1, ↓u__law_met_I2, ↓u__law_met, ↓u__law_leaves_I1, ↓u__law_leaves_L1, ↓u__law_leaves, ↓u__law_nodes_C1, ↓u__law_nodes_I1, ↓u__law_nodes_C2, ↓u__law_nodes_L1, ↓u__law_nodes, ↓u_law_C1c, ↓u_law_C1, ↓u_law_I1, ↓u_law_C2c, ↓u_law_C2, ↓u_law_I2, ↓u_law_L3, ↓u_law_I3, ↓u_law_L2, ↓u_law_L1, ↓u_law, GEm_0, GEm_1, GEm_2, GEm_3, GEm_4, GEm_5, GEm_6, GEm_7, GEm_8, GEm_9, GEm_10, GEm_11, GEm_12, GEm_13, GEm_14, GEm_15, GEm_16, GEm_17, GEm_18, GEg_0, constK, dctD, List.contains_nil, Bool.false_eq_true, next_sp (k + 2) ds n 4 (by decide), srcR a1 (by omega), g4, c1, s1, b3, encB]
theorem body_sp (k : Nat) : ∀ deep : Nat, BodyAt (k + deep + 4) deep := by
  intro deep
  induction deep with
  | zero => exact body_go k 0 (fun h => absurd h (Nat.lt_irrefl 0))
  | succ d ih => exact body_go (k + (d + 1)) (d + 1) fun _ => ih

/-! node_at -/
theorem node_at_C1 (k : Nat) (B : List Nd) (P0 F l : D) (lb : St) (h : l = .str lb) : compW (turnW (GE k) [5] (.one 5) ir_node_at_C1c ir_node_at_C1) (B.map encN) [some (.val (encB B)), some (.val P0), some (.val F), some (.val l), none, none] [] = .ok ((B.filter fun n => n.l == lb).map encN) [some (.val (encB B)), some (.val P0), some (.val F), some (.val l), none, none] := by
  rw [compW_filter encN (fun n => n.l == lb)]
  · rfl
  intro n _
  subst h
  simp only [turnW, ↓r_k, ↓r_v, ↓r_g, ↓r_bin, ↓r_cmp, ↓r_chn, ↓r_isK, ↓r_and, ↓r_or, ↓r_not, ↓r_neg, ↓r_ite, ↓r_idx, ↓r_slc, ↓r_rev, ↓r_tup, ↓r_lst, ↓r_dct, ↓r_call, ↓r_bi, ↓r_mt, ↓r_mu, ↓r_comp, ↓r_nil, ↓r_cons, ↓r_asg, ↓r_unp, ↓r_par, ↓r_aug, ↓r_sto, ↓r_aus, ↓r_ex, ↓r_ifs, ↓r_fr, ↓r_wh, ↓r_ret, ↓r_retN, ↓r_brk, ↓r_cnt, ↓r_pas, ↓r_frg, ↓r_rse, ↓r_snil, ↓r_scons, lk1_d, lk1_new, lk1_slot, lkS_own, lkS_val, lks_nil, lks_cons, fz1_d, fz1_new, fz1_slot, fzS_own, fzS_val, fzs_nil, fzs_cons, opt_some, opt_none, cndS_some, optS_some, gOwnS_own, gValS_val, isDS_d, lk1S_d, lk1S_new, lk1S_slot, lkSS_own, lkSS_val, rdV_val, rdV_own, isD_d, gOwn_own, gVal_val, bind_ok, bind_stuck, bind_exc, bind_ite, toO_ok, toO_stuck, toO_exc, toO_ite, obind_nx, obind_bk, obind_ct, obind_rt, obind_exc, obind_stuck, obind_ite, of_some, of_ite, oof_some, callK_ok, callK_exc, callK_ite, isLst_lst, compK_ok, compW_nil, setV_eq, setVc_none, setVc_val, setVc_own, setO_eq, setOc_none, setOc_val, setOc_own, setVs_nil, setVs_cons, setT_one, setT_many, setR_d, setR_new, setR_slot, setR_own, setRs_nil, setRs_d, setRs_new, wipe_nil, wipe_cons, unwipe_nil, unwipe_cons, unwC_val, unwC_none, unwC_own, fl_nil, flK_nx, flK_ct, flK_bk, flK_rt, flK_exc, flK_ite, whK_nx, whK_ct, whK_bk, whK_rt, whK_exc, whK_ite, finK_nx, finK_rt, finK_exc, finK_ite, outRV_d, outRV_new, outRV_slot, outS_own, outS_val, outCells_nil, outCells_val, outCells_own, backCells_nil, backCells_0, backCells_s, argCells_nil, argCells_cons, argK_some, arg1_d, arg1_new, arg1_slot, argS_true, argS_home, argS_give, argS_val, List.getElem?_cons_zero, List.getElem?_cons_succ, List.set_cons_zero, List.set_cons_succ, Option.map_some, Option.map_none, GE_phi, GE_fuel, o_addI, o_subI, o_eqI, o_neI, o_eqB, o_neB, o_ltI, o_leI, o_gtI, o_geI, o_ltS, o_leS, o_gtS, o_geS, o_eqS, o_neS, o_isB, t_non, t_bl, t_int, t_str, t_tup, t_lst, ix_L0, ix_T0, ix_T1, ix_T2, ix_T3, ix_T4, ix_Tm, ix_Lm, bi_lenL, bi_lenC, bi_lenT, bi_lenS, bi_tupL, bi_tupT, bi_lstL, bi_lstT, bi_intI, bi_sortL, bi_sortT, s_L, s_T, s_S, s_K, p_non, kn_non, kx_non, kn_str, kx_str, kn_int, kx_int, kn_tup, kx_tup, kn_lst, kx_lst, kn_bl, kx_bl, g_addI, cmp_mem, cmp_nmem, ↓reduceIte, ↓u_node_at_C1c, ↓u_node_at_C1, ↓u_node_at_I1, ↓u_node_at_L1, ↓u_node_at, ↓u_head_of, ↓u_is_met_I1, ↓u_is_met_C1c, ↓u_is_met_C1, ↓u_is_met_I2, ↓u_is_met, ↓u_leaves_below_I1, ↓u_leaves_below_L1, ↓u_leaves_below, ↓u_turns_C1c, ↓u_turns_C1, ↓u_turns_I1, ↓u_turns_I2, ↓u_turns_L1, ↓u_turns, ↓u__law_draws_I1, ↓u__law_draws_I2, ↓u__law_draws_L2, ↓u__law_draws_L1, ↓u__law_draws_L3, ↓u__law_draws, ↓u__law_next_I1, ↓u__law_next, ↓u__law_pick, ↓u__law_is_bit, ↓u__law_words_C1, ↓u__law_words, ↓u__law_label, ↓u__law_key_C1c, ↓u__law_key_C1, ↓u__law_key, ↓u__law_body_L1, ↓u__law_body_C1, ↓u__law_body_L2, ↓u__law_body, ↓u__law_listed_I1, ↓u__law_listed_L1, ↓u__law_listed, ↓u__law_head, ↓u__law_met_I1, ↓u__law_met_C1c, ↓u__law_met_C1, ↓u__law_met_I2, ↓u__law_met, ↓u__law_leaves_I1, ↓u__law_leaves_L1, ↓u__law_leaves, ↓u__law_nodes_C1, ↓u__law_nodes_I1, ↓u__law_nodes_C2, ↓u__law_nodes_L1, ↓u__law_nodes, ↓u_law_C1c, ↓u_law_C1, ↓u_law_I1, ↓u_law_C2c, ↓u_law_C2, ↓u_law_I2, ↓u_law_L3, ↓u_law_I3, ↓u_law_L2, ↓u_law_L1, ↓u_law, GEm_0, GEm_1, GEm_2, GEm_3, GEm_4, GEm_5, GEm_6, GEm_7, GEm_8, GEm_9, GEm_10, GEm_11, GEm_12, GEm_13, GEm_14, GEm_15, GEm_16, GEm_17, GEm_18, GEg_0, ix_N0, ix_N1, ix_N2]
  by_cases e : n.l = lb <;> simp [e]
theorem encO_some (n : Nd) : encO (some n) = encN n := rfl
theorem node_at_L1 (k m : Nat) (P0 : D) : ∀ (p : List St) (d : Nat) (B : List Nd) (f : Option Nd), okB m d B → d ≤ 20 →
    (∀ B' f', na B f p = some (B', f') → forLoop (.one 3) (exSs (GE k) ir_node_at_L1) (p.map .str) [some (.val (encB B)), some (.val P0), some (.val (encO f)), none, none, none] = .nx [some (.val (encB B')), some (.val P0), some (.val (encO f')), none, none, none]) ∧
    (na B f p = none → ∃ σ, forLoop (.one 3) (exSs (GE k) ir_node_at_L1) (p.map .str) [some (.val (encB B)), some (.val P0), some (.val (encO f)), none, none, none] = .rt (.d .non) σ)
  | [], d, B, f, _, _ => ⟨fun B' f' h => by cases h; rfl, fun h => by cases h⟩
  | l :: p, d, B, f, ok, hd => by
    have hdep : depL ((B.filter fun n => n.l == l).map encN) ≤ 59 := depL_map' _ _ fun n hn => by
      have := okB_depN ok ((List.mem_filter.mp hn).1); omega
    have hf : B.find? (fun n => n.l == l) = (B.filter fun n => n.l == l)[0]? := by
      rw [← List.head?_filter]; cases B.filter fun n => n.l == l <;> rfl
    simp only [na, hf, List.map_cons, fl_cons, ↓r_k, ↓r_v, ↓r_g, ↓r_bin, ↓r_cmp, ↓r_chn, ↓r_isK, ↓r_and, ↓r_or, ↓r_not, ↓r_neg, ↓r_ite, ↓r_idx, ↓r_slc, ↓r_rev, ↓r_tup, ↓r_lst, ↓r_dct, ↓r_call, ↓r_bi, ↓r_mt, ↓r_mu, ↓r_comp, ↓r_nil, ↓r_cons, ↓r_asg, ↓r_unp, ↓r_par, ↓r_aug, ↓r_sto, ↓r_aus, ↓r_ex, ↓r_ifs, ↓r_fr, ↓r_wh, ↓r_ret, ↓r_retN, ↓r_brk, ↓r_cnt, ↓r_pas, ↓r_frg, ↓r_rse, ↓r_snil, ↓r_scons, lk1_d, lk1_new, lk1_slot, lkS_own, lkS_val, lks_nil, lks_cons, fz1_d, fz1_new, fz1_slot, fzS_own, fzS_val, fzs_nil, fzs_cons, opt_some, opt_none, cndS_some, optS_some, gOwnS_own, gValS_val, isDS_d, lk1S_d, lk1S_new, lk1S_slot, lkSS_own, lkSS_val, rdV_val, rdV_own, isD_d, gOwn_own, gVal_val, bind_ok, bind_stuck, bind_exc, bind_ite, toO_ok, toO_stuck, toO_exc, toO_ite, obind_nx, obind_bk, obind_ct, obind_rt, obind_exc, obind_stuck, obind_ite, of_some, of_ite, oof_some, callK_ok, callK_exc, callK_ite, isLst_lst, compK_ok, compW_nil, setV_eq, setVc_none, setVc_val, setVc_own, setO_eq, setOc_none, setOc_val, setOc_own, setVs_nil, setVs_cons, setT_one, setT_many, setR_d, setR_new, setR_slot, setR_own, setRs_nil, setRs_d, setRs_new, wipe_nil, wipe_cons, unwipe_nil, unwipe_cons, unwC_val, unwC_none, unwC_own, fl_nil, flK_nx, flK_ct, flK_bk, flK_rt, flK_exc, flK_ite, whK_nx, whK_ct, whK_bk, whK_rt, whK_exc, whK_ite, finK_nx, finK_rt, finK_exc, finK_ite, outRV_d, outRV_new, outRV_slot, outS_own, outS_val, outCells_nil, outCells_val, outCells_own, backCells_nil, backCells_0, backCells_s, argCells_nil, argCells_cons, argK_some, arg1_d, arg1_new, arg1_slot, argS_true, argS_home, argS_give, argS_val, List.getElem?_cons_zero, List.getElem?_cons_succ, List.set_cons_zero, List.set_cons_succ, Option.map_some, Option.map_none, GE_phi, GE_fuel, o_addI, o_subI, o_eqI, o_neI, o_eqB, o_neB, o_ltI, o_leI, o_gtI, o_geI, o_ltS, o_leS, o_gtS, o_geS, o_eqS, o_neS, o_isB, t_non, t_bl, t_int, t_str, t_tup, t_lst, ix_L0, ix_T0, ix_T1, ix_T2, ix_T3, ix_T4, ix_Tm, ix_Lm, bi_lenL, bi_lenC, bi_lenT, bi_lenS, bi_tupL, bi_tupT, bi_lstL, bi_lstT, bi_intI, bi_sortL, bi_sortT, s_L, s_T, s_S, s_K, p_non, kn_non, kx_non, kn_str, kx_str, kn_int, kx_int, kn_tup, kx_tup, kn_lst, kx_lst, kn_bl, kx_bl, g_addI, cmp_mem, cmp_nmem, ↓reduceIte, ↓u_node_at_C1c, ↓u_node_at_C1, ↓u_node_at_I1, ↓u_node_at_L1, ↓u_node_at, ↓u_head_of, ↓u_is_met_I1, ↓u_is_met_C1c, ↓u_is_met_C1, ↓u_is_met_I2, ↓u_is_met, ↓u_leaves_below_I1, ↓u_leaves_below_L1, ↓u_leaves_below, ↓u_turns_C1c, ↓u_turns_C1, ↓u_turns_I1, ↓u_turns_I2, ↓u_turns_L1, ↓u_turns, ↓u__law_draws_I1, ↓u__law_draws_I2, ↓u__law_draws_L2, ↓u__law_draws_L1, ↓u__law_draws_L3, ↓u__law_draws, ↓u__law_next_I1, ↓u__law_next, ↓u__law_pick, ↓u__law_is_bit, ↓u__law_words_C1, ↓u__law_words, ↓u__law_label, ↓u__law_key_C1c, ↓u__law_key_C1, ↓u__law_key, ↓u__law_body_L1, ↓u__law_body_C1, ↓u__law_body_L2, ↓u__law_body, ↓u__law_listed_I1, ↓u__law_listed_L1, ↓u__law_listed, ↓u__law_head, ↓u__law_met_I1, ↓u__law_met_C1c, ↓u__law_met_C1, ↓u__law_met_I2, ↓u__law_met, ↓u__law_leaves_I1, ↓u__law_leaves_L1, ↓u__law_leaves, ↓u__law_nodes_C1, ↓u__law_nodes_I1, ↓u__law_nodes_C2, ↓u__law_nodes_L1, ↓u__law_nodes, ↓u_law_C1c, ↓u_law_C1, ↓u_law_I1, ↓u_law_C2c, ↓u_law_C2, ↓u_law_I2, ↓u_law_L3, ↓u_law_I3, ↓u_law_L2, ↓u_law_L1, ↓u_law, GEm_0, GEm_1, GEm_2, GEm_3, GEm_4, GEm_5, GEm_6, GEm_7, GEm_8, GEm_9, GEm_10, GEm_11, GEm_12, GEm_13, GEm_14, GEm_15, GEm_16, GEm_17, GEm_18, GEg_0, srcB, node_at_C1 k B P0 (encO f) (.str l) l rfl, List.nil_append, o_eqL0 hdep]
    cases e : B.filter fun n => n.l == l with
    | nil => simp [↓r_k, ↓r_v, ↓r_g, ↓r_bin, ↓r_cmp, ↓r_chn, ↓r_isK, ↓r_and, ↓r_or, ↓r_not, ↓r_neg, ↓r_ite, ↓r_idx, ↓r_slc, ↓r_rev, ↓r_tup, ↓r_lst, ↓r_dct, ↓r_call, ↓r_bi, ↓r_mt, ↓r_mu, ↓r_comp, ↓r_nil, ↓r_cons, ↓r_asg, ↓r_unp, ↓r_par, ↓r_aug, ↓r_sto, ↓r_aus, ↓r_ex, ↓r_ifs, ↓r_fr, ↓r_wh, ↓r_ret, ↓r_retN, ↓r_brk, ↓r_cnt, ↓r_pas, ↓r_frg, ↓r_rse, ↓r_snil, ↓r_scons, lk1_d, lk1_new, lk1_slot, lkS_own, lkS_val, lks_nil, lks_cons, fz1_d, fz1_new, fz1_slot, fzS_own, fzS_val, fzs_nil, fzs_cons, opt_some, opt_none, cndS_some, optS_some, gOwnS_own, gValS_val, isDS_d, lk1S_d, lk1S_new, lk1S_slot, lkSS_own, lkSS_val, rdV_val, rdV_own, isD_d, gOwn_own, gVal_val, bind_ok, bind_stuck, bind_exc, bind_ite, toO_ok, toO_stuck, toO_exc, toO_ite, obind_nx, obind_bk, obind_ct, obind_rt, obind_exc, obind_stuck, obind_ite, of_some, of_ite, oof_some, callK_ok, callK_exc, callK_ite, isLst_lst, compK_ok, compW_nil, setV_eq, setVc_none, setVc_val, setVc_own, setO_eq, setOc_none, setOc_val, setOc_own, setVs_nil, setVs_cons, setT_one, setT_many, setR_d, setR_new, setR_slot, setR_own, setRs_nil, setRs_d, setRs_new, wipe_nil, wipe_cons, unwipe_nil, unwipe_cons, unwC_val, unwC_none, unwC_own, fl_nil, flK_nx, flK_ct, flK_bk, flK_rt, flK_exc, flK_ite, whK_nx, whK_ct, whK_bk, whK_rt, whK_exc, whK_ite, finK_nx, finK_rt, finK_exc, finK_ite, outRV_d, outRV_new, outRV_slot, outS_own, outS_val, outCells_nil, outCells_val, outCells_own, backCells_nil, backCells_0, backCells_s, argCells_nil, argCells_cons, argK_some, arg1_d, arg1_new, arg1_slot, argS_true, argS_home, argS_give, argS_val, List.getElem?_cons_zero, List.getElem?_cons_succ, List.set_cons_zero, List.set_cons_succ, Option.map_some, Option.map_none, GE_phi, GE_fuel, o_addI, o_subI, o_eqI, o_neI, o_eqB, o_neB, o_ltI, o_leI, o_gtI, o_geI, o_ltS, o_leS, o_gtS, o_geS, o_eqS, o_neS, o_isB, t_non, t_bl, t_int, t_str, t_tup, t_lst, ix_L0, ix_T0, ix_T1, ix_T2, ix_T3, ix_T4, ix_Tm, ix_Lm, bi_lenL, bi_lenC, bi_lenT, bi_lenS, bi_tupL, bi_tupT, bi_lstL, bi_lstT, bi_intI, bi_sortL, bi_sortT, s_L, s_T, s_S, s_K, p_non, kn_non, kx_non, kn_str, kx_str, kn_int, kx_int, kn_tup, kx_tup, kn_lst, kx_lst, kn_bl, kx_bl, g_addI, cmp_mem, cmp_nmem, ↓reduceIte, ↓u_node_at_C1c, ↓u_node_at_C1, ↓u_node_at_I1, ↓u_node_at_L1, ↓u_node_at, ↓u_head_of, ↓u_is_met_I1, ↓u_is_met_C1c, ↓u_is_met_C1, ↓u_is_met_I2, ↓u_is_met, ↓u_leaves_below_I1, ↓u_leaves_below_L1, ↓u_leaves_below, ↓u_turns_C1c, ↓u_turns_C1, ↓u_turns_I1, ↓u_turns_I2, ↓u_turns_L1, ↓u_turns, ↓u__law_draws_I1, ↓u__law_draws_I2, ↓u__law_draws_L2, ↓u__law_draws_L1, ↓u__law_draws_L3, ↓u__law_draws, ↓u__law_next_I1, ↓u__law_next, ↓u__law_pick, ↓u__law_is_bit, ↓u__law_words_C1, ↓u__law_words, ↓u__law_label, ↓u__law_key_C1c, ↓u__law_key_C1, ↓u__law_key, ↓u__law_body_L1, ↓u__law_body_C1, ↓u__law_body_L2, ↓u__law_body, ↓u__law_listed_I1, ↓u__law_listed_L1, ↓u__law_listed, ↓u__law_head, ↓u__law_met_I1, ↓u__law_met_C1c, ↓u__law_met_C1, ↓u__law_met_I2, ↓u__law_met, ↓u__law_leaves_I1, ↓u__law_leaves_L1, ↓u__law_leaves, ↓u__law_nodes_C1, ↓u__law_nodes_I1, ↓u__law_nodes_C2, ↓u__law_nodes_L1, ↓u__law_nodes, ↓u_law_C1c, ↓u_law_C1, ↓u_law_I1, ↓u_law_C2c, ↓u_law_C2, ↓u_law_I2, ↓u_law_L3, ↓u_law_I3, ↓u_law_L2, ↓u_law_L1, ↓u_law, GEm_0, GEm_1, GEm_2, GEm_3, GEm_4, GEm_5, GEm_6, GEm_7, GEm_8, GEm_9, GEm_10, GEm_11, GEm_12, GEm_13, GEm_14, GEm_15, GEm_16, GEm_17, GEm_18, GEg_0]
    | cons n r =>
      have hn : n ∈ B := (List.mem_filter.mp (by rw [e]; exact List.mem_cons_self : n ∈ B.filter fun n => n.l == l)).1
      have ih := node_at_L1 k m P0 p (d - 1) n.k (some n) (by cases d with
        | zero => cases ok; cases hn
        | succ d => exact (ok.2.2 n hn).2.2.2) (by omega)
      simp only [List.map_cons, List.isEmpty_cons, Bool.false_eq_true, ↓r_k, ↓r_v, ↓r_g, ↓r_bin, ↓r_cmp, ↓r_chn, ↓r_isK, ↓r_and, ↓r_or, ↓r_not, ↓r_neg, ↓r_ite, ↓r_idx, ↓r_slc, ↓r_rev, ↓r_tup, ↓r_lst, ↓r_dct, ↓r_call, ↓r_bi, ↓r_mt, ↓r_mu, ↓r_comp, ↓r_nil, ↓r_cons, ↓r_asg, ↓r_unp, ↓r_par, ↓r_aug, ↓r_sto, ↓r_aus, ↓r_ex, ↓r_ifs, ↓r_fr, ↓r_wh, ↓r_ret, ↓r_retN, ↓r_brk, ↓r_cnt, ↓r_pas, ↓r_frg, ↓r_rse, ↓r_snil, ↓r_scons, lk1_d, lk1_new, lk1_slot, lkS_own, lkS_val, lks_nil, lks_cons, fz1_d, fz1_new, fz1_slot, fzS_own, fzS_val, fzs_nil, fzs_cons, opt_some, opt_none, cndS_some, optS_some, gOwnS_own, gValS_val, isDS_d, lk1S_d, lk1S_new, lk1S_slot, lkSS_own, lkSS_val, rdV_val, rdV_own, isD_d, gOwn_own, gVal_val, bind_ok, bind_stuck, bind_exc, bind_ite, toO_ok, toO_stuck, toO_exc, toO_ite, obind_nx, obind_bk, obind_ct, obind_rt, obind_exc, obind_stuck, obind_ite, of_some, of_ite, oof_some, callK_ok, callK_exc, callK_ite, isLst_lst, compK_ok, compW_nil, setV_eq, setVc_none, setVc_val, setVc_own, setO_eq, setOc_none, setOc_val, setOc_own, setVs_nil, setVs_cons, setT_one, setT_many, setR_d, setR_new, setR_slot, setR_own, setRs_nil, setRs_d, setRs_new, wipe_nil, wipe_cons, unwipe_nil, unwipe_cons, unwC_val, unwC_none, unwC_own, fl_nil, flK_nx, flK_ct, flK_bk, flK_rt, flK_exc, flK_ite, whK_nx, whK_ct, whK_bk, whK_rt, whK_exc, whK_ite, finK_nx, finK_rt, finK_exc, finK_ite, outRV_d, outRV_new, outRV_slot, outS_own, outS_val, outCells_nil, outCells_val, outCells_own, backCells_nil, backCells_0, backCells_s, argCells_nil, argCells_cons, argK_some, arg1_d, arg1_new, arg1_slot, argS_true, argS_home, argS_give, argS_val, List.getElem?_cons_zero, List.getElem?_cons_succ, List.set_cons_zero, List.set_cons_succ, Option.map_some, Option.map_none, GE_phi, GE_fuel, o_addI, o_subI, o_eqI, o_neI, o_eqB, o_neB, o_ltI, o_leI, o_gtI, o_geI, o_ltS, o_leS, o_gtS, o_geS, o_eqS, o_neS, o_isB, t_non, t_bl, t_int, t_str, t_tup, t_lst, ix_L0, ix_T0, ix_T1, ix_T2, ix_T3, ix_T4, ix_Tm, ix_Lm, bi_lenL, bi_lenC, bi_lenT, bi_lenS, bi_tupL, bi_tupT, bi_lstL, bi_lstT, bi_intI, bi_sortL, bi_sortT, s_L, s_T, s_S, s_K, p_non, kn_non, kx_non, kn_str, kx_str, kn_int, kx_int, kn_tup, kx_tup, kn_lst, kx_lst, kn_bl, kx_bl, g_addI, cmp_mem, cmp_nmem, ↓reduceIte, ↓u_node_at_C1c, ↓u_node_at_C1, ↓u_node_at_I1, ↓u_node_at_L1, ↓u_node_at, ↓u_head_of, ↓u_is_met_I1, ↓u_is_met_C1c, ↓u_is_met_C1, ↓u_is_met_I2, ↓u_is_met, ↓u_leaves_below_I1, ↓u_leaves_below_L1, ↓u_leaves_below, ↓u_turns_C1c, ↓u_turns_C1, ↓u_turns_I1, ↓u_turns_I2, ↓u_turns_L1, ↓u_turns, ↓u__law_draws_I1, ↓u__law_draws_I2, ↓u__law_draws_L2, ↓u__law_draws_L1, ↓u__law_draws_L3, ↓u__law_draws, ↓u__law_next_I1, ↓u__law_next, ↓u__law_pick, ↓u__law_is_bit, ↓u__law_words_C1, ↓u__law_words, ↓u__law_label, ↓u__law_key_C1c, ↓u__law_key_C1, ↓u__law_key, ↓u__law_body_L1, ↓u__law_body_C1, ↓u__law_body_L2, ↓u__law_body, ↓u__law_listed_I1, ↓u__law_listed_L1, ↓u__law_listed, ↓u__law_head, ↓u__law_met_I1, ↓u__law_met_C1c, ↓u__law_met_C1, ↓u__law_met_I2, ↓u__law_met, ↓u__law_leaves_I1, ↓u__law_leaves_L1, ↓u__law_leaves, ↓u__law_nodes_C1, ↓u__law_nodes_I1, ↓u__law_nodes_C2, ↓u__law_nodes_L1, ↓u__law_nodes, ↓u_law_C1c, ↓u_law_C1, ↓u_law_I1, ↓u_law_C2c, ↓u_law_C2, ↓u_law_I2, ↓u_law_L3, ↓u_law_I3, ↓u_law_L2, ↓u_law_L1, ↓u_law, GEm_0, GEm_1, GEm_2, GEm_3, GEm_4, GEm_5, GEm_6, GEm_7, GEm_8, GEm_9, GEm_10, GEm_11, GEm_12, GEm_13, GEm_14, GEm_15, GEm_16, GEm_17, GEm_18, GEg_0, ix_N0, ix_N1, ix_N2, tupB, encO_some] at ih ⊢
      exact ih
theorem node_at_sp (k m d : Nat) (B : List Nd) (p : List St) (ok : okB m d B) (hd : d ≤ 20) {B' : List Nd} {f' : Option Nd} (h : na B none p = some (B', f')) :
    run tab globD 2000 (k + 1) 0 [.val (encB B), .val (encW p)] = .ok (.d (encO f')) [.val (encB B), .val (encW p)] := by
  have := (node_at_L1 k m (encW p) p d B none ok hd).1 B' f' h
  simp only [rn_node_at, ↓r_k, ↓r_v, ↓r_g, ↓r_bin, ↓r_cmp, ↓r_chn, ↓r_isK, ↓r_and, ↓r_or, ↓r_not, ↓r_neg, ↓r_ite, ↓r_idx, ↓r_slc, ↓r_rev, ↓r_tup, ↓r_lst, ↓r_dct, ↓r_call, ↓r_bi, ↓r_mt, ↓r_mu, ↓r_comp, ↓r_nil, ↓r_cons, ↓r_asg, ↓r_unp, ↓r_par, ↓r_aug, ↓r_sto, ↓r_aus, ↓r_ex, ↓r_ifs, ↓r_fr, ↓r_wh, ↓r_ret, ↓r_retN, ↓r_brk, ↓r_cnt, ↓r_pas, ↓r_frg, ↓r_rse, ↓r_snil, ↓r_scons, lk1_d, lk1_new, lk1_slot, lkS_own, lkS_val, lks_nil, lks_cons, fz1_d, fz1_new, fz1_slot, fzS_own, fzS_val, fzs_nil, fzs_cons, opt_some, opt_none, cndS_some, optS_some, gOwnS_own, gValS_val, isDS_d, lk1S_d, lk1S_new, lk1S_slot, lkSS_own, lkSS_val, rdV_val, rdV_own, isD_d, gOwn_own, gVal_val, bind_ok, bind_stuck, bind_exc, bind_ite, toO_ok, toO_stuck, toO_exc, toO_ite, obind_nx, obind_bk, obind_ct, obind_rt, obind_exc, obind_stuck, obind_ite, of_some, of_ite, oof_some, callK_ok, callK_exc, callK_ite, isLst_lst, compK_ok, compW_nil, setV_eq, setVc_none, setVc_val, setVc_own, setO_eq, setOc_none, setOc_val, setOc_own, setVs_nil, setVs_cons, setT_one, setT_many, setR_d, setR_new, setR_slot, setR_own, setRs_nil, setRs_d, setRs_new, wipe_nil, wipe_cons, unwipe_nil, unwipe_cons, unwC_val, unwC_none, unwC_own, fl_nil, flK_nx, flK_ct, flK_bk, flK_rt, flK_exc, flK_ite, whK_nx, whK_ct, whK_bk, whK_rt, whK_exc, whK_ite, finK_nx, finK_rt, finK_exc, finK_ite, outRV_d, outRV_new, outRV_slot, outS_own, outS_val, outCells_nil, outCells_val, outCells_own, backCells_nil, backCells_0, backCells_s, argCells_nil, argCells_cons, argK_some, arg1_d, arg1_new, arg1_slot, argS_true, argS_home, argS_give, argS_val, List.getElem?_cons_zero, List.getElem?_cons_succ, List.set_cons_zero, List.set_cons_succ, Option.map_some, Option.map_none, GE_phi, GE_fuel, o_addI, o_subI, o_eqI, o_neI, o_eqB, o_neB, o_ltI, o_leI, o_gtI, o_geI, o_ltS, o_leS, o_gtS, o_geS, o_eqS, o_neS, o_isB, t_non, t_bl, t_int, t_str, t_tup, t_lst, ix_L0, ix_T0, ix_T1, ix_T2, ix_T3, ix_T4, ix_Tm, ix_Lm, bi_lenL, bi_lenC, bi_lenT, bi_lenS, bi_tupL, bi_tupT, bi_lstL, bi_lstT, bi_intI, bi_sortL, bi_sortT, s_L, s_T, s_S, s_K, p_non, kn_non, kx_non, kn_str, kx_str, kn_int, kx_int, kn_tup, kx_tup, kn_lst, kx_lst, kn_bl, kx_bl, g_addI, cmp_mem, cmp_nmem, ↓reduceIte, ↓u_node_at_C1c, ↓u_node_at_C1, ↓u_node_at_I1, ↓u_node_at_L1, ↓u_node_at, ↓u_head_of, ↓u_is_met_I1, ↓u_is_met_C1c, ↓u_is_met_C1, ↓u_is_met_I2, ↓u_is_met, ↓u_leaves_below_I1, ↓u_leaves_below_L1, ↓u_leaves_below, ↓u_turns_C1c, ↓u_turns_C1, ↓u_turns_I1, ↓u_turns_I2, ↓u_turns_L1, ↓u_turns, ↓u__law_draws_I1, ↓u__law_draws_I2, ↓u__law_draws_L2, ↓u__law_draws_L1, ↓u__law_draws_L3, ↓u__law_draws, ↓u__law_next_I1, ↓u__law_next, ↓u__law_pick, ↓u__law_is_bit, ↓u__law_words_C1, ↓u__law_words, ↓u__law_label, ↓u__law_key_C1c, ↓u__law_key_C1, ↓u__law_key, ↓u__law_body_L1, ↓u__law_body_C1, ↓u__law_body_L2, ↓u__law_body, ↓u__law_listed_I1, ↓u__law_listed_L1, ↓u__law_listed, ↓u__law_head, ↓u__law_met_I1, ↓u__law_met_C1c, ↓u__law_met_C1, ↓u__law_met_I2, ↓u__law_met, ↓u__law_leaves_I1, ↓u__law_leaves_L1, ↓u__law_leaves, ↓u__law_nodes_C1, ↓u__law_nodes_I1, ↓u__law_nodes_C2, ↓u__law_nodes_L1, ↓u__law_nodes, ↓u_law_C1c, ↓u_law_C1, ↓u_law_I1, ↓u_law_C2c, ↓u_law_C2, ↓u_law_I2, ↓u_law_L3, ↓u_law_I3, ↓u_law_L2, ↓u_law_L1, ↓u_law, GEm_0, GEm_1, GEm_2, GEm_3, GEm_4, GEm_5, GEm_6, GEm_7, GEm_8, GEm_9, GEm_10, GEm_11, GEm_12, GEm_13, GEm_14, GEm_15, GEm_16, GEm_17, GEm_18, GEg_0, encW, encO] at this ⊢
  simp only [↓r_k, ↓r_v, ↓r_g, ↓r_bin, ↓r_cmp, ↓r_chn, ↓r_isK, ↓r_and, ↓r_or, ↓r_not, ↓r_neg, ↓r_ite, ↓r_idx, ↓r_slc, ↓r_rev, ↓r_tup, ↓r_lst, ↓r_dct, ↓r_call, ↓r_bi, ↓r_mt, ↓r_mu, ↓r_comp, ↓r_nil, ↓r_cons, ↓r_asg, ↓r_unp, ↓r_par, ↓r_aug, ↓r_sto, ↓r_aus, ↓r_ex, ↓r_ifs, ↓r_fr, ↓r_wh, ↓r_ret, ↓r_retN, ↓r_brk, ↓r_cnt, ↓r_pas, ↓r_frg, ↓r_rse, ↓r_snil, ↓r_scons, lk1_d, lk1_new, lk1_slot, lkS_own, lkS_val, lks_nil, lks_cons, fz1_d, fz1_new, fz1_slot, fzS_own, fzS_val, fzs_nil, fzs_cons, opt_some, opt_none, cndS_some, optS_some, gOwnS_own, gValS_val, isDS_d, lk1S_d, lk1S_new, lk1S_slot, lkSS_own, lkSS_val, rdV_val, rdV_own, isD_d, gOwn_own, gVal_val, bind_ok, bind_stuck, bind_exc, bind_ite, toO_ok, toO_stuck, toO_exc, toO_ite, obind_nx, obind_bk, obind_ct, obind_rt, obind_exc, obind_stuck, obind_ite, of_some, of_ite, oof_some, callK_ok, callK_exc, callK_ite, isLst_lst, compK_ok, compW_nil, setV_eq, setVc_none, setVc_val, setVc_own, setO_eq, setOc_none, setOc_val, setOc_own, setVs_nil, setVs_cons, setT_one, setT_many, setR_d, setR_new, setR_slot, setR_own, setRs_nil, setRs_d, setRs_new, wipe_nil, wipe_cons, unwipe_nil, unwipe_cons, unwC_val, unwC_none, unwC_own, fl_nil, flK_nx, flK_ct, flK_bk, flK_rt, flK_exc, flK_ite, whK_nx, whK_ct, whK_bk, whK_rt, whK_exc, whK_ite, finK_nx, finK_rt, finK_exc, finK_ite, outRV_d, outRV_new, outRV_slot, outS_own, outS_val, outCells_nil, outCells_val, outCells_own, backCells_nil, backCells_0, backCells_s, argCells_nil, argCells_cons, argK_some, arg1_d, arg1_new, arg1_slot, argS_true, argS_home, argS_give, argS_val, List.getElem?_cons_zero, List.getElem?_cons_succ, List.set_cons_zero, List.set_cons_succ, Option.map_some, Option.map_none, GE_phi, GE_fuel, o_addI, o_subI, o_eqI, o_neI, o_eqB, o_neB, o_ltI, o_leI, o_gtI, o_geI, o_ltS, o_leS, o_gtS, o_geS, o_eqS, o_neS, o_isB, t_non, t_bl, t_int, t_str, t_tup, t_lst, ix_L0, ix_T0, ix_T1, ix_T2, ix_T3, ix_T4, ix_Tm, ix_Lm, bi_lenL, bi_lenC, bi_lenT, bi_lenS, bi_tupL, bi_tupT, bi_lstL, bi_lstT, bi_intI, bi_sortL, bi_sortT, s_L, s_T, s_S, s_K, p_non, kn_non, kx_non, kn_str, kx_str, kn_int, kx_int, kn_tup, kx_tup, kn_lst, kx_lst, kn_bl, kx_bl, g_addI, cmp_mem, cmp_nmem, ↓reduceIte, ↓u_node_at_C1c, ↓u_node_at_C1, ↓u_node_at_I1, ↓u_node_at_L1, ↓u_node_at, ↓u_head_of, ↓u_is_met_I1, ↓u_is_met_C1c, ↓u_is_met_C1, ↓u_is_met_I2, ↓u_is_met, ↓u_leaves_below_I1, ↓u_leaves_below_L1, ↓u_leaves_below, ↓u_turns_C1c, ↓u_turns_C1, ↓u_turns_I1, ↓u_turns_I2, ↓u_turns_L1, ↓u_turns, ↓u__law_draws_I1, ↓u__law_draws_I2, ↓u__law_draws_L2, ↓u__law_draws_L1, ↓u__law_draws_L3, ↓u__law_draws, ↓u__law_next_I1, ↓u__law_next, ↓u__law_pick, ↓u__law_is_bit, ↓u__law_words_C1, ↓u__law_words, ↓u__law_label, ↓u__law_key_C1c, ↓u__law_key_C1, ↓u__law_key, ↓u__law_body_L1, ↓u__law_body_C1, ↓u__law_body_L2, ↓u__law_body, ↓u__law_listed_I1, ↓u__law_listed_L1, ↓u__law_listed, ↓u__law_head, ↓u__law_met_I1, ↓u__law_met_C1c, ↓u__law_met_C1, ↓u__law_met_I2, ↓u__law_met, ↓u__law_leaves_I1, ↓u__law_leaves_L1, ↓u__law_leaves, ↓u__law_nodes_C1, ↓u__law_nodes_I1, ↓u__law_nodes_C2, ↓u__law_nodes_L1, ↓u__law_nodes, ↓u_law_C1c, ↓u_law_C1, ↓u_law_I1, ↓u_law_C2c, ↓u_law_C2, ↓u_law_I2, ↓u_law_L3, ↓u_law_I3, ↓u_law_L2, ↓u_law_L1, ↓u_law, GEm_0, GEm_1, GEm_2, GEm_3, GEm_4, GEm_5, GEm_6, GEm_7, GEm_8, GEm_9, GEm_10, GEm_11, GEm_12, GEm_13, GEm_14, GEm_15, GEm_16, GEm_17, GEm_18, GEg_0, this]

/-! k75: heads, met, leaves -/
def hAll : St := [97, 108, 108]
def hOne : St := [111, 110, 101]
def hTwo : St := [116, 119, 111]
def hNone : St := [110, 111, 110, 101]
def HD : List St := [hAll, hOne, hTwo, hNone]
def hdW : List St → Option St
  | [] => none
  | x :: _ => if x ∈ HD then some x else none
def encS : Option St → D
  | none => .non
  | some s => .str s
theorem memHD (x : St) : memD (.str x) (.tup [.str [97, 108, 108], .str [111, 110, 101], .str [116, 119, 111], .str [110, 111, 110, 101]]) = some (decide (x ∈ HD)) := (cStr.memT (by decide) x HD).trans (by congr)
theorem isN_S (o : Option St) : isKD false .non (encS o) = some o.isNone := by cases o <;> rfl
theorem slcW1 (w : List St) : slcD (encW w) none (some 1) = some (.d (encW (w.take 1))) := by
  simp only [slcD, encW, cut_to1, List.map_take]
theorem neW0 (w : List St) : cmpD .ne (encW w) (.tup []) = some (!w.isEmpty) := by
  rw [show (D.tup []) = encW [] from rfl, neW]; cases w <;> simp
theorem ixW0 (x : St) (w : List St) : idxD (encW (x :: w)) (.int 0) = some (.str x) := by simp only [encW, ix_T0]; rfl
theorem head_of_sp (k : Nat) (n : Nd) : run tab globD 2000 (k + 1) 1 [.val (encN n)] = .ok (.d (encS (hdW n.w))) [.val (encN n)] := by
  cases h : n.w with
  | nil => simp [rn_head_of, ↓r_k, ↓r_v, ↓r_g, ↓r_bin, ↓r_cmp, ↓r_chn, ↓r_isK, ↓r_and, ↓r_or, ↓r_not, ↓r_neg, ↓r_ite, ↓r_idx, ↓r_slc, ↓r_rev, ↓r_tup, ↓r_lst, ↓r_dct, ↓r_call, ↓r_bi, ↓r_mt, ↓r_mu, ↓r_comp, ↓r_nil, ↓r_cons, ↓r_asg, ↓r_unp, ↓r_par, ↓r_aug, ↓r_sto, ↓r_aus, ↓r_ex, ↓r_ifs, ↓r_fr, ↓r_wh, ↓r_ret, ↓r_retN, ↓r_brk, ↓r_cnt, ↓r_pas, ↓r_frg, ↓r_rse, ↓r_snil, ↓r_scons, lk1_d, lk1_new, lk1_slot, lkS_own, lkS_val, lks_nil, lks_cons, fz1_d, fz1_new, fz1_slot, fzS_own, fzS_val, fzs_nil, fzs_cons, opt_some, opt_none, cndS_some, optS_some, gOwnS_own, gValS_val, isDS_d, lk1S_d, lk1S_new, lk1S_slot, lkSS_own, lkSS_val, rdV_val, rdV_own, isD_d, gOwn_own, gVal_val, bind_ok, bind_stuck, bind_exc, bind_ite, toO_ok, toO_stuck, toO_exc, toO_ite, obind_nx, obind_bk, obind_ct, obind_rt, obind_exc, obind_stuck, obind_ite, of_some, of_ite, oof_some, callK_ok, callK_exc, callK_ite, isLst_lst, compK_ok, compW_nil, setV_eq, setVc_none, setVc_val, setVc_own, setO_eq, setOc_none, setOc_val, setOc_own, setVs_nil, setVs_cons, setT_one, setT_many, setR_d, setR_new, setR_slot, setR_own, setRs_nil, setRs_d, setRs_new, wipe_nil, wipe_cons, unwipe_nil, unwipe_cons, unwC_val, unwC_none, unwC_own, fl_nil, flK_nx, flK_ct, flK_bk, flK_rt, flK_exc, flK_ite, whK_nx, whK_ct, whK_bk, whK_rt, whK_exc, whK_ite, finK_nx, finK_rt, finK_exc, finK_ite, outRV_d, outRV_new, outRV_slot, outS_own, outS_val, outCells_nil, outCells_val, outCells_own, backCells_nil, backCells_0, backCells_s, argCells_nil, argCells_cons, argK_some, arg1_d, arg1_new, arg1_slot, argS_true, argS_home, argS_give, argS_val, List.getElem?_cons_zero, List.getElem?_cons_succ, List.set_cons_zero, List.set_cons_succ, Option.map_some, Option.map_none, GE_phi, GE_fuel, o_addI, o_subI, o_eqI, o_neI, o_eqB, o_neB, o_ltI, o_leI, o_gtI, o_geI, o_ltS, o_leS, o_gtS, o_geS, o_eqS, o_neS, o_isB, t_non, t_bl, t_int, t_str, t_tup, t_lst, ix_L0, ix_T0, ix_T1, ix_T2, ix_T3, ix_T4, ix_Tm, ix_Lm, bi_lenL, bi_lenC, bi_lenT, bi_lenS, bi_tupL, bi_tupT, bi_lstL, bi_lstT, bi_intI, bi_sortL, bi_sortT, s_L, s_T, s_S, s_K, p_non, kn_non, kx_non, kn_str, kx_str, kn_int, kx_int, kn_tup, kx_tup, kn_lst, kx_lst, kn_bl, kx_bl, g_addI, cmp_mem, cmp_nmem, ↓reduceIte, ↓u_node_at_C1c, ↓u_node_at_C1, ↓u_node_at_I1, ↓u_node_at_L1, ↓u_node_at, ↓u_head_of, ↓u_is_met_I1, ↓u_is_met_C1c, ↓u_is_met_C1, ↓u_is_met_I2, ↓u_is_met, ↓u_leaves_below_I1, ↓u_leaves_below_L1, ↓u_leaves_below, ↓u_turns_C1c, ↓u_turns_C1, ↓u_turns_I1, ↓u_turns_I2, ↓u_turns_L1, ↓u_turns, ↓u__law_draws_I1, ↓u__law_draws_I2, ↓u__law_draws_L2, ↓u__law_draws_L1, ↓u__law_draws_L3, ↓u__law_draws, ↓u__law_next_I1, ↓u__law_next, ↓u__law_pick, ↓u__law_is_bit, ↓u__law_words_C1, ↓u__law_words, ↓u__law_label, ↓u__law_key_C1c, ↓u__law_key_C1, ↓u__law_key, ↓u__law_body_L1, ↓u__law_body_C1, ↓u__law_body_L2, ↓u__law_body, ↓u__law_listed_I1, ↓u__law_listed_L1, ↓u__law_listed, ↓u__law_head, ↓u__law_met_I1, ↓u__law_met_C1c, ↓u__law_met_C1, ↓u__law_met_I2, ↓u__law_met, ↓u__law_leaves_I1, ↓u__law_leaves_L1, ↓u__law_leaves, ↓u__law_nodes_C1, ↓u__law_nodes_I1, ↓u__law_nodes_C2, ↓u__law_nodes_L1, ↓u__law_nodes, ↓u_law_C1c, ↓u_law_C1, ↓u_law_I1, ↓u_law_C2c, ↓u_law_C2, ↓u_law_I2, ↓u_law_L3, ↓u_law_I3, ↓u_law_L2, ↓u_law_L1, ↓u_law, GEm_0, GEm_1, GEm_2, GEm_3, GEm_4, GEm_5, GEm_6, GEm_7, GEm_8, GEm_9, GEm_10, GEm_11, GEm_12, GEm_13, GEm_14, GEm_15, GEm_16, GEm_17, GEm_18, GEg_0, ix_N0, ix_N1, ix_N2, srcB, bi_lenB, eqW, neW, memPs, memLPs, eqPs, nePs, setT_N, h, hdW, encS, p_int (.k (.int 1)) 1 rfl, slcW1, neW0]
  | cons x w =>
    by_cases m : x ∈ HD <;> simp [rn_head_of, ↓r_k, ↓r_v, ↓r_g, ↓r_bin, ↓r_cmp, ↓r_chn, ↓r_isK, ↓r_and, ↓r_or, ↓r_not, ↓r_neg, ↓r_ite, ↓r_idx, ↓r_slc, ↓r_rev, ↓r_tup, ↓r_lst, ↓r_dct, ↓r_call, ↓r_bi, ↓r_mt, ↓r_mu, ↓r_comp, ↓r_nil, ↓r_cons, ↓r_asg, ↓r_unp, ↓r_par, ↓r_aug, ↓r_sto, ↓r_aus, ↓r_ex, ↓r_ifs, ↓r_fr, ↓r_wh, ↓r_ret, ↓r_retN, ↓r_brk, ↓r_cnt, ↓r_pas, ↓r_frg, ↓r_rse, ↓r_snil, ↓r_scons, lk1_d, lk1_new, lk1_slot, lkS_own, lkS_val, lks_nil, lks_cons, fz1_d, fz1_new, fz1_slot, fzS_own, fzS_val, fzs_nil, fzs_cons, opt_some, opt_none, cndS_some, optS_some, gOwnS_own, gValS_val, isDS_d, lk1S_d, lk1S_new, lk1S_slot, lkSS_own, lkSS_val, rdV_val, rdV_own, isD_d, gOwn_own, gVal_val, bind_ok, bind_stuck, bind_exc, bind_ite, toO_ok, toO_stuck, toO_exc, toO_ite, obind_nx, obind_bk, obind_ct, obind_rt, obind_exc, obind_stuck, obind_ite, of_some, of_ite, oof_some, callK_ok, callK_exc, callK_ite, isLst_lst, compK_ok, compW_nil, setV_eq, setVc_none, setVc_val, setVc_own, setO_eq, setOc_none, setOc_val, setOc_own, setVs_nil, setVs_cons, setT_one, setT_many, setR_d, setR_new, setR_slot, setR_own, setRs_nil, setRs_d, setRs_new, wipe_nil, wipe_cons, unwipe_nil, unwipe_cons, unwC_val, unwC_none, unwC_own, fl_nil, flK_nx, flK_ct, flK_bk, flK_rt, flK_exc, flK_ite, whK_nx, whK_ct, whK_bk, whK_rt, whK_exc, whK_ite, finK_nx, finK_rt, finK_exc, finK_ite, outRV_d, outRV_new, outRV_slot, outS_own, outS_val, outCells_nil, outCells_val, outCells_own, backCells_nil, backCells_0, backCells_s, argCells_nil, argCells_cons, argK_some, arg1_d, arg1_new, arg1_slot, argS_true, argS_home, argS_give, argS_val, List.getElem?_cons_zero, List.getElem?_cons_succ, List.set_cons_zero, List.set_cons_succ, Option.map_some, Option.map_none, GE_phi, GE_fuel, o_addI, o_subI, o_eqI, o_neI, o_eqB, o_neB, o_ltI, o_leI, o_gtI, o_geI, o_ltS, o_leS, o_gtS, o_geS, o_eqS, o_neS, o_isB, t_non, t_bl, t_int, t_str, t_tup, t_lst, ix_L0, ix_T0, ix_T1, ix_T2, ix_T3, ix_T4, ix_Tm, ix_Lm, bi_lenL, bi_lenC, bi_lenT, bi_lenS, bi_tupL, bi_tupT, bi_lstL, bi_lstT, bi_intI, bi_sortL, bi_sortT, s_L, s_T, s_S, s_K, p_non, kn_non, kx_non, kn_str, kx_str, kn_int, kx_int, kn_tup, kx_tup, kn_lst, kx_lst, kn_bl, kx_bl, g_addI, cmp_mem, cmp_nmem, ↓reduceIte, ↓u_node_at_C1c, ↓u_node_at_C1, ↓u_node_at_I1, ↓u_node_at_L1, ↓u_node_at, ↓u_head_of, ↓u_is_met_I1, ↓u_is_met_C1c, ↓u_is_met_C1, ↓u_is_met_I2, ↓u_is_met, ↓u_leaves_below_I1, ↓u_leaves_below_L1, ↓u_leaves_below, ↓u_turns_C1c, ↓u_turns_C1, ↓u_turns_I1, ↓u_turns_I2, ↓u_turns_L1, ↓u_turns, ↓u__law_draws_I1, ↓u__law_draws_I2, ↓u__law_draws_L2, ↓u__law_draws_L1, ↓u__law_draws_L3, ↓u__law_draws, ↓u__law_next_I1, ↓u__law_next, ↓u__law_pick, ↓u__law_is_bit, ↓u__law_words_C1, ↓u__law_words, ↓u__law_label, ↓u__law_key_C1c, ↓u__law_key_C1, ↓u__law_key, ↓u__law_body_L1, ↓u__law_body_C1, ↓u__law_body_L2, ↓u__law_body, ↓u__law_listed_I1, ↓u__law_listed_L1, ↓u__law_listed, ↓u__law_head, ↓u__law_met_I1, ↓u__law_met_C1c, ↓u__law_met_C1, ↓u__law_met_I2, ↓u__law_met, ↓u__law_leaves_I1, ↓u__law_leaves_L1, ↓u__law_leaves, ↓u__law_nodes_C1, ↓u__law_nodes_I1, ↓u__law_nodes_C2, ↓u__law_nodes_L1, ↓u__law_nodes, ↓u_law_C1c, ↓u_law_C1, ↓u_law_I1, ↓u_law_C2c, ↓u_law_C2, ↓u_law_I2, ↓u_law_L3, ↓u_law_I3, ↓u_law_L2, ↓u_law_L1, ↓u_law, GEm_0, GEm_1, GEm_2, GEm_3, GEm_4, GEm_5, GEm_6, GEm_7, GEm_8, GEm_9, GEm_10, GEm_11, GEm_12, GEm_13, GEm_14, GEm_15, GEm_16, GEm_17, GEm_18, GEg_0, ix_N0, ix_N1, ix_N2, srcB, bi_lenB, eqW, neW, memPs, memLPs, eqPs, nePs, setT_N, h, hdW, m, encS, p_int (.k (.int 1)) 1 rfl, slcW1, neW0, ixW0, memHD]
theorem law_head_sp (k : Nat) (n : Nd) : run tab globD 2000 (k + 1) 14 [.val (encN n)] = .ok (.d (encS (hdW n.w))) [.val (encN n)] := by
  cases h : n.w with
  | nil => simp [rn__law_head, ↓r_k, ↓r_v, ↓r_g, ↓r_bin, ↓r_cmp, ↓r_chn, ↓r_isK, ↓r_and, ↓r_or, ↓r_not, ↓r_neg, ↓r_ite, ↓r_idx, ↓r_slc, ↓r_rev, ↓r_tup, ↓r_lst, ↓r_dct, ↓r_call, ↓r_bi, ↓r_mt, ↓r_mu, ↓r_comp, ↓r_nil, ↓r_cons, ↓r_asg, ↓r_unp, ↓r_par, ↓r_aug, ↓r_sto, ↓r_aus, ↓r_ex, ↓r_ifs, ↓r_fr, ↓r_wh, ↓r_ret, ↓r_retN, ↓r_brk, ↓r_cnt, ↓r_pas, ↓r_frg, ↓r_rse, ↓r_snil, ↓r_scons, lk1_d, lk1_new, lk1_slot, lkS_own, lkS_val, lks_nil, lks_cons, fz1_d, fz1_new, fz1_slot, fzS_own, fzS_val, fzs_nil, fzs_cons, opt_some, opt_none, cndS_some, optS_some, gOwnS_own, gValS_val, isDS_d, lk1S_d, lk1S_new, lk1S_slot, lkSS_own, lkSS_val, rdV_val, rdV_own, isD_d, gOwn_own, gVal_val, bind_ok, bind_stuck, bind_exc, bind_ite, toO_ok, toO_stuck, toO_exc, toO_ite, obind_nx, obind_bk, obind_ct, obind_rt, obind_exc, obind_stuck, obind_ite, of_some, of_ite, oof_some, callK_ok, callK_exc, callK_ite, isLst_lst, compK_ok, compW_nil, setV_eq, setVc_none, setVc_val, setVc_own, setO_eq, setOc_none, setOc_val, setOc_own, setVs_nil, setVs_cons, setT_one, setT_many, setR_d, setR_new, setR_slot, setR_own, setRs_nil, setRs_d, setRs_new, wipe_nil, wipe_cons, unwipe_nil, unwipe_cons, unwC_val, unwC_none, unwC_own, fl_nil, flK_nx, flK_ct, flK_bk, flK_rt, flK_exc, flK_ite, whK_nx, whK_ct, whK_bk, whK_rt, whK_exc, whK_ite, finK_nx, finK_rt, finK_exc, finK_ite, outRV_d, outRV_new, outRV_slot, outS_own, outS_val, outCells_nil, outCells_val, outCells_own, backCells_nil, backCells_0, backCells_s, argCells_nil, argCells_cons, argK_some, arg1_d, arg1_new, arg1_slot, argS_true, argS_home, argS_give, argS_val, List.getElem?_cons_zero, List.getElem?_cons_succ, List.set_cons_zero, List.set_cons_succ, Option.map_some, Option.map_none, GE_phi, GE_fuel, o_addI, o_subI, o_eqI, o_neI, o_eqB, o_neB, o_ltI, o_leI, o_gtI, o_geI, o_ltS, o_leS, o_gtS, o_geS, o_eqS, o_neS, o_isB, t_non, t_bl, t_int, t_str, t_tup, t_lst, ix_L0, ix_T0, ix_T1, ix_T2, ix_T3, ix_T4, ix_Tm, ix_Lm, bi_lenL, bi_lenC, bi_lenT, bi_lenS, bi_tupL, bi_tupT, bi_lstL, bi_lstT, bi_intI, bi_sortL, bi_sortT, s_L, s_T, s_S, s_K, p_non, kn_non, kx_non, kn_str, kx_str, kn_int, kx_int, kn_tup, kx_tup, kn_lst, kx_lst, kn_bl, kx_bl, g_addI, cmp_mem, cmp_nmem, ↓reduceIte, ↓u_node_at_C1c, ↓u_node_at_C1, ↓u_node_at_I1, ↓u_node_at_L1, ↓u_node_at, ↓u_head_of, ↓u_is_met_I1, ↓u_is_met_C1c, ↓u_is_met_C1, ↓u_is_met_I2, ↓u_is_met, ↓u_leaves_below_I1, ↓u_leaves_below_L1, ↓u_leaves_below, ↓u_turns_C1c, ↓u_turns_C1, ↓u_turns_I1, ↓u_turns_I2, ↓u_turns_L1, ↓u_turns, ↓u__law_draws_I1, ↓u__law_draws_I2, ↓u__law_draws_L2, ↓u__law_draws_L1, ↓u__law_draws_L3, ↓u__law_draws, ↓u__law_next_I1, ↓u__law_next, ↓u__law_pick, ↓u__law_is_bit, ↓u__law_words_C1, ↓u__law_words, ↓u__law_label, ↓u__law_key_C1c, ↓u__law_key_C1, ↓u__law_key, ↓u__law_body_L1, ↓u__law_body_C1, ↓u__law_body_L2, ↓u__law_body, ↓u__law_listed_I1, ↓u__law_listed_L1, ↓u__law_listed, ↓u__law_head, ↓u__law_met_I1, ↓u__law_met_C1c, ↓u__law_met_C1, ↓u__law_met_I2, ↓u__law_met, ↓u__law_leaves_I1, ↓u__law_leaves_L1, ↓u__law_leaves, ↓u__law_nodes_C1, ↓u__law_nodes_I1, ↓u__law_nodes_C2, ↓u__law_nodes_L1, ↓u__law_nodes, ↓u_law_C1c, ↓u_law_C1, ↓u_law_I1, ↓u_law_C2c, ↓u_law_C2, ↓u_law_I2, ↓u_law_L3, ↓u_law_I3, ↓u_law_L2, ↓u_law_L1, ↓u_law, GEm_0, GEm_1, GEm_2, GEm_3, GEm_4, GEm_5, GEm_6, GEm_7, GEm_8, GEm_9, GEm_10, GEm_11, GEm_12, GEm_13, GEm_14, GEm_15, GEm_16, GEm_17, GEm_18, GEg_0, ix_N0, ix_N1, ix_N2, srcB, bi_lenB, eqW, neW, memPs, memLPs, eqPs, nePs, setT_N, h, hdW, encS, neW0]
  | cons x w =>
    by_cases m : x ∈ HD <;> simp [rn__law_head, ↓r_k, ↓r_v, ↓r_g, ↓r_bin, ↓r_cmp, ↓r_chn, ↓r_isK, ↓r_and, ↓r_or, ↓r_not, ↓r_neg, ↓r_ite, ↓r_idx, ↓r_slc, ↓r_rev, ↓r_tup, ↓r_lst, ↓r_dct, ↓r_call, ↓r_bi, ↓r_mt, ↓r_mu, ↓r_comp, ↓r_nil, ↓r_cons, ↓r_asg, ↓r_unp, ↓r_par, ↓r_aug, ↓r_sto, ↓r_aus, ↓r_ex, ↓r_ifs, ↓r_fr, ↓r_wh, ↓r_ret, ↓r_retN, ↓r_brk, ↓r_cnt, ↓r_pas, ↓r_frg, ↓r_rse, ↓r_snil, ↓r_scons, lk1_d, lk1_new, lk1_slot, lkS_own, lkS_val, lks_nil, lks_cons, fz1_d, fz1_new, fz1_slot, fzS_own, fzS_val, fzs_nil, fzs_cons, opt_some, opt_none, cndS_some, optS_some, gOwnS_own, gValS_val, isDS_d, lk1S_d, lk1S_new, lk1S_slot, lkSS_own, lkSS_val, rdV_val, rdV_own, isD_d, gOwn_own, gVal_val, bind_ok, bind_stuck, bind_exc, bind_ite, toO_ok, toO_stuck, toO_exc, toO_ite, obind_nx, obind_bk, obind_ct, obind_rt, obind_exc, obind_stuck, obind_ite, of_some, of_ite, oof_some, callK_ok, callK_exc, callK_ite, isLst_lst, compK_ok, compW_nil, setV_eq, setVc_none, setVc_val, setVc_own, setO_eq, setOc_none, setOc_val, setOc_own, setVs_nil, setVs_cons, setT_one, setT_many, setR_d, setR_new, setR_slot, setR_own, setRs_nil, setRs_d, setRs_new, wipe_nil, wipe_cons, unwipe_nil, unwipe_cons, unwC_val, unwC_none, unwC_own, fl_nil, flK_nx, flK_ct, flK_bk, flK_rt, flK_exc, flK_ite, whK_nx, whK_ct, whK_bk, whK_rt, whK_exc, whK_ite, finK_nx, finK_rt, finK_exc, finK_ite, outRV_d, outRV_new, outRV_slot, outS_own, outS_val, outCells_nil, outCells_val, outCells_own, backCells_nil, backCells_0, backCells_s, argCells_nil, argCells_cons, argK_some, arg1_d, arg1_new, arg1_slot, argS_true, argS_home, argS_give, argS_val, List.getElem?_cons_zero, List.getElem?_cons_succ, List.set_cons_zero, List.set_cons_succ, Option.map_some, Option.map_none, GE_phi, GE_fuel, o_addI, o_subI, o_eqI, o_neI, o_eqB, o_neB, o_ltI, o_leI, o_gtI, o_geI, o_ltS, o_leS, o_gtS, o_geS, o_eqS, o_neS, o_isB, t_non, t_bl, t_int, t_str, t_tup, t_lst, ix_L0, ix_T0, ix_T1, ix_T2, ix_T3, ix_T4, ix_Tm, ix_Lm, bi_lenL, bi_lenC, bi_lenT, bi_lenS, bi_tupL, bi_tupT, bi_lstL, bi_lstT, bi_intI, bi_sortL, bi_sortT, s_L, s_T, s_S, s_K, p_non, kn_non, kx_non, kn_str, kx_str, kn_int, kx_int, kn_tup, kx_tup, kn_lst, kx_lst, kn_bl, kx_bl, g_addI, cmp_mem, cmp_nmem, ↓reduceIte, ↓u_node_at_C1c, ↓u_node_at_C1, ↓u_node_at_I1, ↓u_node_at_L1, ↓u_node_at, ↓u_head_of, ↓u_is_met_I1, ↓u_is_met_C1c, ↓u_is_met_C1, ↓u_is_met_I2, ↓u_is_met, ↓u_leaves_below_I1, ↓u_leaves_below_L1, ↓u_leaves_below, ↓u_turns_C1c, ↓u_turns_C1, ↓u_turns_I1, ↓u_turns_I2, ↓u_turns_L1, ↓u_turns, ↓u__law_draws_I1, ↓u__law_draws_I2, ↓u__law_draws_L2, ↓u__law_draws_L1, ↓u__law_draws_L3, ↓u__law_draws, ↓u__law_next_I1, ↓u__law_next, ↓u__law_pick, ↓u__law_is_bit, ↓u__law_words_C1, ↓u__law_words, ↓u__law_label, ↓u__law_key_C1c, ↓u__law_key_C1, ↓u__law_key, ↓u__law_body_L1, ↓u__law_body_C1, ↓u__law_body_L2, ↓u__law_body, ↓u__law_listed_I1, ↓u__law_listed_L1, ↓u__law_listed, ↓u__law_head, ↓u__law_met_I1, ↓u__law_met_C1c, ↓u__law_met_C1, ↓u__law_met_I2, ↓u__law_met, ↓u__law_leaves_I1, ↓u__law_leaves_L1, ↓u__law_leaves, ↓u__law_nodes_C1, ↓u__law_nodes_I1, ↓u__law_nodes_C2, ↓u__law_nodes_L1, ↓u__law_nodes, ↓u_law_C1c, ↓u_law_C1, ↓u_law_I1, ↓u_law_C2c, ↓u_law_C2, ↓u_law_I2, ↓u_law_L3, ↓u_law_I3, ↓u_law_L2, ↓u_law_L1, ↓u_law, GEm_0, GEm_1, GEm_2, GEm_3, GEm_4, GEm_5, GEm_6, GEm_7, GEm_8, GEm_9, GEm_10, GEm_11, GEm_12, GEm_13, GEm_14, GEm_15, GEm_16, GEm_17, GEm_18, GEg_0, ix_N0, ix_N1, ix_N2, srcB, bi_lenB, eqW, neW, memPs, memLPs, eqPs, nePs, setT_N, h, hdW, m, encS, neW0, ixW0, memHD]
theorem hdW_mem {w : List St} {h : St} (e : hdW w = some h) : h = hAll ∨ h = hOne ∨ h = hTwo ∨ h = hNone := by
  cases w with
  | nil => cases e
  | cons x w =>
    simp only [hdW] at e
    split at e
    · cases e; rename_i m; simpa [HD] using m
    · cases e
def met : Nat → Nd → List St → List (List St) → Bool
  | 0, _, p, F => decide (p ∈ F)
  | d + 1, n, p, F => match hdW n.w with
    | none => decide (p ∈ F)
    | some h =>
      let c := (n.k.filter fun kid => met d kid (p ++ [kid.l]) F).length
      if h = hAll then decide (c = n.k.length) else if h = hNone then decide (c = 0) else decide ((if h = hOne then 1 else 2) ≤ c)
theorem natI (a b : Nat) : decide ((a : Int) = (b : Int)) = decide (a = b) := by
  by_cases h : a = b
  · simp [h]
  · have : ¬ (a : Int) = b := by omega
    simp [h, this]
theorem is_met_sp (m d0 : Nat) (hd0 : d0 ≤ 20) (B : List Nd) (okb : okB m d0 B) (F : List (List St)) : ∀ (d k : Nat) (n : Nd) (p : List St), okB m d n.k → d ≤ 20 → p.length + d ≤ 100 → na B none p = some (n.k, some n) →
    run tab globD 2000 (k + d + 2) 2 [.val (encB B), .val (encW p), .val (encPs F)] = .ok (.d (.bl (met (d + 1) n p F))) [.val (encB B), .val (encW p), .val (encPs F)] := by
  intro d
  induction d with
  | zero =>
    intro k n p ok _ hp hn
    have hk : n.k = [] := ok
    have hs := node_at_sp k m d0 B p okb hd0 hn
    cases e : hdW n.w with
    | none => simp only [rn_is_met, ↓r_k, ↓r_v, ↓r_g, ↓r_bin, ↓r_cmp, ↓r_chn, ↓r_isK, ↓r_and, ↓r_or, ↓r_not, ↓r_neg, ↓r_ite, ↓r_idx, ↓r_slc, ↓r_rev, ↓r_tup, ↓r_lst, ↓r_dct, ↓r_call, ↓r_bi, ↓r_mt, ↓r_mu, ↓r_comp, ↓r_nil, ↓r_cons, ↓r_asg, ↓r_unp, ↓r_par, ↓r_aug, ↓r_sto, ↓r_aus, ↓r_ex, ↓r_ifs, ↓r_fr, ↓r_wh, ↓r_ret, ↓r_retN, ↓r_brk, ↓r_cnt, ↓r_pas, ↓r_frg, ↓r_rse, ↓r_snil, ↓r_scons, lk1_d, lk1_new, lk1_slot, lkS_own, lkS_val, lks_nil, lks_cons, fz1_d, fz1_new, fz1_slot, fzS_own, fzS_val, fzs_nil, fzs_cons, opt_some, opt_none, cndS_some, optS_some, gOwnS_own, gValS_val, isDS_d, lk1S_d, lk1S_new, lk1S_slot, lkSS_own, lkSS_val, rdV_val, rdV_own, isD_d, gOwn_own, gVal_val, bind_ok, bind_stuck, bind_exc, bind_ite, toO_ok, toO_stuck, toO_exc, toO_ite, obind_nx, obind_bk, obind_ct, obind_rt, obind_exc, obind_stuck, obind_ite, of_some, of_ite, oof_some, callK_ok, callK_exc, callK_ite, isLst_lst, compK_ok, compW_nil, setV_eq, setVc_none, setVc_val, setVc_own, setO_eq, setOc_none, setOc_val, setOc_own, setVs_nil, setVs_cons, setT_one, setT_many, setR_d, setR_new, setR_slot, setR_own, setRs_nil, setRs_d, setRs_new, wipe_nil, wipe_cons, unwipe_nil, unwipe_cons, unwC_val, unwC_none, unwC_own, fl_nil, flK_nx, flK_ct, flK_bk, flK_rt, flK_exc, flK_ite, whK_nx, whK_ct, whK_bk, whK_rt, whK_exc, whK_ite, finK_nx, finK_rt, finK_exc, finK_ite, outRV_d, outRV_new, outRV_slot, outS_own, outS_val, outCells_nil, outCells_val, outCells_own, backCells_nil, backCells_0, backCells_s, argCells_nil, argCells_cons, argK_some, arg1_d, arg1_new, arg1_slot, argS_true, argS_home, argS_give, argS_val, List.getElem?_cons_zero, List.getElem?_cons_succ, List.set_cons_zero, List.set_cons_succ, Option.map_some, Option.map_none, GE_phi, GE_fuel, o_addI, o_subI, o_eqI, o_neI, o_eqB, o_neB, o_ltI, o_leI, o_gtI, o_geI, o_ltS, o_leS, o_gtS, o_geS, o_eqS, o_neS, o_isB, t_non, t_bl, t_int, t_str, t_tup, t_lst, ix_L0, ix_T0, ix_T1, ix_T2, ix_T3, ix_T4, ix_Tm, ix_Lm, bi_lenL, bi_lenC, bi_lenT, bi_lenS, bi_tupL, bi_tupT, bi_lstL, bi_lstT, bi_intI, bi_sortL, bi_sortT, s_L, s_T, s_S, s_K, p_non, kn_non, kx_non, kn_str, kx_str, kn_int, kx_int, kn_tup, kx_tup, kn_lst, kx_lst, kn_bl, kx_bl, g_addI, cmp_mem, cmp_nmem, ↓reduceIte, ↓u_node_at_C1c, ↓u_node_at_C1, ↓u_node_at_I1, ↓u_node_at_L1, ↓u_node_at, ↓u_head_of, ↓u_is_met_I1, ↓u_is_met_C1c, ↓u_is_met_C1, ↓u_is_met_I2, ↓u_is_met, ↓u_leaves_below_I1, ↓u_leaves_below_L1, ↓u_leaves_below, ↓u_turns_C1c, ↓u_turns_C1, ↓u_turns_I1, ↓u_turns_I2, ↓u_turns_L1, ↓u_turns, ↓u__law_draws_I1, ↓u__law_draws_I2, ↓u__law_draws_L2, ↓u__law_draws_L1, ↓u__law_draws_L3, ↓u__law_draws, ↓u__law_next_I1, ↓u__law_next, ↓u__law_pick, ↓u__law_is_bit, ↓u__law_words_C1, ↓u__law_words, ↓u__law_label, ↓u__law_key_C1c, ↓u__law_key_C1, ↓u__law_key, ↓u__law_body_L1, ↓u__law_body_C1, ↓u__law_body_L2, ↓u__law_body, ↓u__law_listed_I1, ↓u__law_listed_L1, ↓u__law_listed, ↓u__law_head, ↓u__law_met_I1, ↓u__law_met_C1c, ↓u__law_met_C1, ↓u__law_met_I2, ↓u__law_met, ↓u__law_leaves_I1, ↓u__law_leaves_L1, ↓u__law_leaves, ↓u__law_nodes_C1, ↓u__law_nodes_I1, ↓u__law_nodes_C2, ↓u__law_nodes_L1, ↓u__law_nodes, ↓u_law_C1c, ↓u_law_C1, ↓u_law_I1, ↓u_law_C2c, ↓u_law_C2, ↓u_law_I2, ↓u_law_L3, ↓u_law_I3, ↓u_law_L2, ↓u_law_L1, ↓u_law, GEm_0, GEm_1, GEm_2, GEm_3, GEm_4, GEm_5, GEm_6, GEm_7, GEm_8, GEm_9, GEm_10, GEm_11, GEm_12, GEm_13, GEm_14, GEm_15, GEm_16, GEm_17, GEm_18, GEg_0, ix_N0, ix_N1, ix_N2, srcB, bi_lenB, eqW, neW, memPs, memLPs, eqPs, nePs, setT_N, hs, encO, head_of_sp, isN_S, met, e, Option.isNone_none]
    | some h =>
      rcases hdW_mem e with rfl | rfl | rfl | rfl <;> simp [rn_is_met, ↓r_k, ↓r_v, ↓r_g, ↓r_bin, ↓r_cmp, ↓r_chn, ↓r_isK, ↓r_and, ↓r_or, ↓r_not, ↓r_neg, ↓r_ite, ↓r_idx, ↓r_slc, ↓r_rev, ↓r_tup, ↓r_lst, ↓r_dct, ↓r_call, ↓r_bi, ↓r_mt, ↓r_mu, ↓r_comp, ↓r_nil, ↓r_cons, ↓r_asg, ↓r_unp, ↓r_par, ↓r_aug, ↓r_sto, ↓r_aus, ↓r_ex, ↓r_ifs, ↓r_fr, ↓r_wh, ↓r_ret, ↓r_retN, ↓r_brk, ↓r_cnt, ↓r_pas, ↓r_frg, ↓r_rse, ↓r_snil, ↓r_scons, lk1_d, lk1_new, lk1_slot, lkS_own, lkS_val, lks_nil, lks_cons, fz1_d, fz1_new, fz1_slot, fzS_own, fzS_val, fzs_nil, fzs_cons, opt_some, opt_none, cndS_some, optS_some, gOwnS_own, gValS_val, isDS_d, lk1S_d, lk1S_new, lk1S_slot, lkSS_own, lkSS_val, rdV_val, rdV_own, isD_d, gOwn_own, gVal_val, bind_ok, bind_stuck, bind_exc, bind_ite, toO_ok, toO_stuck, toO_exc, toO_ite, obind_nx, obind_bk, obind_ct, obind_rt, obind_exc, obind_stuck, obind_ite, of_some, of_ite, oof_some, callK_ok, callK_exc, callK_ite, isLst_lst, compK_ok, compW_nil, setV_eq, setVc_none, setVc_val, setVc_own, setO_eq, setOc_none, setOc_val, setOc_own, setVs_nil, setVs_cons, setT_one, setT_many, setR_d, setR_new, setR_slot, setR_own, setRs_nil, setRs_d, setRs_new, wipe_nil, wipe_cons, unwipe_nil, unwipe_cons, unwC_val, unwC_none, unwC_own, fl_nil, flK_nx, flK_ct, flK_bk, flK_rt, flK_exc, flK_ite, whK_nx, whK_ct, whK_bk, whK_rt, whK_exc, whK_ite, finK_nx, finK_rt, finK_exc, finK_ite, outRV_d, outRV_new, outRV_slot, outS_own, outS_val, outCells_nil, outCells_val, outCells_own, backCells_nil, backCells_0, backCells_s, argCells_nil, argCells_cons, argK_some, arg1_d, arg1_new, arg1_slot, argS_true, argS_home, argS_give, argS_val, List.getElem?_cons_zero, List.getElem?_cons_succ, List.set_cons_zero, List.set_cons_succ, Option.map_some, Option.map_none, GE_phi, GE_fuel, o_addI, o_subI, o_eqI, o_neI, o_eqB, o_neB, o_ltI, o_leI, o_gtI, o_geI, o_ltS, o_leS, o_gtS, o_geS, o_eqS, o_neS, o_isB, t_non, t_bl, t_int, t_str, t_tup, t_lst, ix_L0, ix_T0, ix_T1, ix_T2, ix_T3, ix_T4, ix_Tm, ix_Lm, bi_lenL, bi_lenC, bi_lenT, bi_lenS, bi_tupL, bi_tupT, bi_lstL, bi_lstT, bi_intI, bi_sortL, bi_sortT, s_L, s_T, s_S, s_K, p_non, kn_non, kx_non, kn_str, kx_str, kn_int, kx_int, kn_tup, kx_tup, kn_lst, kx_lst, kn_bl, kx_bl, g_addI, cmp_mem, cmp_nmem, ↓reduceIte, ↓u_node_at_C1c, ↓u_node_at_C1, ↓u_node_at_I1, ↓u_node_at_L1, ↓u_node_at, ↓u_head_of, ↓u_is_met_I1, ↓u_is_met_C1c, ↓u_is_met_C1, ↓u_is_met_I2, ↓u_is_met, ↓u_leaves_below_I1, ↓u_leaves_below_L1, ↓u_leaves_below, ↓u_turns_C1c, ↓u_turns_C1, ↓u_turns_I1, ↓u_turns_I2, ↓u_turns_L1, ↓u_turns, ↓u__law_draws_I1, ↓u__law_draws_I2, ↓u__law_draws_L2, ↓u__law_draws_L1, ↓u__law_draws_L3, ↓u__law_draws, ↓u__law_next_I1, ↓u__law_next, ↓u__law_pick, ↓u__law_is_bit, ↓u__law_words_C1, ↓u__law_words, ↓u__law_label, ↓u__law_key_C1c, ↓u__law_key_C1, ↓u__law_key, ↓u__law_body_L1, ↓u__law_body_C1, ↓u__law_body_L2, ↓u__law_body, ↓u__law_listed_I1, ↓u__law_listed_L1, ↓u__law_listed, ↓u__law_head, ↓u__law_met_I1, ↓u__law_met_C1c, ↓u__law_met_C1, ↓u__law_met_I2, ↓u__law_met, ↓u__law_leaves_I1, ↓u__law_leaves_L1, ↓u__law_leaves, ↓u__law_nodes_C1, ↓u__law_nodes_I1, ↓u__law_nodes_C2, ↓u__law_nodes_L1, ↓u__law_nodes, ↓u_law_C1c, ↓u_law_C1, ↓u_law_I1, ↓u_law_C2c, ↓u_law_C2, ↓u_law_I2, ↓u_law_L3, ↓u_law_I3, ↓u_law_L2, ↓u_law_L1, ↓u_law, GEm_0, GEm_1, GEm_2, GEm_3, GEm_4, GEm_5, GEm_6, GEm_7, GEm_8, GEm_9, GEm_10, GEm_11, GEm_12, GEm_13, GEm_14, GEm_15, GEm_16, GEm_17, GEm_18, GEg_0, ix_N0, ix_N1, ix_N2, srcB, bi_lenB, eqW, neW, memPs, memLPs, eqPs, nePs, setT_N, hs, encO, head_of_sp, isN_S, hk, met, e, encS, hAll, hOne, hTwo, hNone]
  | succ d ih =>
    intro k n p ok hd hp hn
    have hc := compW_filter (turn := turnW (GE (k + (d + 1) + 1)) [6] (.one 6) ir_is_met_C1c ir_is_met_C1) (σ := [some (.val (encB B)), some (.val (encW p)), some (.val (encPs F)), some (.val (encN n)), some (.val (encS (hdW n.w))), none, none]) encN (fun kid => met (d + 1) kid (p ++ [kid.l]) F) n.k [] (by
      intro kid hk
      obtain ⟨_, _, _, _, h5⟩ := okB_kid ok hk
      have := ih k kid (p ++ [kid.l]) h5 (by omega) (by simp; omega) (na_kid hn ok hk)
      have : run tab globD 2000 (k + (d + 1) + 1) 2 [.val (encB B), .val (encW (p ++ [kid.l])), .val (encPs F)] = .ok (.d (.bl (met (d + 1) kid (p ++ [kid.l]) F))) [.val (encB B), .val (encW (p ++ [kid.l])), .val (encPs F)] := this
      simp only [turnW, ↓r_k, ↓r_v, ↓r_g, ↓r_bin, ↓r_cmp, ↓r_chn, ↓r_isK, ↓r_and, ↓r_or, ↓r_not, ↓r_neg, ↓r_ite, ↓r_idx, ↓r_slc, ↓r_rev, ↓r_tup, ↓r_lst, ↓r_dct, ↓r_call, ↓r_bi, ↓r_mt, ↓r_mu, ↓r_comp, ↓r_nil, ↓r_cons, ↓r_asg, ↓r_unp, ↓r_par, ↓r_aug, ↓r_sto, ↓r_aus, ↓r_ex, ↓r_ifs, ↓r_fr, ↓r_wh, ↓r_ret, ↓r_retN, ↓r_brk, ↓r_cnt, ↓r_pas, ↓r_frg, ↓r_rse, ↓r_snil, ↓r_scons, lk1_d, lk1_new, lk1_slot, lkS_own, lkS_val, lks_nil, lks_cons, fz1_d, fz1_new, fz1_slot, fzS_own, fzS_val, fzs_nil, fzs_cons, opt_some, opt_none, cndS_some, optS_some, gOwnS_own, gValS_val, isDS_d, lk1S_d, lk1S_new, lk1S_slot, lkSS_own, lkSS_val, rdV_val, rdV_own, isD_d, gOwn_own, gVal_val, bind_ok, bind_stuck, bind_exc, bind_ite, toO_ok, toO_stuck, toO_exc, toO_ite, obind_nx, obind_bk, obind_ct, obind_rt, obind_exc, obind_stuck, obind_ite, of_some, of_ite, oof_some, callK_ok, callK_exc, callK_ite, isLst_lst, compK_ok, compW_nil, setV_eq, setVc_none, setVc_val, setVc_own, setO_eq, setOc_none, setOc_val, setOc_own, setVs_nil, setVs_cons, setT_one, setT_many, setR_d, setR_new, setR_slot, setR_own, setRs_nil, setRs_d, setRs_new, wipe_nil, wipe_cons, unwipe_nil, unwipe_cons, unwC_val, unwC_none, unwC_own, fl_nil, flK_nx, flK_ct, flK_bk, flK_rt, flK_exc, flK_ite, whK_nx, whK_ct, whK_bk, whK_rt, whK_exc, whK_ite, finK_nx, finK_rt, finK_exc, finK_ite, outRV_d, outRV_new, outRV_slot, outS_own, outS_val, outCells_nil, outCells_val, outCells_own, backCells_nil, backCells_0, backCells_s, argCells_nil, argCells_cons, argK_some, arg1_d, arg1_new, arg1_slot, argS_true, argS_home, argS_give, argS_val, List.getElem?_cons_zero, List.getElem?_cons_succ, List.set_cons_zero, List.set_cons_succ, Option.map_some, Option.map_none, GE_phi, GE_fuel, o_addI, o_subI, o_eqI, o_neI, o_eqB, o_neB, o_ltI, o_leI, o_gtI, o_geI, o_ltS, o_leS, o_gtS, o_geS, o_eqS, o_neS, o_isB, t_non, t_bl, t_int, t_str, t_tup, t_lst, ix_L0, ix_T0, ix_T1, ix_T2, ix_T3, ix_T4, ix_Tm, ix_Lm, bi_lenL, bi_lenC, bi_lenT, bi_lenS, bi_tupL, bi_tupT, bi_lstL, bi_lstT, bi_intI, bi_sortL, bi_sortT, s_L, s_T, s_S, s_K, p_non, kn_non, kx_non, kn_str, kx_str, kn_int, kx_int, kn_tup, kx_tup, kn_lst, kx_lst, kn_bl, kx_bl, g_addI, cmp_mem, cmp_nmem, ↓reduceIte, ↓u_node_at_C1c, ↓u_node_at_C1, ↓u_node_at_I1, ↓u_node_at_L1, ↓u_node_at, ↓u_head_of, ↓u_is_met_I1, ↓u_is_met_C1c, ↓u_is_met_C1, ↓u_is_met_I2, ↓u_is_met, ↓u_leaves_below_I1, ↓u_leaves_below_L1, ↓u_leaves_below, ↓u_turns_C1c, ↓u_turns_C1, ↓u_turns_I1, ↓u_turns_I2, ↓u_turns_L1, ↓u_turns, ↓u__law_draws_I1, ↓u__law_draws_I2, ↓u__law_draws_L2, ↓u__law_draws_L1, ↓u__law_draws_L3, ↓u__law_draws, ↓u__law_next_I1, ↓u__law_next, ↓u__law_pick, ↓u__law_is_bit, ↓u__law_words_C1, ↓u__law_words, ↓u__law_label, ↓u__law_key_C1c, ↓u__law_key_C1, ↓u__law_key, ↓u__law_body_L1, ↓u__law_body_C1, ↓u__law_body_L2, ↓u__law_body, ↓u__law_listed_I1, ↓u__law_listed_L1, ↓u__law_listed, ↓u__law_head, ↓u__law_met_I1, ↓u__law_met_C1c, ↓u__law_met_C1, ↓u__law_met_I2, ↓u__law_met, ↓u__law_leaves_I1, ↓u__law_leaves_L1, ↓u__law_leaves, ↓u__law_nodes_C1, ↓u__law_nodes_I1, ↓u__law_nodes_C2, ↓u__law_nodes_L1, ↓u__law_nodes, ↓u_law_C1c, ↓u_law_C1, ↓u_law_I1, ↓u_law_C2c, ↓u_law_C2, ↓u_law_I2, ↓u_law_L3, ↓u_law_I3, ↓u_law_L2, ↓u_law_L1, ↓u_law, GEm_0, GEm_1, GEm_2, GEm_3, GEm_4, GEm_5, GEm_6, GEm_7, GEm_8, GEm_9, GEm_10, GEm_11, GEm_12, GEm_13, GEm_14, GEm_15, GEm_16, GEm_17, GEm_18, GEg_0, ix_N0, o_snocW (show p.length ≤ 100 by omega), this]
      cases met (d + 1) kid (p ++ [kid.l]) F <;> simp)
    have hs := node_at_sp (k + (d + 1)) m d0 B p okb hd0 hn
    rw [met]
    cases e : hdW n.w with
    | none => simp only [rn_is_met, ↓r_k, ↓r_v, ↓r_g, ↓r_bin, ↓r_cmp, ↓r_chn, ↓r_isK, ↓r_and, ↓r_or, ↓r_not, ↓r_neg, ↓r_ite, ↓r_idx, ↓r_slc, ↓r_rev, ↓r_tup, ↓r_lst, ↓r_dct, ↓r_call, ↓r_bi, ↓r_mt, ↓r_mu, ↓r_comp, ↓r_nil, ↓r_cons, ↓r_asg, ↓r_unp, ↓r_par, ↓r_aug, ↓r_sto, ↓r_aus, ↓r_ex, ↓r_ifs, ↓r_fr, ↓r_wh, ↓r_ret, ↓r_retN, ↓r_brk, ↓r_cnt, ↓r_pas, ↓r_frg, ↓r_rse, ↓r_snil, ↓r_scons, lk1_d, lk1_new, lk1_slot, lkS_own, lkS_val, lks_nil, lks_cons, fz1_d, fz1_new, fz1_slot, fzS_own, fzS_val, fzs_nil, fzs_cons, opt_some, opt_none, cndS_some, optS_some, gOwnS_own, gValS_val, isDS_d, lk1S_d, lk1S_new, lk1S_slot, lkSS_own, lkSS_val, rdV_val, rdV_own, isD_d, gOwn_own, gVal_val, bind_ok, bind_stuck, bind_exc, bind_ite, toO_ok, toO_stuck, toO_exc, toO_ite, obind_nx, obind_bk, obind_ct, obind_rt, obind_exc, obind_stuck, obind_ite, of_some, of_ite, oof_some, callK_ok, callK_exc, callK_ite, isLst_lst, compK_ok, compW_nil, setV_eq, setVc_none, setVc_val, setVc_own, setO_eq, setOc_none, setOc_val, setOc_own, setVs_nil, setVs_cons, setT_one, setT_many, setR_d, setR_new, setR_slot, setR_own, setRs_nil, setRs_d, setRs_new, wipe_nil, wipe_cons, unwipe_nil, unwipe_cons, unwC_val, unwC_none, unwC_own, fl_nil, flK_nx, flK_ct, flK_bk, flK_rt, flK_exc, flK_ite, whK_nx, whK_ct, whK_bk, whK_rt, whK_exc, whK_ite, finK_nx, finK_rt, finK_exc, finK_ite, outRV_d, outRV_new, outRV_slot, outS_own, outS_val, outCells_nil, outCells_val, outCells_own, backCells_nil, backCells_0, backCells_s, argCells_nil, argCells_cons, argK_some, arg1_d, arg1_new, arg1_slot, argS_true, argS_home, argS_give, argS_val, List.getElem?_cons_zero, List.getElem?_cons_succ, List.set_cons_zero, List.set_cons_succ, Option.map_some, Option.map_none, GE_phi, GE_fuel, o_addI, o_subI, o_eqI, o_neI, o_eqB, o_neB, o_ltI, o_leI, o_gtI, o_geI, o_ltS, o_leS, o_gtS, o_geS, o_eqS, o_neS, o_isB, t_non, t_bl, t_int, t_str, t_tup, t_lst, ix_L0, ix_T0, ix_T1, ix_T2, ix_T3, ix_T4, ix_Tm, ix_Lm, bi_lenL, bi_lenC, bi_lenT, bi_lenS, bi_tupL, bi_tupT, bi_lstL, bi_lstT, bi_intI, bi_sortL, bi_sortT, s_L, s_T, s_S, s_K, p_non, kn_non, kx_non, kn_str, kx_str, kn_int, kx_int, kn_tup, kx_tup, kn_lst, kx_lst, kn_bl, kx_bl, g_addI, cmp_mem, cmp_nmem, ↓reduceIte, ↓u_node_at_C1c, ↓u_node_at_C1, ↓u_node_at_I1, ↓u_node_at_L1, ↓u_node_at, ↓u_head_of, ↓u_is_met_I1, ↓u_is_met_C1c, ↓u_is_met_C1, ↓u_is_met_I2, ↓u_is_met, ↓u_leaves_below_I1, ↓u_leaves_below_L1, ↓u_leaves_below, ↓u_turns_C1c, ↓u_turns_C1, ↓u_turns_I1, ↓u_turns_I2, ↓u_turns_L1, ↓u_turns, ↓u__law_draws_I1, ↓u__law_draws_I2, ↓u__law_draws_L2, ↓u__law_draws_L1, ↓u__law_draws_L3, ↓u__law_draws, ↓u__law_next_I1, ↓u__law_next, ↓u__law_pick, ↓u__law_is_bit, ↓u__law_words_C1, ↓u__law_words, ↓u__law_label, ↓u__law_key_C1c, ↓u__law_key_C1, ↓u__law_key, ↓u__law_body_L1, ↓u__law_body_C1, ↓u__law_body_L2, ↓u__law_body, ↓u__law_listed_I1, ↓u__law_listed_L1, ↓u__law_listed, ↓u__law_head, ↓u__law_met_I1, ↓u__law_met_C1c, ↓u__law_met_C1, ↓u__law_met_I2, ↓u__law_met, ↓u__law_leaves_I1, ↓u__law_leaves_L1, ↓u__law_leaves, ↓u__law_nodes_C1, ↓u__law_nodes_I1, ↓u__law_nodes_C2, ↓u__law_nodes_L1, ↓u__law_nodes, ↓u_law_C1c, ↓u_law_C1, ↓u_law_I1, ↓u_law_C2c, ↓u_law_C2, ↓u_law_I2, ↓u_law_L3, ↓u_law_I3, ↓u_law_L2, ↓u_law_L1, ↓u_law, GEm_0, GEm_1, GEm_2, GEm_3, GEm_4, GEm_5, GEm_6, GEm_7, GEm_8, GEm_9, GEm_10, GEm_11, GEm_12, GEm_13, GEm_14, GEm_15, GEm_16, GEm_17, GEm_18, GEg_0, ix_N0, ix_N1, ix_N2, srcB, bi_lenB, eqW, neW, memPs, memLPs, eqPs, nePs, setT_N, hs, encO, head_of_sp, isN_S, e, Option.isNone_none]
    | some h =>
      rw [e] at hc
      have hle : (n.k.filter fun kid => met (d + 1) kid (p ++ [kid.l]) F).length ≤ n.k.length := List.length_filter_le _ _
      simp only [rn_is_met, ↓r_k, ↓r_v, ↓r_g, ↓r_bin, ↓r_cmp, ↓r_chn, ↓r_isK, ↓r_and, ↓r_or, ↓r_not, ↓r_neg, ↓r_ite, ↓r_idx, ↓r_slc, ↓r_rev, ↓r_tup, ↓r_lst, ↓r_dct, ↓r_call, ↓r_bi, ↓r_mt, ↓r_mu, ↓r_comp, ↓r_nil, ↓r_cons, ↓r_asg, ↓r_unp, ↓r_par, ↓r_aug, ↓r_sto, ↓r_aus, ↓r_ex, ↓r_ifs, ↓r_fr, ↓r_wh, ↓r_ret, ↓r_retN, ↓r_brk, ↓r_cnt, ↓r_pas, ↓r_frg, ↓r_rse, ↓r_snil, ↓r_scons, lk1_d, lk1_new, lk1_slot, lkS_own, lkS_val, lks_nil, lks_cons, fz1_d, fz1_new, fz1_slot, fzS_own, fzS_val, fzs_nil, fzs_cons, opt_some, opt_none, cndS_some, optS_some, gOwnS_own, gValS_val, isDS_d, lk1S_d, lk1S_new, lk1S_slot, lkSS_own, lkSS_val, rdV_val, rdV_own, isD_d, gOwn_own, gVal_val, bind_ok, bind_stuck, bind_exc, bind_ite, toO_ok, toO_stuck, toO_exc, toO_ite, obind_nx, obind_bk, obind_ct, obind_rt, obind_exc, obind_stuck, obind_ite, of_some, of_ite, oof_some, callK_ok, callK_exc, callK_ite, isLst_lst, compK_ok, compW_nil, setV_eq, setVc_none, setVc_val, setVc_own, setO_eq, setOc_none, setOc_val, setOc_own, setVs_nil, setVs_cons, setT_one, setT_many, setR_d, setR_new, setR_slot, setR_own, setRs_nil, setRs_d, setRs_new, wipe_nil, wipe_cons, unwipe_nil, unwipe_cons, unwC_val, unwC_none, unwC_own, fl_nil, flK_nx, flK_ct, flK_bk, flK_rt, flK_exc, flK_ite, whK_nx, whK_ct, whK_bk, whK_rt, whK_exc, whK_ite, finK_nx, finK_rt, finK_exc, finK_ite, outRV_d, outRV_new, outRV_slot, outS_own, outS_val, outCells_nil, outCells_val, outCells_own, backCells_nil, backCells_0, backCells_s, argCells_nil, argCells_cons, argK_some, arg1_d, arg1_new, arg1_slot, argS_true, argS_home, argS_give, argS_val, List.getElem?_cons_zero, List.getElem?_cons_succ, List.set_cons_zero, List.set_cons_succ, Option.map_some, Option.map_none, GE_phi, GE_fuel, o_addI, o_subI, o_eqI, o_neI, o_eqB, o_neB, o_ltI, o_leI, o_gtI, o_geI, o_ltS, o_leS, o_gtS, o_geS, o_eqS, o_neS, o_isB, t_non, t_bl, t_int, t_str, t_tup, t_lst, ix_L0, ix_T0, ix_T1, ix_T2, ix_T3, ix_T4, ix_Tm, ix_Lm, bi_lenL, bi_lenC, bi_lenT, bi_lenS, bi_tupL, bi_tupT, bi_lstL, bi_lstT, bi_intI, bi_sortL, bi_sortT, s_L, s_T, s_S, s_K, p_non, kn_non, kx_non, kn_str, kx_str, kn_int, kx_int, kn_tup, kx_tup, kn_lst, kx_lst, kn_bl, kx_bl, g_addI, cmp_mem, cmp_nmem, ↓reduceIte, ↓u_node_at_C1c, ↓u_node_at_C1, ↓u_node_at_I1, ↓u_node_at_L1, ↓u_node_at, ↓u_head_of, ↓u_is_met_I1, ↓u_is_met_C1c, ↓u_is_met_C1, ↓u_is_met_I2, ↓u_is_met, ↓u_leaves_below_I1, ↓u_leaves_below_L1, ↓u_leaves_below, ↓u_turns_C1c, ↓u_turns_C1, ↓u_turns_I1, ↓u_turns_I2, ↓u_turns_L1, ↓u_turns, ↓u__law_draws_I1, ↓u__law_draws_I2, ↓u__law_draws_L2, ↓u__law_draws_L1, ↓u__law_draws_L3, ↓u__law_draws, ↓u__law_next_I1, ↓u__law_next, ↓u__law_pick, ↓u__law_is_bit, ↓u__law_words_C1, ↓u__law_words, ↓u__law_label, ↓u__law_key_C1c, ↓u__law_key_C1, ↓u__law_key, ↓u__law_body_L1, ↓u__law_body_C1, ↓u__law_body_L2, ↓u__law_body, ↓u__law_listed_I1, ↓u__law_listed_L1, ↓u__law_listed, ↓u__law_head, ↓u__law_met_I1, ↓u__law_met_C1c, ↓u__law_met_C1, ↓u__law_met_I2, ↓u__law_met, ↓u__law_leaves_I1, ↓u__law_leaves_L1, ↓u__law_leaves, ↓u__law_nodes_C1, ↓u__law_nodes_I1, ↓u__law_nodes_C2, ↓u__law_nodes_L1, ↓u__law_nodes, ↓u_law_C1c, ↓u_law_C1, ↓u_law_I1, ↓u_law_C2c, ↓u_law_C2, ↓u_law_I2, ↓u_law_L3, ↓u_law_I3, ↓u_law_L2, ↓u_law_L1, ↓u_law, GEm_0, GEm_1, GEm_2, GEm_3, GEm_4, GEm_5, GEm_6, GEm_7, GEm_8, GEm_9, GEm_10, GEm_11, GEm_12, GEm_13, GEm_14, GEm_15, GEm_16, GEm_17, GEm_18, GEg_0, ix_N0, ix_N1, ix_N2, srcB, bi_lenB, eqW, neW, memPs, memLPs, eqPs, nePs, setT_N, hs, encO, head_of_sp, isN_S, e, Option.isNone_some, Bool.false_eq_true, hc, List.nil_append, List.length_map, natI]
      generalize (n.k.filter fun kid => met (d + 1) kid (p ++ [kid.l]) F).length = c at hle ⊢
      rcases hdW_mem e with rfl | rfl | rfl | rfl <;> simp [encS, ↓r_k, ↓r_v, ↓r_g, ↓r_bin, ↓r_cmp, ↓r_chn, ↓r_isK, ↓r_and, ↓r_or, ↓r_not, ↓r_neg, ↓r_ite, ↓r_idx, ↓r_slc, ↓r_rev, ↓r_tup, ↓r_lst, ↓r_dct, ↓r_call, ↓r_bi, ↓r_mt, ↓r_mu, ↓r_comp, ↓r_nil, ↓r_cons, ↓r_asg, ↓r_unp, ↓r_par, ↓r_aug, ↓r_sto, ↓r_aus, ↓r_ex, ↓r_ifs, ↓r_fr, ↓r_wh, ↓r_ret, ↓r_retN, ↓r_brk, ↓r_cnt, ↓r_pas, ↓r_frg, ↓r_rse, ↓r_snil, ↓r_scons, lk1_d, lk1_new, lk1_slot, lkS_own, lkS_val, lks_nil, lks_cons, fz1_d, fz1_new, fz1_slot, fzS_own, fzS_val, fzs_nil, fzs_cons, opt_some, opt_none, cndS_some, optS_some, gOwnS_own, gValS_val, isDS_d, lk1S_d, lk1S_new, lk1S_slot, lkSS_own, lkSS_val, rdV_val, rdV_own, isD_d, gOwn_own, gVal_val, bind_ok, bind_stuck, bind_exc, bind_ite, toO_ok, toO_stuck, toO_exc, toO_ite, obind_nx, obind_bk, obind_ct, obind_rt, obind_exc, obind_stuck, obind_ite, of_some, of_ite, oof_some, callK_ok, callK_exc, callK_ite, isLst_lst, compK_ok, compW_nil, setV_eq, setVc_none, setVc_val, setVc_own, setO_eq, setOc_none, setOc_val, setOc_own, setVs_nil, setVs_cons, setT_one, setT_many, setR_d, setR_new, setR_slot, setR_own, setRs_nil, setRs_d, setRs_new, wipe_nil, wipe_cons, unwipe_nil, unwipe_cons, unwC_val, unwC_none, unwC_own, fl_nil, flK_nx, flK_ct, flK_bk, flK_rt, flK_exc, flK_ite, whK_nx, whK_ct, whK_bk, whK_rt, whK_exc, whK_ite, finK_nx, finK_rt, finK_exc, finK_ite, outRV_d, outRV_new, outRV_slot, outS_own, outS_val, outCells_nil, outCells_val, outCells_own, backCells_nil, backCells_0, backCells_s, argCells_nil, argCells_cons, argK_some, arg1_d, arg1_new, arg1_slot, argS_true, argS_home, argS_give, argS_val, List.getElem?_cons_zero, List.getElem?_cons_succ, List.set_cons_zero, List.set_cons_succ, Option.map_some, Option.map_none, GE_phi, GE_fuel, o_addI, o_subI, o_eqI, o_neI, o_eqB, o_neB, o_ltI, o_leI, o_gtI, o_geI, o_ltS, o_leS, o_gtS, o_geS, o_eqS, o_neS, o_isB, t_non, t_bl, t_int, t_str, t_tup, t_lst, ix_L0, ix_T0, ix_T1, ix_T2, ix_T3, ix_T4, ix_Tm, ix_Lm, bi_lenL, bi_lenC, bi_lenT, bi_lenS, bi_tupL, bi_tupT, bi_lstL, bi_lstT, bi_intI, bi_sortL, bi_sortT, s_L, s_T, s_S, s_K, p_non, kn_non, kx_non, kn_str, kx_str, kn_int, kx_int, kn_tup, kx_tup, kn_lst, kx_lst, kn_bl, kx_bl, g_addI, cmp_mem, cmp_nmem, ↓reduceIte, ↓u_node_at_C1c, ↓u_node_at_C1, ↓u_node_at_I1, ↓u_node_at_L1, ↓u_node_at, ↓u_head_of, ↓u_is_met_I1, ↓u_is_met_C1c, ↓u_is_met_C1, ↓u_is_met_I2, ↓u_is_met, ↓u_leaves_below_I1, ↓u_leaves_below_L1, ↓u_leaves_below, ↓u_turns_C1c, ↓u_turns_C1, ↓u_turns_I1, ↓u_turns_I2, ↓u_turns_L1, ↓u_turns, ↓u__law_draws_I1, ↓u__law_draws_I2, ↓u__law_draws_L2, ↓u__law_draws_L1, ↓u__law_draws_L3, ↓u__law_draws, ↓u__law_next_I1, ↓u__law_next, ↓u__law_pick, ↓u__law_is_bit, ↓u__law_words_C1, ↓u__law_words, ↓u__law_label, ↓u__law_key_C1c, ↓u__law_key_C1, ↓u__law_key, ↓u__law_body_L1, ↓u__law_body_C1, ↓u__law_body_L2, ↓u__law_body, ↓u__law_listed_I1, ↓u__law_listed_L1, ↓u__law_listed, ↓u__law_head, ↓u__law_met_I1, ↓u__law_met_C1c, ↓u__law_met_C1, ↓u__law_met_I2, ↓u__law_met, ↓u__law_leaves_I1, ↓u__law_leaves_L1, ↓u__law_leaves, ↓u__law_nodes_C1, ↓u__law_nodes_I1, ↓u__law_nodes_C2, ↓u__law_nodes_L1, ↓u__law_nodes, ↓u_law_C1c, ↓u_law_C1, ↓u_law_I1, ↓u_law_C2c, ↓u_law_C2, ↓u_law_I2, ↓u_law_L3, ↓u_law_I3, ↓u_law_L2, ↓u_law_L1, ↓u_law, GEm_0, GEm_1, GEm_2, GEm_3, GEm_4, GEm_5, GEm_6, GEm_7, GEm_8, GEm_9, GEm_10, GEm_11, GEm_12, GEm_13, GEm_14, GEm_15, GEm_16, GEm_17, GEm_18, GEg_0, ix_N0, ix_N1, ix_N2, srcB, bi_lenB, eqW, neW, memPs, memLPs, eqPs, nePs, setT_N, natI, hAll, hOne, hTwo, hNone] <;> omega

theorem law_met_sp (m : Nat) (F : List (List St)) (fd : D) (hF : ∀ p, memD (encW p) fd = some (decide (p ∈ F))) : ∀ (d k : Nat) (n : Nd) (p : List St), okB m d n.k → d ≤ 20 → p.length + d ≤ 100 →
    run tab globD 2000 (k + d + 2) 15 [.val (encN n), .val (encW p), .val fd] = .ok (.d (.bl (met (d + 1) n p F))) [.val (encN n), .val (encW p), .val fd] := by
  intro d
  induction d with
  | zero =>
    intro k n p ok _ hp
    have hk : n.k = [] := ok
    cases e : hdW n.w with
    | none => simp only [rn__law_met, ↓r_k, ↓r_v, ↓r_g, ↓r_bin, ↓r_cmp, ↓r_chn, ↓r_isK, ↓r_and, ↓r_or, ↓r_not, ↓r_neg, ↓r_ite, ↓r_idx, ↓r_slc, ↓r_rev, ↓r_tup, ↓r_lst, ↓r_dct, ↓r_call, ↓r_bi, ↓r_mt, ↓r_mu, ↓r_comp, ↓r_nil, ↓r_cons, ↓r_asg, ↓r_unp, ↓r_par, ↓r_aug, ↓r_sto, ↓r_aus, ↓r_ex, ↓r_ifs, ↓r_fr, ↓r_wh, ↓r_ret, ↓r_retN, ↓r_brk, ↓r_cnt, ↓r_pas, ↓r_frg, ↓r_rse, ↓r_snil, ↓r_scons, lk1_d, lk1_new, lk1_slot, lkS_own, lkS_val, lks_nil, lks_cons, fz1_d, fz1_new, fz1_slot, fzS_own, fzS_val, fzs_nil, fzs_cons, opt_some, opt_none, cndS_some, optS_some, gOwnS_own, gValS_val, isDS_d, lk1S_d, lk1S_new, lk1S_slot, lkSS_own, lkSS_val, rdV_val, rdV_own, isD_d, gOwn_own, gVal_val, bind_ok, bind_stuck, bind_exc, bind_ite, toO_ok, toO_stuck, toO_exc, toO_ite, obind_nx, obind_bk, obind_ct, obind_rt, obind_exc, obind_stuck, obind_ite, of_some, of_ite, oof_some, callK_ok, callK_exc, callK_ite, isLst_lst, compK_ok, compW_nil, setV_eq, setVc_none, setVc_val, setVc_own, setO_eq, setOc_none, setOc_val, setOc_own, setVs_nil, setVs_cons, setT_one, setT_many, setR_d, setR_new, setR_slot, setR_own, setRs_nil, setRs_d, setRs_new, wipe_nil, wipe_cons, unwipe_nil, unwipe_cons, unwC_val, unwC_none, unwC_own, fl_nil, flK_nx, flK_ct, flK_bk, flK_rt, flK_exc, flK_ite, whK_nx, whK_ct, whK_bk, whK_rt, whK_exc, whK_ite, finK_nx, finK_rt, finK_exc, finK_ite, outRV_d, outRV_new, outRV_slot, outS_own, outS_val, outCells_nil, outCells_val, outCells_own, backCells_nil, backCells_0, backCells_s, argCells_nil, argCells_cons, argK_some, arg1_d, arg1_new, arg1_slot, argS_true, argS_home, argS_give, argS_val, List.getElem?_cons_zero, List.getElem?_cons_succ, List.set_cons_zero, List.set_cons_succ, Option.map_some, Option.map_none, GE_phi, GE_fuel, o_addI, o_subI, o_eqI, o_neI, o_eqB, o_neB, o_ltI, o_leI, o_gtI, o_geI, o_ltS, o_leS, o_gtS, o_geS, o_eqS, o_neS, o_isB, t_non, t_bl, t_int, t_str, t_tup, t_lst, ix_L0, ix_T0, ix_T1, ix_T2, ix_T3, ix_T4, ix_Tm, ix_Lm, bi_lenL, bi_lenC, bi_lenT, bi_lenS, bi_tupL, bi_tupT, bi_lstL, bi_lstT, bi_intI, bi_sortL, bi_sortT, s_L, s_T, s_S, s_K, p_non, kn_non, kx_non, kn_str, kx_str, kn_int, kx_int, kn_tup, kx_tup, kn_lst, kx_lst, kn_bl, kx_bl, g_addI, cmp_mem, cmp_nmem, ↓reduceIte, ↓u_node_at_C1c, ↓u_node_at_C1, ↓u_node_at_I1, ↓u_node_at_L1, ↓u_node_at, ↓u_head_of, ↓u_is_met_I1, ↓u_is_met_C1c, ↓u_is_met_C1, ↓u_is_met_I2, ↓u_is_met, ↓u_leaves_below_I1, ↓u_leaves_below_L1, ↓u_leaves_below, ↓u_turns_C1c, ↓u_turns_C1, ↓u_turns_I1, ↓u_turns_I2, ↓u_turns_L1, ↓u_turns, ↓u__law_draws_I1, ↓u__law_draws_I2, ↓u__law_draws_L2, ↓u__law_draws_L1, ↓u__law_draws_L3, ↓u__law_draws, ↓u__law_next_I1, ↓u__law_next, ↓u__law_pick, ↓u__law_is_bit, ↓u__law_words_C1, ↓u__law_words, ↓u__law_label, ↓u__law_key_C1c, ↓u__law_key_C1, ↓u__law_key, ↓u__law_body_L1, ↓u__law_body_C1, ↓u__law_body_L2, ↓u__law_body, ↓u__law_listed_I1, ↓u__law_listed_L1, ↓u__law_listed, ↓u__law_head, ↓u__law_met_I1, ↓u__law_met_C1c, ↓u__law_met_C1, ↓u__law_met_I2, ↓u__law_met, ↓u__law_leaves_I1, ↓u__law_leaves_L1, ↓u__law_leaves, ↓u__law_nodes_C1, ↓u__law_nodes_I1, ↓u__law_nodes_C2, ↓u__law_nodes_L1, ↓u__law_nodes, ↓u_law_C1c, ↓u_law_C1, ↓u_law_I1, ↓u_law_C2c, ↓u_law_C2, ↓u_law_I2, ↓u_law_L3, ↓u_law_I3, ↓u_law_L2, ↓u_law_L1, ↓u_law, GEm_0, GEm_1, GEm_2, GEm_3, GEm_4, GEm_5, GEm_6, GEm_7, GEm_8, GEm_9, GEm_10, GEm_11, GEm_12, GEm_13, GEm_14, GEm_15, GEm_16, GEm_17, GEm_18, GEg_0, ix_N0, ix_N1, ix_N2, srcB, bi_lenB, eqW, neW, memPs, memLPs, eqPs, nePs, setT_N, law_head_sp, isN_S, hF, met, e, Option.isNone_none]
    | some h =>
      rcases hdW_mem e with rfl | rfl | rfl | rfl <;> simp [rn__law_met, ↓r_k, ↓r_v, ↓r_g, ↓r_bin, ↓r_cmp, ↓r_chn, ↓r_isK, ↓r_and, ↓r_or, ↓r_not, ↓r_neg, ↓r_ite, ↓r_idx, ↓r_slc, ↓r_rev, ↓r_tup, ↓r_lst, ↓r_dct, ↓r_call, ↓r_bi, ↓r_mt, ↓r_mu, ↓r_comp, ↓r_nil, ↓r_cons, ↓r_asg, ↓r_unp, ↓r_par, ↓r_aug, ↓r_sto, ↓r_aus, ↓r_ex, ↓r_ifs, ↓r_fr, ↓r_wh, ↓r_ret, ↓r_retN, ↓r_brk, ↓r_cnt, ↓r_pas, ↓r_frg, ↓r_rse, ↓r_snil, ↓r_scons, lk1_d, lk1_new, lk1_slot, lkS_own, lkS_val, lks_nil, lks_cons, fz1_d, fz1_new, fz1_slot, fzS_own, fzS_val, fzs_nil, fzs_cons, opt_some, opt_none, cndS_some, optS_some, gOwnS_own, gValS_val, isDS_d, lk1S_d, lk1S_new, lk1S_slot, lkSS_own, lkSS_val, rdV_val, rdV_own, isD_d, gOwn_own, gVal_val, bind_ok, bind_stuck, bind_exc, bind_ite, toO_ok, toO_stuck, toO_exc, toO_ite, obind_nx, obind_bk, obind_ct, obind_rt, obind_exc, obind_stuck, obind_ite, of_some, of_ite, oof_some, callK_ok, callK_exc, callK_ite, isLst_lst, compK_ok, compW_nil, setV_eq, setVc_none, setVc_val, setVc_own, setO_eq, setOc_none, setOc_val, setOc_own, setVs_nil, setVs_cons, setT_one, setT_many, setR_d, setR_new, setR_slot, setR_own, setRs_nil, setRs_d, setRs_new, wipe_nil, wipe_cons, unwipe_nil, unwipe_cons, unwC_val, unwC_none, unwC_own, fl_nil, flK_nx, flK_ct, flK_bk, flK_rt, flK_exc, flK_ite, whK_nx, whK_ct, whK_bk, whK_rt, whK_exc, whK_ite, finK_nx, finK_rt, finK_exc, finK_ite, outRV_d, outRV_new, outRV_slot, outS_own, outS_val, outCells_nil, outCells_val, outCells_own, backCells_nil, backCells_0, backCells_s, argCells_nil, argCells_cons, argK_some, arg1_d, arg1_new, arg1_slot, argS_true, argS_home, argS_give, argS_val, List.getElem?_cons_zero, List.getElem?_cons_succ, List.set_cons_zero, List.set_cons_succ, Option.map_some, Option.map_none, GE_phi, GE_fuel, o_addI, o_subI, o_eqI, o_neI, o_eqB, o_neB, o_ltI, o_leI, o_gtI, o_geI, o_ltS, o_leS, o_gtS, o_geS, o_eqS, o_neS, o_isB, t_non, t_bl, t_int, t_str, t_tup, t_lst, ix_L0, ix_T0, ix_T1, ix_T2, ix_T3, ix_T4, ix_Tm, ix_Lm, bi_lenL, bi_lenC, bi_lenT, bi_lenS, bi_tupL, bi_tupT, bi_lstL, bi_lstT, bi_intI, bi_sortL, bi_sortT, s_L, s_T, s_S, s_K, p_non, kn_non, kx_non, kn_str, kx_str, kn_int, kx_int, kn_tup, kx_tup, kn_lst, kx_lst, kn_bl, kx_bl, g_addI, cmp_mem, cmp_nmem, ↓reduceIte, ↓u_node_at_C1c, ↓u_node_at_C1, ↓u_node_at_I1, ↓u_node_at_L1, ↓u_node_at, ↓u_head_of, ↓u_is_met_I1, ↓u_is_met_C1c, ↓u_is_met_C1, ↓u_is_met_I2, ↓u_is_met, ↓u_leaves_below_I1, ↓u_leaves_below_L1, ↓u_leaves_below, ↓u_turns_C1c, ↓u_turns_C1, ↓u_turns_I1, ↓u_turns_I2, ↓u_turns_L1, ↓u_turns, ↓u__law_draws_I1, ↓u__law_draws_I2, ↓u__law_draws_L2, ↓u__law_draws_L1, ↓u__law_draws_L3, ↓u__law_draws, ↓u__law_next_I1, ↓u__law_next, ↓u__law_pick, ↓u__law_is_bit, ↓u__law_words_C1, ↓u__law_words, ↓u__law_label, ↓u__law_key_C1c, ↓u__law_key_C1, ↓u__law_key, ↓u__law_body_L1, ↓u__law_body_C1, ↓u__law_body_L2, ↓u__law_body, ↓u__law_listed_I1, ↓u__law_listed_L1, ↓u__law_listed, ↓u__law_head, ↓u__law_met_I1, ↓u__law_met_C1c, ↓u__law_met_C1, ↓u__law_met_I2, ↓u__law_met, ↓u__law_leaves_I1, ↓u__law_leaves_L1, ↓u__law_leaves, ↓u__law_nodes_C1, ↓u__law_nodes_I1, ↓u__law_nodes_C2, ↓u__law_nodes_L1, ↓u__law_nodes, ↓u_law_C1c, ↓u_law_C1, ↓u_law_I1, ↓u_law_C2c, ↓u_law_C2, ↓u_law_I2, ↓u_law_L3, ↓u_law_I3, ↓u_law_L2, ↓u_law_L1, ↓u_law, GEm_0, GEm_1, GEm_2, GEm_3, GEm_4, GEm_5, GEm_6, GEm_7, GEm_8, GEm_9, GEm_10, GEm_11, GEm_12, GEm_13, GEm_14, GEm_15, GEm_16, GEm_17, GEm_18, GEg_0, ix_N0, ix_N1, ix_N2, srcB, bi_lenB, eqW, neW, memPs, memLPs, eqPs, nePs, setT_N, law_head_sp, isN_S, hk, met, e, encS, hAll, hOne, hTwo, hNone]
  | succ d ih =>
    intro k n p ok hd hp
    have hc := compW_filter (turn := turnW (GE (k + (d + 1) + 1)) [5] (.one 5) ir__law_met_C1c ir__law_met_C1) (σ := [some (.val (encN n)), some (.val (encW p)), some (.val fd), some (.val (encS (hdW n.w))), none, none]) encN (fun kid => met (d + 1) kid (p ++ [kid.l]) F) n.k [] (by
      intro kid hk
      obtain ⟨_, _, _, _, h5⟩ := okB_kid ok hk
      have := ih k kid (p ++ [kid.l]) h5 (by omega) (by simp; omega)
      have : run tab globD 2000 (k + (d + 1) + 1) 15 [.val (encN kid), .val (encW (p ++ [kid.l])), .val fd] = .ok (.d (.bl (met (d + 1) kid (p ++ [kid.l]) F))) [.val (encN kid), .val (encW (p ++ [kid.l])), .val fd] := this
      simp only [turnW, ↓r_k, ↓r_v, ↓r_g, ↓r_bin, ↓r_cmp, ↓r_chn, ↓r_isK, ↓r_and, ↓r_or, ↓r_not, ↓r_neg, ↓r_ite, ↓r_idx, ↓r_slc, ↓r_rev, ↓r_tup, ↓r_lst, ↓r_dct, ↓r_call, ↓r_bi, ↓r_mt, ↓r_mu, ↓r_comp, ↓r_nil, ↓r_cons, ↓r_asg, ↓r_unp, ↓r_par, ↓r_aug, ↓r_sto, ↓r_aus, ↓r_ex, ↓r_ifs, ↓r_fr, ↓r_wh, ↓r_ret, ↓r_retN, ↓r_brk, ↓r_cnt, ↓r_pas, ↓r_frg, ↓r_rse, ↓r_snil, ↓r_scons, lk1_d, lk1_new, lk1_slot, lkS_own, lkS_val, lks_nil, lks_cons, fz1_d, fz1_new, fz1_slot, fzS_own, fzS_val, fzs_nil, fzs_cons, opt_some, opt_none, cndS_some, optS_some, gOwnS_own, gValS_val, isDS_d, lk1S_d, lk1S_new, lk1S_slot, lkSS_own, lkSS_val, rdV_val, rdV_own, isD_d, gOwn_own, gVal_val, bind_ok, bind_stuck, bind_exc, bind_ite, toO_ok, toO_stuck, toO_exc, toO_ite, obind_nx, obind_bk, obind_ct, obind_rt, obind_exc, obind_stuck, obind_ite, of_some, of_ite, oof_some, callK_ok, callK_exc, callK_ite, isLst_lst, compK_ok, compW_nil, setV_eq, setVc_none, setVc_val, setVc_own, setO_eq, setOc_none, setOc_val, setOc_own, setVs_nil, setVs_cons, setT_one, setT_many, setR_d, setR_new, setR_slot, setR_own, setRs_nil, setRs_d, setRs_new, wipe_nil, wipe_cons, unwipe_nil, unwipe_cons, unwC_val, unwC_none, unwC_own, fl_nil, flK_nx, flK_ct, flK_bk, flK_rt, flK_exc, flK_ite, whK_nx, whK_ct, whK_bk, whK_rt, whK_exc, whK_ite, finK_nx, finK_rt, finK_exc, finK_ite, outRV_d, outRV_new, outRV_slot, outS_own, outS_val, outCells_nil, outCells_val, outCells_own, backCells_nil, backCells_0, backCells_s, argCells_nil, argCells_cons, argK_some, arg1_d, arg1_new, arg1_slot, argS_true, argS_home, argS_give, argS_val, List.getElem?_cons_zero, List.getElem?_cons_succ, List.set_cons_zero, List.set_cons_succ, Option.map_some, Option.map_none, GE_phi, GE_fuel, o_addI, o_subI, o_eqI, o_neI, o_eqB, o_neB, o_ltI, o_leI, o_gtI, o_geI, o_ltS, o_leS, o_gtS, o_geS, o_eqS, o_neS, o_isB, t_non, t_bl, t_int, t_str, t_tup, t_lst, ix_L0, ix_T0, ix_T1, ix_T2, ix_T3, ix_T4, ix_Tm, ix_Lm, bi_lenL, bi_lenC, bi_lenT, bi_lenS, bi_tupL, bi_tupT, bi_lstL, bi_lstT, bi_intI, bi_sortL, bi_sortT, s_L, s_T, s_S, s_K, p_non, kn_non, kx_non, kn_str, kx_str, kn_int, kx_int, kn_tup, kx_tup, kn_lst, kx_lst, kn_bl, kx_bl, g_addI, cmp_mem, cmp_nmem, ↓reduceIte, ↓u_node_at_C1c, ↓u_node_at_C1, ↓u_node_at_I1, ↓u_node_at_L1, ↓u_node_at, ↓u_head_of, ↓u_is_met_I1, ↓u_is_met_C1c, ↓u_is_met_C1, ↓u_is_met_I2, ↓u_is_met, ↓u_leaves_below_I1, ↓u_leaves_below_L1, ↓u_leaves_below, ↓u_turns_C1c, ↓u_turns_C1, ↓u_turns_I1, ↓u_turns_I2, ↓u_turns_L1, ↓u_turns, ↓u__law_draws_I1, ↓u__law_draws_I2, ↓u__law_draws_L2, ↓u__law_draws_L1, ↓u__law_draws_L3, ↓u__law_draws, ↓u__law_next_I1, ↓u__law_next, ↓u__law_pick, ↓u__law_is_bit, ↓u__law_words_C1, ↓u__law_words, ↓u__law_label, ↓u__law_key_C1c, ↓u__law_key_C1, ↓u__law_key, ↓u__law_body_L1, ↓u__law_body_C1, ↓u__law_body_L2, ↓u__law_body, ↓u__law_listed_I1, ↓u__law_listed_L1, ↓u__law_listed, ↓u__law_head, ↓u__law_met_I1, ↓u__law_met_C1c, ↓u__law_met_C1, ↓u__law_met_I2, ↓u__law_met, ↓u__law_leaves_I1, ↓u__law_leaves_L1, ↓u__law_leaves, ↓u__law_nodes_C1, ↓u__law_nodes_I1, ↓u__law_nodes_C2, ↓u__law_nodes_L1, ↓u__law_nodes, ↓u_law_C1c, ↓u_law_C1, ↓u_law_I1, ↓u_law_C2c, ↓u_law_C2, ↓u_law_I2, ↓u_law_L3, ↓u_law_I3, ↓u_law_L2, ↓u_law_L1, ↓u_law, GEm_0, GEm_1, GEm_2, GEm_3, GEm_4, GEm_5, GEm_6, GEm_7, GEm_8, GEm_9, GEm_10, GEm_11, GEm_12, GEm_13, GEm_14, GEm_15, GEm_16, GEm_17, GEm_18, GEg_0, ix_N0, ix_N1, ix_N2, srcB, bi_lenB, eqW, neW, memPs, memLPs, eqPs, nePs, setT_N, o_snocW (show p.length ≤ 100 by omega), this]
      cases met (d + 1) kid (p ++ [kid.l]) F <;> simp)
    rw [met]
    cases e : hdW n.w with
    | none => simp only [rn__law_met, ↓r_k, ↓r_v, ↓r_g, ↓r_bin, ↓r_cmp, ↓r_chn, ↓r_isK, ↓r_and, ↓r_or, ↓r_not, ↓r_neg, ↓r_ite, ↓r_idx, ↓r_slc, ↓r_rev, ↓r_tup, ↓r_lst, ↓r_dct, ↓r_call, ↓r_bi, ↓r_mt, ↓r_mu, ↓r_comp, ↓r_nil, ↓r_cons, ↓r_asg, ↓r_unp, ↓r_par, ↓r_aug, ↓r_sto, ↓r_aus, ↓r_ex, ↓r_ifs, ↓r_fr, ↓r_wh, ↓r_ret, ↓r_retN, ↓r_brk, ↓r_cnt, ↓r_pas, ↓r_frg, ↓r_rse, ↓r_snil, ↓r_scons, lk1_d, lk1_new, lk1_slot, lkS_own, lkS_val, lks_nil, lks_cons, fz1_d, fz1_new, fz1_slot, fzS_own, fzS_val, fzs_nil, fzs_cons, opt_some, opt_none, cndS_some, optS_some, gOwnS_own, gValS_val, isDS_d, lk1S_d, lk1S_new, lk1S_slot, lkSS_own, lkSS_val, rdV_val, rdV_own, isD_d, gOwn_own, gVal_val, bind_ok, bind_stuck, bind_exc, bind_ite, toO_ok, toO_stuck, toO_exc, toO_ite, obind_nx, obind_bk, obind_ct, obind_rt, obind_exc, obind_stuck, obind_ite, of_some, of_ite, oof_some, callK_ok, callK_exc, callK_ite, isLst_lst, compK_ok, compW_nil, setV_eq, setVc_none, setVc_val, setVc_own, setO_eq, setOc_none, setOc_val, setOc_own, setVs_nil, setVs_cons, setT_one, setT_many, setR_d, setR_new, setR_slot, setR_own, setRs_nil, setRs_d, setRs_new, wipe_nil, wipe_cons, unwipe_nil, unwipe_cons, unwC_val, unwC_none, unwC_own, fl_nil, flK_nx, flK_ct, flK_bk, flK_rt, flK_exc, flK_ite, whK_nx, whK_ct, whK_bk, whK_rt, whK_exc, whK_ite, finK_nx, finK_rt, finK_exc, finK_ite, outRV_d, outRV_new, outRV_slot, outS_own, outS_val, outCells_nil, outCells_val, outCells_own, backCells_nil, backCells_0, backCells_s, argCells_nil, argCells_cons, argK_some, arg1_d, arg1_new, arg1_slot, argS_true, argS_home, argS_give, argS_val, List.getElem?_cons_zero, List.getElem?_cons_succ, List.set_cons_zero, List.set_cons_succ, Option.map_some, Option.map_none, GE_phi, GE_fuel, o_addI, o_subI, o_eqI, o_neI, o_eqB, o_neB, o_ltI, o_leI, o_gtI, o_geI, o_ltS, o_leS, o_gtS, o_geS, o_eqS, o_neS, o_isB, t_non, t_bl, t_int, t_str, t_tup, t_lst, ix_L0, ix_T0, ix_T1, ix_T2, ix_T3, ix_T4, ix_Tm, ix_Lm, bi_lenL, bi_lenC, bi_lenT, bi_lenS, bi_tupL, bi_tupT, bi_lstL, bi_lstT, bi_intI, bi_sortL, bi_sortT, s_L, s_T, s_S, s_K, p_non, kn_non, kx_non, kn_str, kx_str, kn_int, kx_int, kn_tup, kx_tup, kn_lst, kx_lst, kn_bl, kx_bl, g_addI, cmp_mem, cmp_nmem, ↓reduceIte, ↓u_node_at_C1c, ↓u_node_at_C1, ↓u_node_at_I1, ↓u_node_at_L1, ↓u_node_at, ↓u_head_of, ↓u_is_met_I1, ↓u_is_met_C1c, ↓u_is_met_C1, ↓u_is_met_I2, ↓u_is_met, ↓u_leaves_below_I1, ↓u_leaves_below_L1, ↓u_leaves_below, ↓u_turns_C1c, ↓u_turns_C1, ↓u_turns_I1, ↓u_turns_I2, ↓u_turns_L1, ↓u_turns, ↓u__law_draws_I1, ↓u__law_draws_I2, ↓u__law_draws_L2, ↓u__law_draws_L1, ↓u__law_draws_L3, ↓u__law_draws, ↓u__law_next_I1, ↓u__law_next, ↓u__law_pick, ↓u__law_is_bit, ↓u__law_words_C1, ↓u__law_words, ↓u__law_label, ↓u__law_key_C1c, ↓u__law_key_C1, ↓u__law_key, ↓u__law_body_L1, ↓u__law_body_C1, ↓u__law_body_L2, ↓u__law_body, ↓u__law_listed_I1, ↓u__law_listed_L1, ↓u__law_listed, ↓u__law_head, ↓u__law_met_I1, ↓u__law_met_C1c, ↓u__law_met_C1, ↓u__law_met_I2, ↓u__law_met, ↓u__law_leaves_I1, ↓u__law_leaves_L1, ↓u__law_leaves, ↓u__law_nodes_C1, ↓u__law_nodes_I1, ↓u__law_nodes_C2, ↓u__law_nodes_L1, ↓u__law_nodes, ↓u_law_C1c, ↓u_law_C1, ↓u_law_I1, ↓u_law_C2c, ↓u_law_C2, ↓u_law_I2, ↓u_law_L3, ↓u_law_I3, ↓u_law_L2, ↓u_law_L1, ↓u_law, GEm_0, GEm_1, GEm_2, GEm_3, GEm_4, GEm_5, GEm_6, GEm_7, GEm_8, GEm_9, GEm_10, GEm_11, GEm_12, GEm_13, GEm_14, GEm_15, GEm_16, GEm_17, GEm_18, GEg_0, ix_N0, ix_N1, ix_N2, srcB, bi_lenB, eqW, neW, memPs, memLPs, eqPs, nePs, setT_N, law_head_sp, isN_S, hF, e, Option.isNone_none]
    | some h =>
      rw [e] at hc
      have hle : (n.k.filter fun kid => met (d + 1) kid (p ++ [kid.l]) F).length ≤ n.k.length := List.length_filter_le _ _
      simp only [rn__law_met, ↓r_k, ↓r_v, ↓r_g, ↓r_bin, ↓r_cmp, ↓r_chn, ↓r_isK, ↓r_and, ↓r_or, ↓r_not, ↓r_neg, ↓r_ite, ↓r_idx, ↓r_slc, ↓r_rev, ↓r_tup, ↓r_lst, ↓r_dct, ↓r_call, ↓r_bi, ↓r_mt, ↓r_mu, ↓r_comp, ↓r_nil, ↓r_cons, ↓r_asg, ↓r_unp, ↓r_par, ↓r_aug, ↓r_sto, ↓r_aus, ↓r_ex, ↓r_ifs, ↓r_fr, ↓r_wh, ↓r_ret, ↓r_retN, ↓r_brk, ↓r_cnt, ↓r_pas, ↓r_frg, ↓r_rse, ↓r_snil, ↓r_scons, lk1_d, lk1_new, lk1_slot, lkS_own, lkS_val, lks_nil, lks_cons, fz1_d, fz1_new, fz1_slot, fzS_own, fzS_val, fzs_nil, fzs_cons, opt_some, opt_none, cndS_some, optS_some, gOwnS_own, gValS_val, isDS_d, lk1S_d, lk1S_new, lk1S_slot, lkSS_own, lkSS_val, rdV_val, rdV_own, isD_d, gOwn_own, gVal_val, bind_ok, bind_stuck, bind_exc, bind_ite, toO_ok, toO_stuck, toO_exc, toO_ite, obind_nx, obind_bk, obind_ct, obind_rt, obind_exc, obind_stuck, obind_ite, of_some, of_ite, oof_some, callK_ok, callK_exc, callK_ite, isLst_lst, compK_ok, compW_nil, setV_eq, setVc_none, setVc_val, setVc_own, setO_eq, setOc_none, setOc_val, setOc_own, setVs_nil, setVs_cons, setT_one, setT_many, setR_d, setR_new, setR_slot, setR_own, setRs_nil, setRs_d, setRs_new, wipe_nil, wipe_cons, unwipe_nil, unwipe_cons, unwC_val, unwC_none, unwC_own, fl_nil, flK_nx, flK_ct, flK_bk, flK_rt, flK_exc, flK_ite, whK_nx, whK_ct, whK_bk, whK_rt, whK_exc, whK_ite, finK_nx, finK_rt, finK_exc, finK_ite, outRV_d, outRV_new, outRV_slot, outS_own, outS_val, outCells_nil, outCells_val, outCells_own, backCells_nil, backCells_0, backCells_s, argCells_nil, argCells_cons, argK_some, arg1_d, arg1_new, arg1_slot, argS_true, argS_home, argS_give, argS_val, List.getElem?_cons_zero, List.getElem?_cons_succ, List.set_cons_zero, List.set_cons_succ, Option.map_some, Option.map_none, GE_phi, GE_fuel, o_addI, o_subI, o_eqI, o_neI, o_eqB, o_neB, o_ltI, o_leI, o_gtI, o_geI, o_ltS, o_leS, o_gtS, o_geS, o_eqS, o_neS, o_isB, t_non, t_bl, t_int, t_str, t_tup, t_lst, ix_L0, ix_T0, ix_T1, ix_T2, ix_T3, ix_T4, ix_Tm, ix_Lm, bi_lenL, bi_lenC, bi_lenT, bi_lenS, bi_tupL, bi_tupT, bi_lstL, bi_lstT, bi_intI, bi_sortL, bi_sortT, s_L, s_T, s_S, s_K, p_non, kn_non, kx_non, kn_str, kx_str, kn_int, kx_int, kn_tup, kx_tup, kn_lst, kx_lst, kn_bl, kx_bl, g_addI, cmp_mem, cmp_nmem, ↓reduceIte, ↓u_node_at_C1c, ↓u_node_at_C1, ↓u_node_at_I1, ↓u_node_at_L1, ↓u_node_at, ↓u_head_of, ↓u_is_met_I1, ↓u_is_met_C1c, ↓u_is_met_C1, ↓u_is_met_I2, ↓u_is_met, ↓u_leaves_below_I1, ↓u_leaves_below_L1, ↓u_leaves_below, ↓u_turns_C1c, ↓u_turns_C1, ↓u_turns_I1, ↓u_turns_I2, ↓u_turns_L1, ↓u_turns, ↓u__law_draws_I1, ↓u__law_draws_I2, ↓u__law_draws_L2, ↓u__law_draws_L1, ↓u__law_draws_L3, ↓u__law_draws, ↓u__law_next_I1, ↓u__law_next, ↓u__law_pick, ↓u__law_is_bit, ↓u__law_words_C1, ↓u__law_words, ↓u__law_label, ↓u__law_key_C1c, ↓u__law_key_C1, ↓u__law_key, ↓u__law_body_L1, ↓u__law_body_C1, ↓u__law_body_L2, ↓u__law_body, ↓u__law_listed_I1, ↓u__law_listed_L1, ↓u__law_listed, ↓u__law_head, ↓u__law_met_I1, ↓u__law_met_C1c, ↓u__law_met_C1, ↓u__law_met_I2, ↓u__law_met, ↓u__law_leaves_I1, ↓u__law_leaves_L1, ↓u__law_leaves, ↓u__law_nodes_C1, ↓u__law_nodes_I1, ↓u__law_nodes_C2, ↓u__law_nodes_L1, ↓u__law_nodes, ↓u_law_C1c, ↓u_law_C1, ↓u_law_I1, ↓u_law_C2c, ↓u_law_C2, ↓u_law_I2, ↓u_law_L3, ↓u_law_I3, ↓u_law_L2, ↓u_law_L1, ↓u_law, GEm_0, GEm_1, GEm_2, GEm_3, GEm_4, GEm_5, GEm_6, GEm_7, GEm_8, GEm_9, GEm_10, GEm_11, GEm_12, GEm_13, GEm_14, GEm_15, GEm_16, GEm_17, GEm_18, GEg_0, ix_N0, ix_N1, ix_N2, srcB, bi_lenB, eqW, neW, memPs, memLPs, eqPs, nePs, setT_N, law_head_sp, isN_S, e, Option.isNone_some, Bool.false_eq_true, hc, List.nil_append, List.length_map, natI]
      generalize (n.k.filter fun kid => met (d + 1) kid (p ++ [kid.l]) F).length = c at hle ⊢
      rcases hdW_mem e with rfl | rfl | rfl | rfl <;> simp [encS, ↓r_k, ↓r_v, ↓r_g, ↓r_bin, ↓r_cmp, ↓r_chn, ↓r_isK, ↓r_and, ↓r_or, ↓r_not, ↓r_neg, ↓r_ite, ↓r_idx, ↓r_slc, ↓r_rev, ↓r_tup, ↓r_lst, ↓r_dct, ↓r_call, ↓r_bi, ↓r_mt, ↓r_mu, ↓r_comp, ↓r_nil, ↓r_cons, ↓r_asg, ↓r_unp, ↓r_par, ↓r_aug, ↓r_sto, ↓r_aus, ↓r_ex, ↓r_ifs, ↓r_fr, ↓r_wh, ↓r_ret, ↓r_retN, ↓r_brk, ↓r_cnt, ↓r_pas, ↓r_frg, ↓r_rse, ↓r_snil, ↓r_scons, lk1_d, lk1_new, lk1_slot, lkS_own, lkS_val, lks_nil, lks_cons, fz1_d, fz1_new, fz1_slot, fzS_own, fzS_val, fzs_nil, fzs_cons, opt_some, opt_none, cndS_some, optS_some, gOwnS_own, gValS_val, isDS_d, lk1S_d, lk1S_new, lk1S_slot, lkSS_own, lkSS_val, rdV_val, rdV_own, isD_d, gOwn_own, gVal_val, bind_ok, bind_stuck, bind_exc, bind_ite, toO_ok, toO_stuck, toO_exc, toO_ite, obind_nx, obind_bk, obind_ct, obind_rt, obind_exc, obind_stuck, obind_ite, of_some, of_ite, oof_some, callK_ok, callK_exc, callK_ite, isLst_lst, compK_ok, compW_nil, setV_eq, setVc_none, setVc_val, setVc_own, setO_eq, setOc_none, setOc_val, setOc_own, setVs_nil, setVs_cons, setT_one, setT_many, setR_d, setR_new, setR_slot, setR_own, setRs_nil, setRs_d, setRs_new, wipe_nil, wipe_cons, unwipe_nil, unwipe_cons, unwC_val, unwC_none, unwC_own, fl_nil, flK_nx, flK_ct, flK_bk, flK_rt, flK_exc, flK_ite, whK_nx, whK_ct, whK_bk, whK_rt, whK_exc, whK_ite, finK_nx, finK_rt, finK_exc, finK_ite, outRV_d, outRV_new, outRV_slot, outS_own, outS_val, outCells_nil, outCells_val, outCells_own, backCells_nil, backCells_0, backCells_s, argCells_nil, argCells_cons, argK_some, arg1_d, arg1_new, arg1_slot, argS_true, argS_home, argS_give, argS_val, List.getElem?_cons_zero, List.getElem?_cons_succ, List.set_cons_zero, List.set_cons_succ, Option.map_some, Option.map_none, GE_phi, GE_fuel, o_addI, o_subI, o_eqI, o_neI, o_eqB, o_neB, o_ltI, o_leI, o_gtI, o_geI, o_ltS, o_leS, o_gtS, o_geS, o_eqS, o_neS, o_isB, t_non, t_bl, t_int, t_str, t_tup, t_lst, ix_L0, ix_T0, ix_T1, ix_T2, ix_T3, ix_T4, ix_Tm, ix_Lm, bi_lenL, bi_lenC, bi_lenT, bi_lenS, bi_tupL, bi_tupT, bi_lstL, bi_lstT, bi_intI, bi_sortL, bi_sortT, s_L, s_T, s_S, s_K, p_non, kn_non, kx_non, kn_str, kx_str, kn_int, kx_int, kn_tup, kx_tup, kn_lst, kx_lst, kn_bl, kx_bl, g_addI, cmp_mem, cmp_nmem, ↓reduceIte, ↓u_node_at_C1c, ↓u_node_at_C1, ↓u_node_at_I1, ↓u_node_at_L1, ↓u_node_at, ↓u_head_of, ↓u_is_met_I1, ↓u_is_met_C1c, ↓u_is_met_C1, ↓u_is_met_I2, ↓u_is_met, ↓u_leaves_below_I1, ↓u_leaves_below_L1, ↓u_leaves_below, ↓u_turns_C1c, ↓u_turns_C1, ↓u_turns_I1, ↓u_turns_I2, ↓u_turns_L1, ↓u_turns, ↓u__law_draws_I1, ↓u__law_draws_I2, ↓u__law_draws_L2, ↓u__law_draws_L1, ↓u__law_draws_L3, ↓u__law_draws, ↓u__law_next_I1, ↓u__law_next, ↓u__law_pick, ↓u__law_is_bit, ↓u__law_words_C1, ↓u__law_words, ↓u__law_label, ↓u__law_key_C1c, ↓u__law_key_C1, ↓u__law_key, ↓u__law_body_L1, ↓u__law_body_C1, ↓u__law_body_L2, ↓u__law_body, ↓u__law_listed_I1, ↓u__law_listed_L1, ↓u__law_listed, ↓u__law_head, ↓u__law_met_I1, ↓u__law_met_C1c, ↓u__law_met_C1, ↓u__law_met_I2, ↓u__law_met, ↓u__law_leaves_I1, ↓u__law_leaves_L1, ↓u__law_leaves, ↓u__law_nodes_C1, ↓u__law_nodes_I1, ↓u__law_nodes_C2, ↓u__law_nodes_L1, ↓u__law_nodes, ↓u_law_C1c, ↓u_law_C1, ↓u_law_I1, ↓u_law_C2c, ↓u_law_C2, ↓u_law_I2, ↓u_law_L3, ↓u_law_I3, ↓u_law_L2, ↓u_law_L1, ↓u_law, GEm_0, GEm_1, GEm_2, GEm_3, GEm_4, GEm_5, GEm_6, GEm_7, GEm_8, GEm_9, GEm_10, GEm_11, GEm_12, GEm_13, GEm_14, GEm_15, GEm_16, GEm_17, GEm_18, GEg_0, ix_N0, ix_N1, ix_N2, srcB, bi_lenB, eqW, neW, memPs, memLPs, eqPs, nePs, setT_N, natI, hAll, hOne, hTwo, hNone] <;> omega
/-! leaves -/
def leaves : Nat → Nd → List St → List (List St)
  | 0, _, p => [p]
  | d + 1, n, p => match hdW n.w with
    | none => [p]
    | some _ => n.k.flatMap fun kid => leaves d kid (p ++ [kid.l])
theorem leaves_len {m : Nat} : ∀ (d : Nat) (n : Nd) (p : List St), okB m d n.k → (leaves (d + 1) n p).length ≤ 3 ^ (d + 1) := by
  intro d
  induction d with
  | zero =>
    intro n p h
    have hk : n.k = [] := h
    simp only [leaves]
    cases hdW n.w <;> simp [hk]
  | succ d ih =>
    intro n p h
    rw [leaves]
    cases hdW n.w with
    | none => simp; exact Nat.one_le_pow _ _ (by decide)
    | some x =>
      simp only
      have hl := okB_len h
      have : ∀ K : List Nd, (∀ x ∈ K, x ∈ n.k) → (K.flatMap fun kid => leaves (d + 1) kid (p ++ [kid.l])).length ≤ K.length * 3 ^ (d + 1) := by
        intro K
        induction K with
        | nil => intro _; simp
        | cons a K ihK =>
          intro hK
          have h1 := ih a (p ++ [a.l]) (okB_kid h (hK a List.mem_cons_self)).2.2.2.2
          have h2 := ihK fun x hx => hK x (List.mem_cons_of_mem _ hx)
          simp only [List.flatMap_cons, List.length_append, List.length_cons, Nat.add_mul, Nat.one_mul]
          omega
      have := this n.k fun _ h => h
      have h3 : n.k.length * 3 ^ (d + 1) ≤ 3 * 3 ^ (d + 1) := Nat.mul_le_mul_right _ hl
      rw [Nat.pow_succ 3 (d + 1)]
      omega
theorem flat_len {m d : Nat} {n : Nd} {p : List St} (h : okB m d n.k) (hd : d ≤ 5) (K : List Nd) (hK : ∀ x ∈ K, x ∈ n.k) (hl : K.length ≤ 3) : (K.flatMap fun kid => leaves d kid (p ++ [kid.l])).length ≤ 1000 := by
  have : ∀ K : List Nd, (∀ x ∈ K, x ∈ n.k) → (K.flatMap fun kid => leaves d kid (p ++ [kid.l])).length ≤ K.length * 3 ^ 5 := by
    intro K
    induction K with
    | nil => intro _; simp
    | cons a K ihK =>
      intro hK
      obtain ⟨h0, _, _, _, h5⟩ := okB_kid h (hK a List.mem_cons_self)
      have h1 := leaves_len (d - 1) a (p ++ [a.l]) h5
      rw [show d - 1 + 1 = d by omega] at h1
      have h2 := ihK fun x hx => hK x (List.mem_cons_of_mem _ hx)
      have h4 : 3 ^ d ≤ 3 ^ 5 := Nat.pow_le_pow_right (by decide) hd
      simp only [List.flatMap_cons, List.length_append, List.length_cons, Nat.add_mul, Nat.one_mul]
      omega
  have := this K hK
  have : K.length * 3 ^ 5 ≤ 3 * 3 ^ 5 := Nat.mul_le_mul_right _ hl
  omega
theorem a_extPs {l : List (List St)} {r : List (List St)} (h : l.length + r.length ≤ 100000) : muD .extend (lstPs l) [encPs r] = some (lstPs (l ++ r), .non) := by
  rw [lstPs, encPs, a_extT (by simp [line]; omega)]; simp [lstPs]
theorem a_appPs {l : List (List St)} {r : List St} (h : l.length ≤ 100000) : muD .append (lstPs l) [encW r] = some (lstPs (l ++ [r]), .non) := by
  rw [lstPs, a_app (by simp [line]; omega)]; simp [lstPs]
theorem o_addPs {l : List (List St)} {r : List (List St)} (h : l.length + r.length ≤ 100000) : binD .add (lstPs l) (lstPs r) = some (.new (lstPs (l ++ r))) := by
  rw [lstPs, lstPs, o_addL (by simp [line]; omega)]; simp [lstPs]
theorem bi_tupPs (l : List (List St)) : biD .tuple [lstPs l] = some (.d (encPs l)) := rfl
theorem isLst_Ps {α : Type} (l : List (List St)) (σ : Sg) (z : α) (x : Sg → α) : isLst (lstPs l) σ z x = x σ := rfl
theorem lst0 : D.lst [] = lstPs [] := rfl
theorem lst1 (p : List St) : D.lst [encW p] = lstPs [p] := rfl
theorem tup1 (p : List St) : D.tup [encW p] = encPs [p] := rfl
theorem leaves_below_sp (m d0 : Nat) (hd0 : d0 ≤ 20) (B : List Nd) (okb : okB m d0 B) : ∀ (d k : Nat) (n : Nd) (p : List St), okB m d n.k → d ≤ 5 → p.length + d ≤ 100 → na B none p = some (n.k, some n) →
    run tab globD 2000 (k + d + 2) 3 [.val (encB B), .val (encW p)] = .ok (.d (encPs (leaves (d + 1) n p))) [.val (encB B), .val (encW p)] := by
  intro d
  induction d with
  | zero =>
    intro k n p ok _ hp hn
    have hk : n.k = [] := ok
    have hs := node_at_sp k m d0 B p okb hd0 hn
    cases e : hdW n.w with
    | none => simp only [rn_leaves_below, ↓r_k, ↓r_v, ↓r_g, ↓r_bin, ↓r_cmp, ↓r_chn, ↓r_isK, ↓r_and, ↓r_or, ↓r_not, ↓r_neg, ↓r_ite, ↓r_idx, ↓r_slc, ↓r_rev, ↓r_tup, ↓r_lst, ↓r_dct, ↓r_call, ↓r_bi, ↓r_mt, ↓r_mu, ↓r_comp, ↓r_nil, ↓r_cons, ↓r_asg, ↓r_unp, ↓r_par, ↓r_aug, ↓r_sto, ↓r_aus, ↓r_ex, ↓r_ifs, ↓r_fr, ↓r_wh, ↓r_ret, ↓r_retN, ↓r_brk, ↓r_cnt, ↓r_pas, ↓r_frg, ↓r_rse, ↓r_snil, ↓r_scons, lk1_d, lk1_new, lk1_slot, lkS_own, lkS_val, lks_nil, lks_cons, fz1_d, fz1_new, fz1_slot, fzS_own, fzS_val, fzs_nil, fzs_cons, opt_some, opt_none, cndS_some, optS_some, gOwnS_own, gValS_val, isDS_d, lk1S_d, lk1S_new, lk1S_slot, lkSS_own, lkSS_val, rdV_val, rdV_own, isD_d, gOwn_own, gVal_val, bind_ok, bind_stuck, bind_exc, bind_ite, toO_ok, toO_stuck, toO_exc, toO_ite, obind_nx, obind_bk, obind_ct, obind_rt, obind_exc, obind_stuck, obind_ite, of_some, of_ite, oof_some, callK_ok, callK_exc, callK_ite, isLst_lst, compK_ok, compW_nil, setV_eq, setVc_none, setVc_val, setVc_own, setO_eq, setOc_none, setOc_val, setOc_own, setVs_nil, setVs_cons, setT_one, setT_many, setR_d, setR_new, setR_slot, setR_own, setRs_nil, setRs_d, setRs_new, wipe_nil, wipe_cons, unwipe_nil, unwipe_cons, unwC_val, unwC_none, unwC_own, fl_nil, flK_nx, flK_ct, flK_bk, flK_rt, flK_exc, flK_ite, whK_nx, whK_ct, whK_bk, whK_rt, whK_exc, whK_ite, finK_nx, finK_rt, finK_exc, finK_ite, outRV_d, outRV_new, outRV_slot, outS_own, outS_val, outCells_nil, outCells_val, outCells_own, backCells_nil, backCells_0, backCells_s, argCells_nil, argCells_cons, argK_some, arg1_d, arg1_new, arg1_slot, argS_true, argS_home, argS_give, argS_val, List.getElem?_cons_zero, List.getElem?_cons_succ, List.set_cons_zero, List.set_cons_succ, Option.map_some, Option.map_none, GE_phi, GE_fuel, o_addI, o_subI, o_eqI, o_neI, o_eqB, o_neB, o_ltI, o_leI, o_gtI, o_geI, o_ltS, o_leS, o_gtS, o_geS, o_eqS, o_neS, o_isB, t_non, t_bl, t_int, t_str, t_tup, t_lst, ix_L0, ix_T0, ix_T1, ix_T2, ix_T3, ix_T4, ix_Tm, ix_Lm, bi_lenL, bi_lenC, bi_lenT, bi_lenS, bi_tupL, bi_tupT, bi_lstL, bi_lstT, bi_intI, bi_sortL, bi_sortT, s_L, s_T, s_S, s_K, p_non, kn_non, kx_non, kn_str, kx_str, kn_int, kx_int, kn_tup, kx_tup, kn_lst, kx_lst, kn_bl, kx_bl, g_addI, cmp_mem, cmp_nmem, ↓reduceIte, ↓u_node_at_C1c, ↓u_node_at_C1, ↓u_node_at_I1, ↓u_node_at_L1, ↓u_node_at, ↓u_head_of, ↓u_is_met_I1, ↓u_is_met_C1c, ↓u_is_met_C1, ↓u_is_met_I2, ↓u_is_met, ↓u_leaves_below_I1, ↓u_leaves_below_L1, ↓u_leaves_below, ↓u_turns_C1c, ↓u_turns_C1, ↓u_turns_I1, ↓u_turns_I2, ↓u_turns_L1, ↓u_turns, ↓u__law_draws_I1, ↓u__law_draws_I2, ↓u__law_draws_L2, ↓u__law_draws_L1, ↓u__law_draws_L3, ↓u__law_draws, ↓u__law_next_I1, ↓u__law_next, ↓u__law_pick, ↓u__law_is_bit, ↓u__law_words_C1, ↓u__law_words, ↓u__law_label, ↓u__law_key_C1c, ↓u__law_key_C1, ↓u__law_key, ↓u__law_body_L1, ↓u__law_body_C1, ↓u__law_body_L2, ↓u__law_body, ↓u__law_listed_I1, ↓u__law_listed_L1, ↓u__law_listed, ↓u__law_head, ↓u__law_met_I1, ↓u__law_met_C1c, ↓u__law_met_C1, ↓u__law_met_I2, ↓u__law_met, ↓u__law_leaves_I1, ↓u__law_leaves_L1, ↓u__law_leaves, ↓u__law_nodes_C1, ↓u__law_nodes_I1, ↓u__law_nodes_C2, ↓u__law_nodes_L1, ↓u__law_nodes, ↓u_law_C1c, ↓u_law_C1, ↓u_law_I1, ↓u_law_C2c, ↓u_law_C2, ↓u_law_I2, ↓u_law_L3, ↓u_law_I3, ↓u_law_L2, ↓u_law_L1, ↓u_law, GEm_0, GEm_1, GEm_2, GEm_3, GEm_4, GEm_5, GEm_6, GEm_7, GEm_8, GEm_9, GEm_10, GEm_11, GEm_12, GEm_13, GEm_14, GEm_15, GEm_16, GEm_17, GEm_18, GEg_0, ix_N0, ix_N1, ix_N2, srcB, bi_lenB, eqW, neW, memPs, memLPs, eqPs, nePs, setT_N, hs, encO, head_of_sp, isN_S, leaves, e, Option.isNone_none, tup1]
    | some h => simp only [rn_leaves_below, ↓r_k, ↓r_v, ↓r_g, ↓r_bin, ↓r_cmp, ↓r_chn, ↓r_isK, ↓r_and, ↓r_or, ↓r_not, ↓r_neg, ↓r_ite, ↓r_idx, ↓r_slc, ↓r_rev, ↓r_tup, ↓r_lst, ↓r_dct, ↓r_call, ↓r_bi, ↓r_mt, ↓r_mu, ↓r_comp, ↓r_nil, ↓r_cons, ↓r_asg, ↓r_unp, ↓r_par, ↓r_aug, ↓r_sto, ↓r_aus, ↓r_ex, ↓r_ifs, ↓r_fr, ↓r_wh, ↓r_ret, ↓r_retN, ↓r_brk, ↓r_cnt, ↓r_pas, ↓r_frg, ↓r_rse, ↓r_snil, ↓r_scons, lk1_d, lk1_new, lk1_slot, lkS_own, lkS_val, lks_nil, lks_cons, fz1_d, fz1_new, fz1_slot, fzS_own, fzS_val, fzs_nil, fzs_cons, opt_some, opt_none, cndS_some, optS_some, gOwnS_own, gValS_val, isDS_d, lk1S_d, lk1S_new, lk1S_slot, lkSS_own, lkSS_val, rdV_val, rdV_own, isD_d, gOwn_own, gVal_val, bind_ok, bind_stuck, bind_exc, bind_ite, toO_ok, toO_stuck, toO_exc, toO_ite, obind_nx, obind_bk, obind_ct, obind_rt, obind_exc, obind_stuck, obind_ite, of_some, of_ite, oof_some, callK_ok, callK_exc, callK_ite, isLst_lst, compK_ok, compW_nil, setV_eq, setVc_none, setVc_val, setVc_own, setO_eq, setOc_none, setOc_val, setOc_own, setVs_nil, setVs_cons, setT_one, setT_many, setR_d, setR_new, setR_slot, setR_own, setRs_nil, setRs_d, setRs_new, wipe_nil, wipe_cons, unwipe_nil, unwipe_cons, unwC_val, unwC_none, unwC_own, fl_nil, flK_nx, flK_ct, flK_bk, flK_rt, flK_exc, flK_ite, whK_nx, whK_ct, whK_bk, whK_rt, whK_exc, whK_ite, finK_nx, finK_rt, finK_exc, finK_ite, outRV_d, outRV_new, outRV_slot, outS_own, outS_val, outCells_nil, outCells_val, outCells_own, backCells_nil, backCells_0, backCells_s, argCells_nil, argCells_cons, argK_some, arg1_d, arg1_new, arg1_slot, argS_true, argS_home, argS_give, argS_val, List.getElem?_cons_zero, List.getElem?_cons_succ, List.set_cons_zero, List.set_cons_succ, Option.map_some, Option.map_none, GE_phi, GE_fuel, o_addI, o_subI, o_eqI, o_neI, o_eqB, o_neB, o_ltI, o_leI, o_gtI, o_geI, o_ltS, o_leS, o_gtS, o_geS, o_eqS, o_neS, o_isB, t_non, t_bl, t_int, t_str, t_tup, t_lst, ix_L0, ix_T0, ix_T1, ix_T2, ix_T3, ix_T4, ix_Tm, ix_Lm, bi_lenL, bi_lenC, bi_lenT, bi_lenS, bi_tupL, bi_tupT, bi_lstL, bi_lstT, bi_intI, bi_sortL, bi_sortT, s_L, s_T, s_S, s_K, p_non, kn_non, kx_non, kn_str, kx_str, kn_int, kx_int, kn_tup, kx_tup, kn_lst, kx_lst, kn_bl, kx_bl, g_addI, cmp_mem, cmp_nmem, ↓reduceIte, ↓u_node_at_C1c, ↓u_node_at_C1, ↓u_node_at_I1, ↓u_node_at_L1, ↓u_node_at, ↓u_head_of, ↓u_is_met_I1, ↓u_is_met_C1c, ↓u_is_met_C1, ↓u_is_met_I2, ↓u_is_met, ↓u_leaves_below_I1, ↓u_leaves_below_L1, ↓u_leaves_below, ↓u_turns_C1c, ↓u_turns_C1, ↓u_turns_I1, ↓u_turns_I2, ↓u_turns_L1, ↓u_turns, ↓u__law_draws_I1, ↓u__law_draws_I2, ↓u__law_draws_L2, ↓u__law_draws_L1, ↓u__law_draws_L3, ↓u__law_draws, ↓u__law_next_I1, ↓u__law_next, ↓u__law_pick, ↓u__law_is_bit, ↓u__law_words_C1, ↓u__law_words, ↓u__law_label, ↓u__law_key_C1c, ↓u__law_key_C1, ↓u__law_key, ↓u__law_body_L1, ↓u__law_body_C1, ↓u__law_body_L2, ↓u__law_body, ↓u__law_listed_I1, ↓u__law_listed_L1, ↓u__law_listed, ↓u__law_head, ↓u__law_met_I1, ↓u__law_met_C1c, ↓u__law_met_C1, ↓u__law_met_I2, ↓u__law_met, ↓u__law_leaves_I1, ↓u__law_leaves_L1, ↓u__law_leaves, ↓u__law_nodes_C1, ↓u__law_nodes_I1, ↓u__law_nodes_C2, ↓u__law_nodes_L1, ↓u__law_nodes, ↓u_law_C1c, ↓u_law_C1, ↓u_law_I1, ↓u_law_C2c, ↓u_law_C2, ↓u_law_I2, ↓u_law_L3, ↓u_law_I3, ↓u_law_L2, ↓u_law_L1, ↓u_law, GEm_0, GEm_1, GEm_2, GEm_3, GEm_4, GEm_5, GEm_6, GEm_7, GEm_8, GEm_9, GEm_10, GEm_11, GEm_12, GEm_13, GEm_14, GEm_15, GEm_16, GEm_17, GEm_18, GEg_0, ix_N0, ix_N1, ix_N2, srcB, bi_lenB, eqW, neW, memPs, memLPs, eqPs, nePs, setT_N, hs, encO, head_of_sp, isN_S, leaves, e, Option.isNone_some, Bool.false_eq_true, hk, List.map_nil, List.flatMap_nil]; rfl
  | succ d ih =>
    intro k n p ok hd hp hn
    have hs := node_at_sp (k + (d + 1)) m d0 B p okb hd0 hn
    have lp : ∀ (K : List Nd) (acc : List (List St)), (∀ x ∈ K, x ∈ n.k) → acc.length + (K.flatMap fun kid => leaves (d + 1) kid (p ++ [kid.l])).length ≤ 100000 → forLoop (.one 4) (exSs (GE (k + (d + 1) + 1)) ir_leaves_below_L1) (K.map encN) [some (.val (encB B)), some (.val (encW p)), some (.val (encN n)), some (.own false (lstPs acc)), none] = .nx [some (.val (encB B)), some (.val (encW p)), some (.val (encN n)), some (.own false (lstPs (acc ++ K.flatMap fun kid => leaves (d + 1) kid (p ++ [kid.l])))), none] := by
      intro K
      induction K with
      | nil => intro acc _ _; simp only [List.map_nil, fl_nil, List.flatMap_nil, List.append_nil]
      | cons kid K ihK =>
        intro acc hK ha
        simp only [List.flatMap_cons, List.length_append] at ha
        have hk := hK kid List.mem_cons_self
        obtain ⟨_, _, _, _, h5⟩ := okB_kid ok hk
        have := ih k kid (p ++ [kid.l]) h5 (by omega) (by simp; omega) (na_kid hn ok hk)
        have : run tab globD 2000 (k + (d + 1) + 1) 3 [.val (encB B), .val (encW (p ++ [kid.l]))] = .ok (.d (encPs (leaves (d + 1) kid (p ++ [kid.l])))) [.val (encB B), .val (encW (p ++ [kid.l]))] := this
        simp only [List.map_cons, fl_cons, ↓r_k, ↓r_v, ↓r_g, ↓r_bin, ↓r_cmp, ↓r_chn, ↓r_isK, ↓r_and, ↓r_or, ↓r_not, ↓r_neg, ↓r_ite, ↓r_idx, ↓r_slc, ↓r_rev, ↓r_tup, ↓r_lst, ↓r_dct, ↓r_call, ↓r_bi, ↓r_mt, ↓r_mu, ↓r_comp, ↓r_nil, ↓r_cons, ↓r_asg, ↓r_unp, ↓r_par, ↓r_aug, ↓r_sto, ↓r_aus, ↓r_ex, ↓r_ifs, ↓r_fr, ↓r_wh, ↓r_ret, ↓r_retN, ↓r_brk, ↓r_cnt, ↓r_pas, ↓r_frg, ↓r_rse, ↓r_snil, ↓r_scons, lk1_d, lk1_new, lk1_slot, lkS_own, lkS_val, lks_nil, lks_cons, fz1_d, fz1_new, fz1_slot, fzS_own, fzS_val, fzs_nil, fzs_cons, opt_some, opt_none, cndS_some, optS_some, gOwnS_own, gValS_val, isDS_d, lk1S_d, lk1S_new, lk1S_slot, lkSS_own, lkSS_val, rdV_val, rdV_own, isD_d, gOwn_own, gVal_val, bind_ok, bind_stuck, bind_exc, bind_ite, toO_ok, toO_stuck, toO_exc, toO_ite, obind_nx, obind_bk, obind_ct, obind_rt, obind_exc, obind_stuck, obind_ite, of_some, of_ite, oof_some, callK_ok, callK_exc, callK_ite, isLst_lst, compK_ok, compW_nil, setV_eq, setVc_none, setVc_val, setVc_own, setO_eq, setOc_none, setOc_val, setOc_own, setVs_nil, setVs_cons, setT_one, setT_many, setR_d, setR_new, setR_slot, setR_own, setRs_nil, setRs_d, setRs_new, wipe_nil, wipe_cons, unwipe_nil, unwipe_cons, unwC_val, unwC_none, unwC_own, fl_nil, flK_nx, flK_ct, flK_bk, flK_rt, flK_exc, flK_ite, whK_nx, whK_ct, whK_bk, whK_rt, whK_exc, whK_ite, finK_nx, finK_rt, finK_exc, finK_ite, outRV_d, outRV_new, outRV_slot, outS_own, outS_val, outCells_nil, outCells_val, outCells_own, backCells_nil, backCells_0, backCells_s, argCells_nil, argCells_cons, argK_some, arg1_d, arg1_new, arg1_slot, argS_true, argS_home, argS_give, argS_val, List.getElem?_cons_zero, List.getElem?_cons_succ, List.set_cons_zero, List.set_cons_succ, Option.map_some, Option.map_none, GE_phi, GE_fuel, o_addI, o_subI, o_eqI, o_neI, o_eqB, o_neB, o_ltI, o_leI, o_gtI, o_geI, o_ltS, o_leS, o_gtS, o_geS, o_eqS, o_neS, o_isB, t_non, t_bl, t_int, t_str, t_tup, t_lst, ix_L0, ix_T0, ix_T1, ix_T2, ix_T3, ix_T4, ix_Tm, ix_Lm, bi_lenL, bi_lenC, bi_lenT, bi_lenS, bi_tupL, bi_tupT, bi_lstL, bi_lstT, bi_intI, bi_sortL, bi_sortT, s_L, s_T, s_S, s_K, p_non, kn_non, kx_non, kn_str, kx_str, kn_int, kx_int, kn_tup, kx_tup, kn_lst, kx_lst, kn_bl, kx_bl, g_addI, cmp_mem, cmp_nmem, ↓reduceIte, ↓u_node_at_C1c, ↓u_node_at_C1, ↓u_node_at_I1, ↓u_node_at_L1, ↓u_node_at, ↓u_head_of, ↓u_is_met_I1, ↓u_is_met_C1c, ↓u_is_met_C1, ↓u_is_met_I2, ↓u_is_met, ↓u_leaves_below_I1, ↓u_leaves_below_L1, ↓u_leaves_below, ↓u_turns_C1c, ↓u_turns_C1, ↓u_turns_I1, ↓u_turns_I2, ↓u_turns_L1, ↓u_turns, ↓u__law_draws_I1, ↓u__law_draws_I2, ↓u__law_draws_L2, ↓u__law_draws_L1, ↓u__law_draws_L3, ↓u__law_draws, ↓u__law_next_I1, ↓u__law_next, ↓u__law_pick, ↓u__law_is_bit, ↓u__law_words_C1, ↓u__law_words, ↓u__law_label, ↓u__law_key_C1c, ↓u__law_key_C1, ↓u__law_key, ↓u__law_body_L1, ↓u__law_body_C1, ↓u__law_body_L2, ↓u__law_body, ↓u__law_listed_I1, ↓u__law_listed_L1, ↓u__law_listed, ↓u__law_head, ↓u__law_met_I1, ↓u__law_met_C1c, ↓u__law_met_C1, ↓u__law_met_I2, ↓u__law_met, ↓u__law_leaves_I1, ↓u__law_leaves_L1, ↓u__law_leaves, ↓u__law_nodes_C1, ↓u__law_nodes_I1, ↓u__law_nodes_C2, ↓u__law_nodes_L1, ↓u__law_nodes, ↓u_law_C1c, ↓u_law_C1, ↓u_law_I1, ↓u_law_C2c, ↓u_law_C2, ↓u_law_I2, ↓u_law_L3, ↓u_law_I3, ↓u_law_L2, ↓u_law_L1, ↓u_law, GEm_0, GEm_1, GEm_2, GEm_3, GEm_4, GEm_5, GEm_6, GEm_7, GEm_8, GEm_9, GEm_10, GEm_11, GEm_12, GEm_13, GEm_14, GEm_15, GEm_16, GEm_17, GEm_18, GEg_0, ix_N0, ix_N1, ix_N2, srcB, bi_lenB, eqW, neW, memPs, memLPs, eqPs, nePs, setT_N, isLst_Ps, o_snocW (show p.length ≤ 100 by omega), this, a_extPs (show acc.length + (leaves (d + 1) kid (p ++ [kid.l])).length ≤ 100000 by omega)]
        rw [ihK _ (fun x hx => hK x (List.mem_cons_of_mem _ hx)) (by simp only [List.length_append]; omega)]
        simp only [List.flatMap_cons, List.append_assoc]
    rw [leaves]
    cases e : hdW n.w with
    | none => simp only [rn_leaves_below, ↓r_k, ↓r_v, ↓r_g, ↓r_bin, ↓r_cmp, ↓r_chn, ↓r_isK, ↓r_and, ↓r_or, ↓r_not, ↓r_neg, ↓r_ite, ↓r_idx, ↓r_slc, ↓r_rev, ↓r_tup, ↓r_lst, ↓r_dct, ↓r_call, ↓r_bi, ↓r_mt, ↓r_mu, ↓r_comp, ↓r_nil, ↓r_cons, ↓r_asg, ↓r_unp, ↓r_par, ↓r_aug, ↓r_sto, ↓r_aus, ↓r_ex, ↓r_ifs, ↓r_fr, ↓r_wh, ↓r_ret, ↓r_retN, ↓r_brk, ↓r_cnt, ↓r_pas, ↓r_frg, ↓r_rse, ↓r_snil, ↓r_scons, lk1_d, lk1_new, lk1_slot, lkS_own, lkS_val, lks_nil, lks_cons, fz1_d, fz1_new, fz1_slot, fzS_own, fzS_val, fzs_nil, fzs_cons, opt_some, opt_none, cndS_some, optS_some, gOwnS_own, gValS_val, isDS_d, lk1S_d, lk1S_new, lk1S_slot, lkSS_own, lkSS_val, rdV_val, rdV_own, isD_d, gOwn_own, gVal_val, bind_ok, bind_stuck, bind_exc, bind_ite, toO_ok, toO_stuck, toO_exc, toO_ite, obind_nx, obind_bk, obind_ct, obind_rt, obind_exc, obind_stuck, obind_ite, of_some, of_ite, oof_some, callK_ok, callK_exc, callK_ite, isLst_lst, compK_ok, compW_nil, setV_eq, setVc_none, setVc_val, setVc_own, setO_eq, setOc_none, setOc_val, setOc_own, setVs_nil, setVs_cons, setT_one, setT_many, setR_d, setR_new, setR_slot, setR_own, setRs_nil, setRs_d, setRs_new, wipe_nil, wipe_cons, unwipe_nil, unwipe_cons, unwC_val, unwC_none, unwC_own, fl_nil, flK_nx, flK_ct, flK_bk, flK_rt, flK_exc, flK_ite, whK_nx, whK_ct, whK_bk, whK_rt, whK_exc, whK_ite, finK_nx, finK_rt, finK_exc, finK_ite, outRV_d, outRV_new, outRV_slot, outS_own, outS_val, outCells_nil, outCells_val, outCells_own, backCells_nil, backCells_0, backCells_s, argCells_nil, argCells_cons, argK_some, arg1_d, arg1_new, arg1_slot, argS_true, argS_home, argS_give, argS_val, List.getElem?_cons_zero, List.getElem?_cons_succ, List.set_cons_zero, List.set_cons_succ, Option.map_some, Option.map_none, GE_phi, GE_fuel, o_addI, o_subI, o_eqI, o_neI, o_eqB, o_neB, o_ltI, o_leI, o_gtI, o_geI, o_ltS, o_leS, o_gtS, o_geS, o_eqS, o_neS, o_isB, t_non, t_bl, t_int, t_str, t_tup, t_lst, ix_L0, ix_T0, ix_T1, ix_T2, ix_T3, ix_T4, ix_Tm, ix_Lm, bi_lenL, bi_lenC, bi_lenT, bi_lenS, bi_tupL, bi_tupT, bi_lstL, bi_lstT, bi_intI, bi_sortL, bi_sortT, s_L, s_T, s_S, s_K, p_non, kn_non, kx_non, kn_str, kx_str, kn_int, kx_int, kn_tup, kx_tup, kn_lst, kx_lst, kn_bl, kx_bl, g_addI, cmp_mem, cmp_nmem, ↓reduceIte, ↓u_node_at_C1c, ↓u_node_at_C1, ↓u_node_at_I1, ↓u_node_at_L1, ↓u_node_at, ↓u_head_of, ↓u_is_met_I1, ↓u_is_met_C1c, ↓u_is_met_C1, ↓u_is_met_I2, ↓u_is_met, ↓u_leaves_below_I1, ↓u_leaves_below_L1, ↓u_leaves_below, ↓u_turns_C1c, ↓u_turns_C1, ↓u_turns_I1, ↓u_turns_I2, ↓u_turns_L1, ↓u_turns, ↓u__law_draws_I1, ↓u__law_draws_I2, ↓u__law_draws_L2, ↓u__law_draws_L1, ↓u__law_draws_L3, ↓u__law_draws, ↓u__law_next_I1, ↓u__law_next, ↓u__law_pick, ↓u__law_is_bit, ↓u__law_words_C1, ↓u__law_words, ↓u__law_label, ↓u__law_key_C1c, ↓u__law_key_C1, ↓u__law_key, ↓u__law_body_L1, ↓u__law_body_C1, ↓u__law_body_L2, ↓u__law_body, ↓u__law_listed_I1, ↓u__law_listed_L1, ↓u__law_listed, ↓u__law_head, ↓u__law_met_I1, ↓u__law_met_C1c, ↓u__law_met_C1, ↓u__law_met_I2, ↓u__law_met, ↓u__law_leaves_I1, ↓u__law_leaves_L1, ↓u__law_leaves, ↓u__law_nodes_C1, ↓u__law_nodes_I1, ↓u__law_nodes_C2, ↓u__law_nodes_L1, ↓u__law_nodes, ↓u_law_C1c, ↓u_law_C1, ↓u_law_I1, ↓u_law_C2c, ↓u_law_C2, ↓u_law_I2, ↓u_law_L3, ↓u_law_I3, ↓u_law_L2, ↓u_law_L1, ↓u_law, GEm_0, GEm_1, GEm_2, GEm_3, GEm_4, GEm_5, GEm_6, GEm_7, GEm_8, GEm_9, GEm_10, GEm_11, GEm_12, GEm_13, GEm_14, GEm_15, GEm_16, GEm_17, GEm_18, GEg_0, ix_N0, ix_N1, ix_N2, srcB, bi_lenB, eqW, neW, memPs, memLPs, eqPs, nePs, setT_N, hs, encO, head_of_sp, isN_S, e, Option.isNone_none, tup1]
    | some h =>
      have := flat_len (p := p) ok hd n.k (fun _ h => h) (okB_len ok)
      have := lp n.k [] (fun _ h => h) (by simp only [List.length_nil]; omega)
      simp only [rn_leaves_below, ↓r_k, ↓r_v, ↓r_g, ↓r_bin, ↓r_cmp, ↓r_chn, ↓r_isK, ↓r_and, ↓r_or, ↓r_not, ↓r_neg, ↓r_ite, ↓r_idx, ↓r_slc, ↓r_rev, ↓r_tup, ↓r_lst, ↓r_dct, ↓r_call, ↓r_bi, ↓r_mt, ↓r_mu, ↓r_comp, ↓r_nil, ↓r_cons, ↓r_asg, ↓r_unp, ↓r_par, ↓r_aug, ↓r_sto, ↓r_aus, ↓r_ex, ↓r_ifs, ↓r_fr, ↓r_wh, ↓r_ret, ↓r_retN, ↓r_brk, ↓r_cnt, ↓r_pas, ↓r_frg, ↓r_rse, ↓r_snil, ↓r_scons, lk1_d, lk1_new, lk1_slot, lkS_own, lkS_val, lks_nil, lks_cons, fz1_d, fz1_new, fz1_slot, fzS_own, fzS_val, fzs_nil, fzs_cons, opt_some, opt_none, cndS_some, optS_some, gOwnS_own, gValS_val, isDS_d, lk1S_d, lk1S_new, lk1S_slot, lkSS_own, lkSS_val, rdV_val, rdV_own, isD_d, gOwn_own, gVal_val, bind_ok, bind_stuck, bind_exc, bind_ite, toO_ok, toO_stuck, toO_exc, toO_ite, obind_nx, obind_bk, obind_ct, obind_rt, obind_exc, obind_stuck, obind_ite, of_some, of_ite, oof_some, callK_ok, callK_exc, callK_ite, isLst_lst, compK_ok, compW_nil, setV_eq, setVc_none, setVc_val, setVc_own, setO_eq, setOc_none, setOc_val, setOc_own, setVs_nil, setVs_cons, setT_one, setT_many, setR_d, setR_new, setR_slot, setR_own, setRs_nil, setRs_d, setRs_new, wipe_nil, wipe_cons, unwipe_nil, unwipe_cons, unwC_val, unwC_none, unwC_own, fl_nil, flK_nx, flK_ct, flK_bk, flK_rt, flK_exc, flK_ite, whK_nx, whK_ct, whK_bk, whK_rt, whK_exc, whK_ite, finK_nx, finK_rt, finK_exc, finK_ite, outRV_d, outRV_new, outRV_slot, outS_own, outS_val, outCells_nil, outCells_val, outCells_own, backCells_nil, backCells_0, backCells_s, argCells_nil, argCells_cons, argK_some, arg1_d, arg1_new, arg1_slot, argS_true, argS_home, argS_give, argS_val, List.getElem?_cons_zero, List.getElem?_cons_succ, List.set_cons_zero, List.set_cons_succ, Option.map_some, Option.map_none, GE_phi, GE_fuel, o_addI, o_subI, o_eqI, o_neI, o_eqB, o_neB, o_ltI, o_leI, o_gtI, o_geI, o_ltS, o_leS, o_gtS, o_geS, o_eqS, o_neS, o_isB, t_non, t_bl, t_int, t_str, t_tup, t_lst, ix_L0, ix_T0, ix_T1, ix_T2, ix_T3, ix_T4, ix_Tm, ix_Lm, bi_lenL, bi_lenC, bi_lenT, bi_lenS, bi_tupL, bi_tupT, bi_lstL, bi_lstT, bi_intI, bi_sortL, bi_sortT, s_L, s_T, s_S, s_K, p_non, kn_non, kx_non, kn_str, kx_str, kn_int, kx_int, kn_tup, kx_tup, kn_lst, kx_lst, kn_bl, kx_bl, g_addI, cmp_mem, cmp_nmem, ↓reduceIte, ↓u_node_at_C1c, ↓u_node_at_C1, ↓u_node_at_I1, ↓u_node_at_L1, ↓u_node_at, ↓u_head_of, ↓u_is_met_I1, ↓u_is_met_C1c, ↓u_is_met_C1, ↓u_is_met_I2, ↓u_is_met, ↓u_leaves_below_I1, ↓u_leaves_below_L1, ↓u_leaves_below, ↓u_turns_C1c, ↓u_turns_C1, ↓u_turns_I1, ↓u_turns_I2, ↓u_turns_L1, ↓u_turns, ↓u__law_draws_I1, ↓u__law_draws_I2, ↓u__law_draws_L2, ↓u__law_draws_L1, ↓u__law_draws_L3, ↓u__law_draws, ↓u__law_next_I1, ↓u__law_next, ↓u__law_pick, ↓u__law_is_bit, ↓u__law_words_C1, ↓u__law_words, ↓u__law_label, ↓u__law_key_C1c, ↓u__law_key_C1, ↓u__law_key, ↓u__law_body_L1, ↓u__law_body_C1, ↓u__law_body_L2, ↓u__law_body, ↓u__law_listed_I1, ↓u__law_listed_L1, ↓u__law_listed, ↓u__law_head, ↓u__law_met_I1, ↓u__law_met_C1c, ↓u__law_met_C1, ↓u__law_met_I2, ↓u__law_met, ↓u__law_leaves_I1, ↓u__law_leaves_L1, ↓u__law_leaves, ↓u__law_nodes_C1, ↓u__law_nodes_I1, ↓u__law_nodes_C2, ↓u__law_nodes_L1, ↓u__law_nodes, ↓u_law_C1c, ↓u_law_C1, ↓u_law_I1, ↓u_law_C2c, ↓u_law_C2, ↓u_law_I2, ↓u_law_L3, ↓u_law_I3, ↓u_law_L2, ↓u_law_L1, ↓u_law, GEm_0, GEm_1, GEm_2, GEm_3, GEm_4, GEm_5, GEm_6, GEm_7, GEm_8, GEm_9, GEm_10, GEm_11, GEm_12, GEm_13, GEm_14, GEm_15, GEm_16, GEm_17, GEm_18, GEg_0, ix_N0, ix_N1, ix_N2, srcB, bi_lenB, eqW, neW, memPs, memLPs, eqPs, nePs, setT_N, hs, encO, head_of_sp, isN_S, e, Option.isNone_some, Bool.false_eq_true, lst0, this, bi_tupPs, List.nil_append]
theorem law_leaves_sp (m : Nat) : ∀ (d k : Nat) (n : Nd) (p : List St), okB m d n.k → d ≤ 5 → p.length + d ≤ 100 →
    ∃ r, (r = .new (lstPs (leaves (d + 1) n p)) ∨ r = .d (lstPs (leaves (d + 1) n p))) ∧ run tab globD 2000 (k + d + 2) 16 [.val (encN n), .val (encW p)] = .ok r [.val (encN n), .val (encW p)] := by
  intro d
  induction d with
  | zero =>
    intro k n p ok _ hp
    have hk : n.k = [] := ok
    cases e : hdW n.w with
    | none => exact ⟨_, .inl rfl, by simp only [rn__law_leaves, ↓r_k, ↓r_v, ↓r_g, ↓r_bin, ↓r_cmp, ↓r_chn, ↓r_isK, ↓r_and, ↓r_or, ↓r_not, ↓r_neg, ↓r_ite, ↓r_idx, ↓r_slc, ↓r_rev, ↓r_tup, ↓r_lst, ↓r_dct, ↓r_call, ↓r_bi, ↓r_mt, ↓r_mu, ↓r_comp, ↓r_nil, ↓r_cons, ↓r_asg, ↓r_unp, ↓r_par, ↓r_aug, ↓r_sto, ↓r_aus, ↓r_ex, ↓r_ifs, ↓r_fr, ↓r_wh, ↓r_ret, ↓r_retN, ↓r_brk, ↓r_cnt, ↓r_pas, ↓r_frg, ↓r_rse, ↓r_snil, ↓r_scons, lk1_d, lk1_new, lk1_slot, lkS_own, lkS_val, lks_nil, lks_cons, fz1_d, fz1_new, fz1_slot, fzS_own, fzS_val, fzs_nil, fzs_cons, opt_some, opt_none, cndS_some, optS_some, gOwnS_own, gValS_val, isDS_d, lk1S_d, lk1S_new, lk1S_slot, lkSS_own, lkSS_val, rdV_val, rdV_own, isD_d, gOwn_own, gVal_val, bind_ok, bind_stuck, bind_exc, bind_ite, toO_ok, toO_stuck, toO_exc, toO_ite, obind_nx, obind_bk, obind_ct, obind_rt, obind_exc, obind_stuck, obind_ite, of_some, of_ite, oof_some, callK_ok, callK_exc, callK_ite, isLst_lst, compK_ok, compW_nil, setV_eq, setVc_none, setVc_val, setVc_own, setO_eq, setOc_none, setOc_val, setOc_own, setVs_nil, setVs_cons, setT_one, setT_many, setR_d, setR_new, setR_slot, setR_own, setRs_nil, setRs_d, setRs_new, wipe_nil, wipe_cons, unwipe_nil, unwipe_cons, unwC_val, unwC_none, unwC_own, fl_nil, flK_nx, flK_ct, flK_bk, flK_rt, flK_exc, flK_ite, whK_nx, whK_ct, whK_bk, whK_rt, whK_exc, whK_ite, finK_nx, finK_rt, finK_exc, finK_ite, outRV_d, outRV_new, outRV_slot, outS_own, outS_val, outCells_nil, outCells_val, outCells_own, backCells_nil, backCells_0, backCells_s, argCells_nil, argCells_cons, argK_some, arg1_d, arg1_new, arg1_slot, argS_true, argS_home, argS_give, argS_val, List.getElem?_cons_zero, List.getElem?_cons_succ, List.set_cons_zero, List.set_cons_succ, Option.map_some, Option.map_none, GE_phi, GE_fuel, o_addI, o_subI, o_eqI, o_neI, o_eqB, o_neB, o_ltI, o_leI, o_gtI, o_geI, o_ltS, o_leS, o_gtS, o_geS, o_eqS, o_neS, o_isB, t_non, t_bl, t_int, t_str, t_tup, t_lst, ix_L0, ix_T0, ix_T1, ix_T2, ix_T3, ix_T4, ix_Tm, ix_Lm, bi_lenL, bi_lenC, bi_lenT, bi_lenS, bi_tupL, bi_tupT, bi_lstL, bi_lstT, bi_intI, bi_sortL, bi_sortT, s_L, s_T, s_S, s_K, p_non, kn_non, kx_non, kn_str, kx_str, kn_int, kx_int, kn_tup, kx_tup, kn_lst, kx_lst, kn_bl, kx_bl, g_addI, cmp_mem, cmp_nmem, ↓reduceIte, ↓u_node_at_C1c, ↓u_node_at_C1, ↓u_node_at_I1, ↓u_node_at_L1, ↓u_node_at, ↓u_head_of, ↓u_is_met_I1, ↓u_is_met_C1c, ↓u_is_met_C1, ↓u_is_met_I2, ↓u_is_met, ↓u_leaves_below_I1, ↓u_leaves_below_L1, ↓u_leaves_below, ↓u_turns_C1c, ↓u_turns_C1, ↓u_turns_I1, ↓u_turns_I2, ↓u_turns_L1, ↓u_turns, ↓u__law_draws_I1, ↓u__law_draws_I2, ↓u__law_draws_L2, ↓u__law_draws_L1, ↓u__law_draws_L3, ↓u__law_draws, ↓u__law_next_I1, ↓u__law_next, ↓u__law_pick, ↓u__law_is_bit, ↓u__law_words_C1, ↓u__law_words, ↓u__law_label, ↓u__law_key_C1c, ↓u__law_key_C1, ↓u__law_key, ↓u__law_body_L1, ↓u__law_body_C1, ↓u__law_body_L2, ↓u__law_body, ↓u__law_listed_I1, ↓u__law_listed_L1, ↓u__law_listed, ↓u__law_head, ↓u__law_met_I1, ↓u__law_met_C1c, ↓u__law_met_C1, ↓u__law_met_I2, ↓u__law_met, ↓u__law_leaves_I1, ↓u__law_leaves_L1, ↓u__law_leaves, ↓u__law_nodes_C1, ↓u__law_nodes_I1, ↓u__law_nodes_C2, ↓u__law_nodes_L1, ↓u__law_nodes, ↓u_law_C1c, ↓u_law_C1, ↓u_law_I1, ↓u_law_C2c, ↓u_law_C2, ↓u_law_I2, ↓u_law_L3, ↓u_law_I3, ↓u_law_L2, ↓u_law_L1, ↓u_law, GEm_0, GEm_1, GEm_2, GEm_3, GEm_4, GEm_5, GEm_6, GEm_7, GEm_8, GEm_9, GEm_10, GEm_11, GEm_12, GEm_13, GEm_14, GEm_15, GEm_16, GEm_17, GEm_18, GEg_0, ix_N0, ix_N1, ix_N2, srcB, bi_lenB, eqW, neW, memPs, memLPs, eqPs, nePs, setT_N, law_head_sp, isN_S, leaves, e, Option.isNone_none, lst1]⟩
    | some h => exact ⟨_, .inr rfl, by simp only [rn__law_leaves, ↓r_k, ↓r_v, ↓r_g, ↓r_bin, ↓r_cmp, ↓r_chn, ↓r_isK, ↓r_and, ↓r_or, ↓r_not, ↓r_neg, ↓r_ite, ↓r_idx, ↓r_slc, ↓r_rev, ↓r_tup, ↓r_lst, ↓r_dct, ↓r_call, ↓r_bi, ↓r_mt, ↓r_mu, ↓r_comp, ↓r_nil, ↓r_cons, ↓r_asg, ↓r_unp, ↓r_par, ↓r_aug, ↓r_sto, ↓r_aus, ↓r_ex, ↓r_ifs, ↓r_fr, ↓r_wh, ↓r_ret, ↓r_retN, ↓r_brk, ↓r_cnt, ↓r_pas, ↓r_frg, ↓r_rse, ↓r_snil, ↓r_scons, lk1_d, lk1_new, lk1_slot, lkS_own, lkS_val, lks_nil, lks_cons, fz1_d, fz1_new, fz1_slot, fzS_own, fzS_val, fzs_nil, fzs_cons, opt_some, opt_none, cndS_some, optS_some, gOwnS_own, gValS_val, isDS_d, lk1S_d, lk1S_new, lk1S_slot, lkSS_own, lkSS_val, rdV_val, rdV_own, isD_d, gOwn_own, gVal_val, bind_ok, bind_stuck, bind_exc, bind_ite, toO_ok, toO_stuck, toO_exc, toO_ite, obind_nx, obind_bk, obind_ct, obind_rt, obind_exc, obind_stuck, obind_ite, of_some, of_ite, oof_some, callK_ok, callK_exc, callK_ite, isLst_lst, compK_ok, compW_nil, setV_eq, setVc_none, setVc_val, setVc_own, setO_eq, setOc_none, setOc_val, setOc_own, setVs_nil, setVs_cons, setT_one, setT_many, setR_d, setR_new, setR_slot, setR_own, setRs_nil, setRs_d, setRs_new, wipe_nil, wipe_cons, unwipe_nil, unwipe_cons, unwC_val, unwC_none, unwC_own, fl_nil, flK_nx, flK_ct, flK_bk, flK_rt, flK_exc, flK_ite, whK_nx, whK_ct, whK_bk, whK_rt, whK_exc, whK_ite, finK_nx, finK_rt, finK_exc, finK_ite, outRV_d, outRV_new, outRV_slot, outS_own, outS_val, outCells_nil, outCells_val, outCells_own, backCells_nil, backCells_0, backCells_s, argCells_nil, argCells_cons, argK_some, arg1_d, arg1_new, arg1_slot, argS_true, argS_home, argS_give, argS_val, List.getElem?_cons_zero, List.getElem?_cons_succ, List.set_cons_zero, List.set_cons_succ, Option.map_some, Option.map_none, GE_phi, GE_fuel, o_addI, o_subI, o_eqI, o_neI, o_eqB, o_neB, o_ltI, o_leI, o_gtI, o_geI, o_ltS, o_leS, o_gtS, o_geS, o_eqS, o_neS, o_isB, t_non, t_bl, t_int, t_str, t_tup, t_lst, ix_L0, ix_T0, ix_T1, ix_T2, ix_T3, ix_T4, ix_Tm, ix_Lm, bi_lenL, bi_lenC, bi_lenT, bi_lenS, bi_tupL, bi_tupT, bi_lstL, bi_lstT, bi_intI, bi_sortL, bi_sortT, s_L, s_T, s_S, s_K, p_non, kn_non, kx_non, kn_str, kx_str, kn_int, kx_int, kn_tup, kx_tup, kn_lst, kx_lst, kn_bl, kx_bl, g_addI, cmp_mem, cmp_nmem, ↓reduceIte, ↓u_node_at_C1c, ↓u_node_at_C1, ↓u_node_at_I1, ↓u_node_at_L1, ↓u_node_at, ↓u_head_of, ↓u_is_met_I1, ↓u_is_met_C1c, ↓u_is_met_C1, ↓u_is_met_I2, ↓u_is_met, ↓u_leaves_below_I1, ↓u_leaves_below_L1, ↓u_leaves_below, ↓u_turns_C1c, ↓u_turns_C1, ↓u_turns_I1, ↓u_turns_I2, ↓u_turns_L1, ↓u_turns, ↓u__law_draws_I1, ↓u__law_draws_I2, ↓u__law_draws_L2, ↓u__law_draws_L1, ↓u__law_draws_L3, ↓u__law_draws, ↓u__law_next_I1, ↓u__law_next, ↓u__law_pick, ↓u__law_is_bit, ↓u__law_words_C1, ↓u__law_words, ↓u__law_label, ↓u__law_key_C1c, ↓u__law_key_C1, ↓u__law_key, ↓u__law_body_L1, ↓u__law_body_C1, ↓u__law_body_L2, ↓u__law_body, ↓u__law_listed_I1, ↓u__law_listed_L1, ↓u__law_listed, ↓u__law_head, ↓u__law_met_I1, ↓u__law_met_C1c, ↓u__law_met_C1, ↓u__law_met_I2, ↓u__law_met, ↓u__law_leaves_I1, ↓u__law_leaves_L1, ↓u__law_leaves, ↓u__law_nodes_C1, ↓u__law_nodes_I1, ↓u__law_nodes_C2, ↓u__law_nodes_L1, ↓u__law_nodes, ↓u_law_C1c, ↓u_law_C1, ↓u_law_I1, ↓u_law_C2c, ↓u_law_C2, ↓u_law_I2, ↓u_law_L3, ↓u_law_I3, ↓u_law_L2, ↓u_law_L1, ↓u_law, GEm_0, GEm_1, GEm_2, GEm_3, GEm_4, GEm_5, GEm_6, GEm_7, GEm_8, GEm_9, GEm_10, GEm_11, GEm_12, GEm_13, GEm_14, GEm_15, GEm_16, GEm_17, GEm_18, GEg_0, ix_N0, ix_N1, ix_N2, srcB, bi_lenB, eqW, neW, memPs, memLPs, eqPs, nePs, setT_N, law_head_sp, isN_S, leaves, e, Option.isNone_some, Bool.false_eq_true, hk, List.map_nil, List.flatMap_nil, lst0]⟩
  | succ d ih =>
    intro k n p ok hd hp
    have lp : ∀ (K : List Nd) (acc : List (List St)), (∀ x ∈ K, x ∈ n.k) → acc.length + (K.flatMap fun kid => leaves (d + 1) kid (p ++ [kid.l])).length ≤ 100000 → forLoop (.one 3) (exSs (GE (k + (d + 1) + 1)) ir__law_leaves_L1) (K.map encN) [some (.val (encN n)), some (.val (encW p)), some (.val (lstPs acc)), none] = .nx [some (.val (encN n)), some (.val (encW p)), some (.val (lstPs (acc ++ K.flatMap fun kid => leaves (d + 1) kid (p ++ [kid.l])))), none] := by
      intro K
      induction K with
      | nil => intro acc _ _; simp only [List.map_nil, fl_nil, List.flatMap_nil, List.append_nil]
      | cons kid K ihK =>
        intro acc hK ha
        simp only [List.flatMap_cons, List.length_append] at ha
        have hk := hK kid List.mem_cons_self
        obtain ⟨_, _, _, _, h5⟩ := okB_kid ok hk
        obtain ⟨r, hr, this⟩ := ih k kid (p ++ [kid.l]) h5 (by omega) (by simp; omega)
        have : run tab globD 2000 (k + (d + 1) + 1) 16 [.val (encN kid), .val (encW (p ++ [kid.l]))] = .ok r [.val (encN kid), .val (encW (p ++ [kid.l]))] := this
        rcases hr with rfl | rfl <;>
        (simp only [List.map_cons, fl_cons, ↓r_k, ↓r_v, ↓r_g, ↓r_bin, ↓r_cmp, ↓r_chn, ↓r_isK, ↓r_and, ↓r_or, ↓r_not, ↓r_neg, ↓r_ite, ↓r_idx, ↓r_slc, ↓r_rev, ↓r_tup, ↓r_lst, ↓r_dct, ↓r_call, ↓r_bi, ↓r_mt, ↓r_mu, ↓r_comp, ↓r_nil, ↓r_cons, ↓r_asg, ↓r_unp, ↓r_par, ↓r_aug, ↓r_sto, ↓r_aus, ↓r_ex, ↓r_ifs, ↓r_fr, ↓r_wh, ↓r_ret, ↓r_retN, ↓r_brk, ↓r_cnt, ↓r_pas, ↓r_frg, ↓r_rse, ↓r_snil, ↓r_scons, lk1_d, lk1_new, lk1_slot, lkS_own, lkS_val, lks_nil, lks_cons, fz1_d, fz1_new, fz1_slot, fzS_own, fzS_val, fzs_nil, fzs_cons, opt_some, opt_none, cndS_some, optS_some, gOwnS_own, gValS_val, isDS_d, lk1S_d, lk1S_new, lk1S_slot, lkSS_own, lkSS_val, rdV_val, rdV_own, isD_d, gOwn_own, gVal_val, bind_ok, bind_stuck, bind_exc, bind_ite, toO_ok, toO_stuck, toO_exc, toO_ite, obind_nx, obind_bk, obind_ct, obind_rt, obind_exc, obind_stuck, obind_ite, of_some, of_ite, oof_some, callK_ok, callK_exc, callK_ite, isLst_lst, compK_ok, compW_nil, setV_eq, setVc_none, setVc_val, setVc_own, setO_eq, setOc_none, setOc_val, setOc_own, setVs_nil, setVs_cons, setT_one, setT_many, setR_d, setR_new, setR_slot, setR_own, setRs_nil, setRs_d, setRs_new, wipe_nil, wipe_cons, unwipe_nil, unwipe_cons, unwC_val, unwC_none, unwC_own, fl_nil, flK_nx, flK_ct, flK_bk, flK_rt, flK_exc, flK_ite, whK_nx, whK_ct, whK_bk, whK_rt, whK_exc, whK_ite, finK_nx, finK_rt, finK_exc, finK_ite, outRV_d, outRV_new, outRV_slot, outS_own, outS_val, outCells_nil, outCells_val, outCells_own, backCells_nil, backCells_0, backCells_s, argCells_nil, argCells_cons, argK_some, arg1_d, arg1_new, arg1_slot, argS_true, argS_home, argS_give, argS_val, List.getElem?_cons_zero, List.getElem?_cons_succ, List.set_cons_zero, List.set_cons_succ, Option.map_some, Option.map_none, GE_phi, GE_fuel, o_addI, o_subI, o_eqI, o_neI, o_eqB, o_neB, o_ltI, o_leI, o_gtI, o_geI, o_ltS, o_leS, o_gtS, o_geS, o_eqS, o_neS, o_isB, t_non, t_bl, t_int, t_str, t_tup, t_lst, ix_L0, ix_T0, ix_T1, ix_T2, ix_T3, ix_T4, ix_Tm, ix_Lm, bi_lenL, bi_lenC, bi_lenT, bi_lenS, bi_tupL, bi_tupT, bi_lstL, bi_lstT, bi_intI, bi_sortL, bi_sortT, s_L, s_T, s_S, s_K, p_non, kn_non, kx_non, kn_str, kx_str, kn_int, kx_int, kn_tup, kx_tup, kn_lst, kx_lst, kn_bl, kx_bl, g_addI, cmp_mem, cmp_nmem, ↓reduceIte, ↓u_node_at_C1c, ↓u_node_at_C1, ↓u_node_at_I1, ↓u_node_at_L1, ↓u_node_at, ↓u_head_of, ↓u_is_met_I1, ↓u_is_met_C1c, ↓u_is_met_C1, ↓u_is_met_I2, ↓u_is_met, ↓u_leaves_below_I1, ↓u_leaves_below_L1, ↓u_leaves_below, ↓u_turns_C1c, ↓u_turns_C1, ↓u_turns_I1, ↓u_turns_I2, ↓u_turns_L1, ↓u_turns, ↓u__law_draws_I1, ↓u__law_draws_I2, ↓u__law_draws_L2, ↓u__law_draws_L1, ↓u__law_draws_L3, ↓u__law_draws, ↓u__law_next_I1, ↓u__law_next, ↓u__law_pick, ↓u__law_is_bit, ↓u__law_words_C1, ↓u__law_words, ↓u__law_label, ↓u__law_key_C1c, ↓u__law_key_C1, ↓u__law_key, ↓u__law_body_L1, ↓u__law_body_C1, ↓u__law_body_L2, ↓u__law_body, ↓u__law_listed_I1, ↓u__law_listed_L1, ↓u__law_listed, ↓u__law_head, ↓u__law_met_I1, ↓u__law_met_C1c, ↓u__law_met_C1, ↓u__law_met_I2, ↓u__law_met, ↓u__law_leaves_I1, ↓u__law_leaves_L1, ↓u__law_leaves, ↓u__law_nodes_C1, ↓u__law_nodes_I1, ↓u__law_nodes_C2, ↓u__law_nodes_L1, ↓u__law_nodes, ↓u_law_C1c, ↓u_law_C1, ↓u_law_I1, ↓u_law_C2c, ↓u_law_C2, ↓u_law_I2, ↓u_law_L3, ↓u_law_I3, ↓u_law_L2, ↓u_law_L1, ↓u_law, GEm_0, GEm_1, GEm_2, GEm_3, GEm_4, GEm_5, GEm_6, GEm_7, GEm_8, GEm_9, GEm_10, GEm_11, GEm_12, GEm_13, GEm_14, GEm_15, GEm_16, GEm_17, GEm_18, GEg_0, ix_N0, ix_N1, ix_N2, srcB, bi_lenB, eqW, neW, memPs, memLPs, eqPs, nePs, setT_N, o_snocW (show p.length ≤ 100 by omega), this, o_addPs (show acc.length + (leaves (d + 1) kid (p ++ [kid.l])).length ≤ 100000 by omega)]
         rw [ihK _ (fun x hx => hK x (List.mem_cons_of_mem _ hx)) (by simp only [List.length_append]; omega)]
         simp only [List.flatMap_cons, List.append_assoc])
    rw [leaves]
    cases e : hdW n.w with
    | none => exact ⟨_, .inl rfl, by simp only [rn__law_leaves, ↓r_k, ↓r_v, ↓r_g, ↓r_bin, ↓r_cmp, ↓r_chn, ↓r_isK, ↓r_and, ↓r_or, ↓r_not, ↓r_neg, ↓r_ite, ↓r_idx, ↓r_slc, ↓r_rev, ↓r_tup, ↓r_lst, ↓r_dct, ↓r_call, ↓r_bi, ↓r_mt, ↓r_mu, ↓r_comp, ↓r_nil, ↓r_cons, ↓r_asg, ↓r_unp, ↓r_par, ↓r_aug, ↓r_sto, ↓r_aus, ↓r_ex, ↓r_ifs, ↓r_fr, ↓r_wh, ↓r_ret, ↓r_retN, ↓r_brk, ↓r_cnt, ↓r_pas, ↓r_frg, ↓r_rse, ↓r_snil, ↓r_scons, lk1_d, lk1_new, lk1_slot, lkS_own, lkS_val, lks_nil, lks_cons, fz1_d, fz1_new, fz1_slot, fzS_own, fzS_val, fzs_nil, fzs_cons, opt_some, opt_none, cndS_some, optS_some, gOwnS_own, gValS_val, isDS_d, lk1S_d, lk1S_new, lk1S_slot, lkSS_own, lkSS_val, rdV_val, rdV_own, isD_d, gOwn_own, gVal_val, bind_ok, bind_stuck, bind_exc, bind_ite, toO_ok, toO_stuck, toO_exc, toO_ite, obind_nx, obind_bk, obind_ct, obind_rt, obind_exc, obind_stuck, obind_ite, of_some, of_ite, oof_some, callK_ok, callK_exc, callK_ite, isLst_lst, compK_ok, compW_nil, setV_eq, setVc_none, setVc_val, setVc_own, setO_eq, setOc_none, setOc_val, setOc_own, setVs_nil, setVs_cons, setT_one, setT_many, setR_d, setR_new, setR_slot, setR_own, setRs_nil, setRs_d, setRs_new, wipe_nil, wipe_cons, unwipe_nil, unwipe_cons, unwC_val, unwC_none, unwC_own, fl_nil, flK_nx, flK_ct, flK_bk, flK_rt, flK_exc, flK_ite, whK_nx, whK_ct, whK_bk, whK_rt, whK_exc, whK_ite, finK_nx, finK_rt, finK_exc, finK_ite, outRV_d, outRV_new, outRV_slot, outS_own, outS_val, outCells_nil, outCells_val, outCells_own, backCells_nil, backCells_0, backCells_s, argCells_nil, argCells_cons, argK_some, arg1_d, arg1_new, arg1_slot, argS_true, argS_home, argS_give, argS_val, List.getElem?_cons_zero, List.getElem?_cons_succ, List.set_cons_zero, List.set_cons_succ, Option.map_some, Option.map_none, GE_phi, GE_fuel, o_addI, o_subI, o_eqI, o_neI, o_eqB, o_neB, o_ltI, o_leI, o_gtI, o_geI, o_ltS, o_leS, o_gtS, o_geS, o_eqS, o_neS, o_isB, t_non, t_bl, t_int, t_str, t_tup, t_lst, ix_L0, ix_T0, ix_T1, ix_T2, ix_T3, ix_T4, ix_Tm, ix_Lm, bi_lenL, bi_lenC, bi_lenT, bi_lenS, bi_tupL, bi_tupT, bi_lstL, bi_lstT, bi_intI, bi_sortL, bi_sortT, s_L, s_T, s_S, s_K, p_non, kn_non, kx_non, kn_str, kx_str, kn_int, kx_int, kn_tup, kx_tup, kn_lst, kx_lst, kn_bl, kx_bl, g_addI, cmp_mem, cmp_nmem, ↓reduceIte, ↓u_node_at_C1c, ↓u_node_at_C1, ↓u_node_at_I1, ↓u_node_at_L1, ↓u_node_at, ↓u_head_of, ↓u_is_met_I1, ↓u_is_met_C1c, ↓u_is_met_C1, ↓u_is_met_I2, ↓u_is_met, ↓u_leaves_below_I1, ↓u_leaves_below_L1, ↓u_leaves_below, ↓u_turns_C1c, ↓u_turns_C1, ↓u_turns_I1, ↓u_turns_I2, ↓u_turns_L1, ↓u_turns, ↓u__law_draws_I1, ↓u__law_draws_I2, ↓u__law_draws_L2, ↓u__law_draws_L1, ↓u__law_draws_L3, ↓u__law_draws, ↓u__law_next_I1, ↓u__law_next, ↓u__law_pick, ↓u__law_is_bit, ↓u__law_words_C1, ↓u__law_words, ↓u__law_label, ↓u__law_key_C1c, ↓u__law_key_C1, ↓u__law_key, ↓u__law_body_L1, ↓u__law_body_C1, ↓u__law_body_L2, ↓u__law_body, ↓u__law_listed_I1, ↓u__law_listed_L1, ↓u__law_listed, ↓u__law_head, ↓u__law_met_I1, ↓u__law_met_C1c, ↓u__law_met_C1, ↓u__law_met_I2, ↓u__law_met, ↓u__law_leaves_I1, ↓u__law_leaves_L1, ↓u__law_leaves, ↓u__law_nodes_C1, ↓u__law_nodes_I1, ↓u__law_nodes_C2, ↓u__law_nodes_L1, ↓u__law_nodes, ↓u_law_C1c, ↓u_law_C1, ↓u_law_I1, ↓u_law_C2c, ↓u_law_C2, ↓u_law_I2, ↓u_law_L3, ↓u_law_I3, ↓u_law_L2, ↓u_law_L1, ↓u_law, GEm_0, GEm_1, GEm_2, GEm_3, GEm_4, GEm_5, GEm_6, GEm_7, GEm_8, GEm_9, GEm_10, GEm_11, GEm_12, GEm_13, GEm_14, GEm_15, GEm_16, GEm_17, GEm_18, GEg_0, ix_N0, ix_N1, ix_N2, srcB, bi_lenB, eqW, neW, memPs, memLPs, eqPs, nePs, setT_N, law_head_sp, isN_S, e, Option.isNone_none, lst1]⟩
    | some h =>
      have := flat_len (p := p) ok hd n.k (fun _ h => h) (okB_len ok)
      have := lp n.k [] (fun _ h => h) (by simp only [List.length_nil]; omega)
      exact ⟨_, .inr rfl, by simp only [rn__law_leaves, ↓r_k, ↓r_v, ↓r_g, ↓r_bin, ↓r_cmp, ↓r_chn, ↓r_isK, ↓r_and, ↓r_or, ↓r_not, ↓r_neg, ↓r_ite, ↓r_idx, ↓r_slc, ↓r_rev, ↓r_tup, ↓r_lst, ↓r_dct, ↓r_call, ↓r_bi, ↓r_mt, ↓r_mu, ↓r_comp, ↓r_nil, ↓r_cons, ↓r_asg, ↓r_unp, ↓r_par, ↓r_aug, ↓r_sto, ↓r_aus, ↓r_ex, ↓r_ifs, ↓r_fr, ↓r_wh, ↓r_ret, ↓r_retN, ↓r_brk, ↓r_cnt, ↓r_pas, ↓r_frg, ↓r_rse, ↓r_snil, ↓r_scons, lk1_d, lk1_new, lk1_slot, lkS_own, lkS_val, lks_nil, lks_cons, fz1_d, fz1_new, fz1_slot, fzS_own, fzS_val, fzs_nil, fzs_cons, opt_some, opt_none, cndS_some, optS_some, gOwnS_own, gValS_val, isDS_d, lk1S_d, lk1S_new, lk1S_slot, lkSS_own, lkSS_val, rdV_val, rdV_own, isD_d, gOwn_own, gVal_val, bind_ok, bind_stuck, bind_exc, bind_ite, toO_ok, toO_stuck, toO_exc, toO_ite, obind_nx, obind_bk, obind_ct, obind_rt, obind_exc, obind_stuck, obind_ite, of_some, of_ite, oof_some, callK_ok, callK_exc, callK_ite, isLst_lst, compK_ok, compW_nil, setV_eq, setVc_none, setVc_val, setVc_own, setO_eq, setOc_none, setOc_val, setOc_own, setVs_nil, setVs_cons, setT_one, setT_many, setR_d, setR_new, setR_slot, setR_own, setRs_nil, setRs_d, setRs_new, wipe_nil, wipe_cons, unwipe_nil, unwipe_cons, unwC_val, unwC_none, unwC_own, fl_nil, flK_nx, flK_ct, flK_bk, flK_rt, flK_exc, flK_ite, whK_nx, whK_ct, whK_bk, whK_rt, whK_exc, whK_ite, finK_nx, finK_rt, finK_exc, finK_ite, outRV_d, outRV_new, outRV_slot, outS_own, outS_val, outCells_nil, outCells_val, outCells_own, backCells_nil, backCells_0, backCells_s, argCells_nil, argCells_cons, argK_some, arg1_d, arg1_new, arg1_slot, argS_true, argS_home, argS_give, argS_val, List.getElem?_cons_zero, List.getElem?_cons_succ, List.set_cons_zero, List.set_cons_succ, Option.map_some, Option.map_none, GE_phi, GE_fuel, o_addI, o_subI, o_eqI, o_neI, o_eqB, o_neB, o_ltI, o_leI, o_gtI, o_geI, o_ltS, o_leS, o_gtS, o_geS, o_eqS, o_neS, o_isB, t_non, t_bl, t_int, t_str, t_tup, t_lst, ix_L0, ix_T0, ix_T1, ix_T2, ix_T3, ix_T4, ix_Tm, ix_Lm, bi_lenL, bi_lenC, bi_lenT, bi_lenS, bi_tupL, bi_tupT, bi_lstL, bi_lstT, bi_intI, bi_sortL, bi_sortT, s_L, s_T, s_S, s_K, p_non, kn_non, kx_non, kn_str, kx_str, kn_int, kx_int, kn_tup, kx_tup, kn_lst, kx_lst, kn_bl, kx_bl, g_addI, cmp_mem, cmp_nmem, ↓reduceIte, ↓u_node_at_C1c, ↓u_node_at_C1, ↓u_node_at_I1, ↓u_node_at_L1, ↓u_node_at, ↓u_head_of, ↓u_is_met_I1, ↓u_is_met_C1c, ↓u_is_met_C1, ↓u_is_met_I2, ↓u_is_met, ↓u_leaves_below_I1, ↓u_leaves_below_L1, ↓u_leaves_below, ↓u_turns_C1c, ↓u_turns_C1, ↓u_turns_I1, ↓u_turns_I2, ↓u_turns_L1, ↓u_turns, ↓u__law_draws_I1, ↓u__law_draws_I2, ↓u__law_draws_L2, ↓u__law_draws_L1, ↓u__law_draws_L3, ↓u__law_draws, ↓u__law_next_I1, ↓u__law_next, ↓u__law_pick, ↓u__law_is_bit, ↓u__law_words_C1, ↓u__law_words, ↓u__law_label, ↓u__law_key_C1c, ↓u__law_key_C1, ↓u__law_key, ↓u__law_body_L1, ↓u__law_body_C1, ↓u__law_body_L2, ↓u__law_body, ↓u__law_listed_I1, ↓u__law_listed_L1, ↓u__law_listed, ↓u__law_head, ↓u__law_met_I1, ↓u__law_met_C1c, ↓u__law_met_C1, ↓u__law_met_I2, ↓u__law_met, ↓u__law_leaves_I1, ↓u__law_leaves_L1, ↓u__law_leaves, ↓u__law_nodes_C1, ↓u__law_nodes_I1, ↓u__law_nodes_C2, ↓u__law_nodes_L1, ↓u__law_nodes, ↓u_law_C1c, ↓u_law_C1, ↓u_law_I1, ↓u_law_C2c, ↓u_law_C2, ↓u_law_I2, ↓u_law_L3, ↓u_law_I3, ↓u_law_L2, ↓u_law_L1, ↓u_law, GEm_0, GEm_1, GEm_2, GEm_3, GEm_4, GEm_5, GEm_6, GEm_7, GEm_8, GEm_9, GEm_10, GEm_11, GEm_12, GEm_13, GEm_14, GEm_15, GEm_16, GEm_17, GEm_18, GEg_0, ix_N0, ix_N1, ix_N2, srcB, bi_lenB, eqW, neW, memPs, memLPs, eqPs, nePs, setT_N, law_head_sp, isN_S, e, Option.isNone_some, Bool.false_eq_true, lst0, this, List.nil_append]⟩

theorem met_congr {F F' : List (List St)} (h : ∀ q, q ∈ F ↔ q ∈ F') : ∀ (d : Nat) (n : Nd) (p : List St), met d n p F = met d n p F'
  | 0, n, p => by simp only [met, h]
  | d + 1, n, p => by
    simp only [met]
    have : ∀ kid : Nd, met d kid (p ++ [kid.l]) F = met d kid (p ++ [kid.l]) F' := fun kid => met_congr h d kid _
    simp only [this, h]
def flipF (F : List (List St)) (q : List St) : List (List St) := F.filter (fun f => !decide (f = q)) ++ (if q ∈ F then [] else [q])
def due (d : Nat) (n : Nd) (p : List St) (F : List (List St)) (L : List (List St)) : List (List St) := L.filter fun leaf => !(met d n p (flipF F leaf) == met d n p F)
theorem srcPs (F : List (List St)) : srcD .seq [encPs F] = some (F.map encW) := rfl
theorem srcLPs (F : List (List St)) : srcD .seq [lstPs F] = some (F.map encW) := rfl
theorem o_addTPs {l : List (List St)} {r : List (List St)} (h : l.length + r.length ≤ 100000) : binD .add (encPs l) (encPs r) = some (.d (encPs (l ++ r))) := by
  rw [encPs, encPs, o_addT (by simp [line]; omega)]; simp [encPs]
theorem bi_sortPs {F F' : List (List St)} (h : sortD (F.map encW) = some (F'.map encW)) : biD .sorted [encPs F] = some (.new (lstPs F')) := by
  simp only [encPs, bi_sortT, h, Option.map_some, lstPs]
theorem bi_sortLPs {F F' : List (List St)} (h : sortD (F.map encW) = some (F'.map encW)) : biD .sorted [lstPs F] = some (.new (lstPs F')) := by
  simp only [lstPs, bi_sortL, h, Option.map_some]
theorem leaves_ne : ∀ (d : Nat) (n : Nd) (p : List St), p ≠ [] → ∀ q ∈ leaves d n p, q ≠ []
  | 0, n, p, hp, q, hq => by simp only [leaves, List.mem_singleton] at hq; exact hq ▸ hp
  | d + 1, n, p, hp, q, hq => by
    simp only [leaves] at hq
    split at hq
    · simp only [List.mem_singleton] at hq; exact hq ▸ hp
    · obtain ⟨kid, _, hq⟩ := List.mem_flatMap.mp hq
      exact leaves_ne d kid _ (by simp) q hq
theorem lstPs_fold (F : List (List St)) : D.lst (F.map encW) = lstPs F := rfl
theorem turns_L1 (m d0 : Nat) (hd0 : d0 ≤ 20) (B : List Nd) (okb : okB m d0 B) (d k : Nat) (n : Nd) (p : List St) (ok : okB m d n.k) (hd : d ≤ 5) (hp : p.length + d ≤ 100) (hn : na B none p = some (n.k, some n)) (F : List (List St)) (hF : ∀ q ∈ F, q ≠ []) (hFl : F.length ≤ 1000) :
    ∀ (L acc : List (List St)), (∀ q ∈ L, q ≠ []) → acc.length + L.length ≤ 10000 →
    forLoop (.one 5) (exSs (GE (k + d + 2)) ir_turns_L1) (L.map encW) [some (.val (encB B)), some (.val (encW p)), some (.val (encPs F)), some (.val (.bl (met (d + 1) n p F))), some (.own false (lstPs acc)), none, none, none] =
      .nx [some (.val (encB B)), some (.val (encW p)), some (.val (encPs F)), some (.val (.bl (met (d + 1) n p F))), some (.own false (lstPs (acc ++ due (d + 1) n p F L))), none, none, none]
  | [], acc, _, _ => by simp only [List.map_nil, fl_nil, due, List.filter_nil, List.append_nil]
  | q :: L, acc, hL, hl => by
    simp only [List.length_cons] at hl
    have im := fun G => is_met_sp m d0 hd0 B okb G d k n p ok (by omega) hp hn
    have hc : compW (turnW (GE (k + d + 2)) [7] (.one 7) ir_turns_C1c ir_turns_C1) (F.map encW) [some (.val (encB B)), some (.val (encW p)), some (.val (encPs F)), some (.val (.bl (met (d + 1) n p F))), some (.own false (lstPs acc)), some (.val (encW q)), none, none] [] = .ok ((F.filter fun f => !decide (f = q)).map encW) [some (.val (encB B)), some (.val (encW p)), some (.val (encPs F)), some (.val (.bl (met (d + 1) n p F))), some (.own false (lstPs acc)), some (.val (encW q)), none, none] := by
      rw [compW_filter encW (fun f => !decide (f = q))]
      · rfl
      intro f _
      simp only [turnW, ↓r_k, ↓r_v, ↓r_g, ↓r_bin, ↓r_cmp, ↓r_chn, ↓r_isK, ↓r_and, ↓r_or, ↓r_not, ↓r_neg, ↓r_ite, ↓r_idx, ↓r_slc, ↓r_rev, ↓r_tup, ↓r_lst, ↓r_dct, ↓r_call, ↓r_bi, ↓r_mt, ↓r_mu, ↓r_comp, ↓r_nil, ↓r_cons, ↓r_asg, ↓r_unp, ↓r_par, ↓r_aug, ↓r_sto, ↓r_aus, ↓r_ex, ↓r_ifs, ↓r_fr, ↓r_wh, ↓r_ret, ↓r_retN, ↓r_brk, ↓r_cnt, ↓r_pas, ↓r_frg, ↓r_rse, ↓r_snil, ↓r_scons, lk1_d, lk1_new, lk1_slot, lkS_own, lkS_val, lks_nil, lks_cons, fz1_d, fz1_new, fz1_slot, fzS_own, fzS_val, fzs_nil, fzs_cons, opt_some, opt_none, cndS_some, optS_some, gOwnS_own, gValS_val, isDS_d, lk1S_d, lk1S_new, lk1S_slot, lkSS_own, lkSS_val, rdV_val, rdV_own, isD_d, gOwn_own, gVal_val, bind_ok, bind_stuck, bind_exc, bind_ite, toO_ok, toO_stuck, toO_exc, toO_ite, obind_nx, obind_bk, obind_ct, obind_rt, obind_exc, obind_stuck, obind_ite, of_some, of_ite, oof_some, callK_ok, callK_exc, callK_ite, isLst_lst, compK_ok, compW_nil, setV_eq, setVc_none, setVc_val, setVc_own, setO_eq, setOc_none, setOc_val, setOc_own, setVs_nil, setVs_cons, setT_one, setT_many, setR_d, setR_new, setR_slot, setR_own, setRs_nil, setRs_d, setRs_new, wipe_nil, wipe_cons, unwipe_nil, unwipe_cons, unwC_val, unwC_none, unwC_own, fl_nil, flK_nx, flK_ct, flK_bk, flK_rt, flK_exc, flK_ite, whK_nx, whK_ct, whK_bk, whK_rt, whK_exc, whK_ite, finK_nx, finK_rt, finK_exc, finK_ite, outRV_d, outRV_new, outRV_slot, outS_own, outS_val, outCells_nil, outCells_val, outCells_own, backCells_nil, backCells_0, backCells_s, argCells_nil, argCells_cons, argK_some, arg1_d, arg1_new, arg1_slot, argS_true, argS_home, argS_give, argS_val, List.getElem?_cons_zero, List.getElem?_cons_succ, List.set_cons_zero, List.set_cons_succ, Option.map_some, Option.map_none, GE_phi, GE_fuel, o_addI, o_subI, o_eqI, o_neI, o_eqB, o_neB, o_ltI, o_leI, o_gtI, o_geI, o_ltS, o_leS, o_gtS, o_geS, o_eqS, o_neS, o_isB, t_non, t_bl, t_int, t_str, t_tup, t_lst, ix_L0, ix_T0, ix_T1, ix_T2, ix_T3, ix_T4, ix_Tm, ix_Lm, bi_lenL, bi_lenC, bi_lenT, bi_lenS, bi_tupL, bi_tupT, bi_lstL, bi_lstT, bi_intI, bi_sortL, bi_sortT, s_L, s_T, s_S, s_K, p_non, kn_non, kx_non, kn_str, kx_str, kn_int, kx_int, kn_tup, kx_tup, kn_lst, kx_lst, kn_bl, kx_bl, g_addI, cmp_mem, cmp_nmem, ↓reduceIte, ↓u_node_at_C1c, ↓u_node_at_C1, ↓u_node_at_I1, ↓u_node_at_L1, ↓u_node_at, ↓u_head_of, ↓u_is_met_I1, ↓u_is_met_C1c, ↓u_is_met_C1, ↓u_is_met_I2, ↓u_is_met, ↓u_leaves_below_I1, ↓u_leaves_below_L1, ↓u_leaves_below, ↓u_turns_C1c, ↓u_turns_C1, ↓u_turns_I1, ↓u_turns_I2, ↓u_turns_L1, ↓u_turns, ↓u__law_draws_I1, ↓u__law_draws_I2, ↓u__law_draws_L2, ↓u__law_draws_L1, ↓u__law_draws_L3, ↓u__law_draws, ↓u__law_next_I1, ↓u__law_next, ↓u__law_pick, ↓u__law_is_bit, ↓u__law_words_C1, ↓u__law_words, ↓u__law_label, ↓u__law_key_C1c, ↓u__law_key_C1, ↓u__law_key, ↓u__law_body_L1, ↓u__law_body_C1, ↓u__law_body_L2, ↓u__law_body, ↓u__law_listed_I1, ↓u__law_listed_L1, ↓u__law_listed, ↓u__law_head, ↓u__law_met_I1, ↓u__law_met_C1c, ↓u__law_met_C1, ↓u__law_met_I2, ↓u__law_met, ↓u__law_leaves_I1, ↓u__law_leaves_L1, ↓u__law_leaves, ↓u__law_nodes_C1, ↓u__law_nodes_I1, ↓u__law_nodes_C2, ↓u__law_nodes_L1, ↓u__law_nodes, ↓u_law_C1c, ↓u_law_C1, ↓u_law_I1, ↓u_law_C2c, ↓u_law_C2, ↓u_law_I2, ↓u_law_L3, ↓u_law_I3, ↓u_law_L2, ↓u_law_L1, ↓u_law, GEm_0, GEm_1, GEm_2, GEm_3, GEm_4, GEm_5, GEm_6, GEm_7, GEm_8, GEm_9, GEm_10, GEm_11, GEm_12, GEm_13, GEm_14, GEm_15, GEm_16, GEm_17, GEm_18, GEg_0, ix_N0, ix_N1, ix_N2, srcB, bi_lenB, eqW, neW, memPs, memLPs, eqPs, nePs, setT_N]
      by_cases e : f = q <;> simp [e]
    have key : ∃ F', (∀ x, x ∈ F' ↔ x ∈ flipF F q) ∧ exS (GE (k + d + 2)) ir_turns_I1 [some (.val (encB B)), some (.val (encW p)), some (.val (encPs F)), some (.val (.bl (met (d + 1) n p F))), some (.own false (lstPs acc)), some (.val (encW q)), none, none] = .nx [some (.val (encB B)), some (.val (encW p)), some (.val (encPs F)), some (.val (.bl (met (d + 1) n p F))), some (.own false (lstPs acc)), some (.val (encW q)), some (.val (encPs F')), none] := by
      by_cases e : q ∈ F
      · refine ⟨F.filter fun f => !decide (f = q), fun x => by simp [flipF, e], ?_⟩
        simp only [↓r_k, ↓r_v, ↓r_g, ↓r_bin, ↓r_cmp, ↓r_chn, ↓r_isK, ↓r_and, ↓r_or, ↓r_not, ↓r_neg, ↓r_ite, ↓r_idx, ↓r_slc, ↓r_rev, ↓r_tup, ↓r_lst, ↓r_dct, ↓r_call, ↓r_bi, ↓r_mt, ↓r_mu, ↓r_comp, ↓r_nil, ↓r_cons, ↓r_asg, ↓r_unp, ↓r_par, ↓r_aug, ↓r_sto, ↓r_aus, ↓r_ex, ↓r_ifs, ↓r_fr, ↓r_wh, ↓r_ret, ↓r_retN, ↓r_brk, ↓r_cnt, ↓r_pas, ↓r_frg, ↓r_rse, ↓r_snil, ↓r_scons, lk1_d, lk1_new, lk1_slot, lkS_own, lkS_val, lks_nil, lks_cons, fz1_d, fz1_new, fz1_slot, fzS_own, fzS_val, fzs_nil, fzs_cons, opt_some, opt_none, cndS_some, optS_some, gOwnS_own, gValS_val, isDS_d, lk1S_d, lk1S_new, lk1S_slot, lkSS_own, lkSS_val, rdV_val, rdV_own, isD_d, gOwn_own, gVal_val, bind_ok, bind_stuck, bind_exc, bind_ite, toO_ok, toO_stuck, toO_exc, toO_ite, obind_nx, obind_bk, obind_ct, obind_rt, obind_exc, obind_stuck, obind_ite, of_some, of_ite, oof_some, callK_ok, callK_exc, callK_ite, isLst_lst, compK_ok, compW_nil, setV_eq, setVc_none, setVc_val, setVc_own, setO_eq, setOc_none, setOc_val, setOc_own, setVs_nil, setVs_cons, setT_one, setT_many, setR_d, setR_new, setR_slot, setR_own, setRs_nil, setRs_d, setRs_new, wipe_nil, wipe_cons, unwipe_nil, unwipe_cons, unwC_val, unwC_none, unwC_own, fl_nil, flK_nx, flK_ct, flK_bk, flK_rt, flK_exc, flK_ite, whK_nx, whK_ct, whK_bk, whK_rt, whK_exc, whK_ite, finK_nx, finK_rt, finK_exc, finK_ite, outRV_d, outRV_new, outRV_slot, outS_own, outS_val, outCells_nil, outCells_val, outCells_own, backCells_nil, backCells_0, backCells_s, argCells_nil, argCells_cons, argK_some, arg1_d, arg1_new, arg1_slot, argS_true, argS_home, argS_give, argS_val, List.getElem?_cons_zero, List.getElem?_cons_succ, List.set_cons_zero, List.set_cons_succ, Option.map_some, Option.map_none, GE_phi, GE_fuel, o_addI, o_subI, o_eqI, o_neI, o_eqB, o_neB, o_ltI, o_leI, o_gtI, o_geI, o_ltS, o_leS, o_gtS, o_geS, o_eqS, o_neS, o_isB, t_non, t_bl, t_int, t_str, t_tup, t_lst, ix_L0, ix_T0, ix_T1, ix_T2, ix_T3, ix_T4, ix_Tm, ix_Lm, bi_lenL, bi_lenC, bi_lenT, bi_lenS, bi_tupL, bi_tupT, bi_lstL, bi_lstT, bi_intI, bi_sortL, bi_sortT, s_L, s_T, s_S, s_K, p_non, kn_non, kx_non, kn_str, kx_str, kn_int, kx_int, kn_tup, kx_tup, kn_lst, kx_lst, kn_bl, kx_bl, g_addI, cmp_mem, cmp_nmem, ↓reduceIte, ↓u_node_at_C1c, ↓u_node_at_C1, ↓u_node_at_I1, ↓u_node_at_L1, ↓u_node_at, ↓u_head_of, ↓u_is_met_I1, ↓u_is_met_C1c, ↓u_is_met_C1, ↓u_is_met_I2, ↓u_is_met, ↓u_leaves_below_I1, ↓u_leaves_below_L1, ↓u_leaves_below, ↓u_turns_C1c, ↓u_turns_C1, ↓u_turns_I1, ↓u_turns_I2, ↓u_turns_L1, ↓u_turns, ↓u__law_draws_I1, ↓u__law_draws_I2, ↓u__law_draws_L2, ↓u__law_draws_L1, ↓u__law_draws_L3, ↓u__law_draws, ↓u__law_next_I1, ↓u__law_next, ↓u__law_pick, ↓u__law_is_bit, ↓u__law_words_C1, ↓u__law_words, ↓u__law_label, ↓u__law_key_C1c, ↓u__law_key_C1, ↓u__law_key, ↓u__law_body_L1, ↓u__law_body_C1, ↓u__law_body_L2, ↓u__law_body, ↓u__law_listed_I1, ↓u__law_listed_L1, ↓u__law_listed, ↓u__law_head, ↓u__law_met_I1, ↓u__law_met_C1c, ↓u__law_met_C1, ↓u__law_met_I2, ↓u__law_met, ↓u__law_leaves_I1, ↓u__law_leaves_L1, ↓u__law_leaves, ↓u__law_nodes_C1, ↓u__law_nodes_I1, ↓u__law_nodes_C2, ↓u__law_nodes_L1, ↓u__law_nodes, ↓u_law_C1c, ↓u_law_C1, ↓u_law_I1, ↓u_law_C2c, ↓u_law_C2, ↓u_law_I2, ↓u_law_L3, ↓u_law_I3, ↓u_law_L2, ↓u_law_L1, ↓u_law, GEm_0, GEm_1, GEm_2, GEm_3, GEm_4, GEm_5, GEm_6, GEm_7, GEm_8, GEm_9, GEm_10, GEm_11, GEm_12, GEm_13, GEm_14, GEm_15, GEm_16, GEm_17, GEm_18, GEg_0, ix_N0, ix_N1, ix_N2, srcB, bi_lenB, eqW, neW, memPs, memLPs, eqPs, nePs, setT_N, e, decide_true, srcPs, hc, lstPs_fold, bi_tupPs]
      · obtain ⟨F', s1, s2⟩ := sortPs (F := F ++ [q]) (by
          intro x hx
          rcases List.mem_append.mp hx with hx | hx
          · exact hF x hx
          · simp at hx; subst hx; exact hL _ List.mem_cons_self)
        refine ⟨F', fun x => ?_, ?_⟩
        · rw [s2.mem_iff]
          simp only [flipF, e, if_false, List.mem_append, List.mem_filter, Bool.not_eq_true', decide_eq_false_iff_not, List.mem_singleton]
          constructor
          · rintro (h | h)
            · exact .inl ⟨h, fun z => e (z ▸ h)⟩
            · exact .inr h
          · rintro (h | h)
            · exact .inl h.1
            · exact .inr h
        · simp only [↓r_k, ↓r_v, ↓r_g, ↓r_bin, ↓r_cmp, ↓r_chn, ↓r_isK, ↓r_and, ↓r_or, ↓r_not, ↓r_neg, ↓r_ite, ↓r_idx, ↓r_slc, ↓r_rev, ↓r_tup, ↓r_lst, ↓r_dct, ↓r_call, ↓r_bi, ↓r_mt, ↓r_mu, ↓r_comp, ↓r_nil, ↓r_cons, ↓r_asg, ↓r_unp, ↓r_par, ↓r_aug, ↓r_sto, ↓r_aus, ↓r_ex, ↓r_ifs, ↓r_fr, ↓r_wh, ↓r_ret, ↓r_retN, ↓r_brk, ↓r_cnt, ↓r_pas, ↓r_frg, ↓r_rse, ↓r_snil, ↓r_scons, lk1_d, lk1_new, lk1_slot, lkS_own, lkS_val, lks_nil, lks_cons, fz1_d, fz1_new, fz1_slot, fzS_own, fzS_val, fzs_nil, fzs_cons, opt_some, opt_none, cndS_some, optS_some, gOwnS_own, gValS_val, isDS_d, lk1S_d, lk1S_new, lk1S_slot, lkSS_own, lkSS_val, rdV_val, rdV_own, isD_d, gOwn_own, gVal_val, bind_ok, bind_stuck, bind_exc, bind_ite, toO_ok, toO_stuck, toO_exc, toO_ite, obind_nx, obind_bk, obind_ct, obind_rt, obind_exc, obind_stuck, obind_ite, of_some, of_ite, oof_some, callK_ok, callK_exc, callK_ite, isLst_lst, compK_ok, compW_nil, setV_eq, setVc_none, setVc_val, setVc_own, setO_eq, setOc_none, setOc_val, setOc_own, setVs_nil, setVs_cons, setT_one, setT_many, setR_d, setR_new, setR_slot, setR_own, setRs_nil, setRs_d, setRs_new, wipe_nil, wipe_cons, unwipe_nil, unwipe_cons, unwC_val, unwC_none, unwC_own, fl_nil, flK_nx, flK_ct, flK_bk, flK_rt, flK_exc, flK_ite, whK_nx, whK_ct, whK_bk, whK_rt, whK_exc, whK_ite, finK_nx, finK_rt, finK_exc, finK_ite, outRV_d, outRV_new, outRV_slot, outS_own, outS_val, outCells_nil, outCells_val, outCells_own, backCells_nil, backCells_0, backCells_s, argCells_nil, argCells_cons, argK_some, arg1_d, arg1_new, arg1_slot, argS_true, argS_home, argS_give, argS_val, List.getElem?_cons_zero, List.getElem?_cons_succ, List.set_cons_zero, List.set_cons_succ, Option.map_some, Option.map_none, GE_phi, GE_fuel, o_addI, o_subI, o_eqI, o_neI, o_eqB, o_neB, o_ltI, o_leI, o_gtI, o_geI, o_ltS, o_leS, o_gtS, o_geS, o_eqS, o_neS, o_isB, t_non, t_bl, t_int, t_str, t_tup, t_lst, ix_L0, ix_T0, ix_T1, ix_T2, ix_T3, ix_T4, ix_Tm, ix_Lm, bi_lenL, bi_lenC, bi_lenT, bi_lenS, bi_tupL, bi_tupT, bi_lstL, bi_lstT, bi_intI, bi_sortL, bi_sortT, s_L, s_T, s_S, s_K, p_non, kn_non, kx_non, kn_str, kx_str, kn_int, kx_int, kn_tup, kx_tup, kn_lst, kx_lst, kn_bl, kx_bl, g_addI, cmp_mem, cmp_nmem, ↓reduceIte, ↓u_node_at_C1c, ↓u_node_at_C1, ↓u_node_at_I1, ↓u_node_at_L1, ↓u_node_at, ↓u_head_of, ↓u_is_met_I1, ↓u_is_met_C1c, ↓u_is_met_C1, ↓u_is_met_I2, ↓u_is_met, ↓u_leaves_below_I1, ↓u_leaves_below_L1, ↓u_leaves_below, ↓u_turns_C1c, ↓u_turns_C1, ↓u_turns_I1, ↓u_turns_I2, ↓u_turns_L1, ↓u_turns, ↓u__law_draws_I1, ↓u__law_draws_I2, ↓u__law_draws_L2, ↓u__law_draws_L1, ↓u__law_draws_L3, ↓u__law_draws, ↓u__law_next_I1, ↓u__law_next, ↓u__law_pick, ↓u__law_is_bit, ↓u__law_words_C1, ↓u__law_words, ↓u__law_label, ↓u__law_key_C1c, ↓u__law_key_C1, ↓u__law_key, ↓u__law_body_L1, ↓u__law_body_C1, ↓u__law_body_L2, ↓u__law_body, ↓u__law_listed_I1, ↓u__law_listed_L1, ↓u__law_listed, ↓u__law_head, ↓u__law_met_I1, ↓u__law_met_C1c, ↓u__law_met_C1, ↓u__law_met_I2, ↓u__law_met, ↓u__law_leaves_I1, ↓u__law_leaves_L1, ↓u__law_leaves, ↓u__law_nodes_C1, ↓u__law_nodes_I1, ↓u__law_nodes_C2, ↓u__law_nodes_L1, ↓u__law_nodes, ↓u_law_C1c, ↓u_law_C1, ↓u_law_I1, ↓u_law_C2c, ↓u_law_C2, ↓u_law_I2, ↓u_law_L3, ↓u_law_I3, ↓u_law_L2, ↓u_law_L1, ↓u_law, GEm_0, GEm_1, GEm_2, GEm_3, GEm_4, GEm_5, GEm_6, GEm_7, GEm_8, GEm_9, GEm_10, GEm_11, GEm_12, GEm_13, GEm_14, GEm_15, GEm_16, GEm_17, GEm_18, GEg_0, ix_N0, ix_N1, ix_N2, srcB, bi_lenB, eqW, neW, memPs, memLPs, eqPs, nePs, setT_N, e, decide_false, Bool.false_eq_true, tup1, o_addTPs (show F.length + [q].length ≤ 100000 by simp; omega), bi_sortPs s1, bi_tupPs]
    obtain ⟨F', f1, f2⟩ := key
    have ih := turns_L1 m d0 hd0 B okb d k n p ok hd hp hn F hF hFl L
    simp only [List.map_cons, fl_cons, opt_some, setT_one, setV_eq, List.getElem?_cons_succ, List.getElem?_cons_zero, setVc_none, List.set_cons_succ, List.set_cons_zero, u_turns_L1, q_scons, f2, obind_nx]
    have hm : met (d + 1) n p F' = met (d + 1) n p (flipF F q) := met_congr f1 _ _ _
    simp only [↓r_k, ↓r_v, ↓r_g, ↓r_bin, ↓r_cmp, ↓r_chn, ↓r_isK, ↓r_and, ↓r_or, ↓r_not, ↓r_neg, ↓r_ite, ↓r_idx, ↓r_slc, ↓r_rev, ↓r_tup, ↓r_lst, ↓r_dct, ↓r_call, ↓r_bi, ↓r_mt, ↓r_mu, ↓r_comp, ↓r_nil, ↓r_cons, ↓r_asg, ↓r_unp, ↓r_par, ↓r_aug, ↓r_sto, ↓r_aus, ↓r_ex, ↓r_ifs, ↓r_fr, ↓r_wh, ↓r_ret, ↓r_retN, ↓r_brk, ↓r_cnt, ↓r_pas, ↓r_frg, ↓r_rse, ↓r_snil, ↓r_scons, lk1_d, lk1_new, lk1_slot, lkS_own, lkS_val, lks_nil, lks_cons, fz1_d, fz1_new, fz1_slot, fzS_own, fzS_val, fzs_nil, fzs_cons, opt_some, opt_none, cndS_some, optS_some, gOwnS_own, gValS_val, isDS_d, lk1S_d, lk1S_new, lk1S_slot, lkSS_own, lkSS_val, rdV_val, rdV_own, isD_d, gOwn_own, gVal_val, bind_ok, bind_stuck, bind_exc, bind_ite, toO_ok, toO_stuck, toO_exc, toO_ite, obind_nx, obind_bk, obind_ct, obind_rt, obind_exc, obind_stuck, obind_ite, of_some, of_ite, oof_some, callK_ok, callK_exc, callK_ite, isLst_lst, compK_ok, compW_nil, setV_eq, setVc_none, setVc_val, setVc_own, setO_eq, setOc_none, setOc_val, setOc_own, setVs_nil, setVs_cons, setT_one, setT_many, setR_d, setR_new, setR_slot, setR_own, setRs_nil, setRs_d, setRs_new, wipe_nil, wipe_cons, unwipe_nil, unwipe_cons, unwC_val, unwC_none, unwC_own, fl_nil, flK_nx, flK_ct, flK_bk, flK_rt, flK_exc, flK_ite, whK_nx, whK_ct, whK_bk, whK_rt, whK_exc, whK_ite, finK_nx, finK_rt, finK_exc, finK_ite, outRV_d, outRV_new, outRV_slot, outS_own, outS_val, outCells_nil, outCells_val, outCells_own, backCells_nil, backCells_0, backCells_s, argCells_nil, argCells_cons, argK_some, arg1_d, arg1_new, arg1_slot, argS_true, argS_home, argS_give, argS_val, List.getElem?_cons_zero, List.getElem?_cons_succ, List.set_cons_zero, List.set_cons_succ, Option.map_some, Option.map_none, GE_phi, GE_fuel, o_addI, o_subI, o_eqI, o_neI, o_eqB, o_neB, o_ltI, o_leI, o_gtI, o_geI, o_ltS, o_leS, o_gtS, o_geS, o_eqS, o_neS, o_isB, t_non, t_bl, t_int, t_str, t_tup, t_lst, ix_L0, ix_T0, ix_T1, ix_T2, ix_T3, ix_T4, ix_Tm, ix_Lm, bi_lenL, bi_lenC, bi_lenT, bi_lenS, bi_tupL, bi_tupT, bi_lstL, bi_lstT, bi_intI, bi_sortL, bi_sortT, s_L, s_T, s_S, s_K, p_non, kn_non, kx_non, kn_str, kx_str, kn_int, kx_int, kn_tup, kx_tup, kn_lst, kx_lst, kn_bl, kx_bl, g_addI, cmp_mem, cmp_nmem, ↓reduceIte, ↓u_node_at_C1c, ↓u_node_at_C1, ↓u_node_at_I1, ↓u_node_at_L1, ↓u_node_at, ↓u_head_of, ↓u_is_met_I1, ↓u_is_met_C1c, ↓u_is_met_C1, ↓u_is_met_I2, ↓u_is_met, ↓u_leaves_below_I1, ↓u_leaves_below_L1, ↓u_leaves_below, ↓u_turns_C1c, ↓u_turns_C1, ↓u_turns_I1, ↓u_turns_I2, ↓u_turns_L1, ↓u_turns, ↓u__law_draws_I1, ↓u__law_draws_I2, ↓u__law_draws_L2, ↓u__law_draws_L1, ↓u__law_draws_L3, ↓u__law_draws, ↓u__law_next_I1, ↓u__law_next, ↓u__law_pick, ↓u__law_is_bit, ↓u__law_words_C1, ↓u__law_words, ↓u__law_label, ↓u__law_key_C1c, ↓u__law_key_C1, ↓u__law_key, ↓u__law_body_L1, ↓u__law_body_C1, ↓u__law_body_L2, ↓u__law_body, ↓u__law_listed_I1, ↓u__law_listed_L1, ↓u__law_listed, ↓u__law_head, ↓u__law_met_I1, ↓u__law_met_C1c, ↓u__law_met_C1, ↓u__law_met_I2, ↓u__law_met, ↓u__law_leaves_I1, ↓u__law_leaves_L1, ↓u__law_leaves, ↓u__law_nodes_C1, ↓u__law_nodes_I1, ↓u__law_nodes_C2, ↓u__law_nodes_L1, ↓u__law_nodes, ↓u_law_C1c, ↓u_law_C1, ↓u_law_I1, ↓u_law_C2c, ↓u_law_C2, ↓u_law_I2, ↓u_law_L3, ↓u_law_I3, ↓u_law_L2, ↓u_law_L1, ↓u_law, GEm_0, GEm_1, GEm_2, GEm_3, GEm_4, GEm_5, GEm_6, GEm_7, GEm_8, GEm_9, GEm_10, GEm_11, GEm_12, GEm_13, GEm_14, GEm_15, GEm_16, GEm_17, GEm_18, GEg_0, ix_N0, ix_N1, ix_N2, srcB, bi_lenB, eqW, neW, memPs, memLPs, eqPs, nePs, setT_N, im, o_neB, hm, due, List.filter_cons, isLst_Ps, a_appPs (show acc.length ≤ 100000 by omega)]
    cases hq : (met (d + 1) n p (flipF F q) == met (d + 1) n p F)
    · simp only [Bool.not_false, ↓r_k, ↓r_v, ↓r_g, ↓r_bin, ↓r_cmp, ↓r_chn, ↓r_isK, ↓r_and, ↓r_or, ↓r_not, ↓r_neg, ↓r_ite, ↓r_idx, ↓r_slc, ↓r_rev, ↓r_tup, ↓r_lst, ↓r_dct, ↓r_call, ↓r_bi, ↓r_mt, ↓r_mu, ↓r_comp, ↓r_nil, ↓r_cons, ↓r_asg, ↓r_unp, ↓r_par, ↓r_aug, ↓r_sto, ↓r_aus, ↓r_ex, ↓r_ifs, ↓r_fr, ↓r_wh, ↓r_ret, ↓r_retN, ↓r_brk, ↓r_cnt, ↓r_pas, ↓r_frg, ↓r_rse, ↓r_snil, ↓r_scons, lk1_d, lk1_new, lk1_slot, lkS_own, lkS_val, lks_nil, lks_cons, fz1_d, fz1_new, fz1_slot, fzS_own, fzS_val, fzs_nil, fzs_cons, opt_some, opt_none, cndS_some, optS_some, gOwnS_own, gValS_val, isDS_d, lk1S_d, lk1S_new, lk1S_slot, lkSS_own, lkSS_val, rdV_val, rdV_own, isD_d, gOwn_own, gVal_val, bind_ok, bind_stuck, bind_exc, bind_ite, toO_ok, toO_stuck, toO_exc, toO_ite, obind_nx, obind_bk, obind_ct, obind_rt, obind_exc, obind_stuck, obind_ite, of_some, of_ite, oof_some, callK_ok, callK_exc, callK_ite, isLst_lst, compK_ok, compW_nil, setV_eq, setVc_none, setVc_val, setVc_own, setO_eq, setOc_none, setOc_val, setOc_own, setVs_nil, setVs_cons, setT_one, setT_many, setR_d, setR_new, setR_slot, setR_own, setRs_nil, setRs_d, setRs_new, wipe_nil, wipe_cons, unwipe_nil, unwipe_cons, unwC_val, unwC_none, unwC_own, fl_nil, flK_nx, flK_ct, flK_bk, flK_rt, flK_exc, flK_ite, whK_nx, whK_ct, whK_bk, whK_rt, whK_exc, whK_ite, finK_nx, finK_rt, finK_exc, finK_ite, outRV_d, outRV_new, outRV_slot, outS_own, outS_val, outCells_nil, outCells_val, outCells_own, backCells_nil, backCells_0, backCells_s, argCells_nil, argCells_cons, argK_some, arg1_d, arg1_new, arg1_slot, argS_true, argS_home, argS_give, argS_val, List.getElem?_cons_zero, List.getElem?_cons_succ, List.set_cons_zero, List.set_cons_succ, Option.map_some, Option.map_none, GE_phi, GE_fuel, o_addI, o_subI, o_eqI, o_neI, o_eqB, o_neB, o_ltI, o_leI, o_gtI, o_geI, o_ltS, o_leS, o_gtS, o_geS, o_eqS, o_neS, o_isB, t_non, t_bl, t_int, t_str, t_tup, t_lst, ix_L0, ix_T0, ix_T1, ix_T2, ix_T3, ix_T4, ix_Tm, ix_Lm, bi_lenL, bi_lenC, bi_lenT, bi_lenS, bi_tupL, bi_tupT, bi_lstL, bi_lstT, bi_intI, bi_sortL, bi_sortT, s_L, s_T, s_S, s_K, p_non, kn_non, kx_non, kn_str, kx_str, kn_int, kx_int, kn_tup, kx_tup, kn_lst, kx_lst, kn_bl, kx_bl, g_addI, cmp_mem, cmp_nmem, ↓reduceIte, ↓u_node_at_C1c, ↓u_node_at_C1, ↓u_node_at_I1, ↓u_node_at_L1, ↓u_node_at, ↓u_head_of, ↓u_is_met_I1, ↓u_is_met_C1c, ↓u_is_met_C1, ↓u_is_met_I2, ↓u_is_met, ↓u_leaves_below_I1, ↓u_leaves_below_L1, ↓u_leaves_below, ↓u_turns_C1c, ↓u_turns_C1, ↓u_turns_I1, ↓u_turns_I2, ↓u_turns_L1, ↓u_turns, ↓u__law_draws_I1, ↓u__law_draws_I2, ↓u__law_draws_L2, ↓u__law_draws_L1, ↓u__law_draws_L3, ↓u__law_draws, ↓u__law_next_I1, ↓u__law_next, ↓u__law_pick, ↓u__law_is_bit, ↓u__law_words_C1, ↓u__law_words, ↓u__law_label, ↓u__law_key_C1c, ↓u__law_key_C1, ↓u__law_key, ↓u__law_body_L1, ↓u__law_body_C1, ↓u__law_body_L2, ↓u__law_body, ↓u__law_listed_I1, ↓u__law_listed_L1, ↓u__law_listed, ↓u__law_head, ↓u__law_met_I1, ↓u__law_met_C1c, ↓u__law_met_C1, ↓u__law_met_I2, ↓u__law_met, ↓u__law_leaves_I1, ↓u__law_leaves_L1, ↓u__law_leaves, ↓u__law_nodes_C1, ↓u__law_nodes_I1, ↓u__law_nodes_C2, ↓u__law_nodes_L1, ↓u__law_nodes, ↓u_law_C1c, ↓u_law_C1, ↓u_law_I1, ↓u_law_C2c, ↓u_law_C2, ↓u_law_I2, ↓u_law_L3, ↓u_law_I3, ↓u_law_L2, ↓u_law_L1, ↓u_law, GEm_0, GEm_1, GEm_2, GEm_3, GEm_4, GEm_5, GEm_6, GEm_7, GEm_8, GEm_9, GEm_10, GEm_11, GEm_12, GEm_13, GEm_14, GEm_15, GEm_16, GEm_17, GEm_18, GEg_0, ix_N0, ix_N1, ix_N2, srcB, bi_lenB, eqW, neW, memPs, memLPs, eqPs, nePs, setT_N]
      rw [ih _ (fun x hx => hL x (List.mem_cons_of_mem _ hx)) (by simp; omega)]
      simp only [due, List.append_assoc, List.cons_append, List.nil_append]
    · simp only [Bool.not_true, Bool.false_eq_true, ↓r_k, ↓r_v, ↓r_g, ↓r_bin, ↓r_cmp, ↓r_chn, ↓r_isK, ↓r_and, ↓r_or, ↓r_not, ↓r_neg, ↓r_ite, ↓r_idx, ↓r_slc, ↓r_rev, ↓r_tup, ↓r_lst, ↓r_dct, ↓r_call, ↓r_bi, ↓r_mt, ↓r_mu, ↓r_comp, ↓r_nil, ↓r_cons, ↓r_asg, ↓r_unp, ↓r_par, ↓r_aug, ↓r_sto, ↓r_aus, ↓r_ex, ↓r_ifs, ↓r_fr, ↓r_wh, ↓r_ret, ↓r_retN, ↓r_brk, ↓r_cnt, ↓r_pas, ↓r_frg, ↓r_rse, ↓r_snil, ↓r_scons, lk1_d, lk1_new, lk1_slot, lkS_own, lkS_val, lks_nil, lks_cons, fz1_d, fz1_new, fz1_slot, fzS_own, fzS_val, fzs_nil, fzs_cons, opt_some, opt_none, cndS_some, optS_some, gOwnS_own, gValS_val, isDS_d, lk1S_d, lk1S_new, lk1S_slot, lkSS_own, lkSS_val, rdV_val, rdV_own, isD_d, gOwn_own, gVal_val, bind_ok, bind_stuck, bind_exc, bind_ite, toO_ok, toO_stuck, toO_exc, toO_ite, obind_nx, obind_bk, obind_ct, obind_rt, obind_exc, obind_stuck, obind_ite, of_some, of_ite, oof_some, callK_ok, callK_exc, callK_ite, isLst_lst, compK_ok, compW_nil, setV_eq, setVc_none, setVc_val, setVc_own, setO_eq, setOc_none, setOc_val, setOc_own, setVs_nil, setVs_cons, setT_one, setT_many, setR_d, setR_new, setR_slot, setR_own, setRs_nil, setRs_d, setRs_new, wipe_nil, wipe_cons, unwipe_nil, unwipe_cons, unwC_val, unwC_none, unwC_own, fl_nil, flK_nx, flK_ct, flK_bk, flK_rt, flK_exc, flK_ite, whK_nx, whK_ct, whK_bk, whK_rt, whK_exc, whK_ite, finK_nx, finK_rt, finK_exc, finK_ite, outRV_d, outRV_new, outRV_slot, outS_own, outS_val, outCells_nil, outCells_val, outCells_own, backCells_nil, backCells_0, backCells_s, argCells_nil, argCells_cons, argK_some, arg1_d, arg1_new, arg1_slot, argS_true, argS_home, argS_give, argS_val, List.getElem?_cons_zero, List.getElem?_cons_succ, List.set_cons_zero, List.set_cons_succ, Option.map_some, Option.map_none, GE_phi, GE_fuel, o_addI, o_subI, o_eqI, o_neI, o_eqB, o_neB, o_ltI, o_leI, o_gtI, o_geI, o_ltS, o_leS, o_gtS, o_geS, o_eqS, o_neS, o_isB, t_non, t_bl, t_int, t_str, t_tup, t_lst, ix_L0, ix_T0, ix_T1, ix_T2, ix_T3, ix_T4, ix_Tm, ix_Lm, bi_lenL, bi_lenC, bi_lenT, bi_lenS, bi_tupL, bi_tupT, bi_lstL, bi_lstT, bi_intI, bi_sortL, bi_sortT, s_L, s_T, s_S, s_K, p_non, kn_non, kx_non, kn_str, kx_str, kn_int, kx_int, kn_tup, kx_tup, kn_lst, kx_lst, kn_bl, kx_bl, g_addI, cmp_mem, cmp_nmem, ↓reduceIte, ↓u_node_at_C1c, ↓u_node_at_C1, ↓u_node_at_I1, ↓u_node_at_L1, ↓u_node_at, ↓u_head_of, ↓u_is_met_I1, ↓u_is_met_C1c, ↓u_is_met_C1, ↓u_is_met_I2, ↓u_is_met, ↓u_leaves_below_I1, ↓u_leaves_below_L1, ↓u_leaves_below, ↓u_turns_C1c, ↓u_turns_C1, ↓u_turns_I1, ↓u_turns_I2, ↓u_turns_L1, ↓u_turns, ↓u__law_draws_I1, ↓u__law_draws_I2, ↓u__law_draws_L2, ↓u__law_draws_L1, ↓u__law_draws_L3, ↓u__law_draws, ↓u__law_next_I1, ↓u__law_next, ↓u__law_pick, ↓u__law_is_bit, ↓u__law_words_C1, ↓u__law_words, ↓u__law_label, ↓u__law_key_C1c, ↓u__law_key_C1, ↓u__law_key, ↓u__law_body_L1, ↓u__law_body_C1, ↓u__law_body_L2, ↓u__law_body, ↓u__law_listed_I1, ↓u__law_listed_L1, ↓u__law_listed, ↓u__law_head, ↓u__law_met_I1, ↓u__law_met_C1c, ↓u__law_met_C1, ↓u__law_met_I2, ↓u__law_met, ↓u__law_leaves_I1, ↓u__law_leaves_L1, ↓u__law_leaves, ↓u__law_nodes_C1, ↓u__law_nodes_I1, ↓u__law_nodes_C2, ↓u__law_nodes_L1, ↓u__law_nodes, ↓u_law_C1c, ↓u_law_C1, ↓u_law_I1, ↓u_law_C2c, ↓u_law_C2, ↓u_law_I2, ↓u_law_L3, ↓u_law_I3, ↓u_law_L2, ↓u_law_L1, ↓u_law, GEm_0, GEm_1, GEm_2, GEm_3, GEm_4, GEm_5, GEm_6, GEm_7, GEm_8, GEm_9, GEm_10, GEm_11, GEm_12, GEm_13, GEm_14, GEm_15, GEm_16, GEm_17, GEm_18, GEg_0, ix_N0, ix_N1, ix_N2, srcB, bi_lenB, eqW, neW, memPs, memLPs, eqPs, nePs, setT_N]
      rw [ih _ (fun x hx => hL x (List.mem_cons_of_mem _ hx)) (by omega)]
      simp only [due]
theorem turns_sp (m d0 : Nat) (hd0 : d0 ≤ 20) (B : List Nd) (okb : okB m d0 B) (d k : Nat) (n : Nd) (p : List St) (ok : okB m d n.k) (hd : d ≤ 5) (hp : p.length + d ≤ 100) (hp0 : p ≠ []) (hn : na B none p = some (n.k, some n)) (F : List (List St)) (hF : ∀ q ∈ F, q ≠ []) (hFl : F.length ≤ 1000) :
    run tab globD 2000 (k + d + 3) 4 [.val (encB B), .val (encW p), .val (encPs F)] = .ok (.d (encPs (due (d + 1) n p F (leaves (d + 1) n p)))) [.val (encB B), .val (encW p), .val (encPs F)] := by
  have im := is_met_sp m d0 hd0 B okb F d k n p ok (by omega) hp hn
  have lb := leaves_below_sp m d0 hd0 B okb d k n p ok hd hp hn
  have ll := leaves_len d n p ok
  have h3 : 3 ^ (d + 1) ≤ 3 ^ 6 := Nat.pow_le_pow_right (by decide) (by omega)
  have lp := turns_L1 m d0 hd0 B okb d k n p ok hd hp hn F hF hFl (leaves (d + 1) n p) [] (leaves_ne _ _ _ hp0) (by simp; omega)
  simp only [rn_turns, ↓r_k, ↓r_v, ↓r_g, ↓r_bin, ↓r_cmp, ↓r_chn, ↓r_isK, ↓r_and, ↓r_or, ↓r_not, ↓r_neg, ↓r_ite, ↓r_idx, ↓r_slc, ↓r_rev, ↓r_tup, ↓r_lst, ↓r_dct, ↓r_call, ↓r_bi, ↓r_mt, ↓r_mu, ↓r_comp, ↓r_nil, ↓r_cons, ↓r_asg, ↓r_unp, ↓r_par, ↓r_aug, ↓r_sto, ↓r_aus, ↓r_ex, ↓r_ifs, ↓r_fr, ↓r_wh, ↓r_ret, ↓r_retN, ↓r_brk, ↓r_cnt, ↓r_pas, ↓r_frg, ↓r_rse, ↓r_snil, ↓r_scons, lk1_d, lk1_new, lk1_slot, lkS_own, lkS_val, lks_nil, lks_cons, fz1_d, fz1_new, fz1_slot, fzS_own, fzS_val, fzs_nil, fzs_cons, opt_some, opt_none, cndS_some, optS_some, gOwnS_own, gValS_val, isDS_d, lk1S_d, lk1S_new, lk1S_slot, lkSS_own, lkSS_val, rdV_val, rdV_own, isD_d, gOwn_own, gVal_val, bind_ok, bind_stuck, bind_exc, bind_ite, toO_ok, toO_stuck, toO_exc, toO_ite, obind_nx, obind_bk, obind_ct, obind_rt, obind_exc, obind_stuck, obind_ite, of_some, of_ite, oof_some, callK_ok, callK_exc, callK_ite, isLst_lst, compK_ok, compW_nil, setV_eq, setVc_none, setVc_val, setVc_own, setO_eq, setOc_none, setOc_val, setOc_own, setVs_nil, setVs_cons, setT_one, setT_many, setR_d, setR_new, setR_slot, setR_own, setRs_nil, setRs_d, setRs_new, wipe_nil, wipe_cons, unwipe_nil, unwipe_cons, unwC_val, unwC_none, unwC_own, fl_nil, flK_nx, flK_ct, flK_bk, flK_rt, flK_exc, flK_ite, whK_nx, whK_ct, whK_bk, whK_rt, whK_exc, whK_ite, finK_nx, finK_rt, finK_exc, finK_ite, outRV_d, outRV_new, outRV_slot, outS_own, outS_val, outCells_nil, outCells_val, outCells_own, backCells_nil, backCells_0, backCells_s, argCells_nil, argCells_cons, argK_some, arg1_d, arg1_new, arg1_slot, argS_true, argS_home, argS_give, argS_val, List.getElem?_cons_zero, List.getElem?_cons_succ, List.set_cons_zero, List.set_cons_succ, Option.map_some, Option.map_none, GE_phi, GE_fuel, o_addI, o_subI, o_eqI, o_neI, o_eqB, o_neB, o_ltI, o_leI, o_gtI, o_geI, o_ltS, o_leS, o_gtS, o_geS, o_eqS, o_neS, o_isB, t_non, t_bl, t_int, t_str, t_tup, t_lst, ix_L0, ix_T0, ix_T1, ix_T2, ix_T3, ix_T4, ix_Tm, ix_Lm, bi_lenL, bi_lenC, bi_lenT, bi_lenS, bi_tupL, bi_tupT, bi_lstL, bi_lstT, bi_intI, bi_sortL, bi_sortT, s_L, s_T, s_S, s_K, p_non, kn_non, kx_non, kn_str, kx_str, kn_int, kx_int, kn_tup, kx_tup, kn_lst, kx_lst, kn_bl, kx_bl, g_addI, cmp_mem, cmp_nmem, ↓reduceIte, ↓u_node_at_C1c, ↓u_node_at_C1, ↓u_node_at_I1, ↓u_node_at_L1, ↓u_node_at, ↓u_head_of, ↓u_is_met_I1, ↓u_is_met_C1c, ↓u_is_met_C1, ↓u_is_met_I2, ↓u_is_met, ↓u_leaves_below_I1, ↓u_leaves_below_L1, ↓u_leaves_below, ↓u_turns_C1c, ↓u_turns_C1, ↓u_turns_I1, ↓u_turns_I2, ↓u_turns_L1, ↓u_turns, ↓u__law_draws_I1, ↓u__law_draws_I2, ↓u__law_draws_L2, ↓u__law_draws_L1, ↓u__law_draws_L3, ↓u__law_draws, ↓u__law_next_I1, ↓u__law_next, ↓u__law_pick, ↓u__law_is_bit, ↓u__law_words_C1, ↓u__law_words, ↓u__law_label, ↓u__law_key_C1c, ↓u__law_key_C1, ↓u__law_key, ↓u__law_body_L1, ↓u__law_body_C1, ↓u__law_body_L2, ↓u__law_body, ↓u__law_listed_I1, ↓u__law_listed_L1, ↓u__law_listed, ↓u__law_head, ↓u__law_met_I1, ↓u__law_met_C1c, ↓u__law_met_C1, ↓u__law_met_I2, ↓u__law_met, ↓u__law_leaves_I1, ↓u__law_leaves_L1, ↓u__law_leaves, ↓u__law_nodes_C1, ↓u__law_nodes_I1, ↓u__law_nodes_C2, ↓u__law_nodes_L1, ↓u__law_nodes, ↓u_law_C1c, ↓u_law_C1, ↓u_law_I1, ↓u_law_C2c, ↓u_law_C2, ↓u_law_I2, ↓u_law_L3, ↓u_law_I3, ↓u_law_L2, ↓u_law_L1, ↓u_law, GEm_0, GEm_1, GEm_2, GEm_3, GEm_4, GEm_5, GEm_6, GEm_7, GEm_8, GEm_9, GEm_10, GEm_11, GEm_12, GEm_13, GEm_14, GEm_15, GEm_16, GEm_17, GEm_18, GEg_0, ix_N0, ix_N1, ix_N2, srcB, bi_lenB, eqW, neW, memPs, memLPs, eqPs, nePs, setT_N, im, lb, lst0, srcPs, lp, bi_tupPs, List.nil_append]
/-! listed -/
def hds5 : List St := [hAll, hOne, hTwo, hNone, [116, 104, 101]]
def encL5 : D := .lst [.str [97, 108, 108], .str [111, 110, 101], .str [116, 119, 111], .str [110, 111, 110, 101], .str [116, 104, 101]]
theorem listed_sp (ds : List Int) : ∀ (d k : Nat) (b : List Nd) (n : Nat), okB 4 d b → d ≤ 20 → ∃ (b' : List Nd) (n' : Nat), okB 5 d b' ∧ b'.map Nd.l = b.map Nd.l ∧
    run tab globD 2000 (k + d + 3) 13 [.own true (WD ds n), .val (encB b), .val encL5] = .ok (.d (encB b')) [.own true (WD ds n'), .val (encB b), .val encL5] := by
  intro d
  induction d with
  | zero =>
    intro k b n ok _
    cases ok
    exact ⟨[], n, rfl, rfl, by simp only [rn__law_listed, ↓r_k, ↓r_v, ↓r_g, ↓r_bin, ↓r_cmp, ↓r_chn, ↓r_isK, ↓r_and, ↓r_or, ↓r_not, ↓r_neg, ↓r_ite, ↓r_idx, ↓r_slc, ↓r_rev, ↓r_tup, ↓r_lst, ↓r_dct, ↓r_call, ↓r_bi, ↓r_mt, ↓r_mu, ↓r_comp, ↓r_nil, ↓r_cons, ↓r_asg, ↓r_unp, ↓r_par, ↓r_aug, ↓r_sto, ↓r_aus, ↓r_ex, ↓r_ifs, ↓r_fr, ↓r_wh, ↓r_ret, ↓r_retN, ↓r_brk, ↓r_cnt, ↓r_pas, ↓r_frg, ↓r_rse, ↓r_snil, ↓r_scons, lk1_d, lk1_new, lk1_slot, lkS_own, lkS_val, lks_nil, lks_cons, fz1_d, fz1_new, fz1_slot, fzS_own, fzS_val, fzs_nil, fzs_cons, opt_some, opt_none, cndS_some, optS_some, gOwnS_own, gValS_val, isDS_d, lk1S_d, lk1S_new, lk1S_slot, lkSS_own, lkSS_val, rdV_val, rdV_own, isD_d, gOwn_own, gVal_val, bind_ok, bind_stuck, bind_exc, bind_ite, toO_ok, toO_stuck, toO_exc, toO_ite, obind_nx, obind_bk, obind_ct, obind_rt, obind_exc, obind_stuck, obind_ite, of_some, of_ite, oof_some, callK_ok, callK_exc, callK_ite, isLst_lst, compK_ok, compW_nil, setV_eq, setVc_none, setVc_val, setVc_own, setO_eq, setOc_none, setOc_val, setOc_own, setVs_nil, setVs_cons, setT_one, setT_many, setR_d, setR_new, setR_slot, setR_own, setRs_nil, setRs_d, setRs_new, wipe_nil, wipe_cons, unwipe_nil, unwipe_cons, unwC_val, unwC_none, unwC_own, fl_nil, flK_nx, flK_ct, flK_bk, flK_rt, flK_exc, flK_ite, whK_nx, whK_ct, whK_bk, whK_rt, whK_exc, whK_ite, finK_nx, finK_rt, finK_exc, finK_ite, outRV_d, outRV_new, outRV_slot, outS_own, outS_val, outCells_nil, outCells_val, outCells_own, backCells_nil, backCells_0, backCells_s, argCells_nil, argCells_cons, argK_some, arg1_d, arg1_new, arg1_slot, argS_true, argS_home, argS_give, argS_val, List.getElem?_cons_zero, List.getElem?_cons_succ, List.set_cons_zero, List.set_cons_succ, Option.map_some, Option.map_none, GE_phi, GE_fuel, o_addI, o_subI, o_eqI, o_neI, o_eqB, o_neB, o_ltI, o_leI, o_gtI, o_geI, o_ltS, o_leS, o_gtS, o_geS, o_eqS, o_neS, o_isB, t_non, t_bl, t_int, t_str, t_tup, t_lst, ix_L0, ix_T0, ix_T1, ix_T2, ix_T3, ix_T4, ix_Tm, ix_Lm, bi_lenL, bi_lenC, bi_lenT, bi_lenS, bi_tupL, bi_tupT, bi_lstL, bi_lstT, bi_intI, bi_sortL, bi_sortT, s_L, s_T, s_S, s_K, p_non, kn_non, kx_non, kn_str, kx_str, kn_int, kx_int, kn_tup, kx_tup, kn_lst, kx_lst, kn_bl, kx_bl, g_addI, cmp_mem, cmp_nmem, ↓reduceIte, ↓u_node_at_C1c, ↓u_node_at_C1, ↓u_node_at_I1, ↓u_node_at_L1, ↓u_node_at, ↓u_head_of, ↓u_is_met_I1, ↓u_is_met_C1c, ↓u_is_met_C1, ↓u_is_met_I2, ↓u_is_met, ↓u_leaves_below_I1, ↓u_leaves_below_L1, ↓u_leaves_below, ↓u_turns_C1c, ↓u_turns_C1, ↓u_turns_I1, ↓u_turns_I2, ↓u_turns_L1, ↓u_turns, ↓u__law_draws_I1, ↓u__law_draws_I2, ↓u__law_draws_L2, ↓u__law_draws_L1, ↓u__law_draws_L3, ↓u__law_draws, ↓u__law_next_I1, ↓u__law_next, ↓u__law_pick, ↓u__law_is_bit, ↓u__law_words_C1, ↓u__law_words, ↓u__law_label, ↓u__law_key_C1c, ↓u__law_key_C1, ↓u__law_key, ↓u__law_body_L1, ↓u__law_body_C1, ↓u__law_body_L2, ↓u__law_body, ↓u__law_listed_I1, ↓u__law_listed_L1, ↓u__law_listed, ↓u__law_head, ↓u__law_met_I1, ↓u__law_met_C1c, ↓u__law_met_C1, ↓u__law_met_I2, ↓u__law_met, ↓u__law_leaves_I1, ↓u__law_leaves_L1, ↓u__law_leaves, ↓u__law_nodes_C1, ↓u__law_nodes_I1, ↓u__law_nodes_C2, ↓u__law_nodes_L1, ↓u__law_nodes, ↓u_law_C1c, ↓u_law_C1, ↓u_law_I1, ↓u_law_C2c, ↓u_law_C2, ↓u_law_I2, ↓u_law_L3, ↓u_law_I3, ↓u_law_L2, ↓u_law_L1, ↓u_law, GEm_0, GEm_1, GEm_2, GEm_3, GEm_4, GEm_5, GEm_6, GEm_7, GEm_8, GEm_9, GEm_10, GEm_11, GEm_12, GEm_13, GEm_14, GEm_15, GEm_16, GEm_17, GEm_18, GEg_0, ix_N0, ix_N1, ix_N2, srcB, bi_lenB, eqW, neW, memPs, memLPs, eqPs, nePs, setT_N, List.map_nil, bi_tupL]; rfl⟩
  | succ d ih =>
    intro k b n ok hd
    have lp : ∀ (K : List Nd) (acc : List Nd) (n : Nat), (∀ x ∈ K, x ∈ b) → acc.length + K.length ≤ 100 → (∀ x ∈ acc, x.l ≠ [] ∧ x.l.length ≤ 5 ∧ x.w.length ≤ 5 ∧ okB 5 d x.k) → ∃ (r : List Nd) (n' : Nat), (∀ x ∈ r, x.l ≠ [] ∧ x.l.length ≤ 5 ∧ x.w.length ≤ 5 ∧ okB 5 d x.k) ∧ r.map Nd.l = acc.map Nd.l ++ K.map Nd.l ∧
        forLoop (.many [4, 5, 6]) (exSs (GE (k + d + 3)) ir__law_listed_L1) (K.map encN) [some (.own true (WD ds n)), some (.val (encB b)), some (.val encL5), some (.own false (.lst (acc.map encN))), none, none, none] =
        .nx [some (.own true (WD ds n')), some (.val (encB b)), some (.val encL5), some (.own false (.lst (r.map encN))), none, none, none] := by
      intro K
      induction K with
      | nil => intro acc n _ _ h; exact ⟨acc, n, h, by simp, rfl⟩
      | cons x K ihK =>
        intro acc n hK hl h
        simp only [List.length_cons] at hl
        have hx := okB_kid ok (hK x List.mem_cons_self)
        have key : ∃ (ws : List St) (n1 : Nat), ws.length ≤ 5 ∧ exS (GE (k + d + 3)) ir__law_listed_I1 [some (.own true (WD ds n)), some (.val (encB b)), some (.val encL5), some (.own false (.lst (acc.map encN))), some (.val (.str x.l)), some (.val (encW x.w)), some (.val (encB x.k))] = .nx [some (.own true (WD ds n1)), some (.val (encB b)), some (.val encL5), some (.own false (.lst (acc.map encN))), some (.val (.str x.l)), some (.val (encW ws)), some (.val (encB x.k))] := by
          have nn := next_sp (k + d + 2) ds n 4 (by decide)
          have pp := fun n => pick_ex (k + d + 1) ds n D.str hds5 (by decide)
          simp only [hds5, hAll, hOne, hTwo, hNone, List.map_cons, List.map_nil, ← encL5.eq_def] at pp
          cases e : x.k.isEmpty
          · obtain ⟨y, _, p⟩ := pp n
            refine ⟨y :: x.w, n + 1, by simp; omega, ?_⟩
            simp only [↓r_k, ↓r_v, ↓r_g, ↓r_bin, ↓r_cmp, ↓r_chn, ↓r_isK, ↓r_and, ↓r_or, ↓r_not, ↓r_neg, ↓r_ite, ↓r_idx, ↓r_slc, ↓r_rev, ↓r_tup, ↓r_lst, ↓r_dct, ↓r_call, ↓r_bi, ↓r_mt, ↓r_mu, ↓r_comp, ↓r_nil, ↓r_cons, ↓r_asg, ↓r_unp, ↓r_par, ↓r_aug, ↓r_sto, ↓r_aus, ↓r_ex, ↓r_ifs, ↓r_fr, ↓r_wh, ↓r_ret, ↓r_retN, ↓r_brk, ↓r_cnt, ↓r_pas, ↓r_frg, ↓r_rse, ↓r_snil, ↓r_scons, lk1_d, lk1_new, lk1_slot, lkS_own, lkS_val, lks_nil, lks_cons, fz1_d, fz1_new, fz1_slot, fzS_own, fzS_val, fzs_nil, fzs_cons, opt_some, opt_none, cndS_some, optS_some, gOwnS_own, gValS_val, isDS_d, lk1S_d, lk1S_new, lk1S_slot, lkSS_own, lkSS_val, rdV_val, rdV_own, isD_d, gOwn_own, gVal_val, bind_ok, bind_stuck, bind_exc, bind_ite, toO_ok, toO_stuck, toO_exc, toO_ite, obind_nx, obind_bk, obind_ct, obind_rt, obind_exc, obind_stuck, obind_ite, of_some, of_ite, oof_some, callK_ok, callK_exc, callK_ite, isLst_lst, compK_ok, compW_nil, setV_eq, setVc_none, setVc_val, setVc_own, setO_eq, setOc_none, setOc_val, setOc_own, setVs_nil, setVs_cons, setT_one, setT_many, setR_d, setR_new, setR_slot, setR_own, setRs_nil, setRs_d, setRs_new, wipe_nil, wipe_cons, unwipe_nil, unwipe_cons, unwC_val, unwC_none, unwC_own, fl_nil, flK_nx, flK_ct, flK_bk, flK_rt, flK_exc, flK_ite, whK_nx, whK_ct, whK_bk, whK_rt, whK_exc, whK_ite, finK_nx, finK_rt, finK_exc, finK_ite, outRV_d, outRV_new, outRV_slot, outS_own, outS_val, outCells_nil, outCells_val, outCells_own, backCells_nil, backCells_0, backCells_s, argCells_nil, argCells_cons, argK_some, arg1_d, arg1_new, arg1_slot, argS_true, argS_home, argS_give, argS_val, List.getElem?_cons_zero, List.getElem?_cons_succ, List.set_cons_zero, List.set_cons_succ, Option.map_some, Option.map_none, GE_phi, GE_fuel, o_addI, o_subI, o_eqI, o_neI, o_eqB, o_neB, o_ltI, o_leI, o_gtI, o_geI, o_ltS, o_leS, o_gtS, o_geS, o_eqS, o_neS, o_isB, t_non, t_bl, t_int, t_str, t_tup, t_lst, ix_L0, ix_T0, ix_T1, ix_T2, ix_T3, ix_T4, ix_Tm, ix_Lm, bi_lenL, bi_lenC, bi_lenT, bi_lenS, bi_tupL, bi_tupT, bi_lstL, bi_lstT, bi_intI, bi_sortL, bi_sortT, s_L, s_T, s_S, s_K, p_non, kn_non, kx_non, kn_str, kx_str, kn_int, kx_int, kn_tup, kx_tup, kn_lst, kx_lst, kn_bl, kx_bl, g_addI, cmp_mem, cmp_nmem, ↓reduceIte, ↓u_node_at_C1c, ↓u_node_at_C1, ↓u_node_at_I1, ↓u_node_at_L1, ↓u_node_at, ↓u_head_of, ↓u_is_met_I1, ↓u_is_met_C1c, ↓u_is_met_C1, ↓u_is_met_I2, ↓u_is_met, ↓u_leaves_below_I1, ↓u_leaves_below_L1, ↓u_leaves_below, ↓u_turns_C1c, ↓u_turns_C1, ↓u_turns_I1, ↓u_turns_I2, ↓u_turns_L1, ↓u_turns, ↓u__law_draws_I1, ↓u__law_draws_I2, ↓u__law_draws_L2, ↓u__law_draws_L1, ↓u__law_draws_L3, ↓u__law_draws, ↓u__law_next_I1, ↓u__law_next, ↓u__law_pick, ↓u__law_is_bit, ↓u__law_words_C1, ↓u__law_words, ↓u__law_label, ↓u__law_key_C1c, ↓u__law_key_C1, ↓u__law_key, ↓u__law_body_L1, ↓u__law_body_C1, ↓u__law_body_L2, ↓u__law_body, ↓u__law_listed_I1, ↓u__law_listed_L1, ↓u__law_listed, ↓u__law_head, ↓u__law_met_I1, ↓u__law_met_C1c, ↓u__law_met_C1, ↓u__law_met_I2, ↓u__law_met, ↓u__law_leaves_I1, ↓u__law_leaves_L1, ↓u__law_leaves, ↓u__law_nodes_C1, ↓u__law_nodes_I1, ↓u__law_nodes_C2, ↓u__law_nodes_L1, ↓u__law_nodes, ↓u_law_C1c, ↓u_law_C1, ↓u_law_I1, ↓u_law_C2c, ↓u_law_C2, ↓u_law_I2, ↓u_law_L3, ↓u_law_I3, ↓u_law_L2, ↓u_law_L1, ↓u_law, GEm_0, GEm_1, GEm_2, GEm_3, GEm_4, GEm_5, GEm_6, GEm_7, GEm_8, GEm_9, GEm_10, GEm_11, GEm_12, GEm_13, GEm_14, GEm_15, GEm_16, GEm_17, GEm_18, GEg_0, ix_N0, ix_N1, ix_N2, srcB, bi_lenB, eqW, neW, memPs, memLPs, eqPs, nePs, setT_N, List.contains_nil, Bool.false_eq_true, o_neB0 hx.2.2.2.2 (by omega), e, Bool.not_false, p, o_consW (show x.w.length ≤ 100 by omega)]
          · by_cases z : nx ds n 4 = 0
            · obtain ⟨y, _, p⟩ := pp (n + 1)
              refine ⟨y :: x.w, n + 1 + 1, by simp; omega, ?_⟩
              simp only [↓r_k, ↓r_v, ↓r_g, ↓r_bin, ↓r_cmp, ↓r_chn, ↓r_isK, ↓r_and, ↓r_or, ↓r_not, ↓r_neg, ↓r_ite, ↓r_idx, ↓r_slc, ↓r_rev, ↓r_tup, ↓r_lst, ↓r_dct, ↓r_call, ↓r_bi, ↓r_mt, ↓r_mu, ↓r_comp, ↓r_nil, ↓r_cons, ↓r_asg, ↓r_unp, ↓r_par, ↓r_aug, ↓r_sto, ↓r_aus, ↓r_ex, ↓r_ifs, ↓r_fr, ↓r_wh, ↓r_ret, ↓r_retN, ↓r_brk, ↓r_cnt, ↓r_pas, ↓r_frg, ↓r_rse, ↓r_snil, ↓r_scons, lk1_d, lk1_new, lk1_slot, lkS_own, lkS_val, lks_nil, lks_cons, fz1_d, fz1_new, fz1_slot, fzS_own, fzS_val, fzs_nil, fzs_cons, opt_some, opt_none, cndS_some, optS_some, gOwnS_own, gValS_val, isDS_d, lk1S_d, lk1S_new, lk1S_slot, lkSS_own, lkSS_val, rdV_val, rdV_own, isD_d, gOwn_own, gVal_val, bind_ok, bind_stuck, bind_exc, bind_ite, toO_ok, toO_stuck, toO_exc, toO_ite, obind_nx, obind_bk, obind_ct, obind_rt, obind_exc, obind_stuck, obind_ite, of_some, of_ite, oof_some, callK_ok, callK_exc, callK_ite, isLst_lst, compK_ok, compW_nil, setV_eq, setVc_none, setVc_val, setVc_own, setO_eq, setOc_none, setOc_val, setOc_own, setVs_nil, setVs_cons, setT_one, setT_many, setR_d, setR_new, setR_slot, setR_own, setRs_nil, setRs_d, setRs_new, wipe_nil, wipe_cons, unwipe_nil, unwipe_cons, unwC_val, unwC_none, unwC_own, fl_nil, flK_nx, flK_ct, flK_bk, flK_rt, flK_exc, flK_ite, whK_nx, whK_ct, whK_bk, whK_rt, whK_exc, whK_ite, finK_nx, finK_rt, finK_exc, finK_ite, outRV_d, outRV_new, outRV_slot, outS_own, outS_val, outCells_nil, outCells_val, outCells_own, backCells_nil, backCells_0, backCells_s, argCells_nil, argCells_cons, argK_some, arg1_d, arg1_new, arg1_slot, argS_true, argS_home, argS_give, argS_val, List.getElem?_cons_zero, List.getElem?_cons_succ, List.set_cons_zero, List.set_cons_succ, Option.map_some, Option.map_none, GE_phi, GE_fuel, o_addI, o_subI, o_eqI, o_neI, o_eqB, o_neB, o_ltI, o_leI, o_gtI, o_geI, o_ltS, o_leS, o_gtS, o_geS, o_eqS, o_neS, o_isB, t_non, t_bl, t_int, t_str, t_tup, t_lst, ix_L0, ix_T0, ix_T1, ix_T2, ix_T3, ix_T4, ix_Tm, ix_Lm, bi_lenL, bi_lenC, bi_lenT, bi_lenS, bi_tupL, bi_tupT, bi_lstL, bi_lstT, bi_intI, bi_sortL, bi_sortT, s_L, s_T, s_S, s_K, p_non, kn_non, kx_non, kn_str, kx_str, kn_int, kx_int, kn_tup, kx_tup, kn_lst, kx_lst, kn_bl, kx_bl, g_addI, cmp_mem, cmp_nmem, ↓reduceIte, ↓u_node_at_C1c, ↓u_node_at_C1, ↓u_node_at_I1, ↓u_node_at_L1, ↓u_node_at, ↓u_head_of, ↓u_is_met_I1, ↓u_is_met_C1c, ↓u_is_met_C1, ↓u_is_met_I2, ↓u_is_met, ↓u_leaves_below_I1, ↓u_leaves_below_L1, ↓u_leaves_below, ↓u_turns_C1c, ↓u_turns_C1, ↓u_turns_I1, ↓u_turns_I2, ↓u_turns_L1, ↓u_turns, ↓u__law_draws_I1, ↓u__law_draws_I2, ↓u__law_draws_L2, ↓u__law_draws_L1, ↓u__law_draws_L3, ↓u__law_draws, ↓u__law_next_I1, ↓u__law_next, ↓u__law_pick, ↓u__law_is_bit, ↓u__law_words_C1, ↓u__law_words, ↓u__law_label, ↓u__law_key_C1c, ↓u__law_key_C1, ↓u__law_key, ↓u__law_body_L1, ↓u__law_body_C1, ↓u__law_body_L2, ↓u__law_body, ↓u__law_listed_I1, ↓u__law_listed_L1, ↓u__law_listed, ↓u__law_head, ↓u__law_met_I1, ↓u__law_met_C1c, ↓u__law_met_C1, ↓u__law_met_I2, ↓u__law_met, ↓u__law_leaves_I1, ↓u__law_leaves_L1, ↓u__law_leaves, ↓u__law_nodes_C1, ↓u__law_nodes_I1, ↓u__law_nodes_C2, ↓u__law_nodes_L1, ↓u__law_nodes, ↓u_law_C1c, ↓u_law_C1, ↓u_law_I1, ↓u_law_C2c, ↓u_law_C2, ↓u_law_I2, ↓u_law_L3, ↓u_law_I3, ↓u_law_L2, ↓u_law_L1, ↓u_law, GEm_0, GEm_1, GEm_2, GEm_3, GEm_4, GEm_5, GEm_6, GEm_7, GEm_8, GEm_9, GEm_10, GEm_11, GEm_12, GEm_13, GEm_14, GEm_15, GEm_16, GEm_17, GEm_18, GEg_0, ix_N0, ix_N1, ix_N2, srcB, bi_lenB, eqW, neW, memPs, memLPs, eqPs, nePs, setT_N, List.contains_nil, Bool.false_eq_true, o_neB0 hx.2.2.2.2 (by omega), e, Bool.not_true, nn, z, decide_true, p, o_consW (show x.w.length ≤ 100 by omega)]
            · refine ⟨x.w, n + 1, by omega, ?_⟩
              simp only [↓r_k, ↓r_v, ↓r_g, ↓r_bin, ↓r_cmp, ↓r_chn, ↓r_isK, ↓r_and, ↓r_or, ↓r_not, ↓r_neg, ↓r_ite, ↓r_idx, ↓r_slc, ↓r_rev, ↓r_tup, ↓r_lst, ↓r_dct, ↓r_call, ↓r_bi, ↓r_mt, ↓r_mu, ↓r_comp, ↓r_nil, ↓r_cons, ↓r_asg, ↓r_unp, ↓r_par, ↓r_aug, ↓r_sto, ↓r_aus, ↓r_ex, ↓r_ifs, ↓r_fr, ↓r_wh, ↓r_ret, ↓r_retN, ↓r_brk, ↓r_cnt, ↓r_pas, ↓r_frg, ↓r_rse, ↓r_snil, ↓r_scons, lk1_d, lk1_new, lk1_slot, lkS_own, lkS_val, lks_nil, lks_cons, fz1_d, fz1_new, fz1_slot, fzS_own, fzS_val, fzs_nil, fzs_cons, opt_some, opt_none, cndS_some, optS_some, gOwnS_own, gValS_val, isDS_d, lk1S_d, lk1S_new, lk1S_slot, lkSS_own, lkSS_val, rdV_val, rdV_own, isD_d, gOwn_own, gVal_val, bind_ok, bind_stuck, bind_exc, bind_ite, toO_ok, toO_stuck, toO_exc, toO_ite, obind_nx, obind_bk, obind_ct, obind_rt, obind_exc, obind_stuck, obind_ite, of_some, of_ite, oof_some, callK_ok, callK_exc, callK_ite, isLst_lst, compK_ok, compW_nil, setV_eq, setVc_none, setVc_val, setVc_own, setO_eq, setOc_none, setOc_val, setOc_own, setVs_nil, setVs_cons, setT_one, setT_many, setR_d, setR_new, setR_slot, setR_own, setRs_nil, setRs_d, setRs_new, wipe_nil, wipe_cons, unwipe_nil, unwipe_cons, unwC_val, unwC_none, unwC_own, fl_nil, flK_nx, flK_ct, flK_bk, flK_rt, flK_exc, flK_ite, whK_nx, whK_ct, whK_bk, whK_rt, whK_exc, whK_ite, finK_nx, finK_rt, finK_exc, finK_ite, outRV_d, outRV_new, outRV_slot, outS_own, outS_val, outCells_nil, outCells_val, outCells_own, backCells_nil, backCells_0, backCells_s, argCells_nil, argCells_cons, argK_some, arg1_d, arg1_new, arg1_slot, argS_true, argS_home, argS_give, argS_val, List.getElem?_cons_zero, List.getElem?_cons_succ, List.set_cons_zero, List.set_cons_succ, Option.map_some, Option.map_none, GE_phi, GE_fuel, o_addI, o_subI, o_eqI, o_neI, o_eqB, o_neB, o_ltI, o_leI, o_gtI, o_geI, o_ltS, o_leS, o_gtS, o_geS, o_eqS, o_neS, o_isB, t_non, t_bl, t_int, t_str, t_tup, t_lst, ix_L0, ix_T0, ix_T1, ix_T2, ix_T3, ix_T4, ix_Tm, ix_Lm, bi_lenL, bi_lenC, bi_lenT, bi_lenS, bi_tupL, bi_tupT, bi_lstL, bi_lstT, bi_intI, bi_sortL, bi_sortT, s_L, s_T, s_S, s_K, p_non, kn_non, kx_non, kn_str, kx_str, kn_int, kx_int, kn_tup, kx_tup, kn_lst, kx_lst, kn_bl, kx_bl, g_addI, cmp_mem, cmp_nmem, ↓reduceIte, ↓u_node_at_C1c, ↓u_node_at_C1, ↓u_node_at_I1, ↓u_node_at_L1, ↓u_node_at, ↓u_head_of, ↓u_is_met_I1, ↓u_is_met_C1c, ↓u_is_met_C1, ↓u_is_met_I2, ↓u_is_met, ↓u_leaves_below_I1, ↓u_leaves_below_L1, ↓u_leaves_below, ↓u_turns_C1c, ↓u_turns_C1, ↓u_turns_I1, ↓u_turns_I2, ↓u_turns_L1, ↓u_turns, ↓u__law_draws_I1, ↓u__law_draws_I2, ↓u__law_draws_L2, ↓u__law_draws_L1, ↓u__law_draws_L3, ↓u__law_draws, ↓u__law_next_I1, ↓u__law_next, ↓u__law_pick, ↓u__law_is_bit, ↓u__law_words_C1, ↓u__law_words, ↓u__law_label, ↓u__law_key_C1c, ↓u__law_key_C1, ↓u__law_key, ↓u__law_body_L1, ↓u__law_body_C1, ↓u__law_body_L2, ↓u__law_body, ↓u__law_listed_I1, ↓u__law_listed_L1, ↓u__law_listed, ↓u__law_head, ↓u__law_met_I1, ↓u__law_met_C1c, ↓u__law_met_C1, ↓u__law_met_I2, ↓u__law_met, ↓u__law_leaves_I1, ↓u__law_leaves_L1, ↓u__law_leaves, ↓u__law_nodes_C1, ↓u__law_nodes_I1, ↓u__law_nodes_C2, ↓u__law_nodes_L1, ↓u__law_nodes, ↓u_law_C1c, ↓u_law_C1, ↓u_law_I1, ↓u_law_C2c, ↓u_law_C2, ↓u_law_I2, ↓u_law_L3, ↓u_law_I3, ↓u_law_L2, ↓u_law_L1, ↓u_law, GEm_0, GEm_1, GEm_2, GEm_3, GEm_4, GEm_5, GEm_6, GEm_7, GEm_8, GEm_9, GEm_10, GEm_11, GEm_12, GEm_13, GEm_14, GEm_15, GEm_16, GEm_17, GEm_18, GEg_0, ix_N0, ix_N1, ix_N2, srcB, bi_lenB, eqW, neW, memPs, memLPs, eqPs, nePs, setT_N, List.contains_nil, Bool.false_eq_true, o_neB0 hx.2.2.2.2 (by omega), e, Bool.not_true, nn, z, decide_false]
        obtain ⟨ws, n1, w1, w2⟩ := key
        obtain ⟨kb, n2, k1, k2, k3⟩ := ih k x.k n1 hx.2.2.2.2 (by omega)
        obtain ⟨r, n', r1, r2, r3⟩ := ihK (acc ++ [.mk x.l ws kb]) n2 (fun y hy => hK y (List.mem_cons_of_mem _ hy)) (by simp; omega) (by
          intro y hy
          rcases List.mem_append.mp hy with hy | hy
          · exact h y hy
          · simp at hy; subst hy
            exact ⟨hx.2.1, hx.2.2.1, w1, k1⟩)
        refine ⟨r, n', r1, by simp [r2, Nd.l], ?_⟩
        have ha : (acc.map encN).length < line := by simp [line]; omega
        have en : encN (.mk x.l ws kb) = .tup [.str x.l, encW ws, encB kb] := encN_eq _
        simp only [List.map_append, List.map_cons, List.map_nil, en] at r3
        simp only [List.map_cons, fl_cons, opt_some, setT_N, setVs_cons, setVs_nil, setV_eq, List.getElem?_cons_succ, List.getElem?_cons_zero, setVc_none, List.set_cons_succ, List.set_cons_zero, u__law_listed_L1, q_scons, w2, obind_nx]
        simp only [↓r_k, ↓r_v, ↓r_g, ↓r_bin, ↓r_cmp, ↓r_chn, ↓r_isK, ↓r_and, ↓r_or, ↓r_not, ↓r_neg, ↓r_ite, ↓r_idx, ↓r_slc, ↓r_rev, ↓r_tup, ↓r_lst, ↓r_dct, ↓r_call, ↓r_bi, ↓r_mt, ↓r_mu, ↓r_comp, ↓r_nil, ↓r_cons, ↓r_asg, ↓r_unp, ↓r_par, ↓r_aug, ↓r_sto, ↓r_aus, ↓r_ex, ↓r_ifs, ↓r_fr, ↓r_wh, ↓r_ret, ↓r_retN, ↓r_brk, ↓r_cnt, ↓r_pas, ↓r_frg, ↓r_rse, ↓r_snil, ↓r_scons, lk1_d, lk1_new, lk1_slot, lkS_own, lkS_val, lks_nil, lks_cons, fz1_d, fz1_new, fz1_slot, fzS_own, fzS_val, fzs_nil, fzs_cons, opt_some, opt_none, cndS_some, optS_some, gOwnS_own, gValS_val, isDS_d, lk1S_d, lk1S_new, lk1S_slot, lkSS_own, lkSS_val, rdV_val, rdV_own, isD_d, gOwn_own, gVal_val, bind_ok, bind_stuck, bind_exc, bind_ite, toO_ok, toO_stuck, toO_exc, toO_ite, obind_nx, obind_bk, obind_ct, obind_rt, obind_exc, obind_stuck, obind_ite, of_some, of_ite, oof_some, callK_ok, callK_exc, callK_ite, isLst_lst, compK_ok, compW_nil, setV_eq, setVc_none, setVc_val, setVc_own, setO_eq, setOc_none, setOc_val, setOc_own, setVs_nil, setVs_cons, setT_one, setT_many, setR_d, setR_new, setR_slot, setR_own, setRs_nil, setRs_d, setRs_new, wipe_nil, wipe_cons, unwipe_nil, unwipe_cons, unwC_val, unwC_none, unwC_own, fl_nil, flK_nx, flK_ct, flK_bk, flK_rt, flK_exc, flK_ite, whK_nx, whK_ct, whK_bk, whK_rt, whK_exc, whK_ite, finK_nx, finK_rt, finK_exc, finK_ite, outRV_d, outRV_new, outRV_slot, outS_own, outS_val, outCells_nil, outCells_val, outCells_own, backCells_nil, backCells_0, backCells_s, argCells_nil, argCells_cons, argK_some, arg1_d, arg1_new, arg1_slot, argS_true, argS_home, argS_give, argS_val, List.getElem?_cons_zero, List.getElem?_cons_succ, List.set_cons_zero, List.set_cons_succ, Option.map_some, Option.map_none, GE_phi, GE_fuel, o_addI, o_subI, o_eqI, o_neI, o_eqB, o_neB, o_ltI, o_leI, o_gtI, o_geI, o_ltS, o_leS, o_gtS, o_geS, o_eqS, o_neS, o_isB, t_non, t_bl, t_int, t_str, t_tup, t_lst, ix_L0, ix_T0, ix_T1, ix_T2, ix_T3, ix_T4, ix_Tm, ix_Lm, bi_lenL, bi_lenC, bi_lenT, bi_lenS, bi_tupL, bi_tupT, bi_lstL, bi_lstT, bi_intI, bi_sortL, bi_sortT, s_L, s_T, s_S, s_K, p_non, kn_non, kx_non, kn_str, kx_str, kn_int, kx_int, kn_tup, kx_tup, kn_lst, kx_lst, kn_bl, kx_bl, g_addI, cmp_mem, cmp_nmem, ↓reduceIte, ↓u_node_at_C1c, ↓u_node_at_C1, ↓u_node_at_I1, ↓u_node_at_L1, ↓u_node_at, ↓u_head_of, ↓u_is_met_I1, ↓u_is_met_C1c, ↓u_is_met_C1, ↓u_is_met_I2, ↓u_is_met, ↓u_leaves_below_I1, ↓u_leaves_below_L1, ↓u_leaves_below, ↓u_turns_C1c, ↓u_turns_C1, ↓u_turns_I1, ↓u_turns_I2, ↓u_turns_L1, ↓u_turns, ↓u__law_draws_I1, ↓u__law_draws_I2, ↓u__law_draws_L2, ↓u__law_draws_L1, ↓u__law_draws_L3, ↓u__law_draws, ↓u__law_next_I1, ↓u__law_next, ↓u__law_pick, ↓u__law_is_bit, ↓u__law_words_C1, ↓u__law_words, ↓u__law_label, ↓u__law_key_C1c, ↓u__law_key_C1, ↓u__law_key, ↓u__law_body_L1, ↓u__law_body_C1, ↓u__law_body_L2, ↓u__law_body, ↓u__law_listed_I1, ↓u__law_listed_L1, ↓u__law_listed, ↓u__law_head, ↓u__law_met_I1, ↓u__law_met_C1c, ↓u__law_met_C1, ↓u__law_met_I2, ↓u__law_met, ↓u__law_leaves_I1, ↓u__law_leaves_L1, ↓u__law_leaves, ↓u__law_nodes_C1, ↓u__law_nodes_I1, ↓u__law_nodes_C2, ↓u__law_nodes_L1, ↓u__law_nodes, ↓u_law_C1c, ↓u_law_C1, ↓u_law_I1, ↓u_law_C2c, ↓u_law_C2, ↓u_law_I2, ↓u_law_L3, ↓u_law_I3, ↓u_law_L2, ↓u_law_L1, ↓u_law, GEm_0, GEm_1, GEm_2, GEm_3, GEm_4, GEm_5, GEm_6, GEm_7, GEm_8, GEm_9, GEm_10, GEm_11, GEm_12, GEm_13, GEm_14, GEm_15, GEm_16, GEm_17, GEm_18, GEg_0, ix_N0, ix_N1, ix_N2, srcB, bi_lenB, eqW, neW, memPs, memLPs, eqPs, nePs, setT_N, List.contains_nil, Bool.false_eq_true, k3, a_app ha]
        exact r3
    obtain ⟨r, n', r1, r2, r3⟩ := lp b [] n (fun _ h => h) (by have := okB_len ok; simp; omega) (fun _ h => by cases h)
    simp only [List.map_nil, List.nil_append] at r2 r3
    refine ⟨r, n', ⟨?_, by rw [r2]; exact okB_nd ok, r1⟩, r2, ?_⟩
    · have := okB_len ok
      have : r.length = b.length := by rw [← List.length_map (f := Nd.l), r2, List.length_map]
      omega
    · have r3' : forLoop (.many [4, 5, 6]) (exSs (GE (k + (d + 1) + 2)) ir__law_listed_L1) (b.map encN) [some (.own true (WD ds n)), some (.val (encB b)), some (.val encL5), some (.own false (.lst [])), none, none, none] =
        .nx [some (.own true (WD ds n')), some (.val (encB b)), some (.val encL5), some (.own false (.lst (r.map encN))), none, none, none] := r3
      simp only [rn__law_listed, ↓r_k, ↓r_v, ↓r_g, ↓r_bin, ↓r_cmp, ↓r_chn, ↓r_isK, ↓r_and, ↓r_or, ↓r_not, ↓r_neg, ↓r_ite, ↓r_idx, ↓r_slc, ↓r_rev, ↓r_tup, ↓r_lst, ↓r_dct, ↓r_call, ↓r_bi, ↓r_mt, ↓r_mu, ↓r_comp, ↓r_nil, ↓r_cons, ↓r_asg, ↓r_unp, ↓r_par, ↓r_aug, ↓r_sto, ↓r_aus, ↓r_ex, ↓r_ifs, ↓r_fr, ↓r_wh, ↓r_ret, ↓r_retN, ↓r_brk, ↓r_cnt, ↓r_pas, ↓r_frg, ↓r_rse, ↓r_snil, ↓r_scons, lk1_d, lk1_new, lk1_slot, lkS_own, lkS_val, lks_nil, lks_cons, fz1_d, fz1_new, fz1_slot, fzS_own, fzS_val, fzs_nil, fzs_cons, opt_some, opt_none, cndS_some, optS_some, gOwnS_own, gValS_val, isDS_d, lk1S_d, lk1S_new, lk1S_slot, lkSS_own, lkSS_val, rdV_val, rdV_own, isD_d, gOwn_own, gVal_val, bind_ok, bind_stuck, bind_exc, bind_ite, toO_ok, toO_stuck, toO_exc, toO_ite, obind_nx, obind_bk, obind_ct, obind_rt, obind_exc, obind_stuck, obind_ite, of_some, of_ite, oof_some, callK_ok, callK_exc, callK_ite, isLst_lst, compK_ok, compW_nil, setV_eq, setVc_none, setVc_val, setVc_own, setO_eq, setOc_none, setOc_val, setOc_own, setVs_nil, setVs_cons, setT_one, setT_many, setR_d, setR_new, setR_slot, setR_own, setRs_nil, setRs_d, setRs_new, wipe_nil, wipe_cons, unwipe_nil, unwipe_cons, unwC_val, unwC_none, unwC_own, fl_nil, flK_nx, flK_ct, flK_bk, flK_rt, flK_exc, flK_ite, whK_nx, whK_ct, whK_bk, whK_rt, whK_exc, whK_ite, finK_nx, finK_rt, finK_exc, finK_ite, outRV_d, outRV_new, outRV_slot, outS_own, outS_val, outCells_nil, outCells_val, outCells_own, backCells_nil, backCells_0, backCells_s, argCells_nil, argCells_cons, argK_some, arg1_d, arg1_new, arg1_slot, argS_true, argS_home, argS_give, argS_val, List.getElem?_cons_zero, List.getElem?_cons_succ, List.set_cons_zero, List.set_cons_succ, Option.map_some, Option.map_none, GE_phi, GE_fuel, o_addI, o_subI, o_eqI, o_neI, o_eqB, o_neB, o_ltI, o_leI, o_gtI, o_geI, o_ltS, o_leS, o_gtS, o_geS, o_eqS, o_neS, o_isB, t_non, t_bl, t_int, t_str, t_tup, t_lst, ix_L0, ix_T0, ix_T1, ix_T2, ix_T3, ix_T4, ix_Tm, ix_Lm, bi_lenL, bi_lenC, bi_lenT, bi_lenS, bi_tupL, bi_tupT, bi_lstL, bi_lstT, bi_intI, bi_sortL, bi_sortT, s_L, s_T, s_S, s_K, p_non, kn_non, kx_non, kn_str, kx_str, kn_int, kx_int, kn_tup, kx_tup, kn_lst, kx_lst, kn_bl, kx_bl, g_addI, cmp_mem, cmp_nmem, ↓reduceIte, ↓u_node_at_C1c, ↓u_node_at_C1, ↓u_node_at_I1, ↓u_node_at_L1, ↓u_node_at, ↓u_head_of, ↓u_is_met_I1, ↓u_is_met_C1c, ↓u_is_met_C1, ↓u_is_met_I2, ↓u_is_met, ↓u_leaves_below_I1, ↓u_leaves_below_L1, ↓u_leaves_below, ↓u_turns_C1c, ↓u_turns_C1, ↓u_turns_I1, ↓u_turns_I2, ↓u_turns_L1, ↓u_turns, ↓u__law_draws_I1, ↓u__law_draws_I2, ↓u__law_draws_L2, ↓u__law_draws_L1, ↓u__law_draws_L3, ↓u__law_draws, ↓u__law_next_I1, ↓u__law_next, ↓u__law_pick, ↓u__law_is_bit, ↓u__law_words_C1, ↓u__law_words, ↓u__law_label, ↓u__law_key_C1c, ↓u__law_key_C1, ↓u__law_key, ↓u__law_body_L1, ↓u__law_body_C1, ↓u__law_body_L2, ↓u__law_body, ↓u__law_listed_I1, ↓u__law_listed_L1, ↓u__law_listed, ↓u__law_head, ↓u__law_met_I1, ↓u__law_met_C1c, ↓u__law_met_C1, ↓u__law_met_I2, ↓u__law_met, ↓u__law_leaves_I1, ↓u__law_leaves_L1, ↓u__law_leaves, ↓u__law_nodes_C1, ↓u__law_nodes_I1, ↓u__law_nodes_C2, ↓u__law_nodes_L1, ↓u__law_nodes, ↓u_law_C1c, ↓u_law_C1, ↓u_law_I1, ↓u_law_C2c, ↓u_law_C2, ↓u_law_I2, ↓u_law_L3, ↓u_law_I3, ↓u_law_L2, ↓u_law_L1, ↓u_law, GEm_0, GEm_1, GEm_2, GEm_3, GEm_4, GEm_5, GEm_6, GEm_7, GEm_8, GEm_9, GEm_10, GEm_11, GEm_12, GEm_13, GEm_14, GEm_15, GEm_16, GEm_17, GEm_18, GEg_0, ix_N0, ix_N1, ix_N2, srcB, bi_lenB, eqW, neW, memPs, memLPs, eqPs, nePs, setT_N, r3', bi_tupL, tupB]

/-! nodes -/
def encPN (x : List St × Nd) : D := .tup [encW x.1, encN x.2]
def Vq (B : List Nd) (x : List St × Nd) : Prop := ∃ d, okB 5 d x.2.k ∧ d + x.1.length ≤ 2 ∧ na B none (x.1 ++ [x.2.l]) = some (x.2.k, some x.2)
def Vp (B : List Nd) (x : List St × Nd) : Prop := x.1 ≠ [] ∧ ∃ d, okB 5 d x.2.k ∧ d + x.1.length ≤ 3 ∧ na B none x.1 = some (x.2.k, some x.2)
theorem revB (b : List Nd) : revD (encB b) = some (.d (encB b.reverse)) := by simp [revD, encB]
theorem dep_PN {B : List Nd} {x : List St × Nd} (h : Vq B x) : dep (encPN x) ≤ 20 := by
  obtain ⟨d, h1, h2, _⟩ := h
  have h3 := okB_dep h1
  have h4 := depW x.1
  have h5 := depW x.2.w
  simp only [encB] at h3
  simp only [encPN, encN_eq, dep, depL] at h3 ⊢
  omega
theorem setT_PN (σ : Sg) (l : List Nat) (x : List St × Nd) : setT σ (.many l) (encPN x) = setVs σ l [encW x.1, encN x.2] := rfl
theorem o_eqPN {Q : List (List St × Nd)} {B : List Nd} (h : ∀ x ∈ Q, Vq B x) : cmpD .eq (.lst (Q.map encPN)) (.lst []) = some Q.isEmpty := by
  rw [o_eqL0 (depL_map' _ _ fun x hx => Nat.le_trans (dep_PN (h x hx)) (by decide))]
  cases Q <;> rfl
theorem nodes_L1 (K : Nat) (B : List Nd) : ∀ (is : List Nat) (P Q : List (List St × Nd)), (∀ x ∈ P, Vp B x) → (∀ x ∈ Q, Vq B x) → P.length + is.length ≤ 1000 → Q.length + 3 * is.length ≤ 10000 →
    ∃ (P' Q' : List (List St × Nd)), (∀ x ∈ P', Vp B x) ∧ P'.length ≤ P.length + is.length ∧
    forLoop (.one 1) (exSs (GE K) ir__law_nodes_L1) (is.map fun i : Nat => D.int (i : Int)) [some (.val (encB B)), none, some (.own false (.lst (P.map encPN))), some (.own false (.lst (Q.map encPN))), none, none, none] =
      .nx [some (.val (encB B)), none, some (.own false (.lst (P'.map encPN))), some (.own false (.lst (Q'.map encPN))), none, none, none]
  | [], P, Q, hP, _, _, _ => ⟨P, Q, hP, Nat.le_refl _, rfl⟩
  | i :: is, P, Q, hP, hQ, l1, l2 => by
    simp only [List.length_cons] at l1 l2
    rcases List.eq_nil_or_concat Q with e | ⟨Q0, x, e⟩
    · subst e
      refine ⟨P, [], hP, Nat.le_add_right _ _, ?_⟩
      simp only [List.map_cons, fl_cons, ↓r_k, ↓r_v, ↓r_g, ↓r_bin, ↓r_cmp, ↓r_chn, ↓r_isK, ↓r_and, ↓r_or, ↓r_not, ↓r_neg, ↓r_ite, ↓r_idx, ↓r_slc, ↓r_rev, ↓r_tup, ↓r_lst, ↓r_dct, ↓r_call, ↓r_bi, ↓r_mt, ↓r_mu, ↓r_comp, ↓r_nil, ↓r_cons, ↓r_asg, ↓r_unp, ↓r_par, ↓r_aug, ↓r_sto, ↓r_aus, ↓r_ex, ↓r_ifs, ↓r_fr, ↓r_wh, ↓r_ret, ↓r_retN, ↓r_brk, ↓r_cnt, ↓r_pas, ↓r_frg, ↓r_rse, ↓r_snil, ↓r_scons, lk1_d, lk1_new, lk1_slot, lkS_own, lkS_val, lks_nil, lks_cons, fz1_d, fz1_new, fz1_slot, fzS_own, fzS_val, fzs_nil, fzs_cons, opt_some, opt_none, cndS_some, optS_some, gOwnS_own, gValS_val, isDS_d, lk1S_d, lk1S_new, lk1S_slot, lkSS_own, lkSS_val, rdV_val, rdV_own, isD_d, gOwn_own, gVal_val, bind_ok, bind_stuck, bind_exc, bind_ite, toO_ok, toO_stuck, toO_exc, toO_ite, obind_nx, obind_bk, obind_ct, obind_rt, obind_exc, obind_stuck, obind_ite, of_some, of_ite, oof_some, callK_ok, callK_exc, callK_ite, isLst_lst, compK_ok, compW_nil, setV_eq, setVc_none, setVc_val, setVc_own, setO_eq, setOc_none, setOc_val, setOc_own, setVs_nil, setVs_cons, setT_one, setT_many, setR_d, setR_new, setR_slot, setR_own, setRs_nil, setRs_d, setRs_new, wipe_nil, wipe_cons, unwipe_nil, unwipe_cons, unwC_val, unwC_none, unwC_own, fl_nil, flK_nx, flK_ct, flK_bk, flK_rt, flK_exc, flK_ite, whK_nx, whK_ct, whK_bk, whK_rt, whK_exc, whK_ite, finK_nx, finK_rt, finK_exc, finK_ite, outRV_d, outRV_new, outRV_slot, outS_own, outS_val, outCells_nil, outCells_val, outCells_own, backCells_nil, backCells_0, backCells_s, argCells_nil, argCells_cons, argK_some, arg1_d, arg1_new, arg1_slot, argS_true, argS_home, argS_give, argS_val, List.getElem?_cons_zero, List.getElem?_cons_succ, List.set_cons_zero, List.set_cons_succ, Option.map_some, Option.map_none, GE_phi, GE_fuel, o_addI, o_subI, o_eqI, o_neI, o_eqB, o_neB, o_ltI, o_leI, o_gtI, o_geI, o_ltS, o_leS, o_gtS, o_geS, o_eqS, o_neS, o_isB, t_non, t_bl, t_int, t_str, t_tup, t_lst, ix_L0, ix_T0, ix_T1, ix_T2, ix_T3, ix_T4, ix_Tm, ix_Lm, bi_lenL, bi_lenC, bi_lenT, bi_lenS, bi_tupL, bi_tupT, bi_lstL, bi_lstT, bi_intI, bi_sortL, bi_sortT, s_L, s_T, s_S, s_K, p_non, kn_non, kx_non, kn_str, kx_str, kn_int, kx_int, kn_tup, kx_tup, kn_lst, kx_lst, kn_bl, kx_bl, g_addI, cmp_mem, cmp_nmem, ↓reduceIte, ↓u_node_at_C1c, ↓u_node_at_C1, ↓u_node_at_I1, ↓u_node_at_L1, ↓u_node_at, ↓u_head_of, ↓u_is_met_I1, ↓u_is_met_C1c, ↓u_is_met_C1, ↓u_is_met_I2, ↓u_is_met, ↓u_leaves_below_I1, ↓u_leaves_below_L1, ↓u_leaves_below, ↓u_turns_C1c, ↓u_turns_C1, ↓u_turns_I1, ↓u_turns_I2, ↓u_turns_L1, ↓u_turns, ↓u__law_draws_I1, ↓u__law_draws_I2, ↓u__law_draws_L2, ↓u__law_draws_L1, ↓u__law_draws_L3, ↓u__law_draws, ↓u__law_next_I1, ↓u__law_next, ↓u__law_pick, ↓u__law_is_bit, ↓u__law_words_C1, ↓u__law_words, ↓u__law_label, ↓u__law_key_C1c, ↓u__law_key_C1, ↓u__law_key, ↓u__law_body_L1, ↓u__law_body_C1, ↓u__law_body_L2, ↓u__law_body, ↓u__law_listed_I1, ↓u__law_listed_L1, ↓u__law_listed, ↓u__law_head, ↓u__law_met_I1, ↓u__law_met_C1c, ↓u__law_met_C1, ↓u__law_met_I2, ↓u__law_met, ↓u__law_leaves_I1, ↓u__law_leaves_L1, ↓u__law_leaves, ↓u__law_nodes_C1, ↓u__law_nodes_I1, ↓u__law_nodes_C2, ↓u__law_nodes_L1, ↓u__law_nodes, ↓u_law_C1c, ↓u_law_C1, ↓u_law_I1, ↓u_law_C2c, ↓u_law_C2, ↓u_law_I2, ↓u_law_L3, ↓u_law_I3, ↓u_law_L2, ↓u_law_L1, ↓u_law, GEm_0, GEm_1, GEm_2, GEm_3, GEm_4, GEm_5, GEm_6, GEm_7, GEm_8, GEm_9, GEm_10, GEm_11, GEm_12, GEm_13, GEm_14, GEm_15, GEm_16, GEm_17, GEm_18, GEg_0, ix_N0, ix_N1, ix_N2, srcB, bi_lenB, eqW, neW, memPs, memLPs, eqPs, nePs, setT_N, List.map_nil, o_eqL0 (show depL [] ≤ 59 by decide), List.isEmpty_nil]
    · rw [List.concat_eq_append] at e
      subst e
      have hx := hQ x (by simp)
      obtain ⟨d, v1, v2, v3⟩ := hx
      have hPl : (P.map encPN).length < line := by simp [line]; omega
      have hc : ∀ σ0 : Cell, ∀ σ1 : Cell, ∀ σ2 : Cell, compW (turnW (GE K) [6] (.one 6) (.k (.bl true)) ir__law_nodes_C2) (x.2.k.reverse.map encN) [some σ0, some (.val (.int i)), some σ1, some σ2, some (.val (encW (x.1 ++ [x.2.l]))), some (.val (encN x.2)), none] [] = .ok ((x.2.k.reverse.map fun kid => (x.1 ++ [x.2.l], kid)).map encPN) [some σ0, some (.val (.int i)), some σ1, some σ2, some (.val (encW (x.1 ++ [x.2.l]))), some (.val (encN x.2)), none] := by
        intro σ0 σ1 σ2
        rw [compW_map encN fun kid => encPN (x.1 ++ [x.2.l], kid)]
        · simp
        intro kid _
        simp only [turnW, ↓r_k, ↓r_v, ↓r_g, ↓r_bin, ↓r_cmp, ↓r_chn, ↓r_isK, ↓r_and, ↓r_or, ↓r_not, ↓r_neg, ↓r_ite, ↓r_idx, ↓r_slc, ↓r_rev, ↓r_tup, ↓r_lst, ↓r_dct, ↓r_call, ↓r_bi, ↓r_mt, ↓r_mu, ↓r_comp, ↓r_nil, ↓r_cons, ↓r_asg, ↓r_unp, ↓r_par, ↓r_aug, ↓r_sto, ↓r_aus, ↓r_ex, ↓r_ifs, ↓r_fr, ↓r_wh, ↓r_ret, ↓r_retN, ↓r_brk, ↓r_cnt, ↓r_pas, ↓r_frg, ↓r_rse, ↓r_snil, ↓r_scons, lk1_d, lk1_new, lk1_slot, lkS_own, lkS_val, lks_nil, lks_cons, fz1_d, fz1_new, fz1_slot, fzS_own, fzS_val, fzs_nil, fzs_cons, opt_some, opt_none, cndS_some, optS_some, gOwnS_own, gValS_val, isDS_d, lk1S_d, lk1S_new, lk1S_slot, lkSS_own, lkSS_val, rdV_val, rdV_own, isD_d, gOwn_own, gVal_val, bind_ok, bind_stuck, bind_exc, bind_ite, toO_ok, toO_stuck, toO_exc, toO_ite, obind_nx, obind_bk, obind_ct, obind_rt, obind_exc, obind_stuck, obind_ite, of_some, of_ite, oof_some, callK_ok, callK_exc, callK_ite, isLst_lst, compK_ok, compW_nil, setV_eq, setVc_none, setVc_val, setVc_own, setO_eq, setOc_none, setOc_val, setOc_own, setVs_nil, setVs_cons, setT_one, setT_many, setR_d, setR_new, setR_slot, setR_own, setRs_nil, setRs_d, setRs_new, wipe_nil, wipe_cons, unwipe_nil, unwipe_cons, unwC_val, unwC_none, unwC_own, fl_nil, flK_nx, flK_ct, flK_bk, flK_rt, flK_exc, flK_ite, whK_nx, whK_ct, whK_bk, whK_rt, whK_exc, whK_ite, finK_nx, finK_rt, finK_exc, finK_ite, outRV_d, outRV_new, outRV_slot, outS_own, outS_val, outCells_nil, outCells_val, outCells_own, backCells_nil, backCells_0, backCells_s, argCells_nil, argCells_cons, argK_some, arg1_d, arg1_new, arg1_slot, argS_true, argS_home, argS_give, argS_val, List.getElem?_cons_zero, List.getElem?_cons_succ, List.set_cons_zero, List.set_cons_succ, Option.map_some, Option.map_none, GE_phi, GE_fuel, o_addI, o_subI, o_eqI, o_neI, o_eqB, o_neB, o_ltI, o_leI, o_gtI, o_geI, o_ltS, o_leS, o_gtS, o_geS, o_eqS, o_neS, o_isB, t_non, t_bl, t_int, t_str, t_tup, t_lst, ix_L0, ix_T0, ix_T1, ix_T2, ix_T3, ix_T4, ix_Tm, ix_Lm, bi_lenL, bi_lenC, bi_lenT, bi_lenS, bi_tupL, bi_tupT, bi_lstL, bi_lstT, bi_intI, bi_sortL, bi_sortT, s_L, s_T, s_S, s_K, p_non, kn_non, kx_non, kn_str, kx_str, kn_int, kx_int, kn_tup, kx_tup, kn_lst, kx_lst, kn_bl, kx_bl, g_addI, cmp_mem, cmp_nmem, ↓reduceIte, ↓u_node_at_C1c, ↓u_node_at_C1, ↓u_node_at_I1, ↓u_node_at_L1, ↓u_node_at, ↓u_head_of, ↓u_is_met_I1, ↓u_is_met_C1c, ↓u_is_met_C1, ↓u_is_met_I2, ↓u_is_met, ↓u_leaves_below_I1, ↓u_leaves_below_L1, ↓u_leaves_below, ↓u_turns_C1c, ↓u_turns_C1, ↓u_turns_I1, ↓u_turns_I2, ↓u_turns_L1, ↓u_turns, ↓u__law_draws_I1, ↓u__law_draws_I2, ↓u__law_draws_L2, ↓u__law_draws_L1, ↓u__law_draws_L3, ↓u__law_draws, ↓u__law_next_I1, ↓u__law_next, ↓u__law_pick, ↓u__law_is_bit, ↓u__law_words_C1, ↓u__law_words, ↓u__law_label, ↓u__law_key_C1c, ↓u__law_key_C1, ↓u__law_key, ↓u__law_body_L1, ↓u__law_body_C1, ↓u__law_body_L2, ↓u__law_body, ↓u__law_listed_I1, ↓u__law_listed_L1, ↓u__law_listed, ↓u__law_head, ↓u__law_met_I1, ↓u__law_met_C1c, ↓u__law_met_C1, ↓u__law_met_I2, ↓u__law_met, ↓u__law_leaves_I1, ↓u__law_leaves_L1, ↓u__law_leaves, ↓u__law_nodes_C1, ↓u__law_nodes_I1, ↓u__law_nodes_C2, ↓u__law_nodes_L1, ↓u__law_nodes, ↓u_law_C1c, ↓u_law_C1, ↓u_law_I1, ↓u_law_C2c, ↓u_law_C2, ↓u_law_I2, ↓u_law_L3, ↓u_law_I3, ↓u_law_L2, ↓u_law_L1, ↓u_law, GEm_0, GEm_1, GEm_2, GEm_3, GEm_4, GEm_5, GEm_6, GEm_7, GEm_8, GEm_9, GEm_10, GEm_11, GEm_12, GEm_13, GEm_14, GEm_15, GEm_16, GEm_17, GEm_18, GEg_0, ix_N0, ix_N1, ix_N2, srcB, bi_lenB, eqW, neW, memPs, memLPs, eqPs, nePs, setT_N]
        rfl
      have lk := okB_len v1
      have hql : (Q0.map encPN).length + ((x.2.k.reverse.map fun kid => (x.1 ++ [x.2.l], kid)).map encPN).length ≤ line := by
        simp only [List.length_append, List.length_cons, List.length_nil] at l2
        simp [line]; omega
      obtain ⟨P', Q', g1, g2, g3⟩ := nodes_L1 K B is (P ++ [(x.1 ++ [x.2.l], x.2)]) (Q0 ++ x.2.k.reverse.map fun kid => (x.1 ++ [x.2.l], kid)) (by
        intro y hy
        rcases List.mem_append.mp hy with hy | hy
        · exact hP y hy
        · simp at hy; subst hy
          exact ⟨by simp, d, v1, by simp; omega, v3⟩) (by
        intro y hy
        rcases List.mem_append.mp hy with hy | hy
        · exact hQ y (by simp [hy])
        · obtain ⟨kid, hk, rfl⟩ := List.mem_map.mp hy
          have hk : kid ∈ x.2.k := List.mem_reverse.mp hk
          obtain ⟨d0, _, _, _, h5⟩ := okB_kid v1 hk
          exact ⟨d - 1, h5, by simp; omega, na_kid v3 v1 hk⟩) (by simp; omega) (by simp only [List.length_append, List.length_cons, List.length_nil, List.length_map, List.length_reverse] at l2 ⊢; omega)
      refine ⟨P', Q', g1, by simp only [List.length_append, List.length_cons, List.length_nil] at g2 ⊢; omega, ?_⟩
      have hne : (Q0 ++ [x]).isEmpty = false := by simp
      have hpop : muD .pop (.lst ((Q0 ++ [x]).map encPN)) [] = some (.lst (Q0.map encPN), encPN x) := by simp [a_pop]
      have hpl : x.1.length ≤ 100 := by omega
      simp only [List.map_cons, fl_cons, ↓r_k, ↓r_v, ↓r_g, ↓r_bin, ↓r_cmp, ↓r_chn, ↓r_isK, ↓r_and, ↓r_or, ↓r_not, ↓r_neg, ↓r_ite, ↓r_idx, ↓r_slc, ↓r_rev, ↓r_tup, ↓r_lst, ↓r_dct, ↓r_call, ↓r_bi, ↓r_mt, ↓r_mu, ↓r_comp, ↓r_nil, ↓r_cons, ↓r_asg, ↓r_unp, ↓r_par, ↓r_aug, ↓r_sto, ↓r_aus, ↓r_ex, ↓r_ifs, ↓r_fr, ↓r_wh, ↓r_ret, ↓r_retN, ↓r_brk, ↓r_cnt, ↓r_pas, ↓r_frg, ↓r_rse, ↓r_snil, ↓r_scons, lk1_d, lk1_new, lk1_slot, lkS_own, lkS_val, lks_nil, lks_cons, fz1_d, fz1_new, fz1_slot, fzS_own, fzS_val, fzs_nil, fzs_cons, opt_some, opt_none, cndS_some, optS_some, gOwnS_own, gValS_val, isDS_d, lk1S_d, lk1S_new, lk1S_slot, lkSS_own, lkSS_val, rdV_val, rdV_own, isD_d, gOwn_own, gVal_val, bind_ok, bind_stuck, bind_exc, bind_ite, toO_ok, toO_stuck, toO_exc, toO_ite, obind_nx, obind_bk, obind_ct, obind_rt, obind_exc, obind_stuck, obind_ite, of_some, of_ite, oof_some, callK_ok, callK_exc, callK_ite, isLst_lst, compK_ok, compW_nil, setV_eq, setVc_none, setVc_val, setVc_own, setO_eq, setOc_none, setOc_val, setOc_own, setVs_nil, setVs_cons, setT_one, setT_many, setR_d, setR_new, setR_slot, setR_own, setRs_nil, setRs_d, setRs_new, wipe_nil, wipe_cons, unwipe_nil, unwipe_cons, unwC_val, unwC_none, unwC_own, fl_nil, flK_nx, flK_ct, flK_bk, flK_rt, flK_exc, flK_ite, whK_nx, whK_ct, whK_bk, whK_rt, whK_exc, whK_ite, finK_nx, finK_rt, finK_exc, finK_ite, outRV_d, outRV_new, outRV_slot, outS_own, outS_val, outCells_nil, outCells_val, outCells_own, backCells_nil, backCells_0, backCells_s, argCells_nil, argCells_cons, argK_some, arg1_d, arg1_new, arg1_slot, argS_true, argS_home, argS_give, argS_val, List.getElem?_cons_zero, List.getElem?_cons_succ, List.set_cons_zero, List.set_cons_succ, Option.map_some, Option.map_none, GE_phi, GE_fuel, o_addI, o_subI, o_eqI, o_neI, o_eqB, o_neB, o_ltI, o_leI, o_gtI, o_geI, o_ltS, o_leS, o_gtS, o_geS, o_eqS, o_neS, o_isB, t_non, t_bl, t_int, t_str, t_tup, t_lst, ix_L0, ix_T0, ix_T1, ix_T2, ix_T3, ix_T4, ix_Tm, ix_Lm, bi_lenL, bi_lenC, bi_lenT, bi_lenS, bi_tupL, bi_tupT, bi_lstL, bi_lstT, bi_intI, bi_sortL, bi_sortT, s_L, s_T, s_S, s_K, p_non, kn_non, kx_non, kn_str, kx_str, kn_int, kx_int, kn_tup, kx_tup, kn_lst, kx_lst, kn_bl, kx_bl, g_addI, cmp_mem, cmp_nmem, ↓reduceIte, ↓u_node_at_C1c, ↓u_node_at_C1, ↓u_node_at_I1, ↓u_node_at_L1, ↓u_node_at, ↓u_head_of, ↓u_is_met_I1, ↓u_is_met_C1c, ↓u_is_met_C1, ↓u_is_met_I2, ↓u_is_met, ↓u_leaves_below_I1, ↓u_leaves_below_L1, ↓u_leaves_below, ↓u_turns_C1c, ↓u_turns_C1, ↓u_turns_I1, ↓u_turns_I2, ↓u_turns_L1, ↓u_turns, ↓u__law_draws_I1, ↓u__law_draws_I2, ↓u__law_draws_L2, ↓u__law_draws_L1, ↓u__law_draws_L3, ↓u__law_draws, ↓u__law_next_I1, ↓u__law_next, ↓u__law_pick, ↓u__law_is_bit, ↓u__law_words_C1, ↓u__law_words, ↓u__law_label, ↓u__law_key_C1c, ↓u__law_key_C1, ↓u__law_key, ↓u__law_body_L1, ↓u__law_body_C1, ↓u__law_body_L2, ↓u__law_body, ↓u__law_listed_I1, ↓u__law_listed_L1, ↓u__law_listed, ↓u__law_head, ↓u__law_met_I1, ↓u__law_met_C1c, ↓u__law_met_C1, ↓u__law_met_I2, ↓u__law_met, ↓u__law_leaves_I1, ↓u__law_leaves_L1, ↓u__law_leaves, ↓u__law_nodes_C1, ↓u__law_nodes_I1, ↓u__law_nodes_C2, ↓u__law_nodes_L1, ↓u__law_nodes, ↓u_law_C1c, ↓u_law_C1, ↓u_law_I1, ↓u_law_C2c, ↓u_law_C2, ↓u_law_I2, ↓u_law_L3, ↓u_law_I3, ↓u_law_L2, ↓u_law_L1, ↓u_law, GEm_0, GEm_1, GEm_2, GEm_3, GEm_4, GEm_5, GEm_6, GEm_7, GEm_8, GEm_9, GEm_10, GEm_11, GEm_12, GEm_13, GEm_14, GEm_15, GEm_16, GEm_17, GEm_18, GEg_0, ix_N0, ix_N1, ix_N2, srcB, bi_lenB, eqW, neW, memPs, memLPs, eqPs, nePs, setT_N, o_eqPN hQ, hne, Bool.false_eq_true, hpop, setT_PN, o_snocW hpl, revB, hc, o_addL hql, a_app hPl]
      simp only [List.map_append, List.map_cons, List.map_nil, encPN] at g3
      exact g3
theorem nodes_sp (k : Nat) (B : List Nd) (ok : okB 5 3 B) : ∃ P : List (List St × Nd), (∀ x ∈ P, Vp B x) ∧ P.length ≤ 400 ∧ run tab globD 2000 (k + 1) 17 [.val (encB B)] = .ok (.new (.lst (P.map encPN))) [.val (encB B)] := by
  have hc : compW (turnW (GE k) [5] (.one 5) (.k (.bl true)) ir__law_nodes_C1) (B.reverse.map encN) [some (.val (encB B)), none, none, none, none, none, none] [] = .ok ((B.reverse.map fun x => (([] : List St), x)).map encPN) [some (.val (encB B)), none, none, none, none, none, none] := by
    rw [compW_map encN fun x => encPN (([] : List St), x)]
    · simp
    intro kid _
    simp only [turnW, ↓r_k, ↓r_v, ↓r_g, ↓r_bin, ↓r_cmp, ↓r_chn, ↓r_isK, ↓r_and, ↓r_or, ↓r_not, ↓r_neg, ↓r_ite, ↓r_idx, ↓r_slc, ↓r_rev, ↓r_tup, ↓r_lst, ↓r_dct, ↓r_call, ↓r_bi, ↓r_mt, ↓r_mu, ↓r_comp, ↓r_nil, ↓r_cons, ↓r_asg, ↓r_unp, ↓r_par, ↓r_aug, ↓r_sto, ↓r_aus, ↓r_ex, ↓r_ifs, ↓r_fr, ↓r_wh, ↓r_ret, ↓r_retN, ↓r_brk, ↓r_cnt, ↓r_pas, ↓r_frg, ↓r_rse, ↓r_snil, ↓r_scons, lk1_d, lk1_new, lk1_slot, lkS_own, lkS_val, lks_nil, lks_cons, fz1_d, fz1_new, fz1_slot, fzS_own, fzS_val, fzs_nil, fzs_cons, opt_some, opt_none, cndS_some, optS_some, gOwnS_own, gValS_val, isDS_d, lk1S_d, lk1S_new, lk1S_slot, lkSS_own, lkSS_val, rdV_val, rdV_own, isD_d, gOwn_own, gVal_val, bind_ok, bind_stuck, bind_exc, bind_ite, toO_ok, toO_stuck, toO_exc, toO_ite, obind_nx, obind_bk, obind_ct, obind_rt, obind_exc, obind_stuck, obind_ite, of_some, of_ite, oof_some, callK_ok, callK_exc, callK_ite, isLst_lst, compK_ok, compW_nil, setV_eq, setVc_none, setVc_val, setVc_own, setO_eq, setOc_none, setOc_val, setOc_own, setVs_nil, setVs_cons, setT_one, setT_many, setR_d, setR_new, setR_slot, setR_own, setRs_nil, setRs_d, setRs_new, wipe_nil, wipe_cons, unwipe_nil, unwipe_cons, unwC_val, unwC_none, unwC_own, fl_nil, flK_nx, flK_ct, flK_bk, flK_rt, flK_exc, flK_ite, whK_nx, whK_ct, whK_bk, whK_rt, whK_exc, whK_ite, finK_nx, finK_rt, finK_exc, finK_ite, outRV_d, outRV_new, outRV_slot, outS_own, outS_val, outCells_nil, outCells_val, outCells_own, backCells_nil, backCells_0, backCells_s, argCells_nil, argCells_cons, argK_some, arg1_d, arg1_new, arg1_slot, argS_true, argS_home, argS_give, argS_val, List.getElem?_cons_zero, List.getElem?_cons_succ, List.set_cons_zero, List.set_cons_succ, Option.map_some, Option.map_none, GE_phi, GE_fuel, o_addI, o_subI, o_eqI, o_neI, o_eqB, o_neB, o_ltI, o_leI, o_gtI, o_geI, o_ltS, o_leS, o_gtS, o_geS, o_eqS, o_neS, o_isB, t_non, t_bl, t_int, t_str, t_tup, t_lst, ix_L0, ix_T0, ix_T1, ix_T2, ix_T3, ix_T4, ix_Tm, ix_Lm, bi_lenL, bi_lenC, bi_lenT, bi_lenS, bi_tupL, bi_tupT, bi_lstL, bi_lstT, bi_intI, bi_sortL, bi_sortT, s_L, s_T, s_S, s_K, p_non, kn_non, kx_non, kn_str, kx_str, kn_int, kx_int, kn_tup, kx_tup, kn_lst, kx_lst, kn_bl, kx_bl, g_addI, cmp_mem, cmp_nmem, ↓reduceIte, ↓u_node_at_C1c, ↓u_node_at_C1, ↓u_node_at_I1, ↓u_node_at_L1, ↓u_node_at, ↓u_head_of, ↓u_is_met_I1, ↓u_is_met_C1c, ↓u_is_met_C1, ↓u_is_met_I2, ↓u_is_met, ↓u_leaves_below_I1, ↓u_leaves_below_L1, ↓u_leaves_below, ↓u_turns_C1c, ↓u_turns_C1, ↓u_turns_I1, ↓u_turns_I2, ↓u_turns_L1, ↓u_turns, ↓u__law_draws_I1, ↓u__law_draws_I2, ↓u__law_draws_L2, ↓u__law_draws_L1, ↓u__law_draws_L3, ↓u__law_draws, ↓u__law_next_I1, ↓u__law_next, ↓u__law_pick, ↓u__law_is_bit, ↓u__law_words_C1, ↓u__law_words, ↓u__law_label, ↓u__law_key_C1c, ↓u__law_key_C1, ↓u__law_key, ↓u__law_body_L1, ↓u__law_body_C1, ↓u__law_body_L2, ↓u__law_body, ↓u__law_listed_I1, ↓u__law_listed_L1, ↓u__law_listed, ↓u__law_head, ↓u__law_met_I1, ↓u__law_met_C1c, ↓u__law_met_C1, ↓u__law_met_I2, ↓u__law_met, ↓u__law_leaves_I1, ↓u__law_leaves_L1, ↓u__law_leaves, ↓u__law_nodes_C1, ↓u__law_nodes_I1, ↓u__law_nodes_C2, ↓u__law_nodes_L1, ↓u__law_nodes, ↓u_law_C1c, ↓u_law_C1, ↓u_law_I1, ↓u_law_C2c, ↓u_law_C2, ↓u_law_I2, ↓u_law_L3, ↓u_law_I3, ↓u_law_L2, ↓u_law_L1, ↓u_law, GEm_0, GEm_1, GEm_2, GEm_3, GEm_4, GEm_5, GEm_6, GEm_7, GEm_8, GEm_9, GEm_10, GEm_11, GEm_12, GEm_13, GEm_14, GEm_15, GEm_16, GEm_17, GEm_18, GEg_0, ix_N0, ix_N1, ix_N2, srcB, bi_lenB, eqW, neW, memPs, memLPs, eqPs, nePs, setT_N]
    rfl
  obtain ⟨P, Q, g1, g2, g3⟩ := nodes_L1 k B (List.range 400) [] (B.reverse.map fun x => (([] : List St), x)) (fun _ h => by cases h) (by
    intro y hy
    obtain ⟨x, hx, rfl⟩ := List.mem_map.mp hy
    have hx : x ∈ B := List.mem_reverse.mp hx
    exact ⟨2, (okB_kid ok hx).2.2.2.2, by simp, by simp [na, find_lab (okB_nd ok) hx]⟩) (by simp) (by have := okB_len ok; simp; omega)
  refine ⟨P, g1, by simpa using g2, ?_⟩
  have e400 : srcD .range [.int 400] = some ((List.range 400).map fun i : Nat => D.int (i : Int)) := s_rng (n := 400) (by decide)
  simp only [List.map_nil] at g3
  simp only [rn__law_nodes, ↓r_k, ↓r_v, ↓r_g, ↓r_bin, ↓r_cmp, ↓r_chn, ↓r_isK, ↓r_and, ↓r_or, ↓r_not, ↓r_neg, ↓r_ite, ↓r_idx, ↓r_slc, ↓r_rev, ↓r_tup, ↓r_lst, ↓r_dct, ↓r_call, ↓r_bi, ↓r_mt, ↓r_mu, ↓r_comp, ↓r_nil, ↓r_cons, ↓r_asg, ↓r_unp, ↓r_par, ↓r_aug, ↓r_sto, ↓r_aus, ↓r_ex, ↓r_ifs, ↓r_fr, ↓r_wh, ↓r_ret, ↓r_retN, ↓r_brk, ↓r_cnt, ↓r_pas, ↓r_frg, ↓r_rse, ↓r_snil, ↓r_scons, lk1_d, lk1_new, lk1_slot, lkS_own, lkS_val, lks_nil, lks_cons, fz1_d, fz1_new, fz1_slot, fzS_own, fzS_val, fzs_nil, fzs_cons, opt_some, opt_none, cndS_some, optS_some, gOwnS_own, gValS_val, isDS_d, lk1S_d, lk1S_new, lk1S_slot, lkSS_own, lkSS_val, rdV_val, rdV_own, isD_d, gOwn_own, gVal_val, bind_ok, bind_stuck, bind_exc, bind_ite, toO_ok, toO_stuck, toO_exc, toO_ite, obind_nx, obind_bk, obind_ct, obind_rt, obind_exc, obind_stuck, obind_ite, of_some, of_ite, oof_some, callK_ok, callK_exc, callK_ite, isLst_lst, compK_ok, compW_nil, setV_eq, setVc_none, setVc_val, setVc_own, setO_eq, setOc_none, setOc_val, setOc_own, setVs_nil, setVs_cons, setT_one, setT_many, setR_d, setR_new, setR_slot, setR_own, setRs_nil, setRs_d, setRs_new, wipe_nil, wipe_cons, unwipe_nil, unwipe_cons, unwC_val, unwC_none, unwC_own, fl_nil, flK_nx, flK_ct, flK_bk, flK_rt, flK_exc, flK_ite, whK_nx, whK_ct, whK_bk, whK_rt, whK_exc, whK_ite, finK_nx, finK_rt, finK_exc, finK_ite, outRV_d, outRV_new, outRV_slot, outS_own, outS_val, outCells_nil, outCells_val, outCells_own, backCells_nil, backCells_0, backCells_s, argCells_nil, argCells_cons, argK_some, arg1_d, arg1_new, arg1_slot, argS_true, argS_home, argS_give, argS_val, List.getElem?_cons_zero, List.getElem?_cons_succ, List.set_cons_zero, List.set_cons_succ, Option.map_some, Option.map_none, GE_phi, GE_fuel, o_addI, o_subI, o_eqI, o_neI, o_eqB, o_neB, o_ltI, o_leI, o_gtI, o_geI, o_ltS, o_leS, o_gtS, o_geS, o_eqS, o_neS, o_isB, t_non, t_bl, t_int, t_str, t_tup, t_lst, ix_L0, ix_T0, ix_T1, ix_T2, ix_T3, ix_T4, ix_Tm, ix_Lm, bi_lenL, bi_lenC, bi_lenT, bi_lenS, bi_tupL, bi_tupT, bi_lstL, bi_lstT, bi_intI, bi_sortL, bi_sortT, s_L, s_T, s_S, s_K, p_non, kn_non, kx_non, kn_str, kx_str, kn_int, kx_int, kn_tup, kx_tup, kn_lst, kx_lst, kn_bl, kx_bl, g_addI, cmp_mem, cmp_nmem, ↓reduceIte, ↓u_node_at_C1c, ↓u_node_at_C1, ↓u_node_at_I1, ↓u_node_at_L1, ↓u_node_at, ↓u_head_of, ↓u_is_met_I1, ↓u_is_met_C1c, ↓u_is_met_C1, ↓u_is_met_I2, ↓u_is_met, ↓u_leaves_below_I1, ↓u_leaves_below_L1, ↓u_leaves_below, ↓u_turns_C1c, ↓u_turns_C1, ↓u_turns_I1, ↓u_turns_I2, ↓u_turns_L1, ↓u_turns, ↓u__law_draws_I1, ↓u__law_draws_I2, ↓u__law_draws_L2, ↓u__law_draws_L1, ↓u__law_draws_L3, ↓u__law_draws, ↓u__law_next_I1, ↓u__law_next, ↓u__law_pick, ↓u__law_is_bit, ↓u__law_words_C1, ↓u__law_words, ↓u__law_label, ↓u__law_key_C1c, ↓u__law_key_C1, ↓u__law_key, ↓u__law_body_L1, ↓u__law_body_C1, ↓u__law_body_L2, ↓u__law_body, ↓u__law_listed_I1, ↓u__law_listed_L1, ↓u__law_listed, ↓u__law_head, ↓u__law_met_I1, ↓u__law_met_C1c, ↓u__law_met_C1, ↓u__law_met_I2, ↓u__law_met, ↓u__law_leaves_I1, ↓u__law_leaves_L1, ↓u__law_leaves, ↓u__law_nodes_C1, ↓u__law_nodes_I1, ↓u__law_nodes_C2, ↓u__law_nodes_L1, ↓u__law_nodes, ↓u_law_C1c, ↓u_law_C1, ↓u_law_I1, ↓u_law_C2c, ↓u_law_C2, ↓u_law_I2, ↓u_law_L3, ↓u_law_I3, ↓u_law_L2, ↓u_law_L1, ↓u_law, GEm_0, GEm_1, GEm_2, GEm_3, GEm_4, GEm_5, GEm_6, GEm_7, GEm_8, GEm_9, GEm_10, GEm_11, GEm_12, GEm_13, GEm_14, GEm_15, GEm_16, GEm_17, GEm_18, GEg_0, ix_N0, ix_N1, ix_N2, srcB, bi_lenB, eqW, neW, memPs, memLPs, eqPs, nePs, setT_N, revB, hc, e400, g3]
theorem is_bit_sp (k : Nat) (a : Bool) : run tab globD 2000 (k + 1) 8 [.val (.bl a), .val (.bl a)] = .ok (.d (.bl true)) [.val (.bl a), .val (.bl a)] := by
  cases a <;> simp [rn__law_is_bit, ↓r_k, ↓r_v, ↓r_g, ↓r_bin, ↓r_cmp, ↓r_chn, ↓r_isK, ↓r_and, ↓r_or, ↓r_not, ↓r_neg, ↓r_ite, ↓r_idx, ↓r_slc, ↓r_rev, ↓r_tup, ↓r_lst, ↓r_dct, ↓r_call, ↓r_bi, ↓r_mt, ↓r_mu, ↓r_comp, ↓r_nil, ↓r_cons, ↓r_asg, ↓r_unp, ↓r_par, ↓r_aug, ↓r_sto, ↓r_aus, ↓r_ex, ↓r_ifs, ↓r_fr, ↓r_wh, ↓r_ret, ↓r_retN, ↓r_brk, ↓r_cnt, ↓r_pas, ↓r_frg, ↓r_rse, ↓r_snil, ↓r_scons, lk1_d, lk1_new, lk1_slot, lkS_own, lkS_val, lks_nil, lks_cons, fz1_d, fz1_new, fz1_slot, fzS_own, fzS_val, fzs_nil, fzs_cons, opt_some, opt_none, cndS_some, optS_some, gOwnS_own, gValS_val, isDS_d, lk1S_d, lk1S_new, lk1S_slot, lkSS_own, lkSS_val, rdV_val, rdV_own, isD_d, gOwn_own, gVal_val, bind_ok, bind_stuck, bind_exc, bind_ite, toO_ok, toO_stuck, toO_exc, toO_ite, obind_nx, obind_bk, obind_ct, obind_rt, obind_exc, obind_stuck, obind_ite, of_some, of_ite, oof_some, callK_ok, callK_exc, callK_ite, isLst_lst, compK_ok, compW_nil, setV_eq, setVc_none, setVc_val, setVc_own, setO_eq, setOc_none, setOc_val, setOc_own, setVs_nil, setVs_cons, setT_one, setT_many, setR_d, setR_new, setR_slot, setR_own, setRs_nil, setRs_d, setRs_new, wipe_nil, wipe_cons, unwipe_nil, unwipe_cons, unwC_val, unwC_none, unwC_own, fl_nil, flK_nx, flK_ct, flK_bk, flK_rt, flK_exc, flK_ite, whK_nx, whK_ct, whK_bk, whK_rt, whK_exc, whK_ite, finK_nx, finK_rt, finK_exc, finK_ite, outRV_d, outRV_new, outRV_slot, outS_own, outS_val, outCells_nil, outCells_val, outCells_own, backCells_nil, backCells_0, backCells_s, argCells_nil, argCells_cons, argK_some, arg1_d, arg1_new, arg1_slot, argS_true, argS_home, argS_give, argS_val, List.getElem?_cons_zero, List.getElem?_cons_succ, List.set_cons_zero, List.set_cons_succ, Option.map_some, Option.map_none, GE_phi, GE_fuel, o_addI, o_subI, o_eqI, o_neI, o_eqB, o_neB, o_ltI, o_leI, o_gtI, o_geI, o_ltS, o_leS, o_gtS, o_geS, o_eqS, o_neS, o_isB, t_non, t_bl, t_int, t_str, t_tup, t_lst, ix_L0, ix_T0, ix_T1, ix_T2, ix_T3, ix_T4, ix_Tm, ix_Lm, bi_lenL, bi_lenC, bi_lenT, bi_lenS, bi_tupL, bi_tupT, bi_lstL, bi_lstT, bi_intI, bi_sortL, bi_sortT, s_L, s_T, s_S, s_K, p_non, kn_non, kx_non, kn_str, kx_str, kn_int, kx_int, kn_tup, kx_tup, kn_lst, kx_lst, kn_bl, kx_bl, g_addI, cmp_mem, cmp_nmem, ↓reduceIte, ↓u_node_at_C1c, ↓u_node_at_C1, ↓u_node_at_I1, ↓u_node_at_L1, ↓u_node_at, ↓u_head_of, ↓u_is_met_I1, ↓u_is_met_C1c, ↓u_is_met_C1, ↓u_is_met_I2, ↓u_is_met, ↓u_leaves_below_I1, ↓u_leaves_below_L1, ↓u_leaves_below, ↓u_turns_C1c, ↓u_turns_C1, ↓u_turns_I1, ↓u_turns_I2, ↓u_turns_L1, ↓u_turns, ↓u__law_draws_I1, ↓u__law_draws_I2, ↓u__law_draws_L2, ↓u__law_draws_L1, ↓u__law_draws_L3, ↓u__law_draws, ↓u__law_next_I1, ↓u__law_next, ↓u__law_pick, ↓u__law_is_bit, ↓u__law_words_C1, ↓u__law_words, ↓u__law_label, ↓u__law_key_C1c, ↓u__law_key_C1, ↓u__law_key, ↓u__law_body_L1, ↓u__law_body_C1, ↓u__law_body_L2, ↓u__law_body, ↓u__law_listed_I1, ↓u__law_listed_L1, ↓u__law_listed, ↓u__law_head, ↓u__law_met_I1, ↓u__law_met_C1c, ↓u__law_met_C1, ↓u__law_met_I2, ↓u__law_met, ↓u__law_leaves_I1, ↓u__law_leaves_L1, ↓u__law_leaves, ↓u__law_nodes_C1, ↓u__law_nodes_I1, ↓u__law_nodes_C2, ↓u__law_nodes_L1, ↓u__law_nodes, ↓u_law_C1c, ↓u_law_C1, ↓u_law_I1, ↓u_law_C2c, ↓u_law_C2, ↓u_law_I2, ↓u_law_L3, ↓u_law_I3, ↓u_law_L2, ↓u_law_L1, ↓u_law, GEm_0, GEm_1, GEm_2, GEm_3, GEm_4, GEm_5, GEm_6, GEm_7, GEm_8, GEm_9, GEm_10, GEm_11, GEm_12, GEm_13, GEm_14, GEm_15, GEm_16, GEm_17, GEm_18, GEg_0, ix_N0, ix_N1, ix_N2, srcB, bi_lenB, eqW, neW, memPs, memLPs, eqPs, nePs, setT_N]

/-! the law -/
theorem facts_C1 (K : Nat) (ds : List Int) (S B : D) (N : Cell) : ∀ (P : List (List St × Nd)) (n : Nat) (acc : List D) (t : D), ∃ (F : List (List St)) (n' : Nat), (∀ q ∈ F, ∃ x ∈ P, q = x.1) ∧ F.length ≤ P.length ∧
    compW (turnW (GE (K + 1)) [6, 7] (.many [6, 7]) ir_law_C1c ir_law_C1) (P.map encPN) [some (.val S), some (.own false (WD ds n)), some (.val t), some (.val B), some N, none, none, none, none, none, none, none, none] acc =
      .ok (acc ++ F.map encW) [some (.val S), some (.own false (WD ds n')), some (.val t), some (.val B), some N, none, none, none, none, none, none, none, none]
  | [], n, acc, t => ⟨[], n, by simp, by simp, by simp [compW]⟩
  | x :: P, n, acc, t => by
    have nn := next_sp K ds n 2 (by decide)
    by_cases z : nx ds n 2 = 0
    · obtain ⟨F, n', g1, g2, g3⟩ := facts_C1 K ds S B N P (n + 1) (acc ++ [encW x.1]) t
      refine ⟨x.1 :: F, n', fun q hq => ?_, by simp; omega, ?_⟩
      · rcases List.mem_cons.mp hq with rfl | hq
        · exact ⟨x, List.mem_cons_self, rfl⟩
        · obtain ⟨y, hy, e⟩ := g1 q hq
          exact ⟨y, List.mem_cons_of_mem _ hy, e⟩
      · simp only [List.map_cons, compW_cons, turnW, setT_PN, ↓r_k, ↓r_v, ↓r_g, ↓r_bin, ↓r_cmp, ↓r_chn, ↓r_isK, ↓r_and, ↓r_or, ↓r_not, ↓r_neg, ↓r_ite, ↓r_idx, ↓r_slc, ↓r_rev, ↓r_tup, ↓r_lst, ↓r_dct, ↓r_call, ↓r_bi, ↓r_mt, ↓r_mu, ↓r_comp, ↓r_nil, ↓r_cons, ↓r_asg, ↓r_unp, ↓r_par, ↓r_aug, ↓r_sto, ↓r_aus, ↓r_ex, ↓r_ifs, ↓r_fr, ↓r_wh, ↓r_ret, ↓r_retN, ↓r_brk, ↓r_cnt, ↓r_pas, ↓r_frg, ↓r_rse, ↓r_snil, ↓r_scons, lk1_d, lk1_new, lk1_slot, lkS_own, lkS_val, lks_nil, lks_cons, fz1_d, fz1_new, fz1_slot, fzS_own, fzS_val, fzs_nil, fzs_cons, opt_some, opt_none, cndS_some, optS_some, gOwnS_own, gValS_val, isDS_d, lk1S_d, lk1S_new, lk1S_slot, lkSS_own, lkSS_val, rdV_val, rdV_own, isD_d, gOwn_own, gVal_val, bind_ok, bind_stuck, bind_exc, bind_ite, toO_ok, toO_stuck, toO_exc, toO_ite, obind_nx, obind_bk, obind_ct, obind_rt, obind_exc, obind_stuck, obind_ite, of_some, of_ite, oof_some, callK_ok, callK_exc, callK_ite, isLst_lst, compK_ok, compW_nil, setV_eq, setVc_none, setVc_val, setVc_own, setO_eq, setOc_none, setOc_val, setOc_own, setVs_nil, setVs_cons, setT_one, setT_many, setR_d, setR_new, setR_slot, setR_own, setRs_nil, setRs_d, setRs_new, wipe_nil, wipe_cons, unwipe_nil, unwipe_cons, unwC_val, unwC_none, unwC_own, fl_nil, flK_nx, flK_ct, flK_bk, flK_rt, flK_exc, flK_ite, whK_nx, whK_ct, whK_bk, whK_rt, whK_exc, whK_ite, finK_nx, finK_rt, finK_exc, finK_ite, outRV_d, outRV_new, outRV_slot, outS_own, outS_val, outCells_nil, outCells_val, outCells_own, backCells_nil, backCells_0, backCells_s, argCells_nil, argCells_cons, argK_some, arg1_d, arg1_new, arg1_slot, argS_true, argS_home, argS_give, argS_val, List.getElem?_cons_zero, List.getElem?_cons_succ, List.set_cons_zero, List.set_cons_succ, Option.map_some, Option.map_none, GE_phi, GE_fuel, o_addI, o_subI, o_eqI, o_neI, o_eqB, o_neB, o_ltI, o_leI, o_gtI, o_geI, o_ltS, o_leS, o_gtS, o_geS, o_eqS, o_neS, o_isB, t_non, t_bl, t_int, t_str, t_tup, t_lst, ix_L0, ix_T0, ix_T1, ix_T2, ix_T3, ix_T4, ix_Tm, ix_Lm, bi_lenL, bi_lenC, bi_lenT, bi_lenS, bi_tupL, bi_tupT, bi_lstL, bi_lstT, bi_intI, bi_sortL, bi_sortT, s_L, s_T, s_S, s_K, p_non, kn_non, kx_non, kn_str, kx_str, kn_int, kx_int, kn_tup, kx_tup, kn_lst, kx_lst, kn_bl, kx_bl, g_addI, cmp_mem, cmp_nmem, ↓reduceIte, ↓u_node_at_C1c, ↓u_node_at_C1, ↓u_node_at_I1, ↓u_node_at_L1, ↓u_node_at, ↓u_head_of, ↓u_is_met_I1, ↓u_is_met_C1c, ↓u_is_met_C1, ↓u_is_met_I2, ↓u_is_met, ↓u_leaves_below_I1, ↓u_leaves_below_L1, ↓u_leaves_below, ↓u_turns_C1c, ↓u_turns_C1, ↓u_turns_I1, ↓u_turns_I2, ↓u_turns_L1, ↓u_turns, ↓u__law_draws_I1, ↓u__law_draws_I2, ↓u__law_draws_L2, ↓u__law_draws_L1, ↓u__law_draws_L3, ↓u__law_draws, ↓u__law_next_I1, ↓u__law_next, ↓u__law_pick, ↓u__law_is_bit, ↓u__law_words_C1, ↓u__law_words, ↓u__law_label, ↓u__law_key_C1c, ↓u__law_key_C1, ↓u__law_key, ↓u__law_body_L1, ↓u__law_body_C1, ↓u__law_body_L2, ↓u__law_body, ↓u__law_listed_I1, ↓u__law_listed_L1, ↓u__law_listed, ↓u__law_head, ↓u__law_met_I1, ↓u__law_met_C1c, ↓u__law_met_C1, ↓u__law_met_I2, ↓u__law_met, ↓u__law_leaves_I1, ↓u__law_leaves_L1, ↓u__law_leaves, ↓u__law_nodes_C1, ↓u__law_nodes_I1, ↓u__law_nodes_C2, ↓u__law_nodes_L1, ↓u__law_nodes, ↓u_law_C1c, ↓u_law_C1, ↓u_law_I1, ↓u_law_C2c, ↓u_law_C2, ↓u_law_I2, ↓u_law_L3, ↓u_law_I3, ↓u_law_L2, ↓u_law_L1, ↓u_law, GEm_0, GEm_1, GEm_2, GEm_3, GEm_4, GEm_5, GEm_6, GEm_7, GEm_8, GEm_9, GEm_10, GEm_11, GEm_12, GEm_13, GEm_14, GEm_15, GEm_16, GEm_17, GEm_18, GEg_0, ix_N0, ix_N1, ix_N2, srcB, bi_lenB, eqW, neW, memPs, memLPs, eqPs, nePs, setT_N, List.contains_nil, Bool.false_eq_true, nn, z, decide_true, g3, List.append_assoc, List.cons_append, List.nil_append]
    · obtain ⟨F, n', g1, g2, g3⟩ := facts_C1 K ds S B N P (n + 1) acc t
      refine ⟨F, n', fun q hq => ?_, by simp; omega, ?_⟩
      · obtain ⟨y, hy, e⟩ := g1 q hq
        exact ⟨y, List.mem_cons_of_mem _ hy, e⟩
      · simp only [List.map_cons, compW_cons, turnW, setT_PN, ↓r_k, ↓r_v, ↓r_g, ↓r_bin, ↓r_cmp, ↓r_chn, ↓r_isK, ↓r_and, ↓r_or, ↓r_not, ↓r_neg, ↓r_ite, ↓r_idx, ↓r_slc, ↓r_rev, ↓r_tup, ↓r_lst, ↓r_dct, ↓r_call, ↓r_bi, ↓r_mt, ↓r_mu, ↓r_comp, ↓r_nil, ↓r_cons, ↓r_asg, ↓r_unp, ↓r_par, ↓r_aug, ↓r_sto, ↓r_aus, ↓r_ex, ↓r_ifs, ↓r_fr, ↓r_wh, ↓r_ret, ↓r_retN, ↓r_brk, ↓r_cnt, ↓r_pas, ↓r_frg, ↓r_rse, ↓r_snil, ↓r_scons, lk1_d, lk1_new, lk1_slot, lkS_own, lkS_val, lks_nil, lks_cons, fz1_d, fz1_new, fz1_slot, fzS_own, fzS_val, fzs_nil, fzs_cons, opt_some, opt_none, cndS_some, optS_some, gOwnS_own, gValS_val, isDS_d, lk1S_d, lk1S_new, lk1S_slot, lkSS_own, lkSS_val, rdV_val, rdV_own, isD_d, gOwn_own, gVal_val, bind_ok, bind_stuck, bind_exc, bind_ite, toO_ok, toO_stuck, toO_exc, toO_ite, obind_nx, obind_bk, obind_ct, obind_rt, obind_exc, obind_stuck, obind_ite, of_some, of_ite, oof_some, callK_ok, callK_exc, callK_ite, isLst_lst, compK_ok, compW_nil, setV_eq, setVc_none, setVc_val, setVc_own, setO_eq, setOc_none, setOc_val, setOc_own, setVs_nil, setVs_cons, setT_one, setT_many, setR_d, setR_new, setR_slot, setR_own, setRs_nil, setRs_d, setRs_new, wipe_nil, wipe_cons, unwipe_nil, unwipe_cons, unwC_val, unwC_none, unwC_own, fl_nil, flK_nx, flK_ct, flK_bk, flK_rt, flK_exc, flK_ite, whK_nx, whK_ct, whK_bk, whK_rt, whK_exc, whK_ite, finK_nx, finK_rt, finK_exc, finK_ite, outRV_d, outRV_new, outRV_slot, outS_own, outS_val, outCells_nil, outCells_val, outCells_own, backCells_nil, backCells_0, backCells_s, argCells_nil, argCells_cons, argK_some, arg1_d, arg1_new, arg1_slot, argS_true, argS_home, argS_give, argS_val, List.getElem?_cons_zero, List.getElem?_cons_succ, List.set_cons_zero, List.set_cons_succ, Option.map_some, Option.map_none, GE_phi, GE_fuel, o_addI, o_subI, o_eqI, o_neI, o_eqB, o_neB, o_ltI, o_leI, o_gtI, o_geI, o_ltS, o_leS, o_gtS, o_geS, o_eqS, o_neS, o_isB, t_non, t_bl, t_int, t_str, t_tup, t_lst, ix_L0, ix_T0, ix_T1, ix_T2, ix_T3, ix_T4, ix_Tm, ix_Lm, bi_lenL, bi_lenC, bi_lenT, bi_lenS, bi_tupL, bi_tupT, bi_lstL, bi_lstT, bi_intI, bi_sortL, bi_sortT, s_L, s_T, s_S, s_K, p_non, kn_non, kx_non, kn_str, kx_str, kn_int, kx_int, kn_tup, kx_tup, kn_lst, kx_lst, kn_bl, kx_bl, g_addI, cmp_mem, cmp_nmem, ↓reduceIte, ↓u_node_at_C1c, ↓u_node_at_C1, ↓u_node_at_I1, ↓u_node_at_L1, ↓u_node_at, ↓u_head_of, ↓u_is_met_I1, ↓u_is_met_C1c, ↓u_is_met_C1, ↓u_is_met_I2, ↓u_is_met, ↓u_leaves_below_I1, ↓u_leaves_below_L1, ↓u_leaves_below, ↓u_turns_C1c, ↓u_turns_C1, ↓u_turns_I1, ↓u_turns_I2, ↓u_turns_L1, ↓u_turns, ↓u__law_draws_I1, ↓u__law_draws_I2, ↓u__law_draws_L2, ↓u__law_draws_L1, ↓u__law_draws_L3, ↓u__law_draws, ↓u__law_next_I1, ↓u__law_next, ↓u__law_pick, ↓u__law_is_bit, ↓u__law_words_C1, ↓u__law_words, ↓u__law_label, ↓u__law_key_C1c, ↓u__law_key_C1, ↓u__law_key, ↓u__law_body_L1, ↓u__law_body_C1, ↓u__law_body_L2, ↓u__law_body, ↓u__law_listed_I1, ↓u__law_listed_L1, ↓u__law_listed, ↓u__law_head, ↓u__law_met_I1, ↓u__law_met_C1c, ↓u__law_met_C1, ↓u__law_met_I2, ↓u__law_met, ↓u__law_leaves_I1, ↓u__law_leaves_L1, ↓u__law_leaves, ↓u__law_nodes_C1, ↓u__law_nodes_I1, ↓u__law_nodes_C2, ↓u__law_nodes_L1, ↓u__law_nodes, ↓u_law_C1c, ↓u_law_C1, ↓u_law_I1, ↓u_law_C2c, ↓u_law_C2, ↓u_law_I2, ↓u_law_L3, ↓u_law_I3, ↓u_law_L2, ↓u_law_L1, ↓u_law, GEm_0, GEm_1, GEm_2, GEm_3, GEm_4, GEm_5, GEm_6, GEm_7, GEm_8, GEm_9, GEm_10, GEm_11, GEm_12, GEm_13, GEm_14, GEm_15, GEm_16, GEm_17, GEm_18, GEg_0, ix_N0, ix_N1, ix_N2, srcB, bi_lenB, eqW, neW, memPs, memLPs, eqPs, nePs, setT_N, List.contains_nil, Bool.false_eq_true, nn, z, decide_false, g3]
theorem dep60 {p : List St} : True := trivial
theorem L3_go (k d : Nat) (m : Nat) (n : Nd) (p : List St) (ok : okB m d n.k) (hd : d ≤ 5) (hp : p.length + d ≤ 100) (F : List (List St)) (hFl : F.length ≤ 1000) (S W T B N Lv : Cell) : ∀ (L acc : List (List St)), acc.length + L.length ≤ 10000 →
    forLoop (.one 10) (exSs (GE (k + d + 2)) ir_law_L3) (L.map encW) [some S, some W, some T, some B, some N, some (.val (encPs F)), some (.val (encW p)), some (.val (encN n)), some Lv, some (.own false (lstPs acc)), none, none, none] =
      .nx [some S, some W, some T, some B, some N, some (.val (encPs F)), some (.val (encW p)), some (.val (encN n)), some Lv, some (.own false (lstPs (acc ++ due (d + 1) n p F L))), none, none, none]
  | [], acc, _ => by simp only [List.map_nil, fl_nil, due, List.filter_nil, List.append_nil]
  | q :: L, acc, hl => by
    simp only [List.length_cons] at hl
    have ih := L3_go k d m n p ok hd hp F hFl S W T B N Lv L
    have hc : compW (turnW (GE (k + d + 2)) [12] (.one 12) ir_law_C2c ir_law_C2) (F.map encW) [some S, some W, some T, some B, some N, some (.val (encPs F)), some (.val (encW p)), some (.val (encN n)), some Lv, some (.own false (lstPs acc)), some (.val (encW q)), none, none] [] = .ok ((F.filter fun f => !decide (f = q)).map encW) [some S, some W, some T, some B, some N, some (.val (encPs F)), some (.val (encW p)), some (.val (encN n)), some Lv, some (.own false (lstPs acc)), some (.val (encW q)), none, none] := by
      rw [compW_filter encW (fun f => !decide (f = q))]
      · rfl
      intro f _
      simp only [turnW, ↓r_k, ↓r_v, ↓r_g, ↓r_bin, ↓r_cmp, ↓r_chn, ↓r_isK, ↓r_and, ↓r_or, ↓r_not, ↓r_neg, ↓r_ite, ↓r_idx, ↓r_slc, ↓r_rev, ↓r_tup, ↓r_lst, ↓r_dct, ↓r_call, ↓r_bi, ↓r_mt, ↓r_mu, ↓r_comp, ↓r_nil, ↓r_cons, ↓r_asg, ↓r_unp, ↓r_par, ↓r_aug, ↓r_sto, ↓r_aus, ↓r_ex, ↓r_ifs, ↓r_fr, ↓r_wh, ↓r_ret, ↓r_retN, ↓r_brk, ↓r_cnt, ↓r_pas, ↓r_frg, ↓r_rse, ↓r_snil, ↓r_scons, lk1_d, lk1_new, lk1_slot, lkS_own, lkS_val, lks_nil, lks_cons, fz1_d, fz1_new, fz1_slot, fzS_own, fzS_val, fzs_nil, fzs_cons, opt_some, opt_none, cndS_some, optS_some, gOwnS_own, gValS_val, isDS_d, lk1S_d, lk1S_new, lk1S_slot, lkSS_own, lkSS_val, rdV_val, rdV_own, isD_d, gOwn_own, gVal_val, bind_ok, bind_stuck, bind_exc, bind_ite, toO_ok, toO_stuck, toO_exc, toO_ite, obind_nx, obind_bk, obind_ct, obind_rt, obind_exc, obind_stuck, obind_ite, of_some, of_ite, oof_some, callK_ok, callK_exc, callK_ite, isLst_lst, compK_ok, compW_nil, setV_eq, setVc_none, setVc_val, setVc_own, setO_eq, setOc_none, setOc_val, setOc_own, setVs_nil, setVs_cons, setT_one, setT_many, setR_d, setR_new, setR_slot, setR_own, setRs_nil, setRs_d, setRs_new, wipe_nil, wipe_cons, unwipe_nil, unwipe_cons, unwC_val, unwC_none, unwC_own, fl_nil, flK_nx, flK_ct, flK_bk, flK_rt, flK_exc, flK_ite, whK_nx, whK_ct, whK_bk, whK_rt, whK_exc, whK_ite, finK_nx, finK_rt, finK_exc, finK_ite, outRV_d, outRV_new, outRV_slot, outS_own, outS_val, outCells_nil, outCells_val, outCells_own, backCells_nil, backCells_0, backCells_s, argCells_nil, argCells_cons, argK_some, arg1_d, arg1_new, arg1_slot, argS_true, argS_home, argS_give, argS_val, List.getElem?_cons_zero, List.getElem?_cons_succ, List.set_cons_zero, List.set_cons_succ, Option.map_some, Option.map_none, GE_phi, GE_fuel, o_addI, o_subI, o_eqI, o_neI, o_eqB, o_neB, o_ltI, o_leI, o_gtI, o_geI, o_ltS, o_leS, o_gtS, o_geS, o_eqS, o_neS, o_isB, t_non, t_bl, t_int, t_str, t_tup, t_lst, ix_L0, ix_T0, ix_T1, ix_T2, ix_T3, ix_T4, ix_Tm, ix_Lm, bi_lenL, bi_lenC, bi_lenT, bi_lenS, bi_tupL, bi_tupT, bi_lstL, bi_lstT, bi_intI, bi_sortL, bi_sortT, s_L, s_T, s_S, s_K, p_non, kn_non, kx_non, kn_str, kx_str, kn_int, kx_int, kn_tup, kx_tup, kn_lst, kx_lst, kn_bl, kx_bl, g_addI, cmp_mem, cmp_nmem, ↓reduceIte, ↓u_node_at_C1c, ↓u_node_at_C1, ↓u_node_at_I1, ↓u_node_at_L1, ↓u_node_at, ↓u_head_of, ↓u_is_met_I1, ↓u_is_met_C1c, ↓u_is_met_C1, ↓u_is_met_I2, ↓u_is_met, ↓u_leaves_below_I1, ↓u_leaves_below_L1, ↓u_leaves_below, ↓u_turns_C1c, ↓u_turns_C1, ↓u_turns_I1, ↓u_turns_I2, ↓u_turns_L1, ↓u_turns, ↓u__law_draws_I1, ↓u__law_draws_I2, ↓u__law_draws_L2, ↓u__law_draws_L1, ↓u__law_draws_L3, ↓u__law_draws, ↓u__law_next_I1, ↓u__law_next, ↓u__law_pick, ↓u__law_is_bit, ↓u__law_words_C1, ↓u__law_words, ↓u__law_label, ↓u__law_key_C1c, ↓u__law_key_C1, ↓u__law_key, ↓u__law_body_L1, ↓u__law_body_C1, ↓u__law_body_L2, ↓u__law_body, ↓u__law_listed_I1, ↓u__law_listed_L1, ↓u__law_listed, ↓u__law_head, ↓u__law_met_I1, ↓u__law_met_C1c, ↓u__law_met_C1, ↓u__law_met_I2, ↓u__law_met, ↓u__law_leaves_I1, ↓u__law_leaves_L1, ↓u__law_leaves, ↓u__law_nodes_C1, ↓u__law_nodes_I1, ↓u__law_nodes_C2, ↓u__law_nodes_L1, ↓u__law_nodes, ↓u_law_C1c, ↓u_law_C1, ↓u_law_I1, ↓u_law_C2c, ↓u_law_C2, ↓u_law_I2, ↓u_law_L3, ↓u_law_I3, ↓u_law_L2, ↓u_law_L1, ↓u_law, GEm_0, GEm_1, GEm_2, GEm_3, GEm_4, GEm_5, GEm_6, GEm_7, GEm_8, GEm_9, GEm_10, GEm_11, GEm_12, GEm_13, GEm_14, GEm_15, GEm_16, GEm_17, GEm_18, GEg_0, ix_N0, ix_N1, ix_N2, srcB, bi_lenB, eqW, neW, memPs, memLPs, eqPs, nePs, setT_N]
      by_cases e : f = q <;> simp [e]
    have m1 := law_met_sp m F (encPs F) (fun p => memPs p F) d k n p ok (by omega) hp
    have m2 := law_met_sp m (flipF F q) (lstPs (flipF F q)) (fun p => memLPs p _) d k n p ok (by omega) hp
    have hfl : (F.filter fun f => !decide (f = q)).length ≤ F.length := List.length_filter_le _ _
    have hb : binD .add (lstPs (F.filter fun f => !decide (f = q))) (if q ∈ F then lstPs [] else lstPs [q]) = some (.new (lstPs (flipF F q))) := by
      split
      · rename_i e; rw [o_addPs (by simp; omega)]; simp [flipF, e]
      · rename_i e; rw [o_addPs (by simp; omega)]; simp [flipF, e]
    have hm : (met (d + 1) n p (flipF F q) == met (d + 1) n p F) = (met (d + 1) n p (flipF F q) == met (d + 1) n p F) := rfl
    simp only [due, List.filter_cons]
    by_cases e : q ∈ F
    all_goals
      simp only [e, if_true, if_false] at hb
      simp only [List.map_cons, fl_cons, ↓r_k, ↓r_v, ↓r_g, ↓r_bin, ↓r_cmp, ↓r_chn, ↓r_isK, ↓r_and, ↓r_or, ↓r_not, ↓r_neg, ↓r_ite, ↓r_idx, ↓r_slc, ↓r_rev, ↓r_tup, ↓r_lst, ↓r_dct, ↓r_call, ↓r_bi, ↓r_mt, ↓r_mu, ↓r_comp, ↓r_nil, ↓r_cons, ↓r_asg, ↓r_unp, ↓r_par, ↓r_aug, ↓r_sto, ↓r_aus, ↓r_ex, ↓r_ifs, ↓r_fr, ↓r_wh, ↓r_ret, ↓r_retN, ↓r_brk, ↓r_cnt, ↓r_pas, ↓r_frg, ↓r_rse, ↓r_snil, ↓r_scons, lk1_d, lk1_new, lk1_slot, lkS_own, lkS_val, lks_nil, lks_cons, fz1_d, fz1_new, fz1_slot, fzS_own, fzS_val, fzs_nil, fzs_cons, opt_some, opt_none, cndS_some, optS_some, gOwnS_own, gValS_val, isDS_d, lk1S_d, lk1S_new, lk1S_slot, lkSS_own, lkSS_val, rdV_val, rdV_own, isD_d, gOwn_own, gVal_val, bind_ok, bind_stuck, bind_exc, bind_ite, toO_ok, toO_stuck, toO_exc, toO_ite, obind_nx, obind_bk, obind_ct, obind_rt, obind_exc, obind_stuck, obind_ite, of_some, of_ite, oof_some, callK_ok, callK_exc, callK_ite, isLst_lst, compK_ok, compW_nil, setV_eq, setVc_none, setVc_val, setVc_own, setO_eq, setOc_none, setOc_val, setOc_own, setVs_nil, setVs_cons, setT_one, setT_many, setR_d, setR_new, setR_slot, setR_own, setRs_nil, setRs_d, setRs_new, wipe_nil, wipe_cons, unwipe_nil, unwipe_cons, unwC_val, unwC_none, unwC_own, fl_nil, flK_nx, flK_ct, flK_bk, flK_rt, flK_exc, flK_ite, whK_nx, whK_ct, whK_bk, whK_rt, whK_exc, whK_ite, finK_nx, finK_rt, finK_exc, finK_ite, outRV_d, outRV_new, outRV_slot, outS_own, outS_val, outCells_nil, outCells_val, outCells_own, backCells_nil, backCells_0, backCells_s, argCells_nil, argCells_cons, argK_some, arg1_d, arg1_new, arg1_slot, argS_true, argS_home, argS_give, argS_val, List.getElem?_cons_zero, List.getElem?_cons_succ, List.set_cons_zero, List.set_cons_succ, Option.map_some, Option.map_none, GE_phi, GE_fuel, o_addI, o_subI, o_eqI, o_neI, o_eqB, o_neB, o_ltI, o_leI, o_gtI, o_geI, o_ltS, o_leS, o_gtS, o_geS, o_eqS, o_neS, o_isB, t_non, t_bl, t_int, t_str, t_tup, t_lst, ix_L0, ix_T0, ix_T1, ix_T2, ix_T3, ix_T4, ix_Tm, ix_Lm, bi_lenL, bi_lenC, bi_lenT, bi_lenS, bi_tupL, bi_tupT, bi_lstL, bi_lstT, bi_intI, bi_sortL, bi_sortT, s_L, s_T, s_S, s_K, p_non, kn_non, kx_non, kn_str, kx_str, kn_int, kx_int, kn_tup, kx_tup, kn_lst, kx_lst, kn_bl, kx_bl, g_addI, cmp_mem, cmp_nmem, ↓reduceIte, ↓u_node_at_C1c, ↓u_node_at_C1, ↓u_node_at_I1, ↓u_node_at_L1, ↓u_node_at, ↓u_head_of, ↓u_is_met_I1, ↓u_is_met_C1c, ↓u_is_met_C1, ↓u_is_met_I2, ↓u_is_met, ↓u_leaves_below_I1, ↓u_leaves_below_L1, ↓u_leaves_below, ↓u_turns_C1c, ↓u_turns_C1, ↓u_turns_I1, ↓u_turns_I2, ↓u_turns_L1, ↓u_turns, ↓u__law_draws_I1, ↓u__law_draws_I2, ↓u__law_draws_L2, ↓u__law_draws_L1, ↓u__law_draws_L3, ↓u__law_draws, ↓u__law_next_I1, ↓u__law_next, ↓u__law_pick, ↓u__law_is_bit, ↓u__law_words_C1, ↓u__law_words, ↓u__law_label, ↓u__law_key_C1c, ↓u__law_key_C1, ↓u__law_key, ↓u__law_body_L1, ↓u__law_body_C1, ↓u__law_body_L2, ↓u__law_body, ↓u__law_listed_I1, ↓u__law_listed_L1, ↓u__law_listed, ↓u__law_head, ↓u__law_met_I1, ↓u__law_met_C1c, ↓u__law_met_C1, ↓u__law_met_I2, ↓u__law_met, ↓u__law_leaves_I1, ↓u__law_leaves_L1, ↓u__law_leaves, ↓u__law_nodes_C1, ↓u__law_nodes_I1, ↓u__law_nodes_C2, ↓u__law_nodes_L1, ↓u__law_nodes, ↓u_law_C1c, ↓u_law_C1, ↓u_law_I1, ↓u_law_C2c, ↓u_law_C2, ↓u_law_I2, ↓u_law_L3, ↓u_law_I3, ↓u_law_L2, ↓u_law_L1, ↓u_law, GEm_0, GEm_1, GEm_2, GEm_3, GEm_4, GEm_5, GEm_6, GEm_7, GEm_8, GEm_9, GEm_10, GEm_11, GEm_12, GEm_13, GEm_14, GEm_15, GEm_16, GEm_17, GEm_18, GEg_0, ix_N0, ix_N1, ix_N2, srcB, bi_lenB, eqW, neW, memPs, memLPs, eqPs, nePs, setT_N, srcPs, hc, lstPs_fold, lst0, lst1, e, decide_true, decide_false, Bool.not_true, Bool.not_false, Option.map_some, Bool.false_eq_true, hb, m1, m2, o_neB, isLst_Ps, a_appPs (show acc.length ≤ 100000 by omega)]
      cases hq : (met (d + 1) n p (flipF F q) == met (d + 1) n p F)
      · simp only [Bool.not_false, ↓r_k, ↓r_v, ↓r_g, ↓r_bin, ↓r_cmp, ↓r_chn, ↓r_isK, ↓r_and, ↓r_or, ↓r_not, ↓r_neg, ↓r_ite, ↓r_idx, ↓r_slc, ↓r_rev, ↓r_tup, ↓r_lst, ↓r_dct, ↓r_call, ↓r_bi, ↓r_mt, ↓r_mu, ↓r_comp, ↓r_nil, ↓r_cons, ↓r_asg, ↓r_unp, ↓r_par, ↓r_aug, ↓r_sto, ↓r_aus, ↓r_ex, ↓r_ifs, ↓r_fr, ↓r_wh, ↓r_ret, ↓r_retN, ↓r_brk, ↓r_cnt, ↓r_pas, ↓r_frg, ↓r_rse, ↓r_snil, ↓r_scons, lk1_d, lk1_new, lk1_slot, lkS_own, lkS_val, lks_nil, lks_cons, fz1_d, fz1_new, fz1_slot, fzS_own, fzS_val, fzs_nil, fzs_cons, opt_some, opt_none, cndS_some, optS_some, gOwnS_own, gValS_val, isDS_d, lk1S_d, lk1S_new, lk1S_slot, lkSS_own, lkSS_val, rdV_val, rdV_own, isD_d, gOwn_own, gVal_val, bind_ok, bind_stuck, bind_exc, bind_ite, toO_ok, toO_stuck, toO_exc, toO_ite, obind_nx, obind_bk, obind_ct, obind_rt, obind_exc, obind_stuck, obind_ite, of_some, of_ite, oof_some, callK_ok, callK_exc, callK_ite, isLst_lst, compK_ok, compW_nil, setV_eq, setVc_none, setVc_val, setVc_own, setO_eq, setOc_none, setOc_val, setOc_own, setVs_nil, setVs_cons, setT_one, setT_many, setR_d, setR_new, setR_slot, setR_own, setRs_nil, setRs_d, setRs_new, wipe_nil, wipe_cons, unwipe_nil, unwipe_cons, unwC_val, unwC_none, unwC_own, fl_nil, flK_nx, flK_ct, flK_bk, flK_rt, flK_exc, flK_ite, whK_nx, whK_ct, whK_bk, whK_rt, whK_exc, whK_ite, finK_nx, finK_rt, finK_exc, finK_ite, outRV_d, outRV_new, outRV_slot, outS_own, outS_val, outCells_nil, outCells_val, outCells_own, backCells_nil, backCells_0, backCells_s, argCells_nil, argCells_cons, argK_some, arg1_d, arg1_new, arg1_slot, argS_true, argS_home, argS_give, argS_val, List.getElem?_cons_zero, List.getElem?_cons_succ, List.set_cons_zero, List.set_cons_succ, Option.map_some, Option.map_none, GE_phi, GE_fuel, o_addI, o_subI, o_eqI, o_neI, o_eqB, o_neB, o_ltI, o_leI, o_gtI, o_geI, o_ltS, o_leS, o_gtS, o_geS, o_eqS, o_neS, o_isB, t_non, t_bl, t_int, t_str, t_tup, t_lst, ix_L0, ix_T0, ix_T1, ix_T2, ix_T3, ix_T4, ix_Tm, ix_Lm, bi_lenL, bi_lenC, bi_lenT, bi_lenS, bi_tupL, bi_tupT, bi_lstL, bi_lstT, bi_intI, bi_sortL, bi_sortT, s_L, s_T, s_S, s_K, p_non, kn_non, kx_non, kn_str, kx_str, kn_int, kx_int, kn_tup, kx_tup, kn_lst, kx_lst, kn_bl, kx_bl, g_addI, cmp_mem, cmp_nmem, ↓reduceIte, ↓u_node_at_C1c, ↓u_node_at_C1, ↓u_node_at_I1, ↓u_node_at_L1, ↓u_node_at, ↓u_head_of, ↓u_is_met_I1, ↓u_is_met_C1c, ↓u_is_met_C1, ↓u_is_met_I2, ↓u_is_met, ↓u_leaves_below_I1, ↓u_leaves_below_L1, ↓u_leaves_below, ↓u_turns_C1c, ↓u_turns_C1, ↓u_turns_I1, ↓u_turns_I2, ↓u_turns_L1, ↓u_turns, ↓u__law_draws_I1, ↓u__law_draws_I2, ↓u__law_draws_L2, ↓u__law_draws_L1, ↓u__law_draws_L3, ↓u__law_draws, ↓u__law_next_I1, ↓u__law_next, ↓u__law_pick, ↓u__law_is_bit, ↓u__law_words_C1, ↓u__law_words, ↓u__law_label, ↓u__law_key_C1c, ↓u__law_key_C1, ↓u__law_key, ↓u__law_body_L1, ↓u__law_body_C1, ↓u__law_body_L2, ↓u__law_body, ↓u__law_listed_I1, ↓u__law_listed_L1, ↓u__law_listed, ↓u__law_head, ↓u__law_met_I1, ↓u__law_met_C1c, ↓u__law_met_C1, ↓u__law_met_I2, ↓u__law_met, ↓u__law_leaves_I1, ↓u__law_leaves_L1, ↓u__law_leaves, ↓u__law_nodes_C1, ↓u__law_nodes_I1, ↓u__law_nodes_C2, ↓u__law_nodes_L1, ↓u__law_nodes, ↓u_law_C1c, ↓u_law_C1, ↓u_law_I1, ↓u_law_C2c, ↓u_law_C2, ↓u_law_I2, ↓u_law_L3, ↓u_law_I3, ↓u_law_L2, ↓u_law_L1, ↓u_law, GEm_0, GEm_1, GEm_2, GEm_3, GEm_4, GEm_5, GEm_6, GEm_7, GEm_8, GEm_9, GEm_10, GEm_11, GEm_12, GEm_13, GEm_14, GEm_15, GEm_16, GEm_17, GEm_18, GEg_0, ix_N0, ix_N1, ix_N2, srcB, bi_lenB, eqW, neW, memPs, memLPs, eqPs, nePs, setT_N]
        rw [ih _ (by simp; omega)]
        simp only [due, List.append_assoc, List.cons_append, List.nil_append]
      · simp only [Bool.not_true, Bool.false_eq_true, ↓r_k, ↓r_v, ↓r_g, ↓r_bin, ↓r_cmp, ↓r_chn, ↓r_isK, ↓r_and, ↓r_or, ↓r_not, ↓r_neg, ↓r_ite, ↓r_idx, ↓r_slc, ↓r_rev, ↓r_tup, ↓r_lst, ↓r_dct, ↓r_call, ↓r_bi, ↓r_mt, ↓r_mu, ↓r_comp, ↓r_nil, ↓r_cons, ↓r_asg, ↓r_unp, ↓r_par, ↓r_aug, ↓r_sto, ↓r_aus, ↓r_ex, ↓r_ifs, ↓r_fr, ↓r_wh, ↓r_ret, ↓r_retN, ↓r_brk, ↓r_cnt, ↓r_pas, ↓r_frg, ↓r_rse, ↓r_snil, ↓r_scons, lk1_d, lk1_new, lk1_slot, lkS_own, lkS_val, lks_nil, lks_cons, fz1_d, fz1_new, fz1_slot, fzS_own, fzS_val, fzs_nil, fzs_cons, opt_some, opt_none, cndS_some, optS_some, gOwnS_own, gValS_val, isDS_d, lk1S_d, lk1S_new, lk1S_slot, lkSS_own, lkSS_val, rdV_val, rdV_own, isD_d, gOwn_own, gVal_val, bind_ok, bind_stuck, bind_exc, bind_ite, toO_ok, toO_stuck, toO_exc, toO_ite, obind_nx, obind_bk, obind_ct, obind_rt, obind_exc, obind_stuck, obind_ite, of_some, of_ite, oof_some, callK_ok, callK_exc, callK_ite, isLst_lst, compK_ok, compW_nil, setV_eq, setVc_none, setVc_val, setVc_own, setO_eq, setOc_none, setOc_val, setOc_own, setVs_nil, setVs_cons, setT_one, setT_many, setR_d, setR_new, setR_slot, setR_own, setRs_nil, setRs_d, setRs_new, wipe_nil, wipe_cons, unwipe_nil, unwipe_cons, unwC_val, unwC_none, unwC_own, fl_nil, flK_nx, flK_ct, flK_bk, flK_rt, flK_exc, flK_ite, whK_nx, whK_ct, whK_bk, whK_rt, whK_exc, whK_ite, finK_nx, finK_rt, finK_exc, finK_ite, outRV_d, outRV_new, outRV_slot, outS_own, outS_val, outCells_nil, outCells_val, outCells_own, backCells_nil, backCells_0, backCells_s, argCells_nil, argCells_cons, argK_some, arg1_d, arg1_new, arg1_slot, argS_true, argS_home, argS_give, argS_val, List.getElem?_cons_zero, List.getElem?_cons_succ, List.set_cons_zero, List.set_cons_succ, Option.map_some, Option.map_none, GE_phi, GE_fuel, o_addI, o_subI, o_eqI, o_neI, o_eqB, o_neB, o_ltI, o_leI, o_gtI, o_geI, o_ltS, o_leS, o_gtS, o_geS, o_eqS, o_neS, o_isB, t_non, t_bl, t_int, t_str, t_tup, t_lst, ix_L0, ix_T0, ix_T1, ix_T2, ix_T3, ix_T4, ix_Tm, ix_Lm, bi_lenL, bi_lenC, bi_lenT, bi_lenS, bi_tupL, bi_tupT, bi_lstL, bi_lstT, bi_intI, bi_sortL, bi_sortT, s_L, s_T, s_S, s_K, p_non, kn_non, kx_non, kn_str, kx_str, kn_int, kx_int, kn_tup, kx_tup, kn_lst, kx_lst, kn_bl, kx_bl, g_addI, cmp_mem, cmp_nmem, ↓reduceIte, ↓u_node_at_C1c, ↓u_node_at_C1, ↓u_node_at_I1, ↓u_node_at_L1, ↓u_node_at, ↓u_head_of, ↓u_is_met_I1, ↓u_is_met_C1c, ↓u_is_met_C1, ↓u_is_met_I2, ↓u_is_met, ↓u_leaves_below_I1, ↓u_leaves_below_L1, ↓u_leaves_below, ↓u_turns_C1c, ↓u_turns_C1, ↓u_turns_I1, ↓u_turns_I2, ↓u_turns_L1, ↓u_turns, ↓u__law_draws_I1, ↓u__law_draws_I2, ↓u__law_draws_L2, ↓u__law_draws_L1, ↓u__law_draws_L3, ↓u__law_draws, ↓u__law_next_I1, ↓u__law_next, ↓u__law_pick, ↓u__law_is_bit, ↓u__law_words_C1, ↓u__law_words, ↓u__law_label, ↓u__law_key_C1c, ↓u__law_key_C1, ↓u__law_key, ↓u__law_body_L1, ↓u__law_body_C1, ↓u__law_body_L2, ↓u__law_body, ↓u__law_listed_I1, ↓u__law_listed_L1, ↓u__law_listed, ↓u__law_head, ↓u__law_met_I1, ↓u__law_met_C1c, ↓u__law_met_C1, ↓u__law_met_I2, ↓u__law_met, ↓u__law_leaves_I1, ↓u__law_leaves_L1, ↓u__law_leaves, ↓u__law_nodes_C1, ↓u__law_nodes_I1, ↓u__law_nodes_C2, ↓u__law_nodes_L1, ↓u__law_nodes, ↓u_law_C1c, ↓u_law_C1, ↓u_law_I1, ↓u_law_C2c, ↓u_law_C2, ↓u_law_I2, ↓u_law_L3, ↓u_law_I3, ↓u_law_L2, ↓u_law_L1, ↓u_law, GEm_0, GEm_1, GEm_2, GEm_3, GEm_4, GEm_5, GEm_6, GEm_7, GEm_8, GEm_9, GEm_10, GEm_11, GEm_12, GEm_13, GEm_14, GEm_15, GEm_16, GEm_17, GEm_18, GEg_0, ix_N0, ix_N1, ix_N2, srcB, bi_lenB, eqW, neW, memPs, memLPs, eqPs, nePs, setT_N]
        rw [ih _ (by omega)]
        simp only [due]
theorem L2_go (K : Nat) (hK : 10 ≤ K) (B : List Nd) (ok : okB 5 3 B) (F : List (List St)) (hF : ∀ q ∈ F, q ≠ []) (hFl : F.length ≤ 1000) (S W T N : Cell) : ∀ (P : List (List St × Nd)), (∀ x ∈ P, Vp B x) →
    forLoop (.many [6, 7]) (exSs (GE K) ir_law_L2) (P.map encPN) [some S, some W, some T, some (.val (encB B)), some N, some (.val (encPs F)), none, none, none, none, none, none, none] =
      .nx [some S, some W, some T, some (.val (encB B)), some N, some (.val (encPs F)), none, none, none, none, none, none, none]
  | [], _ => rfl
  | (p, n) :: P, h => by
    have ih := L2_go K hK B ok F hF hFl S W T N P fun x hx => h x (List.mem_cons_of_mem _ hx)
    obtain ⟨v0, d, v1, v2, v3⟩ := h (p, n) List.mem_cons_self
    simp only at v0 v1 v2 v3
    obtain ⟨k, rfl⟩ : ∃ k, K = k + d + 3 := ⟨K - d - 3, by omega⟩
    have ll := leaves_len d n p v1
    have h3 : 3 ^ (d + 1) ≤ 3 ^ 6 := Nat.pow_le_pow_right (by decide) (by omega)
    obtain ⟨r, hr, l1⟩ := law_leaves_sp 5 d (k + 1) n p v1 (by omega) (by omega)
    have l2 := leaves_below_sp 5 3 (by decide) B ok d (k + 1) n p v1 (by omega) (by omega) v3
    have l3 := is_met_sp 5 3 (by decide) B ok F d (k + 1) n p v1 (by omega) (by omega) v3
    have l4 := law_met_sp 5 F (encPs F) (fun p => memPs p F) d (k + 1) n p v1 (by omega) (by omega)
    have l5 := turns_sp 5 3 (by decide) B ok d k n p v1 (by omega) (by omega) v0 v3 F hF hFl
    have l6 := is_bit_sp (k + d + 2) (met (d + 1) n p F)
    have l7 := L3_go (k + 1) d 5 n p v1 (by omega) (by omega) F hFl S W T (.val (encB B)) N (.val (lstPs (leaves (d + 1) n p))) (leaves (d + 1) n p) [] (by simp; omega)
    rw [show k + 1 + d + 2 = k + d + 3 by omega] at l1 l2 l3 l4 l7
    simp only [List.nil_append] at l7
    rcases hr with rfl | rfl <;>
    simp only [List.map_cons, fl_cons, setT_PN, ↓r_k, ↓r_v, ↓r_g, ↓r_bin, ↓r_cmp, ↓r_chn, ↓r_isK, ↓r_and, ↓r_or, ↓r_not, ↓r_neg, ↓r_ite, ↓r_idx, ↓r_slc, ↓r_rev, ↓r_tup, ↓r_lst, ↓r_dct, ↓r_call, ↓r_bi, ↓r_mt, ↓r_mu, ↓r_comp, ↓r_nil, ↓r_cons, ↓r_asg, ↓r_unp, ↓r_par, ↓r_aug, ↓r_sto, ↓r_aus, ↓r_ex, ↓r_ifs, ↓r_fr, ↓r_wh, ↓r_ret, ↓r_retN, ↓r_brk, ↓r_cnt, ↓r_pas, ↓r_frg, ↓r_rse, ↓r_snil, ↓r_scons, lk1_d, lk1_new, lk1_slot, lkS_own, lkS_val, lks_nil, lks_cons, fz1_d, fz1_new, fz1_slot, fzS_own, fzS_val, fzs_nil, fzs_cons, opt_some, opt_none, cndS_some, optS_some, gOwnS_own, gValS_val, isDS_d, lk1S_d, lk1S_new, lk1S_slot, lkSS_own, lkSS_val, rdV_val, rdV_own, isD_d, gOwn_own, gVal_val, bind_ok, bind_stuck, bind_exc, bind_ite, toO_ok, toO_stuck, toO_exc, toO_ite, obind_nx, obind_bk, obind_ct, obind_rt, obind_exc, obind_stuck, obind_ite, of_some, of_ite, oof_some, callK_ok, callK_exc, callK_ite, isLst_lst, compK_ok, compW_nil, setV_eq, setVc_none, setVc_val, setVc_own, setO_eq, setOc_none, setOc_val, setOc_own, setVs_nil, setVs_cons, setT_one, setT_many, setR_d, setR_new, setR_slot, setR_own, setRs_nil, setRs_d, setRs_new, wipe_nil, wipe_cons, unwipe_nil, unwipe_cons, unwC_val, unwC_none, unwC_own, fl_nil, flK_nx, flK_ct, flK_bk, flK_rt, flK_exc, flK_ite, whK_nx, whK_ct, whK_bk, whK_rt, whK_exc, whK_ite, finK_nx, finK_rt, finK_exc, finK_ite, outRV_d, outRV_new, outRV_slot, outS_own, outS_val, outCells_nil, outCells_val, outCells_own, backCells_nil, backCells_0, backCells_s, argCells_nil, argCells_cons, argK_some, arg1_d, arg1_new, arg1_slot, argS_true, argS_home, argS_give, argS_val, List.getElem?_cons_zero, List.getElem?_cons_succ, List.set_cons_zero, List.set_cons_succ, Option.map_some, Option.map_none, GE_phi, GE_fuel, o_addI, o_subI, o_eqI, o_neI, o_eqB, o_neB, o_ltI, o_leI, o_gtI, o_geI, o_ltS, o_leS, o_gtS, o_geS, o_eqS, o_neS, o_isB, t_non, t_bl, t_int, t_str, t_tup, t_lst, ix_L0, ix_T0, ix_T1, ix_T2, ix_T3, ix_T4, ix_Tm, ix_Lm, bi_lenL, bi_lenC, bi_lenT, bi_lenS, bi_tupL, bi_tupT, bi_lstL, bi_lstT, bi_intI, bi_sortL, bi_sortT, s_L, s_T, s_S, s_K, p_non, kn_non, kx_non, kn_str, kx_str, kn_int, kx_int, kn_tup, kx_tup, kn_lst, kx_lst, kn_bl, kx_bl, g_addI, cmp_mem, cmp_nmem, ↓reduceIte, ↓u_node_at_C1c, ↓u_node_at_C1, ↓u_node_at_I1, ↓u_node_at_L1, ↓u_node_at, ↓u_head_of, ↓u_is_met_I1, ↓u_is_met_C1c, ↓u_is_met_C1, ↓u_is_met_I2, ↓u_is_met, ↓u_leaves_below_I1, ↓u_leaves_below_L1, ↓u_leaves_below, ↓u_turns_C1c, ↓u_turns_C1, ↓u_turns_I1, ↓u_turns_I2, ↓u_turns_L1, ↓u_turns, ↓u__law_draws_I1, ↓u__law_draws_I2, ↓u__law_draws_L2, ↓u__law_draws_L1, ↓u__law_draws_L3, ↓u__law_draws, ↓u__law_next_I1, ↓u__law_next, ↓u__law_pick, ↓u__law_is_bit, ↓u__law_words_C1, ↓u__law_words, ↓u__law_label, ↓u__law_key_C1c, ↓u__law_key_C1, ↓u__law_key, ↓u__law_body_L1, ↓u__law_body_C1, ↓u__law_body_L2, ↓u__law_body, ↓u__law_listed_I1, ↓u__law_listed_L1, ↓u__law_listed, ↓u__law_head, ↓u__law_met_I1, ↓u__law_met_C1c, ↓u__law_met_C1, ↓u__law_met_I2, ↓u__law_met, ↓u__law_leaves_I1, ↓u__law_leaves_L1, ↓u__law_leaves, ↓u__law_nodes_C1, ↓u__law_nodes_I1, ↓u__law_nodes_C2, ↓u__law_nodes_L1, ↓u__law_nodes, ↓u_law_C1c, ↓u_law_C1, ↓u_law_I1, ↓u_law_C2c, ↓u_law_C2, ↓u_law_I2, ↓u_law_L3, ↓u_law_I3, ↓u_law_L2, ↓u_law_L1, ↓u_law, GEm_0, GEm_1, GEm_2, GEm_3, GEm_4, GEm_5, GEm_6, GEm_7, GEm_8, GEm_9, GEm_10, GEm_11, GEm_12, GEm_13, GEm_14, GEm_15, GEm_16, GEm_17, GEm_18, GEg_0, ix_N0, ix_N1, ix_N2, srcB, bi_lenB, eqW, neW, memPs, memLPs, eqPs, nePs, setT_N, l1, l2, l3, l4, l5, l6, bi_tupPs, decide_true, Bool.not_true, Bool.false_eq_true, lst0, srcLPs, l7, ih]

theorem tupPs (F : List (List St)) : D.tup (F.map encW) = encPs F := rfl
theorem law_L1 (ds : List Int) (S : D) : ∀ (is : List Nat) (n : Nat), ∃ n', 
    forLoop (.one 2) (exSs (GE 40) ir_law_L1) (is.map fun i : Nat => D.int (i : Int)) [some (.val S), some (.own false (WD ds n)), none, none, none, none, none, none, none, none, none, none, none] =
      .nx [some (.val S), some (.own false (WD ds n')), none, none, none, none, none, none, none, none, none, none, none]
  | [], n => ⟨n, rfl⟩
  | i :: is, n => by
    obtain ⟨b0, n1, b1, b2⟩ := body_sp 34 2 ds n
    obtain ⟨b, n2, c1, _, c2⟩ := listed_sp ds 3 34 b0 n1 b1 (by decide)
    obtain ⟨P, p1, p2, p3⟩ := nodes_sp 39 b c1
    obtain ⟨F, n3, f1, f2, f3⟩ := facts_C1 39 ds S (encB b) (.val (.lst (P.map encPN))) P n2 [] (.int i)
    have f1' : ∀ q ∈ F, q ≠ [] := fun q hq => by obtain ⟨x, hx, rfl⟩ := f1 q hq; exact (p1 x hx).1
    obtain ⟨F', s1, s2⟩ := sortPs f1'
    have g := L2_go 40 (by decide) b c1 F' (fun q hq => f1' q (s2.mem_iff.mp hq)) (by have := s2.length_eq; omega) (.val S) (.own false (WD ds n3)) (.val (.int i)) (.val (.lst (P.map encPN))) P p1
    obtain ⟨n', ih⟩ := law_L1 ds S is n3
    refine ⟨n', ?_⟩
    have b2 : run tab globD 2000 40 12 [.own true (WD ds n), .val (.int 2)] = .ok (.d (encB b0)) [.own true (WD ds n1), .val (.int 2)] := b2
    simp only [List.nil_append] at f3
    simp only [encL5] at c2
    have hs := bi_sortLPs s1
    simp only [lstPs] at hs
    simp only [List.map_cons, fl_cons, ↓r_k, ↓r_v, ↓r_g, ↓r_bin, ↓r_cmp, ↓r_chn, ↓r_isK, ↓r_and, ↓r_or, ↓r_not, ↓r_neg, ↓r_ite, ↓r_idx, ↓r_slc, ↓r_rev, ↓r_tup, ↓r_lst, ↓r_dct, ↓r_call, ↓r_bi, ↓r_mt, ↓r_mu, ↓r_comp, ↓r_nil, ↓r_cons, ↓r_asg, ↓r_unp, ↓r_par, ↓r_aug, ↓r_sto, ↓r_aus, ↓r_ex, ↓r_ifs, ↓r_fr, ↓r_wh, ↓r_ret, ↓r_retN, ↓r_brk, ↓r_cnt, ↓r_pas, ↓r_frg, ↓r_rse, ↓r_snil, ↓r_scons, lk1_d, lk1_new, lk1_slot, lkS_own, lkS_val, lks_nil, lks_cons, fz1_d, fz1_new, fz1_slot, fzS_own, fzS_val, fzs_nil, fzs_cons, opt_some, opt_none, cndS_some, optS_some, gOwnS_own, gValS_val, isDS_d, lk1S_d, lk1S_new, lk1S_slot, lkSS_own, lkSS_val, rdV_val, rdV_own, isD_d, gOwn_own, gVal_val, bind_ok, bind_stuck, bind_exc, bind_ite, toO_ok, toO_stuck, toO_exc, toO_ite, obind_nx, obind_bk, obind_ct, obind_rt, obind_exc, obind_stuck, obind_ite, of_some, of_ite, oof_some, callK_ok, callK_exc, callK_ite, isLst_lst, compK_ok, compW_nil, setV_eq, setVc_none, setVc_val, setVc_own, setO_eq, setOc_none, setOc_val, setOc_own, setVs_nil, setVs_cons, setT_one, setT_many, setR_d, setR_new, setR_slot, setR_own, setRs_nil, setRs_d, setRs_new, wipe_nil, wipe_cons, unwipe_nil, unwipe_cons, unwC_val, unwC_none, unwC_own, fl_nil, flK_nx, flK_ct, flK_bk, flK_rt, flK_exc, flK_ite, whK_nx, whK_ct, whK_bk, whK_rt, whK_exc, whK_ite, finK_nx, finK_rt, finK_exc, finK_ite, outRV_d, outRV_new, outRV_slot, outS_own, outS_val, outCells_nil, outCells_val, outCells_own, backCells_nil, backCells_0, backCells_s, argCells_nil, argCells_cons, argK_some, arg1_d, arg1_new, arg1_slot, argS_true, argS_home, argS_give, argS_val, List.getElem?_cons_zero, List.getElem?_cons_succ, List.set_cons_zero, List.set_cons_succ, Option.map_some, Option.map_none, GE_phi, GE_fuel, o_addI, o_subI, o_eqI, o_neI, o_eqB, o_neB, o_ltI, o_leI, o_gtI, o_geI, o_ltS, o_leS, o_gtS, o_geS, o_eqS, o_neS, o_isB, t_non, t_bl, t_int, t_str, t_tup, t_lst, ix_L0, ix_T0, ix_T1, ix_T2, ix_T3, ix_T4, ix_Tm, ix_Lm, bi_lenL, bi_lenC, bi_lenT, bi_lenS, bi_tupL, bi_tupT, bi_lstL, bi_lstT, bi_intI, bi_sortL, bi_sortT, s_L, s_T, s_S, s_K, p_non, kn_non, kx_non, kn_str, kx_str, kn_int, kx_int, kn_tup, kx_tup, kn_lst, kx_lst, kn_bl, kx_bl, g_addI, cmp_mem, cmp_nmem, ↓reduceIte, ↓u_node_at_C1c, ↓u_node_at_C1, ↓u_node_at_I1, ↓u_node_at_L1, ↓u_node_at, ↓u_head_of, ↓u_is_met_I1, ↓u_is_met_C1c, ↓u_is_met_C1, ↓u_is_met_I2, ↓u_is_met, ↓u_leaves_below_I1, ↓u_leaves_below_L1, ↓u_leaves_below, ↓u_turns_C1c, ↓u_turns_C1, ↓u_turns_I1, ↓u_turns_I2, ↓u_turns_L1, ↓u_turns, ↓u__law_draws_I1, ↓u__law_draws_I2, ↓u__law_draws_L2, ↓u__law_draws_L1, ↓u__law_draws_L3, ↓u__law_draws, ↓u__law_next_I1, ↓u__law_next, ↓u__law_pick, ↓u__law_is_bit, ↓u__law_words_C1, ↓u__law_words, ↓u__law_label, ↓u__law_key_C1c, ↓u__law_key_C1, ↓u__law_key, ↓u__law_body_L1, ↓u__law_body_C1, ↓u__law_body_L2, ↓u__law_body, ↓u__law_listed_I1, ↓u__law_listed_L1, ↓u__law_listed, ↓u__law_head, ↓u__law_met_I1, ↓u__law_met_C1c, ↓u__law_met_C1, ↓u__law_met_I2, ↓u__law_met, ↓u__law_leaves_I1, ↓u__law_leaves_L1, ↓u__law_leaves, ↓u__law_nodes_C1, ↓u__law_nodes_I1, ↓u__law_nodes_C2, ↓u__law_nodes_L1, ↓u__law_nodes, ↓u_law_C1c, ↓u_law_C1, ↓u_law_I1, ↓u_law_C2c, ↓u_law_C2, ↓u_law_I2, ↓u_law_L3, ↓u_law_I3, ↓u_law_L2, ↓u_law_L1, ↓u_law, GEm_0, GEm_1, GEm_2, GEm_3, GEm_4, GEm_5, GEm_6, GEm_7, GEm_8, GEm_9, GEm_10, GEm_11, GEm_12, GEm_13, GEm_14, GEm_15, GEm_16, GEm_17, GEm_18, GEg_0, ix_N0, ix_N1, ix_N2, srcB, bi_lenB, eqW, neW, memPs, memLPs, eqPs, nePs, setT_N, List.contains_nil, Bool.false_eq_true, b2, c2, p3, f3, hs, bi_tupL, tupPs]
    simp only [↓r_k, ↓r_v, ↓r_g, ↓r_bin, ↓r_cmp, ↓r_chn, ↓r_isK, ↓r_and, ↓r_or, ↓r_not, ↓r_neg, ↓r_ite, ↓r_idx, ↓r_slc, ↓r_rev, ↓r_tup, ↓r_lst, ↓r_dct, ↓r_call, ↓r_bi, ↓r_mt, ↓r_mu, ↓r_comp, ↓r_nil, ↓r_cons, ↓r_asg, ↓r_unp, ↓r_par, ↓r_aug, ↓r_sto, ↓r_aus, ↓r_ex, ↓r_ifs, ↓r_fr, ↓r_wh, ↓r_ret, ↓r_retN, ↓r_brk, ↓r_cnt, ↓r_pas, ↓r_frg, ↓r_rse, ↓r_snil, ↓r_scons, lk1_d, lk1_new, lk1_slot, lkS_own, lkS_val, lks_nil, lks_cons, fz1_d, fz1_new, fz1_slot, fzS_own, fzS_val, fzs_nil, fzs_cons, opt_some, opt_none, cndS_some, optS_some, gOwnS_own, gValS_val, isDS_d, lk1S_d, lk1S_new, lk1S_slot, lkSS_own, lkSS_val, rdV_val, rdV_own, isD_d, gOwn_own, gVal_val, bind_ok, bind_stuck, bind_exc, bind_ite, toO_ok, toO_stuck, toO_exc, toO_ite, obind_nx, obind_bk, obind_ct, obind_rt, obind_exc, obind_stuck, obind_ite, of_some, of_ite, oof_some, callK_ok, callK_exc, callK_ite, isLst_lst, compK_ok, compW_nil, setV_eq, setVc_none, setVc_val, setVc_own, setO_eq, setOc_none, setOc_val, setOc_own, setVs_nil, setVs_cons, setT_one, setT_many, setR_d, setR_new, setR_slot, setR_own, setRs_nil, setRs_d, setRs_new, wipe_nil, wipe_cons, unwipe_nil, unwipe_cons, unwC_val, unwC_none, unwC_own, fl_nil, flK_nx, flK_ct, flK_bk, flK_rt, flK_exc, flK_ite, whK_nx, whK_ct, whK_bk, whK_rt, whK_exc, whK_ite, finK_nx, finK_rt, finK_exc, finK_ite, outRV_d, outRV_new, outRV_slot, outS_own, outS_val, outCells_nil, outCells_val, outCells_own, backCells_nil, backCells_0, backCells_s, argCells_nil, argCells_cons, argK_some, arg1_d, arg1_new, arg1_slot, argS_true, argS_home, argS_give, argS_val, List.getElem?_cons_zero, List.getElem?_cons_succ, List.set_cons_zero, List.set_cons_succ, Option.map_some, Option.map_none, GE_phi, GE_fuel, o_addI, o_subI, o_eqI, o_neI, o_eqB, o_neB, o_ltI, o_leI, o_gtI, o_geI, o_ltS, o_leS, o_gtS, o_geS, o_eqS, o_neS, o_isB, t_non, t_bl, t_int, t_str, t_tup, t_lst, ix_L0, ix_T0, ix_T1, ix_T2, ix_T3, ix_T4, ix_Tm, ix_Lm, bi_lenL, bi_lenC, bi_lenT, bi_lenS, bi_tupL, bi_tupT, bi_lstL, bi_lstT, bi_intI, bi_sortL, bi_sortT, s_L, s_T, s_S, s_K, p_non, kn_non, kx_non, kn_str, kx_str, kn_int, kx_int, kn_tup, kx_tup, kn_lst, kx_lst, kn_bl, kx_bl, g_addI, cmp_mem, cmp_nmem, ↓reduceIte, ↓u_node_at_C1c, ↓u_node_at_C1, ↓u_node_at_I1, ↓u_node_at_L1, ↓u_node_at, ↓u_head_of, ↓u_is_met_I1, ↓u_is_met_C1c, ↓u_is_met_C1, ↓u_is_met_I2, ↓u_is_met, ↓u_leaves_below_I1, ↓u_leaves_below_L1, ↓u_leaves_below, ↓u_turns_C1c, ↓u_turns_C1, ↓u_turns_I1, ↓u_turns_I2, ↓u_turns_L1, ↓u_turns, ↓u__law_draws_I1, ↓u__law_draws_I2, ↓u__law_draws_L2, ↓u__law_draws_L1, ↓u__law_draws_L3, ↓u__law_draws, ↓u__law_next_I1, ↓u__law_next, ↓u__law_pick, ↓u__law_is_bit, ↓u__law_words_C1, ↓u__law_words, ↓u__law_label, ↓u__law_key_C1c, ↓u__law_key_C1, ↓u__law_key, ↓u__law_body_L1, ↓u__law_body_C1, ↓u__law_body_L2, ↓u__law_body, ↓u__law_listed_I1, ↓u__law_listed_L1, ↓u__law_listed, ↓u__law_head, ↓u__law_met_I1, ↓u__law_met_C1c, ↓u__law_met_C1, ↓u__law_met_I2, ↓u__law_met, ↓u__law_leaves_I1, ↓u__law_leaves_L1, ↓u__law_leaves, ↓u__law_nodes_C1, ↓u__law_nodes_I1, ↓u__law_nodes_C2, ↓u__law_nodes_L1, ↓u__law_nodes, ↓u_law_C1c, ↓u_law_C1, ↓u_law_I1, ↓u_law_C2c, ↓u_law_C2, ↓u_law_I2, ↓u_law_L3, ↓u_law_I3, ↓u_law_L2, ↓u_law_L1, ↓u_law, GEm_0, GEm_1, GEm_2, GEm_3, GEm_4, GEm_5, GEm_6, GEm_7, GEm_8, GEm_9, GEm_10, GEm_11, GEm_12, GEm_13, GEm_14, GEm_15, GEm_16, GEm_17, GEm_18, GEg_0, ix_N0, ix_N1, ix_N2, srcB, bi_lenB, eqW, neW, memPs, memLPs, eqPs, nePs, setT_N, g, ih]
theorem law_runs (ns : List Int) (hl : ns.length ≤ 63) : ∃ outs, run tab globD 2000 41 18 [.val (.cst (ns.map D.int))] = .ok (.d (.bl true)) outs := by
  obtain ⟨ds, h⟩ := draws_sp 39 ns hl 700 (by decide)
  obtain ⟨n', l⟩ := law_L1 ds (.cst (ns.map D.int)) (List.range 4) 0
  have e4 : srcD .range [.int 4] = some ((List.range 4).map fun i : Nat => D.int (i : Int)) := s_rng (n := 4) (by decide)
  have h : run tab globD 2000 40 5 [.val (.cst (ns.map .int)), .val (.int 700)] = .ok (.new (.lst (ds.map .int))) [.val (.cst (ns.map .int)), .val (.int 700)] := h
  have eD : dctD false [] [] [.str [100, 114, 97, 119, 115], .str [97, 116]] [.lst (ds.map .int), .int 0] = some (WD ds 0) := rfl
  refine ⟨[.val (.cst (ns.map D.int))], ?_⟩
  simp only [rn_law, ↓r_k, ↓r_v, ↓r_g, ↓r_bin, ↓r_cmp, ↓r_chn, ↓r_isK, ↓r_and, ↓r_or, ↓r_not, ↓r_neg, ↓r_ite, ↓r_idx, ↓r_slc, ↓r_rev, ↓r_tup, ↓r_lst, ↓r_dct, ↓r_call, ↓r_bi, ↓r_mt, ↓r_mu, ↓r_comp, ↓r_nil, ↓r_cons, ↓r_asg, ↓r_unp, ↓r_par, ↓r_aug, ↓r_sto, ↓r_aus, ↓r_ex, ↓r_ifs, ↓r_fr, ↓r_wh, ↓r_ret, ↓r_retN, ↓r_brk, ↓r_cnt, ↓r_pas, ↓r_frg, ↓r_rse, ↓r_snil, ↓r_scons, lk1_d, lk1_new, lk1_slot, lkS_own, lkS_val, lks_nil, lks_cons, fz1_d, fz1_new, fz1_slot, fzS_own, fzS_val, fzs_nil, fzs_cons, opt_some, opt_none, cndS_some, optS_some, gOwnS_own, gValS_val, isDS_d, lk1S_d, lk1S_new, lk1S_slot, lkSS_own, lkSS_val, rdV_val, rdV_own, isD_d, gOwn_own, gVal_val, bind_ok, bind_stuck, bind_exc, bind_ite, toO_ok, toO_stuck, toO_exc, toO_ite, obind_nx, obind_bk, obind_ct, obind_rt, obind_exc, obind_stuck, obind_ite, of_some, of_ite, oof_some, callK_ok, callK_exc, callK_ite, isLst_lst, compK_ok, compW_nil, setV_eq, setVc_none, setVc_val, setVc_own, setO_eq, setOc_none, setOc_val, setOc_own, setVs_nil, setVs_cons, setT_one, setT_many, setR_d, setR_new, setR_slot, setR_own, setRs_nil, setRs_d, setRs_new, wipe_nil, wipe_cons, unwipe_nil, unwipe_cons, unwC_val, unwC_none, unwC_own, fl_nil, flK_nx, flK_ct, flK_bk, flK_rt, flK_exc, flK_ite, whK_nx, whK_ct, whK_bk, whK_rt, whK_exc, whK_ite, finK_nx, finK_rt, finK_exc, finK_ite, outRV_d, outRV_new, outRV_slot, outS_own, outS_val, outCells_nil, outCells_val, outCells_own, backCells_nil, backCells_0, backCells_s, argCells_nil, argCells_cons, argK_some, arg1_d, arg1_new, arg1_slot, argS_true, argS_home, argS_give, argS_val, List.getElem?_cons_zero, List.getElem?_cons_succ, List.set_cons_zero, List.set_cons_succ, Option.map_some, Option.map_none, GE_phi, GE_fuel, o_addI, o_subI, o_eqI, o_neI, o_eqB, o_neB, o_ltI, o_leI, o_gtI, o_geI, o_ltS, o_leS, o_gtS, o_geS, o_eqS, o_neS, o_isB, t_non, t_bl, t_int, t_str, t_tup, t_lst, ix_L0, ix_T0, ix_T1, ix_T2, ix_T3, ix_T4, ix_Tm, ix_Lm, bi_lenL, bi_lenC, bi_lenT, bi_lenS, bi_tupL, bi_tupT, bi_lstL, bi_lstT, bi_intI, bi_sortL, bi_sortT, s_L, s_T, s_S, s_K, p_non, kn_non, kx_non, kn_str, kx_str, kn_int, kx_int, kn_tup, kx_tup, kn_lst, kx_lst, kn_bl, kx_bl, g_addI, cmp_mem, cmp_nmem, ↓reduceIte, ↓u_node_at_C1c, ↓u_node_at_C1, ↓u_node_at_I1, ↓u_node_at_L1, ↓u_node_at, ↓u_head_of, ↓u_is_met_I1, ↓u_is_met_C1c, ↓u_is_met_C1, ↓u_is_met_I2, ↓u_is_met, ↓u_leaves_below_I1, ↓u_leaves_below_L1, ↓u_leaves_below, ↓u_turns_C1c, ↓u_turns_C1, ↓u_turns_I1, ↓u_turns_I2, ↓u_turns_L1, ↓u_turns, ↓u__law_draws_I1, ↓u__law_draws_I2, ↓u__law_draws_L2, ↓u__law_draws_L1, ↓u__law_draws_L3, ↓u__law_draws, ↓u__law_next_I1, ↓u__law_next, ↓u__law_pick, ↓u__law_is_bit, ↓u__law_words_C1, ↓u__law_words, ↓u__law_label, ↓u__law_key_C1c, ↓u__law_key_C1, ↓u__law_key, ↓u__law_body_L1, ↓u__law_body_C1, ↓u__law_body_L2, ↓u__law_body, ↓u__law_listed_I1, ↓u__law_listed_L1, ↓u__law_listed, ↓u__law_head, ↓u__law_met_I1, ↓u__law_met_C1c, ↓u__law_met_C1, ↓u__law_met_I2, ↓u__law_met, ↓u__law_leaves_I1, ↓u__law_leaves_L1, ↓u__law_leaves, ↓u__law_nodes_C1, ↓u__law_nodes_I1, ↓u__law_nodes_C2, ↓u__law_nodes_L1, ↓u__law_nodes, ↓u_law_C1c, ↓u_law_C1, ↓u_law_I1, ↓u_law_C2c, ↓u_law_C2, ↓u_law_I2, ↓u_law_L3, ↓u_law_I3, ↓u_law_L2, ↓u_law_L1, ↓u_law, GEm_0, GEm_1, GEm_2, GEm_3, GEm_4, GEm_5, GEm_6, GEm_7, GEm_8, GEm_9, GEm_10, GEm_11, GEm_12, GEm_13, GEm_14, GEm_15, GEm_16, GEm_17, GEm_18, GEg_0, ix_N0, ix_N1, ix_N2, srcB, bi_lenB, eqW, neW, memPs, memLPs, eqPs, nePs, setT_N, constK, eD, h, e4, l]

end AW.K75
namespace AW.K75
open AW PySem PySem.Spec L2
def topS (i : Nat) : PySem.Stmt := PySem.Challenge.pw_amendwarrant_k75_whole_lists_that_are_me.main.body.getD i (.Pass ⟨0, 0, 0, 0⟩)
abbrev st_node_at : PySem.Stmt := topS 1
abbrev st_head_of : PySem.Stmt := topS 4
abbrev st_is_met : PySem.Stmt := topS 5
abbrev st_leaves_below : PySem.Stmt := topS 6
abbrev st_turns : PySem.Stmt := topS 7
abbrev st__law_draws : PySem.Stmt := topS 9
abbrev st__law_next : PySem.Stmt := topS 10
abbrev st__law_pick : PySem.Stmt := topS 11
abbrev st__law_is_bit : PySem.Stmt := topS 12
abbrev st__law_words : PySem.Stmt := topS 13
abbrev st__law_label : PySem.Stmt := topS 14
abbrev st__law_key : PySem.Stmt := topS 15
abbrev st__law_body : PySem.Stmt := topS 16
abbrev st__law_listed : PySem.Stmt := topS 17
abbrev st__law_head : PySem.Stmt := topS 18
abbrev st__law_met : PySem.Stmt := topS 19
abbrev st__law_leaves : PySem.Stmt := topS 20
abbrev st__law_nodes : PySem.Stmt := topS 21
abbrev st_law : PySem.Stmt := topS 22
def infos : List FI := [⟨"node_at", st_node_at, ["body", "path"], ["body", "path", "found", "label", "able", "node"]⟩,
  ⟨"head_of", st_head_of, ["node"], ["node"]⟩,
  ⟨"is_met", st_is_met, ["body", "path", "facts"], ["body", "path", "facts", "node", "head", "many", "kid"]⟩,
  ⟨"leaves_below", st_leaves_below, ["body", "path"], ["body", "path", "node", "found", "kid"]⟩,
  ⟨"turns", st_turns, ["body", "path", "facts"], ["body", "path", "facts", "now", "found", "leaf", "other", "fact"]⟩,
  ⟨"_law_draws", st__law_draws, ["script", "many"], ["script", "many", "draws", "mixed", "k", "cell", "rest", "turn"]⟩,
  ⟨"_law_next", st__law_next, ["w", "many"], ["w", "many"]⟩,
  ⟨"_law_pick", st__law_pick, ["w", "rows"], ["w", "rows"]⟩,
  ⟨"_law_is_bit", st__law_is_bit, ["said", "due"], ["said", "due"]⟩,
  ⟨"_law_words", st__law_words, ["w", "most"], ["w", "most", "k"]⟩,
  ⟨"_law_label", st__law_label, ["w"], ["w"]⟩,
  ⟨"_law_key", st__law_key, ["label"], ["label", "k", "sign"]⟩,
  ⟨"_law_body", st__law_body, ["w", "deep"], ["w", "deep", "k", "labels", "found", "key", "label"]⟩,
  ⟨"_law_listed", st__law_listed, ["w", "body", "heads"], ["w", "body", "heads", "found", "label", "words", "kids"]⟩,
  ⟨"_law_head", st__law_head, ["node"], ["node"]⟩,
  ⟨"_law_met", st__law_met, ["node", "path", "facts"], ["node", "path", "facts", "head", "many", "kid"]⟩,
  ⟨"_law_leaves", st__law_leaves, ["node", "path"], ["node", "path", "found", "kid"]⟩,
  ⟨"_law_nodes", st__law_nodes, ["body"], ["body", "turn", "found", "waiting", "path", "node", "kid"]⟩,
  ⟨"law", st_law, ["script"], ["script", "w", "turn", "body", "nodes", "facts", "path", "node", "leaves", "due", "leaf", "other", "fact"]⟩]
def gls : List Str := ["HEADS"]
def bns : List Str := ["abs", "int", "len", "range", "sorted", "tuple"]
theorem ckAll : (infos.zip tab).all (fun p => ckFn infos gls bns p.1 p.2) = true := by decide +kernel
theorem all_mk {l : PySem.W.OpenLaw} {w : World} {K : PySem.W.Frag} {h : Heap} {mg : Str → Option Value} {fa : Addr} (X : K.In h) (G : h.Ns mainGlobals mg) (hfa : mg "law" = some (.ref fa))
    {f0 : Addr} {od0 an0 : Option Addr} {sl0 : Array (Option Value)} {oc0 kV0 dc0 pm0 cd0 ct0 : Value}
    (a0 : PySem.W.nsIn K mainGlobals "node_at" = some (some (.ref f0))) (l0 : K.lookup f0 = some ⟨oc0, od0, .func (PySem.W.fnOf "node_at" "node_at" (defArgs st_node_at) (defBody st_node_at) (defScope st_node_at) .none kV0 dc0 pm0 an0 cd0 ct0), sl0⟩) (c0 : PySem.W.codeIn K cd0 "node_at" = true) (k0 : PySem.W.keepIn K (.ref f0) = true)
    {f1 : Addr} {od1 an1 : Option Addr} {sl1 : Array (Option Value)} {oc1 kV1 dc1 pm1 cd1 ct1 : Value}
    (a1 : PySem.W.nsIn K mainGlobals "head_of" = some (some (.ref f1))) (l1 : K.lookup f1 = some ⟨oc1, od1, .func (PySem.W.fnOf "head_of" "head_of" (defArgs st_head_of) (defBody st_head_of) (defScope st_head_of) .none kV1 dc1 pm1 an1 cd1 ct1), sl1⟩) (c1 : PySem.W.codeIn K cd1 "head_of" = true) (k1 : PySem.W.keepIn K (.ref f1) = true)
    {f2 : Addr} {od2 an2 : Option Addr} {sl2 : Array (Option Value)} {oc2 kV2 dc2 pm2 cd2 ct2 : Value}
    (a2 : PySem.W.nsIn K mainGlobals "is_met" = some (some (.ref f2))) (l2 : K.lookup f2 = some ⟨oc2, od2, .func (PySem.W.fnOf "is_met" "is_met" (defArgs st_is_met) (defBody st_is_met) (defScope st_is_met) .none kV2 dc2 pm2 an2 cd2 ct2), sl2⟩) (c2 : PySem.W.codeIn K cd2 "is_met" = true) (k2 : PySem.W.keepIn K (.ref f2) = true)
    {f3 : Addr} {od3 an3 : Option Addr} {sl3 : Array (Option Value)} {oc3 kV3 dc3 pm3 cd3 ct3 : Value}
    (a3 : PySem.W.nsIn K mainGlobals "leaves_below" = some (some (.ref f3))) (l3 : K.lookup f3 = some ⟨oc3, od3, .func (PySem.W.fnOf "leaves_below" "leaves_below" (defArgs st_leaves_below) (defBody st_leaves_below) (defScope st_leaves_below) .none kV3 dc3 pm3 an3 cd3 ct3), sl3⟩) (c3 : PySem.W.codeIn K cd3 "leaves_below" = true) (k3 : PySem.W.keepIn K (.ref f3) = true)
    {f4 : Addr} {od4 an4 : Option Addr} {sl4 : Array (Option Value)} {oc4 kV4 dc4 pm4 cd4 ct4 : Value}
    (a4 : PySem.W.nsIn K mainGlobals "turns" = some (some (.ref f4))) (l4 : K.lookup f4 = some ⟨oc4, od4, .func (PySem.W.fnOf "turns" "turns" (defArgs st_turns) (defBody st_turns) (defScope st_turns) .none kV4 dc4 pm4 an4 cd4 ct4), sl4⟩) (c4 : PySem.W.codeIn K cd4 "turns" = true) (k4 : PySem.W.keepIn K (.ref f4) = true)
    {f5 : Addr} {od5 an5 : Option Addr} {sl5 : Array (Option Value)} {oc5 kV5 dc5 pm5 cd5 ct5 : Value}
    (a5 : PySem.W.nsIn K mainGlobals "_law_draws" = some (some (.ref f5))) (l5 : K.lookup f5 = some ⟨oc5, od5, .func (PySem.W.fnOf "_law_draws" "_law_draws" (defArgs st__law_draws) (defBody st__law_draws) (defScope st__law_draws) .none kV5 dc5 pm5 an5 cd5 ct5), sl5⟩) (c5 : PySem.W.codeIn K cd5 "_law_draws" = true) (k5 : PySem.W.keepIn K (.ref f5) = true)
    {f6 : Addr} {od6 an6 : Option Addr} {sl6 : Array (Option Value)} {oc6 kV6 dc6 pm6 cd6 ct6 : Value}
    (a6 : PySem.W.nsIn K mainGlobals "_law_next" = some (some (.ref f6))) (l6 : K.lookup f6 = some ⟨oc6, od6, .func (PySem.W.fnOf "_law_next" "_law_next" (defArgs st__law_next) (defBody st__law_next) (defScope st__law_next) .none kV6 dc6 pm6 an6 cd6 ct6), sl6⟩) (c6 : PySem.W.codeIn K cd6 "_law_next" = true) (k6 : PySem.W.keepIn K (.ref f6) = true)
    {f7 : Addr} {od7 an7 : Option Addr} {sl7 : Array (Option Value)} {oc7 kV7 dc7 pm7 cd7 ct7 : Value}
    (a7 : PySem.W.nsIn K mainGlobals "_law_pick" = some (some (.ref f7))) (l7 : K.lookup f7 = some ⟨oc7, od7, .func (PySem.W.fnOf "_law_pick" "_law_pick" (defArgs st__law_pick) (defBody st__law_pick) (defScope st__law_pick) .none kV7 dc7 pm7 an7 cd7 ct7), sl7⟩) (c7 : PySem.W.codeIn K cd7 "_law_pick" = true) (k7 : PySem.W.keepIn K (.ref f7) = true)
    {f8 : Addr} {od8 an8 : Option Addr} {sl8 : Array (Option Value)} {oc8 kV8 dc8 pm8 cd8 ct8 : Value}
    (a8 : PySem.W.nsIn K mainGlobals "_law_is_bit" = some (some (.ref f8))) (l8 : K.lookup f8 = some ⟨oc8, od8, .func (PySem.W.fnOf "_law_is_bit" "_law_is_bit" (defArgs st__law_is_bit) (defBody st__law_is_bit) (defScope st__law_is_bit) .none kV8 dc8 pm8 an8 cd8 ct8), sl8⟩) (c8 : PySem.W.codeIn K cd8 "_law_is_bit" = true) (k8 : PySem.W.keepIn K (.ref f8) = true)
    {f9 : Addr} {od9 an9 : Option Addr} {sl9 : Array (Option Value)} {oc9 kV9 dc9 pm9 cd9 ct9 : Value}
    (a9 : PySem.W.nsIn K mainGlobals "_law_words" = some (some (.ref f9))) (l9 : K.lookup f9 = some ⟨oc9, od9, .func (PySem.W.fnOf "_law_words" "_law_words" (defArgs st__law_words) (defBody st__law_words) (defScope st__law_words) .none kV9 dc9 pm9 an9 cd9 ct9), sl9⟩) (c9 : PySem.W.codeIn K cd9 "_law_words" = true) (k9 : PySem.W.keepIn K (.ref f9) = true)
    {f10 : Addr} {od10 an10 : Option Addr} {sl10 : Array (Option Value)} {oc10 kV10 dc10 pm10 cd10 ct10 : Value}
    (a10 : PySem.W.nsIn K mainGlobals "_law_label" = some (some (.ref f10))) (l10 : K.lookup f10 = some ⟨oc10, od10, .func (PySem.W.fnOf "_law_label" "_law_label" (defArgs st__law_label) (defBody st__law_label) (defScope st__law_label) .none kV10 dc10 pm10 an10 cd10 ct10), sl10⟩) (c10 : PySem.W.codeIn K cd10 "_law_label" = true) (k10 : PySem.W.keepIn K (.ref f10) = true)
    {f11 : Addr} {od11 an11 : Option Addr} {sl11 : Array (Option Value)} {oc11 kV11 dc11 pm11 cd11 ct11 : Value}
    (a11 : PySem.W.nsIn K mainGlobals "_law_key" = some (some (.ref f11))) (l11 : K.lookup f11 = some ⟨oc11, od11, .func (PySem.W.fnOf "_law_key" "_law_key" (defArgs st__law_key) (defBody st__law_key) (defScope st__law_key) .none kV11 dc11 pm11 an11 cd11 ct11), sl11⟩) (c11 : PySem.W.codeIn K cd11 "_law_key" = true) (k11 : PySem.W.keepIn K (.ref f11) = true)
    {f12 : Addr} {od12 an12 : Option Addr} {sl12 : Array (Option Value)} {oc12 kV12 dc12 pm12 cd12 ct12 : Value}
    (a12 : PySem.W.nsIn K mainGlobals "_law_body" = some (some (.ref f12))) (l12 : K.lookup f12 = some ⟨oc12, od12, .func (PySem.W.fnOf "_law_body" "_law_body" (defArgs st__law_body) (defBody st__law_body) (defScope st__law_body) .none kV12 dc12 pm12 an12 cd12 ct12), sl12⟩) (c12 : PySem.W.codeIn K cd12 "_law_body" = true) (k12 : PySem.W.keepIn K (.ref f12) = true)
    {f13 : Addr} {od13 an13 : Option Addr} {sl13 : Array (Option Value)} {oc13 kV13 dc13 pm13 cd13 ct13 : Value}
    (a13 : PySem.W.nsIn K mainGlobals "_law_listed" = some (some (.ref f13))) (l13 : K.lookup f13 = some ⟨oc13, od13, .func (PySem.W.fnOf "_law_listed" "_law_listed" (defArgs st__law_listed) (defBody st__law_listed) (defScope st__law_listed) .none kV13 dc13 pm13 an13 cd13 ct13), sl13⟩) (c13 : PySem.W.codeIn K cd13 "_law_listed" = true) (k13 : PySem.W.keepIn K (.ref f13) = true)
    {f14 : Addr} {od14 an14 : Option Addr} {sl14 : Array (Option Value)} {oc14 kV14 dc14 pm14 cd14 ct14 : Value}
    (a14 : PySem.W.nsIn K mainGlobals "_law_head" = some (some (.ref f14))) (l14 : K.lookup f14 = some ⟨oc14, od14, .func (PySem.W.fnOf "_law_head" "_law_head" (defArgs st__law_head) (defBody st__law_head) (defScope st__law_head) .none kV14 dc14 pm14 an14 cd14 ct14), sl14⟩) (c14 : PySem.W.codeIn K cd14 "_law_head" = true) (k14 : PySem.W.keepIn K (.ref f14) = true)
    {f15 : Addr} {od15 an15 : Option Addr} {sl15 : Array (Option Value)} {oc15 kV15 dc15 pm15 cd15 ct15 : Value}
    (a15 : PySem.W.nsIn K mainGlobals "_law_met" = some (some (.ref f15))) (l15 : K.lookup f15 = some ⟨oc15, od15, .func (PySem.W.fnOf "_law_met" "_law_met" (defArgs st__law_met) (defBody st__law_met) (defScope st__law_met) .none kV15 dc15 pm15 an15 cd15 ct15), sl15⟩) (c15 : PySem.W.codeIn K cd15 "_law_met" = true) (k15 : PySem.W.keepIn K (.ref f15) = true)
    {f16 : Addr} {od16 an16 : Option Addr} {sl16 : Array (Option Value)} {oc16 kV16 dc16 pm16 cd16 ct16 : Value}
    (a16 : PySem.W.nsIn K mainGlobals "_law_leaves" = some (some (.ref f16))) (l16 : K.lookup f16 = some ⟨oc16, od16, .func (PySem.W.fnOf "_law_leaves" "_law_leaves" (defArgs st__law_leaves) (defBody st__law_leaves) (defScope st__law_leaves) .none kV16 dc16 pm16 an16 cd16 ct16), sl16⟩) (c16 : PySem.W.codeIn K cd16 "_law_leaves" = true) (k16 : PySem.W.keepIn K (.ref f16) = true)
    {f17 : Addr} {od17 an17 : Option Addr} {sl17 : Array (Option Value)} {oc17 kV17 dc17 pm17 cd17 ct17 : Value}
    (a17 : PySem.W.nsIn K mainGlobals "_law_nodes" = some (some (.ref f17))) (l17 : K.lookup f17 = some ⟨oc17, od17, .func (PySem.W.fnOf "_law_nodes" "_law_nodes" (defArgs st__law_nodes) (defBody st__law_nodes) (defScope st__law_nodes) .none kV17 dc17 pm17 an17 cd17 ct17), sl17⟩) (c17 : PySem.W.codeIn K cd17 "_law_nodes" = true) (k17 : PySem.W.keepIn K (.ref f17) = true)
    {f18 : Addr} {od18 an18 : Option Addr} {sl18 : Array (Option Value)} {oc18 kV18 dc18 pm18 cd18 ct18 : Value}
    (a18 : PySem.W.nsIn K mainGlobals "law" = some (some (.ref f18))) (l18 : K.lookup f18 = some ⟨oc18, od18, .func (PySem.W.fnOf "law" "law" (defArgs st_law) (defBody st_law) (defScope st_law) .none kV18 dc18 pm18 an18 cd18 ct18), sl18⟩) (c18 : PySem.W.codeIn K cd18 "law" = true) (k18 : PySem.W.keepIn K (.ref f18) = true)
    (z0 : PySem.W.nsIn K mainGlobals "abs" = some none)
    (z1 : PySem.W.nsIn K mainGlobals "int" = some none)
    (z2 : PySem.W.nsIn K mainGlobals "len" = some none)
    (z3 : PySem.W.nsIn K mainGlobals "range" = some none)
    (z4 : PySem.W.nsIn K mainGlobals "sorted" = some none)
    (z5 : PySem.W.nsIn K mainGlobals "tuple" = some none)
    {ga0 : Addr} {god0 : Option Addr} {gsl0 : Array (Option Value)} {gn0 : Nat} {t0_0 t0_1 t0_2 t0_3 : Tok}
    (gnm0 : PySem.W.nsIn K mainGlobals "HEADS" = some (some (.ref ga0))) (gob0 : K.lookup ga0 = some ⟨.type "tuple", god0, .seq #[.str "all" t0_0, .str "one" t0_1, .str "two" t0_2, .str "none" t0_3] gn0, gsl0⟩)
    : ∃ fd : FuncData, (∀ (s : Shared) (v : Value), BindsTo s fd ⟨[v], []⟩ [("script", v)]) ∧ ∀ base : Heap, K.In base → base.Ns mainGlobals mg → FnOk l.prog w K mg base (L2.CX l.prog w) 41 fa fd ["script"] (spF K XR0 (run tab globD 2000 41 18) 1) := by
  have e := hfa.symm.trans (PySem.W.mg_of X G a18)
  cases e
  have F0 := fun_mk (st := st_node_at) l0 c0 k0
  have B0 := F0.binds (ps := ["body", "path"]) fun _ _ _ _ _ _ us hl => match us, hl with | [_, _], _ => rfl
  have F1 := fun_mk (st := st_head_of) l1 c1 k1
  have B1 := F1.binds (ps := ["node"]) fun _ _ _ _ _ _ us hl => match us, hl with | [_], _ => rfl
  have F2 := fun_mk (st := st_is_met) l2 c2 k2
  have B2 := F2.binds (ps := ["body", "path", "facts"]) fun _ _ _ _ _ _ us hl => match us, hl with | [_, _, _], _ => rfl
  have F3 := fun_mk (st := st_leaves_below) l3 c3 k3
  have B3 := F3.binds (ps := ["body", "path"]) fun _ _ _ _ _ _ us hl => match us, hl with | [_, _], _ => rfl
  have F4 := fun_mk (st := st_turns) l4 c4 k4
  have B4 := F4.binds (ps := ["body", "path", "facts"]) fun _ _ _ _ _ _ us hl => match us, hl with | [_, _, _], _ => rfl
  have F5 := fun_mk (st := st__law_draws) l5 c5 k5
  have B5 := F5.binds (ps := ["script", "many"]) fun _ _ _ _ _ _ us hl => match us, hl with | [_, _], _ => rfl
  have F6 := fun_mk (st := st__law_next) l6 c6 k6
  have B6 := F6.binds (ps := ["w", "many"]) fun _ _ _ _ _ _ us hl => match us, hl with | [_, _], _ => rfl
  have F7 := fun_mk (st := st__law_pick) l7 c7 k7
  have B7 := F7.binds (ps := ["w", "rows"]) fun _ _ _ _ _ _ us hl => match us, hl with | [_, _], _ => rfl
  have F8 := fun_mk (st := st__law_is_bit) l8 c8 k8
  have B8 := F8.binds (ps := ["said", "due"]) fun _ _ _ _ _ _ us hl => match us, hl with | [_, _], _ => rfl
  have F9 := fun_mk (st := st__law_words) l9 c9 k9
  have B9 := F9.binds (ps := ["w", "most"]) fun _ _ _ _ _ _ us hl => match us, hl with | [_, _], _ => rfl
  have F10 := fun_mk (st := st__law_label) l10 c10 k10
  have B10 := F10.binds (ps := ["w"]) fun _ _ _ _ _ _ us hl => match us, hl with | [_], _ => rfl
  have F11 := fun_mk (st := st__law_key) l11 c11 k11
  have B11 := F11.binds (ps := ["label"]) fun _ _ _ _ _ _ us hl => match us, hl with | [_], _ => rfl
  have F12 := fun_mk (st := st__law_body) l12 c12 k12
  have B12 := F12.binds (ps := ["w", "deep"]) fun _ _ _ _ _ _ us hl => match us, hl with | [_, _], _ => rfl
  have F13 := fun_mk (st := st__law_listed) l13 c13 k13
  have B13 := F13.binds (ps := ["w", "body", "heads"]) fun _ _ _ _ _ _ us hl => match us, hl with | [_, _, _], _ => rfl
  have F14 := fun_mk (st := st__law_head) l14 c14 k14
  have B14 := F14.binds (ps := ["node"]) fun _ _ _ _ _ _ us hl => match us, hl with | [_], _ => rfl
  have F15 := fun_mk (st := st__law_met) l15 c15 k15
  have B15 := F15.binds (ps := ["node", "path", "facts"]) fun _ _ _ _ _ _ us hl => match us, hl with | [_, _, _], _ => rfl
  have F16 := fun_mk (st := st__law_leaves) l16 c16 k16
  have B16 := F16.binds (ps := ["node", "path"]) fun _ _ _ _ _ _ us hl => match us, hl with | [_, _], _ => rfl
  have F17 := fun_mk (st := st__law_nodes) l17 c17 k17
  have B17 := F17.binds (ps := ["body"]) fun _ _ _ _ _ _ us hl => match us, hl with | [_], _ => rfl
  have F18 := fun_mk (st := st_law) l18 c18 k18
  have B18 := F18.binds (ps := ["script"]) fun _ _ _ _ _ _ us hl => match us, hl with | [_], _ => rfl
  refine ⟨_, fun s v => .of_eq rfl, fun base _ _ => table xr0 (hck_of ckAll rfl) (fun i fi hi => ?_) (gl_of fun i y hi => ?_) (bn_of fun y hy => ?_) 41 18 ⟨"law", st_law, ["script"], ["script", "w", "turn", "body", "nodes", "facts", "path", "node", "leaves", "due", "leaf", "other", "fact"]⟩ _ _ rfl F18⟩
  · match i, hi with
    | 0, hi => cases hi; exact ⟨_, _, PySem.W.mg_of X G a0, F0, B0⟩
    | 1, hi => cases hi; exact ⟨_, _, PySem.W.mg_of X G a1, F1, B1⟩
    | 2, hi => cases hi; exact ⟨_, _, PySem.W.mg_of X G a2, F2, B2⟩
    | 3, hi => cases hi; exact ⟨_, _, PySem.W.mg_of X G a3, F3, B3⟩
    | 4, hi => cases hi; exact ⟨_, _, PySem.W.mg_of X G a4, F4, B4⟩
    | 5, hi => cases hi; exact ⟨_, _, PySem.W.mg_of X G a5, F5, B5⟩
    | 6, hi => cases hi; exact ⟨_, _, PySem.W.mg_of X G a6, F6, B6⟩
    | 7, hi => cases hi; exact ⟨_, _, PySem.W.mg_of X G a7, F7, B7⟩
    | 8, hi => cases hi; exact ⟨_, _, PySem.W.mg_of X G a8, F8, B8⟩
    | 9, hi => cases hi; exact ⟨_, _, PySem.W.mg_of X G a9, F9, B9⟩
    | 10, hi => cases hi; exact ⟨_, _, PySem.W.mg_of X G a10, F10, B10⟩
    | 11, hi => cases hi; exact ⟨_, _, PySem.W.mg_of X G a11, F11, B11⟩
    | 12, hi => cases hi; exact ⟨_, _, PySem.W.mg_of X G a12, F12, B12⟩
    | 13, hi => cases hi; exact ⟨_, _, PySem.W.mg_of X G a13, F13, B13⟩
    | 14, hi => cases hi; exact ⟨_, _, PySem.W.mg_of X G a14, F14, B14⟩
    | 15, hi => cases hi; exact ⟨_, _, PySem.W.mg_of X G a15, F15, B15⟩
    | 16, hi => cases hi; exact ⟨_, _, PySem.W.mg_of X G a16, F16, B16⟩
    | 17, hi => cases hi; exact ⟨_, _, PySem.W.mg_of X G a17, F17, B17⟩
    | 18, hi => cases hi; exact ⟨_, _, PySem.W.mg_of X G a18, F18, B18⟩
    | n + 19, hi => exact absurd (lt_of_get hi) (Nat.not_lt.mpr (Nat.le_add_left 19 n))
  · match i, hi with
    | 0, hi => cases hi; exact ⟨_, .ref ga0, _, PySem.W.mg_of X G gnm0, rfl, rfl, fun Av H => ⟨ga0, [.str (sS [97, 108, 108]), .str (sS [111, 110, 101]), .str (sS [116, 119, 111]), .str (sS [110, 111, 110, 101])], rfl, .inr ⟨_, _, _, gob0, rfl, rfl, (show 4 ≤ sizeLine by decide), .cons ⟨_, rfl⟩ (.cons ⟨_, rfl⟩ (.cons ⟨_, rfl⟩ (.cons ⟨_, rfl⟩ (.nil))))⟩, Reps.cons ⟨rfl, by decide⟩ (Reps.cons ⟨rfl, by decide⟩ (Reps.cons ⟨rfl, by decide⟩ (Reps.cons ⟨rfl, by decide⟩ (Reps.nil))))⟩⟩
    | n + 1, hi => exact absurd (lt_of_get hi) (Nat.not_lt.mpr (Nat.le_add_left 1 n))
  · simp only [bns, List.mem_cons, List.not_mem_nil, or_false] at hy
    rcases hy with rfl | rfl | rfl | rfl | rfl | rfl
    · exact PySem.W.mg_none_of X G z0
    · exact PySem.W.mg_none_of X G z1
    · exact PySem.W.mg_none_of X G z2
    · exact PySem.W.mg_none_of X G z3
    · exact PySem.W.mg_none_of X G z4
    · exact PySem.W.mg_none_of X G z5
end AW.K75
open PySem PySem.W PyProof.Rows
set_option maxHeartbeats 0 in
theorem PySem.Challenge.cw_amendwarrant_k75_whole_lists_that_are_me_holds : PySem.Challenge.rw_amendwarrant_k75_whole_lists_that_are_me.Holds := by
  w_on; o_law; k_head; (case hw => w_witness2)
  k_fill
  refine L2.walk_of (l := PySem.Challenge.rw_amendwarrant_k75_whole_lists_that_are_me) (n := 63) (k := 41) (x := "script") (CX := fun w => L2.CX PySem.Challenge.pw_amendwarrant_k75_whole_lists_that_are_me w) (sp := fun w => AW.spF _ AW.XR0 (AW.run AW.K75.tab AW.K75.globD 2000 41 18) 1) rfl (by decide) rfl ⟨rfl, by decide, by decide⟩ (fun w h Y => PySem.W.kIn_of Y) ?F (fun _ _ a ns hl _ hS => AW.law_sp hS (AW.K75.law_runs ns hl)) (fun _ _ _ _ _ h => AW.no_cx h)
  case F =>
    intro w mg fa h KX G hmg
    refine' AW.K75.all_mk KX G hmg ?a0 ?l0 ?c0 ?k0 ?a1 ?l1 ?c1 ?k1 ?a2 ?l2 ?c2 ?k2 ?a3 ?l3 ?c3 ?k3 ?a4 ?l4 ?c4 ?k4 ?a5 ?l5 ?c5 ?k5 ?a6 ?l6 ?c6 ?k6 ?a7 ?l7 ?c7 ?k7 ?a8 ?l8 ?c8 ?k8 ?a9 ?l9 ?c9 ?k9 ?a10 ?l10 ?c10 ?k10 ?a11 ?l11 ?c11 ?k11 ?a12 ?l12 ?c12 ?k12 ?a13 ?l13 ?c13 ?k13 ?a14 ?l14 ?c14 ?k14 ?a15 ?l15 ?c15 ?k15 ?a16 ?l16 ?c16 ?k16 ?a17 ?l17 ?c17 ?k17 ?a18 ?l18 ?c18 ?k18 ?z0 ?z1 ?z2 ?z3 ?z4 ?z5 ?gnm0 ?gob0
    (case a0 => k_is); (case l0 => k_is); (case c0 => k_is); (case k0 => k_is); (case a1 => k_is); (case l1 => k_is); (case c1 => k_is); (case k1 => k_is); (case a2 => k_is); (case l2 => k_is); (case c2 => k_is); (case k2 => k_is); (case a3 => k_is); (case l3 => k_is); (case c3 => k_is); (case k3 => k_is); (case a4 => k_is); (case l4 => k_is); (case c4 => k_is); (case k4 => k_is); (case a5 => k_is); (case l5 => k_is); (case c5 => k_is); (case k5 => k_is); (case a6 => k_is); (case l6 => k_is); (case c6 => k_is); (case k6 => k_is); (case a7 => k_is); (case l7 => k_is); (case c7 => k_is); (case k7 => k_is); (case a8 => k_is); (case l8 => k_is); (case c8 => k_is); (case k8 => k_is); (case a9 => k_is); (case l9 => k_is); (case c9 => k_is); (case k9 => k_is); (case a10 => k_is); (case l10 => k_is); (case c10 => k_is); (case k10 => k_is); (case a11 => k_is); (case l11 => k_is); (case c11 => k_is); (case k11 => k_is); (case a12 => k_is); (case l12 => k_is); (case c12 => k_is); (case k12 => k_is); (case a13 => k_is); (case l13 => k_is); (case c13 => k_is); (case k13 => k_is); (case a14 => k_is); (case l14 => k_is); (case c14 => k_is); (case k14 => k_is); (case a15 => k_is); (case l15 => k_is); (case c15 => k_is); (case k15 => k_is); (case a16 => k_is); (case l16 => k_is); (case c16 => k_is); (case k16 => k_is); (case a17 => k_is); (case l17 => k_is); (case c17 => k_is); (case k17 => k_is); (case a18 => k_is); (case l18 => k_is); (case c18 => k_is); (case k18 => k_is); (case z0 => k_is); (case z1 => k_is); (case z2 => k_is); (case z3 => k_is); (case z4 => k_is); (case z5 => k_is); (case gnm0 => k_is); (case gob0 => k_is)
