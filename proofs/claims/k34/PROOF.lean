import PyProof.Rows.All
import Wide.All
import OpenK.AllK
import Wide.FinOn
import HandS.ForMost
import HandS.TupAny
import HandS.Style
import HandS.Star
import HandS.Conv
import HandS.Deep
import HandS.IsInst
import HandS.Zip
import HandS.Walk
import HandS.Wide
import KE.KIndexOf
import KE.KDictKeyed
import KE.SortData
import KE.DataMinMax
import HandS.TupLen
import HandS.SetFor
import HandS.Defaults
import KE.KDictDisplayH
import KE.GoesZip
import KE.GoesMore
import KE.KDictItemsList
import HandS.Sort
import HandS.Ends
import KE.KStateDown
import HandS.Base
import HandS.Call
import HandS.More
import HandS.Words
import HandS.WordsExc
import HandS.Head0
import HandS.Head1
import HandS.Head2
import HandS.HeadEnd
import HandS.HeadHook1
import HandS.HeadHook2
import PySem.Challenge.RW_noroundshorter_k34_whole_exchanges_as_a
set_option Elab.async false
set_option linter.all false
set_option maxRecDepth 100000
/-! D1: values without addresses (D), a small language (E, S) for a part of Python, and what it computes. Plain Lean. -/
namespace DL
open PySem L2

/-! ### values -/
inductive D where
  | non | bl (b : Bool) | int (i : Int) | str (x : Str)
  | tup (ds : List D) | lst (ds : List D) | frz (ds : List D)
  | dT (ks : List (List Key)) (vs : List D)
deriving Inhabited

mutual
def D.beq : D → D → Bool
  | .non, .non => true
  | .bl a, .bl b => a == b
  | .int a, .int b => decide (a = b)
  | .str a, .str b => decide (a = b)
  | .tup a, .tup b => D.beqL a b
  | .lst a, .lst b => D.beqL a b
  | .frz a, .frz b => D.beqL a b
  | .dT k a, .dT l b => decide (k = l) && D.beqL a b
  | _, _ => false
def D.beqL : List D → List D → Bool
  | [], [] => true
  | a :: as, b :: bs => D.beq a b && D.beqL as bs
  | _, _ => false
end
mutual
theorem D.eq_of_beq : ∀ {a b : D}, D.beq a b = true → a = b
  | .non, .non, _ => rfl
  | .bl a, .bl b, h => by simp [D.beq] at h; rw [h]
  | .int a, .int b, h => by simp [D.beq] at h; rw [h]
  | .str a, .str b, h => by simp [D.beq] at h; rw [h]
  | .tup a, .tup b, h => by rw [D.beq] at h; rw [D.eqL_of_beq h]
  | .lst a, .lst b, h => by rw [D.beq] at h; rw [D.eqL_of_beq h]
  | .frz a, .frz b, h => by rw [D.beq] at h; rw [D.eqL_of_beq h]
  | .dT k a, .dT l b, h => by
    rw [D.beq, Bool.and_eq_true] at h
    rw [of_decide_eq_true h.1, D.eqL_of_beq h.2]
  | .non, .bl _, h | .non, .int _, h | .non, .str _, h | .non, .tup _, h | .non, .lst _, h | .non, .frz _, h | .non, .dT _ _, h => by simp [D.beq] at h
  | .bl _, .non, h | .bl _, .int _, h | .bl _, .str _, h | .bl _, .tup _, h | .bl _, .lst _, h | .bl _, .frz _, h | .bl _, .dT _ _, h => by simp [D.beq] at h
  | .int _, .non, h | .int _, .bl _, h | .int _, .str _, h | .int _, .tup _, h | .int _, .lst _, h | .int _, .frz _, h | .int _, .dT _ _, h => by simp [D.beq] at h
  | .str _, .non, h | .str _, .bl _, h | .str _, .int _, h | .str _, .tup _, h | .str _, .lst _, h | .str _, .frz _, h | .str _, .dT _ _, h => by simp [D.beq] at h
  | .tup _, .non, h | .tup _, .bl _, h | .tup _, .int _, h | .tup _, .str _, h | .tup _, .lst _, h | .tup _, .frz _, h | .tup _, .dT _ _, h => by simp [D.beq] at h
  | .lst _, .non, h | .lst _, .bl _, h | .lst _, .int _, h | .lst _, .str _, h | .lst _, .tup _, h | .lst _, .frz _, h | .lst _, .dT _ _, h => by simp [D.beq] at h
  | .frz _, .non, h | .frz _, .bl _, h | .frz _, .int _, h | .frz _, .str _, h | .frz _, .tup _, h | .frz _, .lst _, h | .frz _, .dT _ _, h => by simp [D.beq] at h
  | .dT _ _, .non, h | .dT _ _, .bl _, h | .dT _ _, .int _, h | .dT _ _, .str _, h | .dT _ _, .tup _, h | .dT _ _, .lst _, h | .dT _ _, .frz _, h => by simp [D.beq] at h
theorem D.eqL_of_beq : ∀ {a b : List D}, D.beqL a b = true → a = b
  | [], [], _ => rfl
  | a :: as, b :: bs, h => by
    rw [D.beqL, Bool.and_eq_true] at h
    rw [D.eq_of_beq h.1, D.eqL_of_beq h.2]
  | [], _ :: _, h => by simp [D.beqL] at h
  | _ :: _, [], h => by simp [D.beqL] at h
end
mutual
theorem D.beq_refl : ∀ a : D, D.beq a a = true
  | .non => by rw [D.beq]
  | .bl _ => by simp [D.beq]
  | .int _ => by simp [D.beq]
  | .str _ => by simp [D.beq]
  | .tup a => by rw [D.beq]; exact D.beqL_refl a
  | .lst a => by rw [D.beq]; exact D.beqL_refl a
  | .frz a => by rw [D.beq]; exact D.beqL_refl a
  | .dT k a => by rw [D.beq, D.beqL_refl a]; simp
theorem D.beqL_refl : ∀ a : List D, D.beqL a a = true
  | [] => by rw [D.beqL]
  | a :: as => by rw [D.beqL, D.beq_refl a, D.beqL_refl as]; rfl
end
instance : DecidableEq D := fun a b => if h : D.beq a b = true then .isTrue (D.eq_of_beq h) else .isFalse fun e => h (e ▸ D.beq_refl a)

mutual
/-- nothing in it may change -/
def D.imm : D → Bool
  | .non => true
  | .bl _ => true
  | .int _ => true
  | .str _ => true
  | .tup ds => D.imms ds
  | .frz ds => D.imms ds
  | .lst _ => false
  | .dT _ _ => false
def D.imms : List D → Bool
  | [] => true
  | d :: ds => D.imm d && D.imms ds
end
mutual
/-- as data of the library -/
def D.py : D → PyData
  | .non => .none
  | .bl b => .bool b
  | .int i => .int i
  | .str x => .str x
  | .tup ds => .tuple (D.pys ds)
  | .lst ds => .list (D.pys ds)
  | .frz ds => .list (D.pys ds)
  | .dT _ _ => .dict []
def D.pys : List D → List PyData
  | [] => []
  | d :: ds => D.py d :: D.pys ds
end
/-- the items of a list or a tuple -/
def D.seq? : D → Option (List D)
  | .tup ds => some ds
  | .lst ds => some ds
  | .frz ds => some ds
  | _ => none
/-- a tuple of ints and texts, as a key -/
def keysOf : List D → Option (List Key)
  | [] => some []
  | .int i :: r => (keysOf r).map (Sum.inl i :: ·)
  | .str x :: r => (keysOf r).map (Sum.inr x :: ·)
  | _ => none
def keyOf : D → Option (List Key)
  | .tup ds => keysOf ds
  | _ => none
def keyD : List Key → D := fun k => .tup (k.map fun
  | .inl i => .int i
  | .inr x => .str x)
def lookT : List (List Key) → List D → List Key → Option D
  | k' :: ks, v :: vs, k => if k' = k then some v else lookT ks vs k
  | _, _, _ => none
def memT (k : List Key) (ks : List (List Key)) : Bool := ks.any fun k' => decide (k' = k)
def putT : List (List Key) → List D → List Key → D → List D
  | k' :: ks, v :: vs, k, d => if k' = k then d :: vs else v :: putT ks vs k d
  | _, vs, _, d => vs ++ [d]

/-! ### environments -/
abbrev Env := List (Option D)
def eget (ρ : Env) (i : Nat) : Option D := (ρ[i]?).getD none
def eset (ρ : Env) (i : Nat) (o : Option D) : Env := ρ.set i o
def ewipe (ρ : Env) : List Nat → Env
  | [] => ρ
  | v :: vs => (ewipe ρ vs).set v none
/-- the slots vs as they were in ρ -/
def erest (ρ ρ' : Env) : List Nat → Env
  | [] => ρ'
  | v :: vs => (erest ρ ρ' vs).set v (eget ρ v)
inductive Fl where
  | nx | rt (d : D) | bk | ct
deriving Inhabited

/-! ### the language -/
inductive Bop where | add | sub | mul | fdiv | mod | pow
deriving DecidableEq
inductive Cm where | lt | le | gt | ge | eq | ne | inn | nin
deriving DecidableEq
inductive Kd where | int | bool | str | tuple | list | dict
deriving DecidableEq
inductive Prim where
  | bin (o : Bop) | neg | cmp (c : Cm) | isNone | notNone
  | isB (pos : Bool)
  | len | ix | slice (lo hi : Bool) | rev | revTo
  | abs | int | min2 | max2 | minL | maxL | sum | all | any | tuple | list | sorted
  | rangeL (n : Nat)
  | isinst (k : Kd)
  | index
  | lenSet
  | dictZip | dictL
  | maxVals
  | repr
deriving DecidableEq
inductive Meth where | append | extend | popAt | pop
deriving DecidableEq
inductive Tg where
  | nm (i : Nat) | tp (ts : List Tg)
mutual
inductive E where
  | int (i : Int) | bl (b : Bool) | non | str (x : Str)
  | con (x : Str) (d : D)
  | var (i : Nat)
  | prim (p : Prim) (es : List E)
  | meth (m : Meth) (i : Nat) (es : List E)
  | call (f : Nat) (es : List E)
  | andE (a b : E) | orE (a b : E) | notE (a : E)
  | chain (p q : Cm) (a b c : E)
  | ife (c a b : E)
  | disp (t : Bool) (st : List Bool) (es : List E)
  | comp (own : List Nat) (tg : Tg) (it : It) (cs : List E) (elt : E)
  | dnew | done (k v : E)
inductive It where
  | seq (e : E) | seqT (e : E) | rng (es : List E) | zip (a b : E) | keys (i : Nat)
end
inductive S where
  | asg (t : Tg) (e : E)
  | par (is : List Nat) (es : List E)
  | setix (i : Nat) (ix e : E)
  | expr (e : E)
  | ret (e : E) | retN
  | ifs (c : E) (a b : List S)
  | for (t : Tg) (it : It) (b : List S)
  | whl (c : E) (b : List S)
  | brk | cnt | pass | raise

/-! ### what single operations give -/
def intB (i : Int) : Bool := decide (-(2 ^ 64) < i) && decide (i < 2 ^ 64)
def cmpD (c : Cm) (a b : D) : Option Bool :=
  match c with
  | .lt => match a, b with | .int i, .int j => some (decide (i < j)) | _, _ => none
  | .le => match a, b with | .int i, .int j => some (decide (i ≤ j)) | _, _ => none
  | .gt => match a, b with | .int i, .int j => some (decide (j < i)) | _, _ => none
  | .ge => match a, b with | .int i, .int j => some (decide (j ≤ i)) | _, _ => none
  | .eq => if SeqAt.shaped a.py && SeqAt.shaped b.py then some (PyData.eqv a.py b.py) else none
  | .ne => if SeqAt.shaped a.py && SeqAt.shaped b.py then some (!PyData.eqv a.py b.py) else none
  | .inn => match b with
    | .dT ks _ => (keyOf a).map fun k => memT k ks
    | _ => match b.seq? with
      | some ds => if SeqAt.shaped a.py && SeqAt.shaped b.py then some (ds.any fun z => PyData.eqv z.py a.py) else none
      | none => none
  | .nin => match b with
    | .dT ks _ => (keyOf a).map fun k => !memT k ks
    | _ => match b.seq? with
      | some ds => if SeqAt.shaped a.py && SeqAt.shaped b.py then some (!ds.any fun z => PyData.eqv z.py a.py) else none
      | none => none
def binD (o : Bop) (a b : D) : Option D :=
  match o, a, b with
  | .add, .int i, .int j => some (.int (i + j))
  | .add, .tup x, .tup y => if decide (x.length + y.length ≤ sizeLine) && D.imms x && D.imms y then some (.tup (x ++ y)) else none
  | .add, .lst x, .lst y => if decide (x.length + y.length ≤ sizeLine) && D.imms x && D.imms y then some (.lst (x ++ y)) else none
  | .sub, .int i, .int j => some (.int (i - j))
  | .mul, .int i, .int j => if intB i || intB j then some (.int (i * j)) else none
  | .fdiv, .int i, .int j => if decide (0 < j) && decide (j < 1073741824) then some (.int (i / j)) else none
  | .mod, .int i, .int j => if decide (0 < j) then some (.int (i % j)) else none
  | .pow, .int i, .int j => if decide (0 ≤ j) && decide (j ≤ 1000) && decide (i.natAbs < 2 ^ 256) then some (.int (i ^ j.toNat)) else none
  | _, _, _ => none
def allInt : List D → Option (List Int)
  | [] => some []
  | .int i :: r => (allInt r).map (i :: ·)
  | _ => none
def allBl : List D → Option (List Bool)
  | [] => some []
  | .bl b :: r => (allBl r).map (b :: ·)
  | _ => none
def isKd (k : Kd) : D → Option D
  | .int _ => some (.bl (k = .int))
  | .bl _ => some (.bl (k = .int || k = .bool))
  | .str _ => some (.bl (k = .str))
  | .non => some (.bl false)
  | .tup _ => some (.bl (k = .tuple))
  | .lst _ => some (.bl (k = .list))
  | _ => none
def cutD (ds : List D) (lo hi : Option Int) : List D := (ds.drop (HT.sIx ds.length 0 lo)).take (HT.sIx ds.length ds.length hi - HT.sIx ds.length 0 lo)
def reseq (like : D) (ds : List D) : Option D := if D.imms ds then (match like with
  | .tup _ => some (.tup ds)
  | .lst _ => some (.lst ds)
  | .frz _ => some (.lst ds)
  | _ => none) else none
def asInt : D → Option Int
  | .int i => some i
  | _ => none
def pairKV : D → Option (List Key × D)
  | .tup [k, v] => (keyOf k).map (·, v)
  | _ => none
def pairsKV : List D → Option (List (List Key × D))
  | [] => some []
  | d :: ds => match pairKV d, pairsKV ds with
    | some p, some r => some (p :: r)
    | _, _ => none
def zipKV : List D → List D → Option (List (List Key × D))
  | k :: ks, v :: vs => match keyOf k, zipKV ks vs with
    | some p, some r => some ((p, v) :: r)
    | _, _ => none
  | _, _ => some []
def buildT : List (List Key × D) → List (List Key) → List D → D
  | [], ks, vs => .dT ks vs
  | (k, v) :: r, ks, vs => if memT k ks then buildT r ks (putT ks vs k v) else buildT r (ks ++ [k]) (vs ++ [v])
mutual
/-- data of one shape: ints, truth values, texts, tuples of as many places of one shape -/
def alikeD : D → D → Bool
  | .int _, .int _ => true
  | .bl _, .bl _ => true
  | .str _, .str _ => true
  | .tup a, .tup b => alikeDs a b
  | _, _ => false
def alikeDs : List D → List D → Bool
  | [], [] => true
  | x :: xs, y :: ys => alikeD x y && alikeDs xs ys
  | _, _ => false
end
mutual
/-- a < b of data of one shape -/
def ltD : D → D → Bool
  | .int i, .int j => decide (i < j)
  | .bl a, .bl b => !a && b
  | .str x, .str y => decide (x.cps.toList < y.cps.toList)
  | .tup a, .tup b => ltDs a b
  | _, _ => false
def ltDs : List D → List D → Bool
  | x :: xs, y :: ys => if D.beq x y then ltDs xs ys else ltD x y
  | _, _ => false
end
mutual
def D.depth : D → Nat
  | .tup ds => D.depths ds + 1
  | _ => 0
def D.depths : List D → Nat
  | [] => 0
  | d :: ds => max (D.depth d) (D.depths ds)
end
def leD (a b : D) : Bool := !ltD b a
def minD (d : D) (l : List D) : D := l.foldl (fun a y => if ltD y a then y else a) d
def maxD (d : D) (l : List D) : D := l.foldl (fun a y => if ltD a y then y else a) d
/-- all of one shape, none so deep that it matters -/
def alikeAll (d : D) (l : List D) : Bool := alikeD d d && l.all (alikeD d) && decide (D.depth d ≤ 60)
def isTup0 : D → Bool
  | .tup [] => true
  | _ => false
def immO : Option D → Option D
  | some v => if v.imm then some v else none
  | none => none
def ixS (l : List D) : D → Option D
  | .int i => immO (atI l i)
  | _ => none
def ixD (a i : D) : Option D :=
  match a with
  | .dT ks vs => match keyOf i with
    | some k => immO (lookT ks vs k)
    | none => none
  | .tup l => ixS l i
  | .lst l => ixS l i
  | .frz l => ixS l i
  | _ => none
def isNon : D → Bool
  | .non => true
  | _ => false
def negD : D → Option D
  | .int i => some (.int (-i))
  | _ => none
def lenD : D → Option D
  | .dT ks _ => some (.int ks.length)
  | .tup l => some (.int l.length)
  | .lst l => some (.int l.length)
  | .frz l => some (.int l.length)
  | _ => none
def sliceD (a : D) (lo hi : Option Int) : Option D := match a.seq? with
  | some l => reseq a (cutD l lo hi)
  | none => none
def revD : D → Option D
  | .tup l => if D.imms l then some (.tup l.reverse) else none
  | .lst l => if D.imms l then some (.lst l.reverse) else none
  | .frz l => if D.imms l then some (.lst l.reverse) else none
  | _ => none
def revToD : D → Option D
  | .tup (_ :: l) => if D.imms l then some (.tup l.reverse) else none
  | _ => none
def absD : D → Option D
  | .int i => some (.int (if i < 0 then -i else i))
  | _ => none
def intD : D → Option D
  | .int i => some (.int i)
  | .bl b => some (.int (if b then 1 else 0))
  | _ => none
def minLD : D → Option D
  | .lst (d :: l) => if alikeAll d l then some (minD d l) else none
  | .frz (d :: l) => if alikeAll d l then some (minD d l) else none
  | _ => none
def maxLD : D → Option D
  | .lst (d :: l) => if alikeAll d l then some (maxD d l) else none
  | .frz (d :: l) => if alikeAll d l then some (maxD d l) else none
  | _ => none
def sumD : D → Option D
  | .lst l => (allInt l).map fun m => .int m.sum
  | .frz l => (allInt l).map fun m => .int m.sum
  | _ => none
def allD : D → Option D
  | .lst l => (allBl l).map fun m => .bl (m.all id)
  | _ => none
def anyD : D → Option D
  | .lst l => (allBl l).map fun m => .bl (m.any id)
  | _ => none
def tupleD : D → Option D
  | .tup l => if D.imms l then some (.tup l) else none
  | .lst l => if D.imms l then some (.tup l) else none
  | .frz l => if D.imms l then some (.tup l) else none
  | _ => none
def listD : D → Option D
  | .tup l => if D.imms l then some (.lst l) else none
  | .lst l => if D.imms l then some (.lst l) else none
  | .frz l => if D.imms l then some (.lst l) else none
  | _ => none
/-- merge sort by fuel (the core's own sort is no computation for the kernel) -/
def mrg : Nat → List D → List D → List D
  | 0, xs, ys => xs ++ ys
  | _ + 1, [], ys => ys
  | _ + 1, x :: xs, [] => x :: xs
  | n + 1, x :: xs, y :: ys => if leD x y then x :: mrg n xs (y :: ys) else y :: mrg n (x :: xs) ys
def msort : Nat → List D → List D
  | 0, l => l
  | _ + 1, [] => []
  | _ + 1, [a] => [a]
  | n + 1, a :: b :: xs => mrg (xs.length + 2) (msort n ((a :: b :: xs).take ((xs.length + 2 + 1) / 2))) (msort n ((a :: b :: xs).drop ((xs.length + 2 + 1) / 2)))
def sortedD : D → Option D
  | .lst [] => some (.lst [])
  | .lst (d :: l) => if alikeAll d l && !isTup0 d then some (.lst (msort (l.length + 1) (d :: l))) else none
  | .frz (d :: l) => if alikeAll d l && !isTup0 d then some (.lst (msort (l.length + 1) (d :: l))) else none
  | _ => none
/-- the ints from a on, below b, if they are not too many -/
def rangeD (a b : Int) : Option (List D) := if decide (b ≤ a + 100000) && decide (-(2 ^ 62) ≤ a) && decide (a < 2 ^ 62) && decide (-(2 ^ 62) ≤ b) && decide (b < 2 ^ 62) then some ((List.range (b - a).toNat).map fun i : Nat => .int (a + (i : Int))) else none
def rangeL1 : D → Option D
  | .int b => (rangeD 0 b).map .lst
  | _ => none
def rangeL2 : D → D → Option D
  | .int a, .int b => (rangeD a b).map .lst
  | _, _ => none
def dedupI : List Int → List Int
  | [] => []
  | x :: r => if x ∈ r then dedupI r else x :: dedupI r
def lenSetD : D → Option D
  | .tup l => match allInt l with
    | some m => if decide (m.length < 4000) then some (.int (dedupI m).length) else none
    | none => none
  | _ => none
def dictLD : D → Option D
  | .lst l => if D.imms l then (pairsKV l).map fun r => buildT r [] [] else none
  | _ => none
def maxValsD : D → Option D
  | .dT _ vs => match allInt vs with
    | some (i :: m) => some (.int (m.foldl max i))
    | _ => none
  | _ => none
def isBD (pos : Bool) : D → D → Option D
  | .bl a, .bl b => some (.bl (if pos then decide (a = b) else !decide (a = b)))
  | _, _ => none
def min2D : D → D → Option D
  | .int i, .int j => some (.int (if j < i then j else i))
  | _, _ => none
def max2D : D → D → Option D
  | .int i, .int j => some (.int (if j > i then j else i))
  | _, _ => none
def indexD : D → D → Option D
  | .tup l, .int i => match allInt l with
    | some m => if decide (i ∈ m) then some (.int (m.idxOf i : Nat)) else none
    | none => none
  | .lst l, .int i => match allInt l with
    | some m => if decide (i ∈ m) then some (.int (m.idxOf i : Nat)) else none
    | none => none
  | _, _ => none
def dictZipD (a b : D) : Option D := match a.seq?, b.seq? with
  | some l, some m => if D.imms l && D.imms m then (zipKV l m).map fun r => buildT r [] [] else none
  | _, _ => none
def prim1 (p : Prim) (a : D) : Option D :=
  match p with
  | .neg => negD a
  | .isNone => some (.bl (isNon a))
  | .notNone => some (.bl (!isNon a))
  | .len => lenD a
  | .slice false false => sliceD a none none
  | .rev => revD a
  | .revTo => revToD a
  | .abs => absD a
  | .int => intD a
  | .minL => minLD a
  | .maxL => maxLD a
  | .sum => sumD a
  | .all => allD a
  | .any => anyD a
  | .tuple => tupleD a
  | .list => listD a
  | .sorted => sortedD a
  | .rangeL 1 => rangeL1 a
  | .isinst k => isKd k a
  | .lenSet => lenSetD a
  | .dictL => dictLD a
  | .maxVals => maxValsD a
  | _ => none
def prim2 (p : Prim) (a b : D) : Option D :=
  match p with
  | .bin o => binD o a b
  | .cmp c => (cmpD c a b).map .bl
  | .isB pos => isBD pos a b
  | .ix => ixD a b
  | .slice true false => match b with
    | .int i => sliceD a (some i) none
    | _ => none
  | .slice false true => match b with
    | .int i => sliceD a none (some i)
    | _ => none
  | .min2 => min2D a b
  | .max2 => max2D a b
  | .rangeL 2 => rangeL2 a b
  | .index => indexD a b
  | .dictZip => dictZipD a b
  | _ => none
def primD (p : Prim) (ds : List D) : Option D :=
  match ds with
  | [a] => prim1 p a
  | [a, b] => prim2 p a b
  | [a, b, c] => match p, b, c with
    | .slice true true, .int i, .int j => sliceD a (some i) (some j)
    | _, _, _ => none
  | _ => none

/-- a method that changes its list: what it gives, the list behind it -/
def methD (m : Meth) (r : D) (ds : List D) : Option (D × D) :=
  match m, r, ds with
  | .append, .lst l, [d] => if decide (l.length < sizeLine) then some (.non, .lst (l ++ [d])) else none
  | .extend, .lst l, [.lst m] => if decide (l.length + m.length ≤ sizeLine) then some (.non, .lst (l ++ m)) else none
  | .popAt, .lst l, [.int i] => if decide (-(2 ^ 63) ≤ i) && decide (i < 2 ^ 63) then match seqIndex? i l.length with
    | some k => match l[k]? with
      | some v => some (v, .lst (l.eraseIdx k))
      | none => none
    | none => none
    else none
  | _, _, _ => none

/-! ### what the language computes -/
inductive Opd where
  | val (d : D) | ref (i : Nat)
def opdD (ρ : Env) : Opd → Option D
  | .val d => some d
  | .ref i => eget ρ i
/-- an operand: a name's own list stays with the name -/
def opOf (e : E) (r : Option (D × Env)) (ρ : Env) : Option (Opd × Env) := match e with
  | .var i => if (eget ρ i).isSome then some (.ref i, ρ) else none
  | _ => match r with
    | some (d, ρ1) => some (.val d, ρ1)
    | none => none
def opds (ρ : Env) : List Opd → Option (List D)
  | [] => some []
  | o :: os => match opdD ρ o, opds ρ os with
    | some d, some ds => some (d :: ds)
    | _, _ => none
/-- the slots whose lists are lent to a call -/
def lent : List Opd → List D → List Nat
  | .ref i :: os, d :: ds => if d.imm then lent os ds else i :: lent os ds
  | _ :: os, _ :: ds => lent os ds
  | _, _ => []
/-- behind a call: what was lent stands as the call left it -/
def giveBack : List Opd → List D → Env → Env → Env
  | .ref i :: os, d :: ds, fin, ρ => giveBack os ds fin.tail (if d.imm then ρ else eset ρ i (fin.head?.getD none))
  | _ :: os, _ :: ds, fin, ρ => giveBack os ds fin.tail ρ
  | _, _, _, ρ => ρ
mutual
def bindT : Tg → D → Env → Option Env
  | .nm i, d, ρ => some (eset ρ i (some d))
  | .tp ts, .tup ds, ρ => bindTs ts ds ρ
  | .tp _, _, _ => none
def bindTs : List Tg → List D → Env → Option Env
  | [], [], ρ => some ρ
  | t :: ts, d :: ds, ρ => match bindT t d ρ with
    | some ρ1 => bindTs ts ds ρ1
    | none => none
  | _, _, _ => none
end
/-- the lists that a walk leans on stand as they did -/
def watch (ρ : Env) : List (Nat × D) → Bool
  | [] => true
  | (i, d) :: r => decide (eget ρ i = some d) && watch ρ r
/-- what a loop walks: its items, the slots that it leans on -/
abbrev Wk := List D × List (Nat × D)
def forL (ws : List (Nat × D)) (t : Tg) (body : Env → Option (Fl × Env)) : List D → Env → Option (Fl × Env)
  | [], ρ => if watch ρ ws then some (.nx, ρ) else none
  | d :: ds, ρ => if watch ρ ws then (match bindT t d ρ with
    | some ρ1 => match body ρ1 with
      | some (.nx, ρ2) => forL ws t body ds ρ2
      | some (.ct, ρ2) => forL ws t body ds ρ2
      | some (.bk, ρ2) => some (.nx, ρ2)
      | some (.rt d, ρ2) => some (.rt d, ρ2)
      | none => none
    | none => none) else none
def compL (ws : List (Nat × D)) (own : List Nat) (t : Tg) (cond : Env → Option (Bool × Env)) (elt : Env → Option (D × Env)) : List D → Env → List D → Option (List D × Env)
  | [], ρ, acc => if watch ρ ws then some (acc, ρ) else none
  | d :: ds, ρ, acc => if watch ρ ws then (match bindT t d ρ with
    | some ρ1 => match cond ρ1 with
      | some (true, ρ2) => match elt ρ2 with
        | some (v, ρ3) => if decide (acc.length < sizeLine) then compL ws own t cond elt ds (ewipe ρ3 own) (acc ++ [v]) else none
        | none => none
      | some (false, ρ2) => compL ws own t cond elt ds (ewipe ρ2 own) acc
      | none => none
    | none => none) else none
def whlF (c : Env → Option (Bool × Env)) (body : Env → Option (Fl × Env)) : Nat → Env → Option (Fl × Env)
  | 0, _ => none
  | n + 1, ρ => match c ρ with
    | some (true, ρ1) => match body ρ1 with
      | some (.nx, ρ2) => whlF c body n ρ2
      | some (.ct, ρ2) => whlF c body n ρ2
      | some (.bk, ρ2) => some (.nx, ρ2)
      | some (.rt d, ρ2) => some (.rt d, ρ2)
      | none => none
    | some (false, ρ1) => some (.nx, ρ1)
    | none => none
def asBl : Option (D × Env) → Option (Bool × Env)
  | some (.bl b, ρ) => some (b, ρ)
  | _ => none
def take (i : Nat) (ρ : Env) : Option (D × Env) := match eget ρ i with
  | some d => if d.imm then some (d, ρ) else some (d, eset ρ i none)
  | none => none
def isMut : Option D → Bool
  | some (.lst _) => true
  | some (.dT _ _) => true
  | _ => false
def isTupD : D → Bool
  | .tup _ => true
  | _ => false
def isLst : Option D → Bool
  | some (.lst _) => true
  | _ => false
/-- of an operand that is walked: its slot, if it is a list -/
def watchOf : Opd → D → List (Nat × D)
  | .ref i, d => [(i, d)]
  | .val _, _ => []
abbrev Cf := Nat → Env → Option (D × Env)
section
variable (cf : Cf)
mutual
def evE : E → Env → Option (D × Env)
  | .int i, ρ => some (.int i, ρ)
  | .bl b, ρ => some (.bl b, ρ)
  | .non, ρ => some (.non, ρ)
  | .str x, ρ => some (.str x, ρ)
  | .con _ d, ρ => if d.imm then some (d, ρ) else none
  | .var i, ρ => take i ρ
  | .prim p es, ρ => match evOps es ρ with
    | some (os, ρ1) => match opds ρ1 os with
      | some ds => match primD p ds with
        | some d => some (d, ρ1)
        | none => none
      | none => none
    | none => none
  | .meth m i es, ρ => if isLst (eget ρ i) then (match evTk es ρ with
    | some (ds, ρ1) => match eget ρ1 i with
      | some r => match methD m r ds with
        | some (d, r') => some (d, eset ρ1 i (some r'))
        | none => none
      | none => none
    | none => none) else none
  | .call f es, ρ => match evOps es ρ with
    | some (os, ρ1) => match opds ρ1 os with
      | some ds => if decide ((lent os ds).Nodup) then (match cf f (ds.map some) with
        | some (d, fin) => some (d, giveBack os ds fin (ewipe ρ1 (lent os ds)))
        | none => none) else none
      | none => none
    | none => none
  | .andE a b, ρ => match evE a ρ with
    | some (.bl true, ρ1) => (match evE b ρ1 with
      | some (.bl c, ρ2) => some (.bl c, ρ2)
      | _ => none)
    | some (.bl false, ρ1) => some (.bl false, ρ1)
    | _ => none
  | .orE a b, ρ => match evE a ρ with
    | some (.bl false, ρ1) => (match evE b ρ1 with
      | some (.bl c, ρ2) => some (.bl c, ρ2)
      | _ => none)
    | some (.bl true, ρ1) => some (.bl true, ρ1)
    | _ => none
  | .notE a, ρ => match evE a ρ with
    | some (.bl b, ρ1) => some (.bl (!b), ρ1)
    | _ => none
  | .chain p q a b c, ρ => match evE a ρ with
    | some (x, ρ1) => match evE b ρ1 with
      | some (y, ρ2) => if x.imm && y.imm then (match cmpD p x y with
        | some true => match evE c ρ2 with
          | some (z, ρ3) => if z.imm then (match cmpD q y z with
            | some r => some (.bl r, ρ3)
            | none => none) else none
          | none => none
        | some false => some (.bl false, ρ2)
        | none => none) else none
      | none => none
    | none => none
  | .ife c a b, ρ => match evE c ρ with
    | some (.bl true, ρ1) => evE a ρ1
    | some (.bl false, ρ1) => evE b ρ1
    | _ => none
  | .disp t st es, ρ => match evDisp st es ρ with
    | some (ds, ρ1) => if decide (ds.length ≤ sizeLine) then some (if t then .tup ds else .lst ds, ρ1) else none
    | none => none
  | .comp own t it cs elt, ρ => match evIt it ρ with
    | some ((ds, ws), ρ1) => match compL ws own t (fun r => evCs cs r) (fun r => evE elt r) ds (ewipe ρ1 own) [] with
      | some (vs, ρ2) => some (.lst vs, erest ρ1 ρ2 own)
      | none => none
    | none => none
  | .dnew, ρ => some (.dT [] [], ρ)
  | .done k v, ρ => match evE k ρ with
    | some (kd, ρ1) => match evE v ρ1 with
      | some (vd, ρ2) => match keyOf kd with
        | some k => if vd.imm then some (.dT [k] [vd], ρ2) else none
        | none => none
      | none => none
    | none => none
/-- operands: a name's own list stays with the name -/
def evOps : List E → Env → Option (List Opd × Env)
  | [], ρ => some ([], ρ)
  | e :: es, ρ => match opOf e (evE e ρ) ρ with
    | some (o, ρ1) => match evOps es ρ1 with
      | some (os, ρ2) => some (o :: os, ρ2)
      | none => none
    | none => none
def evTk : List E → Env → Option (List D × Env)
  | [], ρ => some ([], ρ)
  | e :: es, ρ => match evE e ρ with
    | some (d, ρ1) => match evTk es ρ1 with
      | some (ds, ρ2) => some (d :: ds, ρ2)
      | none => none
    | none => none
def evDisp : List Bool → List E → Env → Option (List D × Env)
  | false :: st, e :: es, ρ => match evE e ρ with
    | some (d, ρ1) => match evDisp st es ρ1 with
      | some (ds, ρ2) => some (d :: ds, ρ2)
      | none => none
    | none => none
  | true :: st, e :: es, ρ => match evE e ρ with
    | some (d, ρ1) => match d.seq? with
      | some l => if D.imms l then (match evDisp st es ρ1 with
        | some (ds, ρ2) => some (l ++ ds, ρ2)
        | none => none) else none
      | none => none
    | none => none
  | [], [], ρ => some ([], ρ)
  | _, _, _ => none
def evCs : List E → Env → Option (Bool × Env)
  | [], ρ => some (true, ρ)
  | e :: es, ρ => match evE e ρ with
    | some (.bl true, ρ1) => evCs es ρ1
    | some (.bl false, ρ1) => some (false, ρ1)
    | _ => none
def evIt : It → Env → Option (Wk × Env)
  | .seq e, ρ => match opOf e (evE e ρ) ρ with
    | some (o, ρ1) => match opdD ρ1 o with
      | some d => match d.seq? with
        | some l => if D.imms l then some ((l, watchOf o d), ρ1) else none
        | none => none
      | none => none
    | none => none
  | .seqT e, ρ => match opOf e (evE e ρ) ρ with
    | some (o, ρ1) => match opdD ρ1 o with
      | some d => match d.seq? with
        | some l => if D.imms l then (if l.all isTupD then some ((l, watchOf o d), ρ1) else none) else none
        | none => none
      | none => none
    | none => none
  | .rng es, ρ => match evOps es ρ with
    | some (os, ρ1) => match opds ρ1 os with
      | some [.int b] => (rangeD 0 b).map fun l => ((l, []), ρ1)
      | some [.int a, .int b] => (rangeD a b).map fun l => ((l, []), ρ1)
      | _ => none
    | none => none
  | .zip a b, ρ => match opOf a (evE a ρ) ρ with
    | some (o, ρ1) => match opOf b (evE b ρ1) ρ1 with
      | some (o', ρ2) => match opdD ρ2 o, opdD ρ2 o' with
        | some d, some d' => match d.seq?, d'.seq? with
          | some l, some l' => if D.imms l && D.imms l' && (isTupD d == isTupD d') then some (((l.zip l').map fun (x, y) => .tup [x, y], watchOf o d ++ watchOf o' d'), ρ2) else none
          | _, _ => none
        | _, _ => none
      | none => none
    | none => none
  | .keys i, ρ => match eget ρ i with
    | some (.dT ks vs) => some ((ks.map keyD, [(i, .dT ks vs)]), ρ)
    | _ => none
end
def whFuel : Nat := 1000000
mutual
def evS : S → Env → Option (Fl × Env)
  | .asg t e, ρ => match evE cf e ρ with
    | some (d, ρ1) => (bindT t d ρ1).map fun ρ2 => (.nx, ρ2)
    | none => none
  | .par is es, ρ => match evTk cf es ρ with
    | some (ds, ρ1) => (bindTs (is.map .nm) ds ρ1).map fun ρ2 => (.nx, ρ2)
    | none => none
  | .setix i ix e, ρ => match evE cf e ρ with
    | some (d, ρ1) => if isMut (eget ρ1 i) then (match evE cf ix ρ1 with
      | some (x, ρ2) => match eget ρ2 i with
        | some (.lst l) => match x with
          | .int n => match ixN l.length n with
            | some j => if d.imm && D.imms l then some (.nx, eset ρ2 i (some (.lst (l.set j d)))) else none
            | none => none
          | _ => none
        | some (.dT ks vs) => match keyOf x with
          | some k => if d.imm && decide (ks.length < sizeLine) && D.imms vs then (if memT k ks then some (.nx, eset ρ2 i (some (.dT ks (putT ks vs k d)))) else some (.nx, eset ρ2 i (some (.dT (ks ++ [k]) (vs ++ [d]))))) else none
          | none => none
        | _ => none
      | none => none) else none
    | none => none
  | .expr e, ρ => match evE cf e ρ with
    | some (_, ρ1) => some (.nx, ρ1)
    | none => none
  | .ret e, ρ => match evE cf e ρ with
    | some (d, ρ1) => some (.rt d, ρ1)
    | none => none
  | .retN, ρ => some (.rt .non, ρ)
  | .ifs c a b, ρ => match evE cf c ρ with
    | some (.bl true, ρ1) => evSs a ρ1
    | some (.bl false, ρ1) => evSs b ρ1
    | _ => none
  | .for t it b, ρ => match evIt cf it ρ with
    | some ((ds, ws), ρ1) => forL ws t (fun r => evSs b r) ds ρ1
    | none => none
  | .whl c b, ρ => whlF (fun r => asBl (evE cf c r)) (fun r => evSs b r) whFuel ρ
  | .brk, ρ => some (.bk, ρ)
  | .cnt, ρ => some (.ct, ρ)
  | .pass, ρ => some (.nx, ρ)
  | .raise, _ => none
def evSs : List S → Env → Option (Fl × Env)
  | [], ρ => some (.nx, ρ)
  | s :: ss, ρ => match evS s ρ with
    | some (.nx, ρ1) => evSs ss ρ1
    | r => r
end
end

/-! ### functions -/
structure Fn where
  par : Nat
  slots : Nat
  pins : List Nat
  body : List S
/-- what is lent must come at a place that is not stored -/
def pinned (pins : List Nat) : Nat → Env → Bool
  | _, [] => true
  | i, some d :: r => (d.imm || pins.contains i) && pinned pins (i + 1) r
  | _, none :: _ => false
def finOf : Env → Env → Env
  | some d :: r, f :: fs => (if d.imm then some d else f) :: finOf r fs
  | _, _ => []
def callFn (cf : Cf) (f : Fn) (ρ : Env) : Option (D × Env) :=
  if decide (ρ.length = f.par) && pinned f.pins 0 ρ then
    (match evSs cf f.body (ρ ++ List.replicate (f.slots - f.par) none) with
    | some (.rt d, ρ') => some (d, finOf ρ ρ')
    | some (.nx, ρ') => some (.non, finOf ρ ρ')
    | _ => none)
  else none
def callF (prog : Nat → Option Fn) : Nat → Nat → Env → Option (D × Env)
  | 0, _, _ => none
  | k + 1, f, ρ => match prog f with
    | some fn => callFn (callF prog k) fn ρ
    | none => none
end DL
set_option maxHeartbeats 1000000
/-! D2: how values stand in the abstract heap: Rep, environments, what is kept. -/
namespace DL
open PySem PySem.Spec PyProof.Rows L2

def IsMut : HO → Prop
  | .lst _ => True
  | .ext _ => True
  | _ => False
/-- a dict with tuple keys by its own object -/
def RawT (P : Program) (w : World) (d : Addr) (xs : List (List Key × Addr × Value)) : Heap → Prop := fun h =>
  ∃ o es ep, h.get? d = some o ∧ o.ExactDict ∧ o.data = .dict es ep ∧ es.toList = xs.map (entryOfKey (tupleKind (mixKind P w)))
/-- a tuple whose object has no dict -/
def TupOk (K : PySem.W.Frag) (H : Hp) (a : Addr) (vs : List V) : Prop :=
  (∃ o, H a = some (.frz o (.tup vs)) ∧ o.dict = none) ∨
    (∃ (o : Obj) (its : Array Value) (n : Nat), K.lookup a = some o ∧ o.cls = .type "tuple" ∧ o.dict = none ∧ o.data = .seq its n ∧ its.size ≤ sizeLine ∧ Vals vs its.toList)
/-- a list that nobody may change -/
def LstOk (K : PySem.W.Frag) (H : Hp) (a : Addr) (vs : List V) : Prop :=
  (∃ o, H a = some (.frz o (.lst vs))) ∨
    (∃ (o : Obj) (its : Array Value) (n : Nat), K.lookup a = some o ∧ o.cls = .type "list" ∧ o.dict = none ∧ o.data = .seq its n ∧ its.size ≤ sizeLine ∧ Vals vs its.toList)
mutual
inductive Rep (P : Program) (w : World) (K : PySem.W.Frag) (H : Hp) : D → V → List Addr → Prop
  | non : Rep P w K H .non .non []
  | bl (b : Bool) : Rep P w K H (.bl b) (.bl b) []
  | int (i : Int) : Rep P w K H (.int i) (.int i) []
  | str (x : Str) : Rep P w K H (.str x) (.str x) []
  | tup {a : Addr} {vs : List V} {ds : List D} {F : List Addr} : TupOk K H a vs → ds.length ≤ sizeLine → RepL P w K H ds vs F → Rep P w K H (.tup ds) (.ref a) F
  | lst {a : Addr} {vs : List V} {ds : List D} {F : List Addr} : H a = some (.lst vs) → ds.length ≤ sizeLine → RepL P w K H ds vs F → Rep P w K H (.lst ds) (.ref a) (a :: F)
  | frz {a : Addr} {vs : List V} {ds : List D} : LstOk K H a vs → ds.length ≤ sizeLine → RepL P w K H ds vs [] → Rep P w K H (.frz ds) (.ref a) []
  | dT {d : Addr} {xs : List (List Key × Addr × Value)} {vs : List V} {ds : List D} {F : List Addr} {ks : List (List Key)} : H d = some (.ext (RawT P w d xs)) → ks = xs.map (·.1) → ks.Nodup → (d == sysModules) = false →
      (∀ x ∈ xs, TupOk K H x.2.1 (x.1.map kV)) → Vals vs (xs.map (·.2.2)) → xs.length ≤ sizeLine → RepL P w K H ds vs F → Rep P w K H (.dT ks ds) (.ref d) (d :: F)
inductive RepL (P : Program) (w : World) (K : PySem.W.Frag) (H : Hp) : List D → List V → List Addr → Prop
  | nil : RepL P w K H [] [] []
  | cons {d : D} {v : V} {F : List Addr} {ds : List D} {vs : List V} {G : List Addr} : Rep P w K H d v F → RepL P w K H ds vs G → RepL P w K H (d :: ds) (v :: vs) (F ++ G)
end
section
variable {P : Program} {w : World} {K : PySem.W.Frag} {H H' : Hp}

theorem TupOk.sq {a : Addr} {vs : List V} (h : TupOk K H a vs) : SqT K H a vs := by
  rcases h with ⟨o, h, _⟩ | ⟨o, its, n, h1, h2, _, h4, h5, h6⟩
  · exact .inl (.inr ⟨o, h⟩)
  · exact .inr ⟨o, its, n, h1, h2, h4, h5, h6⟩
theorem LstOk.sq {a : Addr} {vs : List V} (h : LstOk K H a vs) : SqL K H a vs := by
  rcases h with ⟨o, h⟩ | ⟨o, its, n, h1, h2, h3, h4, h5, h6⟩
  · exact .inl (.inr ⟨o, h⟩)
  · exact .inr ⟨o, its, n, h1, h2, h3, h4, h5, h6⟩
/-- what does not change is kept -/
def Stays (H H' : Hp) : Prop := ∀ a o, H a = some o → ¬ IsMut o → H' a = some o
theorem TupOk.stay {a : Addr} {vs : List V} (h : TupOk K H a vs) (s : Stays H H') : TupOk K H' a vs := by
  rcases h with ⟨o, h, hd⟩ | h
  · exact .inl ⟨o, s a _ h (fun z => z), hd⟩
  · exact .inr h
theorem LstOk.stay {a : Addr} {vs : List V} (h : LstOk K H a vs) (s : Stays H H') : LstOk K H' a vs := by
  rcases h with ⟨o, h⟩ | h
  · exact .inl ⟨o, s a _ h (fun z => z)⟩
  · exact .inr h

mutual
theorem Rep.imm_nil : ∀ {d : D} {v : V} {F : List Addr}, d.imm = true → Rep P w K H d v F → F = []
  | .non, _, _, _, h => by cases h; rfl
  | .bl _, _, _, _, h => by cases h; rfl
  | .int _, _, _, _, h => by cases h; rfl
  | .str _, _, _, _, h => by cases h; rfl
  | .tup ds, _, _, i, h => by
    rw [D.imm] at i
    cases h with
    | tup _ _ hl => exact RepL.imm_nil i hl
  | .frz ds, _, _, _, h => by cases h; rfl
  | .lst ds, _, _, i, _ => by simp [D.imm] at i
  | .dT _ _, _, _, i, _ => by simp [D.imm] at i
theorem RepL.imm_nil : ∀ {ds : List D} {vs : List V} {F : List Addr}, D.imms ds = true → RepL P w K H ds vs F → F = []
  | [], _, _, _, h => by cases h; rfl
  | d :: ds, _, _, i, h => by
    rw [D.imms, Bool.and_eq_true] at i
    cases h with
    | cons h1 h2 => rw [Rep.imm_nil i.1 h1, RepL.imm_nil i.2 h2]; rfl
end
mutual
theorem Rep.mut : ∀ {d : D} {v : V} {F : List Addr}, Rep P w K H d v F → ∀ a ∈ F, ∃ o, H a = some o ∧ IsMut o
  | .non, _, _, h, a, ha => by cases h; cases ha
  | .bl _, _, _, h, a, ha => by cases h; cases ha
  | .int _, _, _, h, a, ha => by cases h; cases ha
  | .str _, _, _, h, a, ha => by cases h; cases ha
  | .tup ds, _, _, h, a, ha => by
    cases h with
    | tup _ _ hl => exact RepL.mut hl a ha
  | .frz ds, _, _, h, a, ha => by cases h; cases ha
  | .lst ds, _, _, h, a, ha => by
    cases h with
    | lst h1 _ hl =>
      rcases List.mem_cons.mp ha with rfl | ha
      · exact ⟨_, h1, trivial⟩
      · exact RepL.mut hl a ha
  | .dT _ ds, _, _, h, a, ha => by
    cases h with
    | dT h1 _ _ _ _ _ _ hl =>
      rcases List.mem_cons.mp ha with rfl | ha
      · exact ⟨_, h1, trivial⟩
      · exact RepL.mut hl a ha
theorem RepL.mut : ∀ {ds : List D} {vs : List V} {F : List Addr}, RepL P w K H ds vs F → ∀ a ∈ F, ∃ o, H a = some o ∧ IsMut o
  | [], _, _, h, a, ha => by cases h; cases ha
  | d :: ds, _, _, h, a, ha => by
    cases h with
    | cons h1 h2 =>
      rcases List.mem_append.mp ha with ha | ha
      · exact Rep.mut h1 a ha
      · exact RepL.mut h2 a ha
end
mutual
theorem Rep.stay : ∀ {d : D} {v : V} {F : List Addr}, Rep P w K H d v F → Stays H H' → (∀ a ∈ F, ∀ o, H a = some o → H' a = some o) → Rep P w K H' d v F
  | .non, _, _, h, _, _ => by cases h; exact .non
  | .bl _, _, _, h, _, _ => by cases h; exact .bl _
  | .int _, _, _, h, _, _ => by cases h; exact .int _
  | .str _, _, _, h, _, _ => by cases h; exact .str _
  | .tup ds, _, _, h, s, k => by
    cases h with
    | tup h1 h2 hl => exact .tup (h1.stay s) h2 (RepL.stay hl s k)
  | .frz ds, _, _, h, s, k => by
    cases h with
    | frz h1 h2 hl => exact .frz (h1.stay s) h2 (RepL.stay hl s fun _ ha => nomatch ha)
  | .lst ds, _, _, h, s, k => by
    cases h with
    | lst h1 h2 hl => exact .lst (k _ List.mem_cons_self _ h1) h2 (RepL.stay hl s fun a ha => k a (List.mem_cons_of_mem _ ha))
  | .dT _ ds, _, _, h, s, k => by
    cases h with
    | dT h1 h0 h2 h3 h4 h5 h6 hl => exact .dT (k _ List.mem_cons_self _ h1) h0 h2 h3 (fun x hx => (h4 x hx).stay s) h5 h6 (RepL.stay hl s fun a ha => k a (List.mem_cons_of_mem _ ha))
theorem RepL.stay : ∀ {ds : List D} {vs : List V} {F : List Addr}, RepL P w K H ds vs F → Stays H H' → (∀ a ∈ F, ∀ o, H a = some o → H' a = some o) → RepL P w K H' ds vs F
  | [], _, _, h, _, _ => by cases h; exact .nil
  | d :: ds, _, _, h, s, k => by
    cases h with
    | cons h1 h2 => exact .cons (Rep.stay h1 s fun a ha => k a (List.mem_append_left _ ha)) (RepL.stay h2 s fun a ha => k a (List.mem_append_right _ ha))
end
theorem Same.stays (h : Same H H') : Stays H H' := fun a o e _ => h a o e
theorem Rep.same {d : D} {v : V} {F : List Addr} (h : Rep P w K H d v F) (s : Same H H') : Rep P w K H' d v F := h.stay (Same.stays s) fun a _ o e => s a o e
theorem RepL.same {ds : List D} {vs : List V} {F : List Addr} (h : RepL P w K H ds vs F) (s : Same H H') : RepL P w K H' ds vs F := h.stay (Same.stays s) fun a _ o e => s a o e

/-! ### rows of values that nothing changes -/
/-- each is a D without a footprint -/
abbrev RepI (P : Program) (w : World) (K : PySem.W.Frag) (H : Hp) : List D → List V → Prop := Paired fun d v => Rep P w K H d v []
theorem RepL.toI : ∀ {ds : List D} {vs : List V} {F : List Addr}, RepL P w K H ds vs F → F = [] → RepI P w K H ds vs
  | [], _, _, h, _ => by cases h; exact .nil
  | d :: ds, _, _, h, e => by
    cases h with
    | cons h1 h2 =>
      obtain ⟨e1, e2⟩ := List.append_eq_nil_iff.mp e
      subst e1
      exact .cons h1 (RepL.toI h2 e2)
theorem RepL.ofI : ∀ {ds : List D} {vs : List V}, RepI P w K H ds vs → RepL P w K H ds vs []
  | _, _, .nil => .nil
  | _, _, .cons h t => .cons (F := []) h (RepL.ofI t)
theorem RepL.length : ∀ {ds : List D} {vs : List V} {F : List Addr}, RepL P w K H ds vs F → ds.length = vs.length
  | [], _, _, h => by cases h; rfl
  | d :: ds, _, _, h => by
    cases h with
    | cons h1 h2 => simp [RepL.length h2]
theorem RepL.get : ∀ {ds : List D} {vs : List V} {F : List Addr} {i : Nat} {d : D}, RepL P w K H ds vs F → ds[i]? = some d → ∃ v G, vs[i]? = some v ∧ Rep P w K H d v G ∧ ∀ a ∈ G, a ∈ F
  | [], _, _, _, _, _, e => by simp at e
  | d :: ds, _, _, 0, x, h, e => by
    cases h with
    | cons h1 h2 =>
      simp at e
      subst e
      exact ⟨_, _, rfl, h1, fun a ha => List.mem_append_left _ ha⟩
  | d :: ds, _, _, i + 1, x, h, e => by
    cases h with
    | cons h1 h2 =>
      obtain ⟨v, G, h3, h4, h5⟩ := RepL.get (i := i) h2 (by simpa using e)
      exact ⟨v, G, by simpa using h3, h4, fun a ha => List.mem_append_right _ (h5 a ha)⟩
theorem RepL.append : ∀ {ds es : List D} {vs us : List V} {F G : List Addr}, RepL P w K H ds vs F → RepL P w K H es us G → RepL P w K H (ds ++ es) (vs ++ us) (F ++ G)
  | [], _, _, _, _, _, h, h' => by cases h; exact h'
  | d :: ds, _, _, _, _, _, h, h' => by
    cases h with
    | cons h1 h2 =>
      rw [List.append_assoc]
      exact .cons h1 (RepL.append h2 h')
theorem RepI.take {ds : List D} {vs : List V} (n : Nat) (h : RepI P w K H ds vs) : RepI P w K H (ds.take n) (vs.take n) := by
  induction h generalizing n with
  | nil => simp; exact .nil
  | cons h t ih =>
    cases n with
    | zero => exact .nil
    | succ n => exact .cons h (ih n)
theorem RepI.drop {ds : List D} {vs : List V} (n : Nat) (h : RepI P w K H ds vs) : RepI P w K H (ds.drop n) (vs.drop n) := by
  induction h generalizing n with
  | nil => simp; exact .nil
  | cons h t ih =>
    cases n with
    | zero => exact .cons h t
    | succ n => exact ih n
theorem RepI.append {ds es : List D} {vs us : List V} (h : RepI P w K H ds vs) (h' : RepI P w K H es us) : RepI P w K H (ds ++ es) (vs ++ us) := by
  induction h with
  | nil => exact h'
  | cons h t ih => exact .cons h ih
theorem RepI.reverse {ds : List D} {vs : List V} (h : RepI P w K H ds vs) : RepI P w K H ds.reverse vs.reverse := by
  induction h with
  | nil => exact .nil
  | cons h t ih =>
    rw [List.reverse_cons, List.reverse_cons]
    exact RepI.append ih (.cons h .nil)
theorem RepI.length {ds : List D} {vs : List V} (h : RepI P w K H ds vs) : ds.length = vs.length := Paired.length h
theorem RepI.get {ds : List D} {vs : List V} {i : Nat} {d : D} (h : RepI P w K H ds vs) (e : ds[i]? = some d) : ∃ v, vs[i]? = some v ∧ Rep P w K H d v [] := by
  induction h generalizing i with
  | nil => simp at e
  | cons h t ih =>
    cases i with
    | zero => simp at e; subst e; exact ⟨_, rfl, h⟩
    | succ i => exact ih (by simpa using e)
theorem RepI.same {ds : List D} {vs : List V} (h : RepI P w K H ds vs) (s : Same H H') : RepI P w K H' ds vs := Paired.mapP h fun _ _ q => q.same s
theorem imms_mem {ds : List D} (h : D.imms ds = true) : ∀ d ∈ ds, d.imm = true := by
  induction ds with
  | nil => intro d hd; cases hd
  | cons x xs ih =>
    rw [D.imms, Bool.and_eq_true] at h
    intro d hd
    rcases List.mem_cons.mp hd with rfl | hd
    · exact h.1
    · exact ih h.2 d hd
theorem imms_of {ds : List D} (h : ∀ d ∈ ds, d.imm = true) : D.imms ds = true := by
  induction ds with
  | nil => rw [D.imms]
  | cons x xs ih => rw [D.imms, h x List.mem_cons_self, ih fun d hd => h d (List.mem_cons_of_mem _ hd)]; rfl

/-! ### a D determines what a flat value is -/
theorem Rep.int_ {i : Int} {v : V} {F : List Addr} (h : Rep P w K H (.int i) v F) : v = .int i := by cases h; rfl
theorem Rep.bl_ {b : Bool} {v : V} {F : List Addr} (h : Rep P w K H (.bl b) v F) : v = .bl b := by cases h; rfl
theorem Rep.str_ {b : Str} {v : V} {F : List Addr} (h : Rep P w K H (.str b) v F) : v = .str b := by cases h; rfl
theorem Rep.non_ {v : V} {F : List Addr} (h : Rep P w K H .non v F) : v = .non := by cases h; rfl

/-! ### for == -/
mutual
def D.nod : D → Bool
  | .tup ds => D.nods ds
  | .lst ds => D.nods ds
  | .frz ds => D.nods ds
  | .dT _ _ => false
  | _ => true
def D.nods : List D → Bool
  | [] => true
  | d :: ds => D.nod d && D.nods ds
end
mutual
theorem D.nod_of : ∀ {d : D}, d.py.canLay0 = true → D.nod d = true
  | .non, _ => by rw [D.nod] <;> intros <;> simp_all
  | .bl _, _ => by rw [D.nod] <;> intros <;> simp_all
  | .int _, _ => by rw [D.nod] <;> intros <;> simp_all
  | .str _, _ => by rw [D.nod] <;> intros <;> simp_all
  | .tup ds, h => by rw [D.py, PyData.canLay0] at h; rw [D.nod]; exact D.nods_of h
  | .lst ds, h => by rw [D.py, PyData.canLay0] at h; rw [D.nod]; exact D.nods_of h
  | .frz ds, h => by rw [D.py, PyData.canLay0] at h; rw [D.nod]; exact D.nods_of h
  | .dT _ _, h => by simp [D.py, PyData.canLay0] at h
theorem D.nods_of : ∀ {ds : List D}, PyData.canLayAll0 (D.pys ds) = true → D.nods ds = true
  | [], _ => by rw [D.nods]
  | d :: ds, h => by
    rw [D.pys, PyData.canLayAll0, Bool.and_eq_true] at h
    rw [D.nods, D.nod_of h.1, D.nods_of h.2]; rfl
end
mutual
theorem Rep.dp : ∀ {d : D} {v : V} {F : List Addr}, Rep P w K H d v F → D.nod d = true → Dp K H v d.py
  | .non, _, _, h, _ => by cases h; rw [D.py]; exact .non
  | .bl _, _, _, h, _ => by cases h; rw [D.py]; exact .bl _
  | .int _, _, _, h, _ => by cases h; rw [D.py]; exact .int _
  | .str _, _, _, h, _ => by cases h; rw [D.py]; exact .str _
  | .tup ds, _, _, h, z => by
    cases h with
    | tup h1 _ hl =>
      rw [D.py]
      rw [D.nod] at z
      exact .tup h1.sq (RepL.dps hl z)
  | .frz ds, _, _, h, z => by
    cases h with
    | frz h1 _ hl =>
      rw [D.py]
      rw [D.nod] at z
      exact .lst h1.sq (RepL.dps hl z)
  | .lst ds, _, _, h, z => by
    cases h with
    | lst h1 _ hl =>
      rw [D.py]
      rw [D.nod] at z
      exact .lst (SqL.of h1) (RepL.dps hl z)
  | .dT _ ds, _, _, h, z => by simp [D.nod] at z
theorem RepL.dps : ∀ {ds : List D} {vs : List V} {F : List Addr}, RepL P w K H ds vs F → D.nods ds = true → DpAll K H vs (D.pys ds)
  | [], _, _, h, _ => by cases h; rw [D.pys]; exact .nil
  | d :: ds, _, _, h, z => by
    cases h with
    | cons h1 h2 =>
      rw [D.pys]
      rw [D.nods, Bool.and_eq_true] at z
      exact .cons (Rep.dp h1 z.1) (RepL.dps h2 z.2)
end
end

/-! ### environments -/
section
variable {P : Program} {w : World} {K : PySem.W.Frag} {H H' H1 H2 : Hp} {ρ ρ' ρ1 ρ2 : Env} {σ : L2.St} {Φ Φ' Φ1 Φ2 : Nat → List Addr}
structure EnvRep (P : Program) (w : World) (K : PySem.W.Frag) (H : Hp) (ρ : Env) (σ : L2.St) (Φ : Nat → List Addr) : Prop where
  len : ρ.length = σ.length
  rep : ∀ i d, eget ρ i = some d → ∃ v, σ[i]? = some (some v) ∧ Rep P w K H d v (Φ i)
  nod : ∀ i d, eget ρ i = some d → (Φ i).Nodup
  dis : ∀ i j d e, i ≠ j → eget ρ i = some d → eget ρ j = some e → ∀ a ∈ Φ i, a ∉ Φ j
/-- the addresses of the lists and dicts that an environment holds -/
def FP (ρ : Env) (Φ : Nat → List Addr) (a : Addr) : Prop := ∃ i d, eget ρ i = some d ∧ a ∈ Φ i
theorem EnvRep.mut (e : EnvRep P w K H ρ σ Φ) {a : Addr} (h : FP ρ Φ a) : ∃ o, H a = some o ∧ IsMut o := by
  obtain ⟨i, d, h1, h2⟩ := h
  obtain ⟨v, _, r⟩ := e.rep i d h1
  exact r.mut a h2
structure Post (P : Program) (w : World) (K : PySem.W.Frag) (σ : L2.St) (H : Hp) (ρ : Env) (Φ : Nat → List Addr) (H' : Hp) (ρ' : Env) (Φ' : Nat → List Addr) : Prop where
  env : EnvRep P w K H' ρ' σ Φ'
  keep : ∀ a o, H a = some o → ¬ FP ρ Φ a → H' a = some o
  new : ∀ a, FP ρ' Φ' a → H a = none ∨ FP ρ Φ a
/-- a value that stands apart from the environment -/
structure Res (P : Program) (w : World) (K : PySem.W.Frag) (H : Hp) (ρ : Env) (Φ : Nat → List Addr) (H' : Hp) (ρ' : Env) (Φ' : Nat → List Addr) (d : D) (v : V) (F : List Addr) : Prop where
  rep : Rep P w K H' d v F
  nod : F.Nodup
  dis : ∀ a ∈ F, ¬ FP ρ' Φ' a
  new : ∀ a ∈ F, H a = none ∨ FP ρ Φ a
theorem Post.refl (e : EnvRep P w K H ρ σ Φ) : Post P w K σ H ρ Φ H ρ Φ := ⟨e, fun _ _ h _ => h, fun _ h => .inr h⟩
theorem Post.none_ (p : Post P w K σ H ρ Φ H1 ρ1 Φ1) {a : Addr} (h : H1 a = none) : H a = none ∨ FP ρ Φ a := by
  by_cases f : FP ρ Φ a
  · exact .inr f
  · cases q : H a with
    | none => exact .inl rfl
    | some o =>
      rw [p.keep a o q f] at h
      cases h
theorem Post.trans (p : Post P w K σ H ρ Φ H1 ρ1 Φ1) (q : Post P w K σ H1 ρ1 Φ1 H2 ρ2 Φ2) : Post P w K σ H ρ Φ H2 ρ2 Φ2 := by
  refine ⟨q.env, fun a o h n => ?_, fun a h => ?_⟩
  · have h1 := p.keep a o h n
    refine q.keep a o h1 fun f => ?_
    rcases p.new a f with z | z
    · rw [h] at z; cases z
    · exact n z
  · rcases q.new a h with z | z
    · exact p.none_ z
    · exact p.new a z
theorem Post.stays (p : Post P w K σ H ρ Φ H1 ρ1 Φ1) (e : EnvRep P w K H ρ σ Φ) : Stays H H1 := fun a o h n => by
  refine p.keep a o h fun f => ?_
  obtain ⟨o', h1, h2⟩ := e.mut f
  rw [h] at h1
  cases h1
  exact n h2
/-- what stands apart from the environment stays while an expression runs -/
theorem Post.rep (q : Post P w K σ H1 ρ1 Φ1 H2 ρ2 Φ2) (e : EnvRep P w K H1 ρ1 σ Φ1) {d : D} {v : V} {F : List Addr} (r : Rep P w K H1 d v F) (n : ∀ a ∈ F, ¬ FP ρ1 Φ1 a) : Rep P w K H2 d v F :=
  r.stay (q.stays e) fun a ha o h => q.keep a o h (n a ha)
theorem Post.repL (q : Post P w K σ H1 ρ1 Φ1 H2 ρ2 Φ2) (e : EnvRep P w K H1 ρ1 σ Φ1) {d : List D} {v : List V} {F : List Addr} (r : RepL P w K H1 d v F) (n : ∀ a ∈ F, ¬ FP ρ1 Φ1 a) : RepL P w K H2 d v F :=
  r.stay (q.stays e) fun a ha o h => q.keep a o h (n a ha)
theorem Post.apart (q : Post P w K σ H1 ρ1 Φ1 H2 ρ2 Φ2) {F : List Addr} (m : ∀ a ∈ F, H1 a ≠ none) (n : ∀ a ∈ F, ¬ FP ρ1 Φ1 a) : ∀ a ∈ F, ¬ FP ρ2 Φ2 a := fun a ha f => by
  rcases q.new a f with z | z
  · exact m a ha z
  · exact n a ha z
/-- a heap that only grew -/
theorem EnvRep.same (e : EnvRep P w K H ρ σ Φ) (s : Same H H') : EnvRep P w K H' ρ σ Φ :=
  ⟨e.len, fun i d h => let ⟨v, h1, h2⟩ := e.rep i d h; ⟨v, h1, h2.same s⟩, e.nod, e.dis⟩
theorem Post.same (p : Post P w K σ H ρ Φ H1 ρ1 Φ1) (s : Same H1 H2) : Post P w K σ H ρ Φ H2 ρ1 Φ1 :=
  ⟨p.env.same s, fun a o h n => s a o (p.keep a o h n), p.new⟩
theorem Same.refl' (H : Hp) : Same H H := fun _ _ h => h

/-! ### single slots -/
theorem eget_eset_same {i : Nat} {o : Option D} (h : i < ρ.length) : eget (eset ρ i o) i = o := by
  unfold eget eset
  rw [List.getElem?_set_self h]
  rfl
theorem eget_eset_ne {i j : Nat} {o : Option D} (h : i ≠ j) : eget (eset ρ i o) j = eget ρ j := by
  unfold eget eset
  rw [List.getElem?_set_ne h]
theorem eset_length {i : Nat} {o : Option D} : (eset ρ i o).length = ρ.length := by unfold eset; rw [List.length_set]
theorem eget_lt {i : Nat} {d : D} (h : eget ρ i = some d) : i < ρ.length := by
  unfold eget at h
  by_cases q : i < ρ.length
  · exact q
  · rw [List.getElem?_eq_none (by omega)] at h
    cases h
theorem eget_eset_none {i j : Nat} {d : D} (h : eget (eset ρ i none) j = some d) : j ≠ i ∧ eget ρ j = some d := by
  by_cases e : i = j
  · subst e
    have hl : i < ρ.length := by
      have := eget_lt h
      rwa [eset_length] at this
    rw [eget_eset_same hl] at h
    cases h
  · rw [eget_eset_ne e] at h
    exact ⟨fun z => e z.symm, h⟩
/-- a slot is forgotten -/
theorem EnvRep.drop (e : EnvRep P w K H ρ σ Φ) (i : Nat) : EnvRep P w K H (eset ρ i none) σ Φ :=
  ⟨by rw [eset_length]; exact e.len, fun j d h => e.rep j d (eget_eset_none h).2, fun j d h => e.nod j d (eget_eset_none h).2, fun j k d d' n h h' => e.dis j k d d' n (eget_eset_none h).2 (eget_eset_none h').2⟩
theorem FP.drop {i : Nat} {a : Addr} (h : FP (eset ρ i none) Φ a) : FP ρ Φ a := let ⟨j, d, h1, h2⟩ := h; ⟨j, d, (eget_eset_none h1).2, h2⟩
/-- a slot is filled with something that stands apart -/
def fset (Φ : Nat → List Addr) (i : Nat) (F : List Addr) : Nat → List Addr := fun j => if j = i then F else Φ j
theorem fset_same {i : Nat} {F : List Addr} : fset Φ i F i = F := by unfold fset; rw [if_pos rfl]
theorem fset_ne {i j : Nat} {F : List Addr} (h : j ≠ i) : fset Φ i F j = Φ j := by unfold fset; rw [if_neg h]
theorem EnvRep.put {i : Nat} {d : D} {v : V} {F : List Addr} {σ' : L2.St} (e : EnvRep P w K H ρ σ Φ) (r : Rep P w K H d v F) (hn : F.Nodup) (n : ∀ a ∈ F, ¬ FP (eset ρ i none) Φ a) (hi : i < ρ.length) (hσ : σ'.length = σ.length) (h1 : σ'[i]? = some (some v)) (h2 : ∀ j, j ≠ i → σ'[j]? = σ[j]?) :
    EnvRep P w K H (eset ρ i (some d)) σ' (fset Φ i F) := by
  have get : ∀ {j : Nat} {x : D}, eget (eset ρ i (some d)) j = some x → (j = i ∧ x = d) ∨ (j ≠ i ∧ eget ρ j = some x) := fun {j x} h => by
    by_cases q : i = j
    · subst q
      rw [eget_eset_same hi] at h
      cases h
      exact .inl ⟨rfl, rfl⟩
    · rw [eget_eset_ne q] at h
      exact .inr ⟨fun z => q z.symm, h⟩
  have fp : ∀ {j : Nat} {x : D}, j ≠ i → eget ρ j = some x → ∀ a ∈ Φ j, FP (eset ρ i none) Φ a := fun {j x} q h a ha => ⟨j, x, by rw [eget_eset_ne (Ne.symm q)]; exact h, ha⟩
  refine ⟨by rw [eset_length, e.len, hσ], fun j x h => ?_, fun j x h => ?_, fun j k x y q h h' => ?_⟩
  · rcases get h with ⟨rfl, rfl⟩ | ⟨q, h⟩
    · exact ⟨v, h1, by rw [fset_same]; exact r⟩
    · obtain ⟨u, h3, h4⟩ := e.rep j x h
      exact ⟨u, by rw [h2 j q]; exact h3, by rw [fset_ne q]; exact h4⟩
  · rcases get h with ⟨rfl, rfl⟩ | ⟨q, h⟩
    · rw [fset_same]; exact hn
    · rw [fset_ne q]; exact e.nod j x h
  · rcases get h with ⟨ej, ex⟩ | ⟨q1, g1⟩
    · rcases get h' with ⟨ek, ey⟩ | ⟨q2, g2⟩
      · exact absurd (ej.trans ek.symm) q
      · rw [ej, fset_same, fset_ne q2]
        exact fun a ha hb => n a ha (fp q2 g2 a hb)
    · rcases get h' with ⟨ek, ey⟩ | ⟨q2, g2⟩
      · rw [ek, fset_same, fset_ne q1]
        exact fun a ha hb => n a hb (fp q1 g1 a ha)
      · rw [fset_ne q1, fset_ne q2]
        exact e.dis j k x y q g1 g2
theorem FP.put {i : Nat} {d : D} {F : List Addr} {a : Addr} (hi : i < ρ.length) (h : FP (eset ρ i (some d)) (fset Φ i F) a) : a ∈ F ∨ FP (eset ρ i none) Φ a := by
  obtain ⟨j, x, h1, h2⟩ := h
  by_cases q : i = j
  · subst q
    rw [fset_same] at h2
    exact .inl h2
  · rw [fset_ne (fun z => q z.symm)] at h2
    rw [eget_eset_ne q] at h1
    exact .inr ⟨j, x, by rw [eget_eset_ne q]; exact h1, h2⟩
end
end DL
set_option maxHeartbeats 1000000
/-! D3: rules of the hand layer once more where tuples are to be known as objects, and some that lack there. -/
namespace DL
open PySem PySem.Spec PyProof.Rows L2
section
variable {X : Cx} {pins : List (Addr × Obj)} {σ : L2.St} {H : Hp} {s : Shared}
/-- a new tuple of these -/
def NT (Q : VK) (H : Hp) (vs : List V) : Prop := ∀ p o, o.dict = none → H p = none → Q (.ref p) (upd H p (.frz o (.tup vs)))
theorem laidT {h' : Heap} {t' : Nat} {its : List Value} {vs : List V} (I : Inv X pins σ H { s with heap := h', toks := t' }) (r : Vals vs its) (hz : vs.length ≤ sizeLine) :
    Inv X pins σ (upd H h'.objs.size (.frz { cls := .type "tuple", data := .seq its.toArray } (.tup vs))) { s with heap := h'.push { cls := .type "tuple", data := .seq its.toArray }, toks := t' } :=
  I.laid (t' := t') (o := .frz { cls := .type "tuple", data := .seq its.toArray } (.tup vs)) (fun b u e => Heap.get?_push_of_some _ e) (Nat.le_refl _)
    ⟨Heap.get?_push_size _ rfl, hz, its, r, IsTup.new _ _⟩
theorem ep_tup {h' : Heap} {t' : Nat} {its : List Value} {vs : List V} {Q : VK} (I : Inv X pins σ H { s with heap := h', toks := t' }) (r : Vals vs its) (hz : vs.length ≤ sizeLine) (q : NT Q H vs) :
    EP X pins σ Q (.ref h'.objs.size) { s with heap := h'.push { cls := .type "tuple", data := .seq its.toArray }, toks := t' } :=
  ⟨.ref h'.objs.size, _, laidT I r hz, rfl, q _ _ rfl (I.hok.fresh (Nat.le_refl _))⟩
/-- (a, b, ..) -/
theorem pe_tupF {es : List Expr} {t : TA} {x1 : Nat} {pos : Pos} (h : PA X es t) : PE X (.Tuple es x1 pos) (fun σ H Q => t σ H fun xs H1 => xs.length ≤ sizeLine ∧ NT Q H1 xs) := by
  refine ⟨fun pins s σ H Q I hq => ?_⟩
  refine wpAny_Tuple_spliced (thn (h.run pos pins s σ H _ I hq) fun us s1 ⟨xs, H1, I1, r, z, q⟩ => ⟨by rw [← r.length]; exact z, ?_⟩)
  exact ep_tup (s := s1) (h' := s1.heap) (t' := s1.toks) I1 r z q
/-- tuple(x) -/
theorem cr_tupF : CallR X (.type "tuple") (fun xs H Q => ∃ p ys, xs = [.ref p] ∧ ((SqL X.K H p ys ∧ NT Q H ys) ∨ (SqT X.K H p ys ∧ Q (.ref p) H))) := by
  intro pins s σ H xs us Q I r h
  obtain ⟨p, ys, rfl, h⟩ := h
  obtain ⟨u, rfl, rx⟩ := vals1 r
  cases rx
  rcases h with ⟨hq, q⟩ | ⟨hq, q⟩
  · obtain ⟨its, r', pl, hz⟩ := I.list hq
    have hlen := r'.length
    refine call_tuple_list pl.isList (fun h' kp => ?_) (by simp only [List.size_toArray] <;> omega)
    have I1 : Inv X pins σ H { s with heap := h' } := I.kept (t' := s.toks) kp
    exact ep_tup (s := s) (h' := h') (t' := s.toks) I1 r' hz q
  · obtain ⟨its, r', pl, hz⟩ := I.tuple hq
    exact call_tuple_same pl ⟨.ref p, H, I, rfl, q⟩
/-- t[lo:hi] -/
def rSlF (K : PySem.W.Frag) : V → Option Int → Option Int → Hp → VK → Prop := fun x lo hi H Q => ∃ a xs, x = .ref a ∧ SqT K H a xs ∧
  (HT.sIx xs.length 0 lo = 0 ∧ HT.sIx xs.length xs.length hi = xs.length → Q (.ref a) H) ∧ (¬ (HT.sIx xs.length 0 lo = 0 ∧ HT.sIx xs.length xs.length hi = xs.length) → NT Q H (cutV xs lo hi))
theorem sl_tupF : SlR X (rSlF X.K) := by
  intro pins s σ H x v vl vu lo hi sl Q I rx hs pl pu h
  obtain ⟨a, xs, rfl, hx, q1, q2⟩ := h
  cases rx
  obtain ⟨its, r, ht, hz⟩ := I.tuple hx
  have hlen : its.toArray.size = xs.length := by rw [List.size_toArray]; exact r.length.symm
  refine ⟨"tuple", _, PyProof.Rows.slot_tuple_getitem.lookup, ht.typeIs, ?_⟩
  by_cases hw : HT.sIx xs.length 0 lo = 0 ∧ HT.sIx xs.length xs.length hi = xs.length
  · exact getItem_tuple_whole ht hs pl pu (by rw [hlen]; exact hw) ⟨.ref a, H, I, rfl, q1 hw⟩
  · refine HT.getItem_tuple_cut ht hs pl pu (by rw [hlen]; exact hw) ?_ (by rw [hlen]; exact hz)
    rw [hlen]
    have e : its.toArray.toList = its := by simp
    rw [e]
    exact ep_tup (s := s) (h' := s.heap) (t' := s.toks) I ((r.drop (HT.sIx xs.length 0 lo)).take (HT.sIx xs.length xs.length hi - HT.sIx xs.length 0 lo)) (Nat.le_trans (cutV_length xs lo hi) hz) (q2 hw)
/-- t + u -/
def rCatF (K : PySem.W.Frag) : R2 := fun x y H Q => ∃ a b xs ys, x = .ref a ∧ y = .ref b ∧ SqT K H a xs ∧ SqT K H b ys ∧ xs.length + ys.length ≤ sizeLine ∧
  (xs = [] → Q (.ref b) H) ∧ (xs ≠ [] → ys = [] → Q (.ref a) H) ∧ (xs ≠ [] → ys ≠ [] → NT Q H (xs ++ ys))
theorem op_catF : OpR X (binaryOp .Add) (rCatF X.K) := by
  intro pins s σ H x y v u Q I rx ry h
  obtain ⟨a, b, xs, ys, rfl, rfl, ha, hb, hz, q0, q1, q2⟩ := h
  cases rx
  cases ry
  obtain ⟨its, r1, p1, _⟩ := I.tuple ha
  obtain ⟨its2, r2, p2, _⟩ := I.tuple hb
  by_cases hx : xs = []
  · subst hx
    cases r1
    exact cat_tup0 p1 p2 ⟨.ref b, H, I, rfl, q0 rfl⟩
  · refine HT.cat_tup p1 p2 (fun z => hx (r1.nil_iff.mp z)) (fun z => ⟨.ref a, H, I, rfl, q1 hx (r2.nil_iff.mp z)⟩) (fun z => ?_) (by rw [← r1.length, ← r2.length]; exact hz)
    exact ep_tup (s := s) (h' := s.heap) (t' := s.toks) I (r1.append r2) (by rw [List.length_append]; exact hz) (q2 hx (fun w => z (r2.nil_iff.mpr w)))
end

/-! ### tuple slices with a step -/
section
variable {prog : Program} {w : World} {A : Around} {E : Value → Shared → Prop} {s : Shared}
theorem sliceApplied_st {sl : Addr} {vl vu vs : Value} {lo hi : Option Int} {st : Int} {n : Nat} {Q : Int × Int × Nat → Shared → Prop} (hs : s.heap.IsSliceOf sl vl vu vs) (pl : IsPart vl lo) (pu : IsPart vu hi) (ps : IsPart vs (some st)) (h0 : st ≠ 0)
    (h : Q ((Builtin.Slice.sliceAdjust lo hi st (n : Int)).1, st, Builtin.Slice.slicePlaces (Builtin.Slice.sliceAdjust lo hi st (n : Int)).1 (Builtin.Slice.sliceAdjust lo hi st (n : Int)).2 st) s) : wpAny (model prog w) A (Builtin.Slice.sliceApplied (.ref sl) (pure (n : Int))) Q E s := by
  obtain ⟨os, hos, hcs, hds⟩ := id hs
  unfold Builtin.Slice.sliceApplied Builtin.Slice.sliceFields
  refine wpAny_bind (wpAny_bind (wpAny_field hos hds (x := vl) rfl (wpAny_bind (wpAny_field hos hds (x := vu) rfl (wpAny_bind (wpAny_field hos hds (x := vs) rfl (wpAny_pure ?_)))))))
  refine wpAny_bind (HT.slicePart_ ps ?_)
  show wpAny _ _ (if (st == 0) = true then _ else _) _ _ s
  rw [if_neg (by simpa using h0)]
  refine wpAny_bind (HT.slicePart_ pl (wpAny_bind (HT.slicePart_ pu (wpAny_bind (wpAny_pure ?_)))))
  exact wpAny_pure h
theorem getItem_tuple_step {t sl : Addr} {items : Array Value} {vl vu vs : Value} {lo hi : Option Int} {st : Int} {Q : Value → Shared → Prop} (ht : IsTup s.heap t items) (hs : s.heap.IsSliceOf sl vl vu vs) (pl : IsPart vl lo) (pu : IsPart vu hi) (ps : IsPart vs (some st)) (h0 : st ≠ 0) (h1 : st ≠ 1)
    {out : List Value} (ho : ((List.range (Builtin.Slice.slicePlaces (Builtin.Slice.sliceAdjust lo hi st (items.size : Int)).1 (Builtin.Slice.sliceAdjust lo hi st (items.size : Int)).2 st)).filterMap fun (m : Nat) => items[((Builtin.Slice.sliceAdjust lo hi st (items.size : Int)).1 + (m : Int) * st).toNat]?) = out) (hz : out.length ≤ sizeLine)
    (h : Q (.ref s.heap.objs.size) { s with heap := s.heap.push { cls := .type "tuple", data := .seq out.toArray } }) : wpAny (model prog w) A (getItem (.ref t) (.ref sl)) Q E s := by
  have htake : sizeOk (.seq out.toArray) := by
    show out.toArray.size ≤ sizeLine
    rw [List.size_toArray]
    exact hz
  obtain ⟨os, hos, hcs, hds⟩ := id hs
  have hTs : s.TypeIs (.ref sl) "slice" := ⟨os, hos, hcs⟩
  unfold getItem
  try with_reducible refine wpAny_holding ?_
  first | refine wpAny_bind (wpAny_pure ?_) | skip
  refine wpAny_bind (wpAny_sequenceKey ht.typeIs (by decide) ?_)
  refine wpAny_bind (wpAny_callSpecial?_slot (name := Str.ofString "__getitem__") ht.typeIs PyProof.Rows.slot_tuple_getitem
    (wpAny_call_entry PyProof.Rows.slot_tuple_getitem ht.typeIs entry_tuple_getitem ?_ (args_tuple_getitem _ _)))
  show wpAny _ _ (Builtin.Tuple.tupleItemsOf (.ref t) >>= _) _ _ s
  refine wpAny_bind (tupleItemsOf_ ht ?_)
  refine wpAny_bind (wpAny_typeOf hTs ?_)
  rw [if_pos (by decide)]
  refine wpAny_bind (sliceApplied_st hs pl pu ps h0 ?_)
  have hno : ¬ (((Builtin.Slice.sliceAdjust lo hi st (items.size : Int)).1 == 0 && st == 1 && (Builtin.Slice.slicePlaces (Builtin.Slice.sliceAdjust lo hi st (items.size : Int)).1 (Builtin.Slice.sliceAdjust lo hi st (items.size : Int)).2 st) == items.size) = true) := by
    intro q
    rw [Bool.and_eq_true, Bool.and_eq_true] at q
    exact h1 (eq_of_beq q.1.2)
  show wpAny _ _ (if ((Builtin.Slice.sliceAdjust lo hi st (items.size : Int)).1 == 0 && st == 1 && (Builtin.Slice.slicePlaces (Builtin.Slice.sliceAdjust lo hi st (items.size : Int)).1 (Builtin.Slice.sliceAdjust lo hi st (items.size : Int)).2 st) == items.size) = true then _ else _) _ _ s
  rw [if_neg hno, ho]
  first
    | exact wpAny_bind (m := Builtin.Tuple.tupleExact _) (wpAny_newObj_type (wpAny_pure ⟨_, rfl, wpAny_pure h⟩) htake)
    | exact wpAny_bind (m := Builtin.Tuple.tupleExact _) (wpAny_newObj_type (wpAny_bind (wpAny_pure (wpAny_pure ⟨_, rfl, wpAny_pure h⟩))) htake)
    | exact wpAny_bind (wpAny_bind (m := Builtin.Tuple.tupleExact _) (wpAny_newObj_type (wpAny_pure (wpAny_pure ⟨_, rfl, wpAny_pure h⟩)) htake))
    | exact wpAny_bind (wpAny_bind (m := Builtin.Tuple.tupleExact _) (wpAny_newObj_type (wpAny_pure ⟨_, rfl, wpAny_pure h⟩) htake))
end
end DL
set_option maxHeartbeats 1000000
/-! D4: further rules: slices backwards, tuple.index, dicts with tuple keys as objects, powers, in, min and sorted of data. -/
namespace DL
open PySem PySem.Spec PyProof.Rows L2

theorem revPick {α : Type} (xs : List α) : ∀ k, k ≤ xs.length → (List.range k).filterMap (fun m => xs[xs.length - 1 - m]?) = (xs.drop (xs.length - k)).reverse
  | 0, _ => by simp
  | k + 1, h => by
    rw [List.range_succ, List.filterMap_append, revPick xs k (by omega)]
    have h1 : xs.length - 1 - k < xs.length := by omega
    have e : xs.drop (xs.length - (k + 1)) = xs[xs.length - 1 - k] :: xs.drop (xs.length - k) := by
      rw [show xs.length - (k + 1) = xs.length - 1 - k by omega, List.drop_eq_getElem_cons h1]
      rw [show xs.length - 1 - k + 1 = xs.length - k by omega]
    rw [e, List.reverse_cons]
    simp [h1]
theorem filterMap_cg {α β : Type} {f g : α → Option β} : ∀ {l : List α}, (∀ x ∈ l, f x = g x) → l.filterMap f = l.filterMap g
  | [], _ => rfl
  | x :: l, h => by
    rw [List.filterMap_cons, List.filterMap_cons, h x List.mem_cons_self, filterMap_cg fun y hy => h y (List.mem_cons_of_mem _ hy)]
theorem pickBack {α : Type} (xs : Array α) (k : Nat) (h : k ≤ xs.size) : (List.range k).filterMap (fun (m : Nat) => xs[(((xs.size : Int) - 1) + (m : Int) * (-1)).toNat]?) = (xs.toList.drop (xs.size - k)).reverse := by
  have e := revPick xs.toList k (by simpa using h)
  rw [Array.length_toList] at e
  rw [← e]
  refine filterMap_cg fun m hm => ?_
  have h2 := List.mem_range.mp hm
  have e2 : (((xs.size : Int) - 1) + (m : Int) * (-1)).toNat = xs.size - 1 - m := by omega
  rw [e2, Array.getElem?_toList]
theorem adjBack (n : Nat) : Builtin.Slice.sliceAdjust none none (-1) (n : Int) = ((n : Int) - 1, -1) := by
  unfold Builtin.Slice.sliceAdjust
  simp
theorem adjBack0 (n : Nat) : Builtin.Slice.sliceAdjust none (some 0) (-1) (n : Int) = ((n : Int) - 1, min 0 ((n : Int) - 1)) := by
  unfold Builtin.Slice.sliceAdjust
  simp
theorem placesBack (n : Nat) : Builtin.Slice.slicePlaces ((n : Int) - 1) (-1) (-1) = n := by
  unfold Builtin.Slice.slicePlaces
  rw [if_neg (by decide)]
  by_cases h : (n : Int) - 1 > -1
  · rw [if_pos h]
    simp
  · rw [if_neg h]
    omega
theorem placesBack0 (n : Nat) : Builtin.Slice.slicePlaces ((n : Int) - 1) (min 0 ((n : Int) - 1)) (-1) = n - 1 := by
  unfold Builtin.Slice.slicePlaces
  rw [if_neg (by decide)]
  by_cases h : (n : Int) - 1 > min 0 ((n : Int) - 1)
  · rw [if_pos h]
    have : min 0 ((n : Int) - 1) = 0 := by omega
    rw [this]
    simp
  · rw [if_neg h]
    omega
section
variable {X : Cx}
/-- x[::-1] -/
def tRevA (K : PySem.W.Frag) (te : TE) : TE := fun σ H Q => te σ H fun x H1 => ∃ a xs, x = .ref a ∧ ((SqL K H1 a xs ∧ ∀ p, H1 p = none → Q (.ref p) (upd H1 p (.lst xs.reverse))) ∨ (SqT K H1 a xs ∧ NT Q H1 xs.reverse))
theorem pe_revA {e : Expr} {te : TE} {k : Nat} {p1 p2 p3 pos : Pos} (he : PE X e te) : PE X (.Subscript e (.Slice none none (some (.UnaryOp .USub (.Constant (.int 1) k p1) p2)) p3) pos) (tRevA X.K te) := by
  refine ⟨fun pins s σ H Q I h => ?_⟩
  refine Subscript_ (thn (he.run pins s σ H _ I h) fun v s1 ⟨x, H1, I1, r1, q1⟩ => ?_)
  obtain ⟨a, xs, ex, q1⟩ := q1
  subst ex
  cases r1
  have hst : PO X (some (.UnaryOp .USub (.Constant (.int 1) k p1) p2)) (tPart (tUn (rU fun i => .int (-i)) (tC (.int 1)))) := po_some (pe_un un_neg pe_int)
  refine wpAny_Slice (thn (po_none.run pins s1 σ H1 (fun o H2 => o = none ∧ H2 = H1) I1 ⟨rfl, rfl⟩) fun vl s2 ⟨l, H2, I2, pl, el, e2⟩ => ?_)
  subst el e2
  refine thn (po_none.run pins s2 σ H2 (fun o H3 => o = none ∧ H3 = H2) I2 ⟨rfl, rfl⟩) fun vu s3 ⟨u, H3, I3, pu, eu, e3⟩ => ?_
  subst eu e3
  refine thn (hst.run pins s3 σ H3 (fun o H4 => o = some (-1) ∧ H4 = H3) I3 ⟨1, rfl, -1, rfl, rfl, rfl⟩) fun vs s4 ⟨o, H4, I4, ps, eo, e4⟩ => ?_
  subst eo e4
  have I5 : Inv X pins σ H4 { s4 with heap := s4.heap.push { cls := .type "slice", data := .fields #[vl, vu, vs] } } := I4.kept (t' := s4.toks) fun b ob q => Heap.get?_push_of_some _ q
  show wpAny (model X.prog X.w) X.A (subscriptTail e (.Slice none none (some (.UnaryOp .USub (.Constant (.int 1) k p1) p2)) p3) (.ref a) (.ref s4.heap.objs.size)) (EP X pins σ Q) X.xe { s4 with heap := s4.heap.push { cls := .type "slice", data := .fields #[vl, vu, vs] } }
  rcases q1 with ⟨hx, q⟩ | ⟨hx, q⟩
  · obtain ⟨its, r, ht, hz⟩ := I5.list hx
    have hlen := r.length
    refine tail_any (ops := [.ref a, .ref s4.heap.objs.size]) ht.isList.typeIs (PySem.slot_list_getitem.lookup) ?_ (by with_unfolding_all rfl)
    refine wpAny_getItem_list_slice ht.isList (Heap.IsSliceOf.new _ vl vu vs) pl pu ps (by decide) ?_ (by rw [List.size_toArray]; omega)
    rw [PySem.W.krv_pick]
    refine ⟨.ref _, _, I5.laid (t' := s4.toks) (o := .lst xs.reverse) (fun b ob q => Heap.get?_push_of_some _ q) (Nat.le_refl _) ?_, rfl, q _ (I5.hok.fresh (Nat.le_refl _))⟩
    exact ⟨by rw [List.length_reverse]; exact hz, _, 0, r.reverse, Heap.get?_push_size _ rfl⟩
  · obtain ⟨its, r, ht, hz⟩ := I5.tuple hx
    have hlen := r.length
    refine tail_any (ops := [.ref a, .ref s4.heap.objs.size]) ht.typeIs (PyProof.Rows.slot_tuple_getitem.lookup) ?_ (by with_unfolding_all rfl)
    refine getItem_tuple_step ht (Heap.IsSliceOf.new _ vl vu vs) pl pu ps (by decide) (by decide) (out := its.reverse) ?_ (by rw [List.length_reverse]; omega) ?_
    · rw [adjBack, placesBack, pickBack _ _ (Nat.le_refl _), Nat.sub_self]
      simp
    · exact ep_tup (s := s4) (t' := s4.toks) I5 r.reverse (by rw [List.length_reverse]; exact hz) q
/-- t[:0:-1] -/
def tRev0 (K : PySem.W.Frag) (te : TE) : TE := fun σ H Q => te σ H fun x H1 => ∃ a xs, x = .ref a ∧ SqT K H1 a xs ∧ NT Q H1 (xs.drop 1).reverse
theorem pe_rev0 {e : Expr} {te : TE} {k k0 : Nat} {p0 p1 p2 p3 pos : Pos} (he : PE X e te) : PE X (.Subscript e (.Slice none (some (.Constant (.int 0) k0 p0)) (some (.UnaryOp .USub (.Constant (.int 1) k p1) p2)) p3) pos) (tRev0 X.K te) := by
  refine ⟨fun pins s σ H Q I h => ?_⟩
  refine Subscript_ (thn (he.run pins s σ H _ I h) fun v s1 ⟨x, H1, I1, r1, q1⟩ => ?_)
  obtain ⟨a, xs, ex, hx, q⟩ := q1
  subst ex
  cases r1
  have hst : PO X (some (.UnaryOp .USub (.Constant (.int 1) k p1) p2)) (tPart (tUn (rU fun i => .int (-i)) (tC (.int 1)))) := po_some (pe_un un_neg pe_int)
  have hhi : PO X (some (.Constant (.int 0) k0 p0)) (tPart (tC (.int 0))) := po_some pe_int
  refine wpAny_Slice (thn (po_none.run pins s1 σ H1 (fun o H2 => o = none ∧ H2 = H1) I1 ⟨rfl, rfl⟩) fun vl s2 ⟨l, H2, I2, pl, el, e2⟩ => ?_)
  subst el e2
  refine thn (hhi.run pins s2 σ H2 (fun o H3 => o = some 0 ∧ H3 = H2) I2 ⟨0, rfl, rfl, rfl⟩) fun vu s3 ⟨u, H3, I3, pu, eu, e3⟩ => ?_
  subst eu e3
  refine thn (hst.run pins s3 σ H3 (fun o H4 => o = some (-1) ∧ H4 = H3) I3 ⟨1, rfl, -1, rfl, rfl, rfl⟩) fun vs s4 ⟨o, H4, I4, ps, eo, e4⟩ => ?_
  subst eo e4
  have I5 : Inv X pins σ H4 { s4 with heap := s4.heap.push { cls := .type "slice", data := .fields #[vl, vu, vs] } } := I4.kept (t' := s4.toks) fun b ob q => Heap.get?_push_of_some _ q
  show wpAny (model X.prog X.w) X.A (subscriptTail e (.Slice none (some (.Constant (.int 0) k0 p0)) (some (.UnaryOp .USub (.Constant (.int 1) k p1) p2)) p3) (.ref a) (.ref s4.heap.objs.size)) (EP X pins σ Q) X.xe { s4 with heap := s4.heap.push { cls := .type "slice", data := .fields #[vl, vu, vs] } }
  obtain ⟨its, r, ht, hz⟩ := I5.tuple hx
  have hlen := r.length
  refine tail_any (ops := [.ref a, .ref s4.heap.objs.size]) ht.typeIs (PyProof.Rows.slot_tuple_getitem.lookup) ?_ (by with_unfolding_all rfl)
  refine getItem_tuple_step ht (Heap.IsSliceOf.new _ vl vu vs) pl pu ps (by decide) (by decide) (out := (its.drop 1).reverse) ?_ (by rw [List.length_reverse, List.length_drop]; omega) ?_
  · rw [adjBack0, placesBack0, pickBack _ _ (Nat.sub_le _ _)]
    simp only [List.size_toArray]
    cases its with
    | nil => simp
    | cons y ys => simp
  · exact ep_tup (s := s4) (t' := s4.toks) I5 (r.drop 1).reverse (by rw [List.length_reverse, List.length_drop]; omega) q
end
/-! ### powers -/
theorem bits256 {i : Int} (h : i.natAbs < 2 ^ 256) : Builtin.Int.intBits i ≤ 256 := by
  unfold Builtin.Int.intBits
  by_cases hz : i.natAbs = 0
  · simp [hz]
    split <;> omega
  · first
      | (have := (Nat.log2_lt hz).mpr h; simp; omega)
      | (simp; have := (Nat.log2_lt hz).mpr h; omega)
      | (split <;> first | omega | (have := (Nat.log2_lt hz).mpr h; omega))
def CPowB (i j : Int) : Prop := 0 ≤ j ∧ j ≤ 1000 ∧ i.natAbs < 2 ^ 256
theorem op_powB {X : Cx} : OpR X (binaryOp .Pow) (rI CPowB fun i j => .int (i ^ j.toNat)) := opI fun i j _ _ _ _ _ hc q => pow_int hc.1 (by
  have h := bits256 hc.2.2
  have h1 := hc.1
  have h2 := hc.2.1
  have : (Builtin.Int.intBits i : Int) * j ≤ 256 * 1000 := Int.mul_le_mul (by omega) h2 h1 (by omega)
  omega) q
end DL
set_option maxHeartbeats 1000000
/-! D5: alike data, its order, min, max, sorted. -/
namespace DL
open PySem PySem.Spec PyProof.Rows L2

mutual
theorem alikeD_symm : ∀ {a b : D}, alikeD a b = true → alikeD b a = true
  | .int _, .int _, _ => by rw [alikeD]
  | .bl _, .bl _, _ => by rw [alikeD]
  | .str _, .str _, _ => by rw [alikeD]
  | .tup a, .tup b, h => by rw [alikeD] at h ⊢; exact alikeDs_symm h
  | .non, b, h => by cases b <;> simp [alikeD] at h
  | .lst _, b, h => by cases b <;> simp [alikeD] at h
  | .frz _, b, h => by cases b <;> simp [alikeD] at h
  | .dT _ _, b, h => by cases b <;> simp [alikeD] at h
  | .int _, .non, h | .int _, .bl _, h | .int _, .str _, h | .int _, .tup _, h | .int _, .lst _, h | .int _, .frz _, h | .int _, .dT _ _, h => by simp [alikeD] at h
  | .bl _, .non, h | .bl _, .int _, h | .bl _, .str _, h | .bl _, .tup _, h | .bl _, .lst _, h | .bl _, .frz _, h | .bl _, .dT _ _, h => by simp [alikeD] at h
  | .str _, .non, h | .str _, .int _, h | .str _, .bl _, h | .str _, .tup _, h | .str _, .lst _, h | .str _, .frz _, h | .str _, .dT _ _, h => by simp [alikeD] at h
  | .tup _, .non, h | .tup _, .int _, h | .tup _, .bl _, h | .tup _, .str _, h | .tup _, .lst _, h | .tup _, .frz _, h | .tup _, .dT _ _, h => by simp [alikeD] at h
theorem alikeDs_symm : ∀ {a b : List D}, alikeDs a b = true → alikeDs b a = true
  | [], [], _ => by rw [alikeDs]
  | x :: xs, y :: ys, h => by
    rw [alikeDs, Bool.and_eq_true] at h ⊢
    exact ⟨alikeD_symm h.1, alikeDs_symm h.2⟩
  | [], _ :: _, h => by simp [alikeDs] at h
  | _ :: _, [], h => by simp [alikeDs] at h
end
mutual
theorem alikeD_trans : ∀ {a b c : D}, alikeD a b = true → alikeD b c = true → alikeD a c = true
  | .int _, b, c, h, h' => by
    cases b <;> simp [alikeD] at h
    cases c <;> simp [alikeD] at h' ⊢
  | .bl _, b, c, h, h' => by
    cases b <;> simp [alikeD] at h
    cases c <;> simp [alikeD] at h' ⊢
  | .str _, b, c, h, h' => by
    cases b <;> simp [alikeD] at h
    cases c <;> simp [alikeD] at h' ⊢
  | .tup a, b, c, h, h' => by
    cases b with
    | tup b =>
      cases c with
      | tup c => rw [alikeD] at h h' ⊢; exact alikeDs_trans h h'
      | _ => simp [alikeD] at h'
    | _ => simp [alikeD] at h
  | .non, b, _, h, _ => by cases b <;> simp [alikeD] at h
  | .lst _, b, _, h, _ => by cases b <;> simp [alikeD] at h
  | .frz _, b, _, h, _ => by cases b <;> simp [alikeD] at h
  | .dT _ _, b, _, h, _ => by cases b <;> simp [alikeD] at h
theorem alikeDs_trans : ∀ {a b c : List D}, alikeDs a b = true → alikeDs b c = true → alikeDs a c = true
  | [], b, c, h, h' => by
    cases b with
    | nil => exact h'
    | cons _ _ => simp [alikeDs] at h
  | x :: xs, b, c, h, h' => by
    cases b with
    | nil => simp [alikeDs] at h
    | cons y ys =>
      cases c with
      | nil => simp [alikeDs] at h'
      | cons z zs =>
        rw [alikeDs, Bool.and_eq_true] at h h' ⊢
        exact ⟨alikeD_trans h.1 h'.1, alikeDs_trans h.2 h'.2⟩
end
mutual
/-- two alike data: what the library asks, == as structure, the order as ltD, the depth -/
theorem alikeD_lib : ∀ {a b : D}, alikeD a b = true → PySem.W.alike a.py b.py = true ∧ PyData.eqv a.py b.py = D.beq a b ∧ PySem.W.dataLt a.py b.py = ltD a b ∧ a.py.depth = D.depth a ∧ D.nod a = true ∧ a.py ≠ .none ∧ (a.py = b.py → a = b) ∧ D.imm a = true ∧ D.depth a = D.depth b
  | .int i, b, h => by
    cases b with
    | int j =>
      refine ⟨by rw [D.py, D.py, PySem.W.alike], by rw [D.py, D.py, PyData.eqv, D.beq]; simp [Bool.beq_eq_decide_eq], by rw [D.py, D.py, PySem.W.dataLt_int, ltD], by rw [D.py, PyData.depth, D.depth] <;> intros <;> simp_all, by rw [D.nod] <;> intros <;> simp_all, (by rw [D.py]; exact nofun), fun q => by rw [D.py, D.py] at q; cases q; rfl, by rw [D.imm], by rw [D.depth, D.depth] <;> intros <;> simp_all⟩
    | _ => simp [alikeD] at h
  | .bl i, b, h => by
    cases b with
    | bl j =>
      refine ⟨by rw [D.py, D.py, PySem.W.alike], by rw [D.py, D.py, PyData.eqv, D.beq], by rw [D.py, D.py, PySem.W.dataLt_bool, ltD]; cases i <;> cases j <;> rfl, by rw [D.py, PyData.depth, D.depth] <;> intros <;> simp_all, by rw [D.nod] <;> intros <;> simp_all, (by rw [D.py]; exact nofun), fun q => by rw [D.py, D.py] at q; cases q; rfl, by rw [D.imm], by rw [D.depth, D.depth] <;> intros <;> simp_all⟩
    | _ => simp [alikeD] at h
  | .str i, b, h => by
    cases b with
    | str j =>
      refine ⟨by rw [D.py, D.py, PySem.W.alike], by rw [D.py, D.py, PyData.eqv, D.beq]; simp [Bool.beq_eq_decide_eq], by rw [D.py, D.py, PySem.W.dataLt_str, ltD], by rw [D.py, PyData.depth, D.depth] <;> intros <;> simp_all, by rw [D.nod] <;> intros <;> simp_all, (by rw [D.py]; exact nofun), fun q => by rw [D.py, D.py] at q; cases q; rfl, by rw [D.imm], by rw [D.depth, D.depth] <;> intros <;> simp_all⟩
    | _ => simp [alikeD] at h
  | .tup a, b, h => by
    cases b with
    | tup b =>
      rw [alikeD] at h
      obtain ⟨h1, h2, h3, h4, h5, h6, h7, h8⟩ := alikeDs_lib h
      refine ⟨by rw [D.py, D.py, PySem.W.alike]; exact h1, by rw [D.py, D.py, PyData.eqv, D.beq]; exact h2, by rw [D.py, D.py, PySem.W.dataLt_tuple, ltD]; exact h3, by rw [D.py, PyData.depth, D.depth, h4], by rw [D.nod]; exact h5, (by rw [D.py]; exact nofun), fun q => ?_, by rw [D.imm]; exact h7, by rw [D.depth, D.depth, h8]⟩
      rw [D.py, D.py] at q
      rw [h6 (PyData.tuple.inj q)]
    | _ => simp [alikeD] at h
  | .non, b, h => by cases b <;> simp [alikeD] at h
  | .lst _, b, h => by cases b <;> simp [alikeD] at h
  | .frz _, b, h => by cases b <;> simp [alikeD] at h
  | .dT _ _, b, h => by cases b <;> simp [alikeD] at h
theorem alikeDs_lib : ∀ {a b : List D}, alikeDs a b = true → PySem.W.alikeAll (D.pys a) (D.pys b) = true ∧ PyData.eqvAll (D.pys a) (D.pys b) = D.beqL a b ∧ PyProof.Rows.lexLt itemOrd (PySem.W.keyToksAll (D.pys a)) (PySem.W.keyToksAll (D.pys b)) = ltDs a b ∧ PyData.depthAll (D.pys a) = D.depths a ∧ D.nods a = true ∧ (D.pys a = D.pys b → a = b) ∧ D.imms a = true ∧ D.depths a = D.depths b
  | [], b, h => by
    cases b with
    | nil => exact ⟨by rw [D.pys, PySem.W.alikeAll], by rw [D.pys, PyData.eqvAll, D.beqL], by rw [D.pys, ltDs] <;> first | rfl | (intros; simp_all), by rw [D.pys, PyData.depthAll, D.depths], by rw [D.nods], fun _ => rfl, by rw [D.imms], rfl⟩
    | cons _ _ => simp [alikeDs] at h
  | x :: xs, b, h => by
    cases b with
    | nil => simp [alikeDs] at h
    | cons y ys =>
      rw [alikeDs, Bool.and_eq_true] at h
      obtain ⟨a1, a2, a3, a4, a5, a6, a7, a8, a9⟩ := alikeD_lib h.1
      obtain ⟨b1, b2, b3, b4, b5, b6, b7, b8⟩ := alikeDs_lib h.2
      refine ⟨by rw [D.pys, D.pys, PySem.W.alikeAll, a1, b1]; rfl, by rw [D.pys, D.pys, PyData.eqvAll, D.beqL, a2, b2], ?_, by rw [D.pys, PyData.depthAll, D.depths, a4, b4], by rw [D.nods, a5, b5]; rfl, fun q => ?_, by rw [D.imms, a8, b7]; rfl, by rw [D.depths, D.depths, a9, b8]⟩
      · rw [D.pys, D.pys, ltDs]
        cases e : D.beq x y with
        | true =>
          rw [PySem.W.dataLt_all_yes a1 (a2.trans e), b3]
          simp
        | false =>
          rw [PySem.W.dataLt_all_no a1 (a2.trans e), a3]
          simp
      · rw [D.pys, D.pys] at q
        obtain ⟨q1, q2⟩ := List.cons.inj q
        rw [a7 q1, b6 q2]
end
theorem pys_map : ∀ ds : List D, D.pys ds = ds.map D.py
  | [] => by rw [D.pys]; rfl
  | d :: ds => by rw [D.pys, pys_map ds]; rfl
/-- all items of a list are alike -/
theorem alikeAll_each {d : D} {l : List D} (h : alikeAll d l = true) : (∀ x ∈ d :: l, ∀ y ∈ d :: l, alikeD x y = true) ∧ ∀ x ∈ d :: l, D.depth x ≤ 60 := by
  unfold alikeAll at h
  rw [Bool.and_eq_true, Bool.and_eq_true] at h
  obtain ⟨⟨h1, h2⟩, h3⟩ := h
  have all : ∀ x ∈ d :: l, alikeD d x = true := fun x hx => by
    rcases List.mem_cons.mp hx with rfl | hx
    · exact h1
    · exact List.all_eq_true.mp h2 x hx
  refine ⟨fun x hx y hy => alikeD_trans (alikeD_symm (all x hx)) (all y hy), fun x hx => ?_⟩
  rw [← (alikeD_lib (all x hx)).2.2.2.2.2.2.2.2]
  exact of_decide_eq_true h3
theorem nods_of {ds : List D} (h : ∀ d ∈ ds, D.nod d = true) : D.nods ds = true := by
  induction ds with
  | nil => rw [D.nods]
  | cons x xs ih => rw [D.nods, h x List.mem_cons_self, ih fun d hd => h d (List.mem_cons_of_mem _ hd)]; rfl
theorem depthAll_le {n : Nat} : ∀ {ds : List D}, (∀ d ∈ ds, d.py.depth ≤ n) → PyData.depthAll (D.pys ds) ≤ n
  | [], _ => by rw [D.pys, PyData.depthAll]; exact Nat.zero_le _
  | d :: ds, h => by
    rw [D.pys, PyData.depthAll]
    exact Nat.max_le.mpr ⟨h d List.mem_cons_self, depthAll_le fun x hx => h x (List.mem_cons_of_mem _ hx)⟩
theorem fold_mem {α : Type} (f : α → α → Bool) : ∀ (l : List α) (d : α), l.foldl (fun a y => if f y a then y else a) d ∈ d :: l
  | [], d => by simp
  | x :: l, d => by
    rw [List.foldl_cons]
    have h := fold_mem f l (if f x d then x else d)
    rcases List.mem_cons.mp h with e | h
    · rw [e]
      split <;> simp
    · exact List.mem_cons_of_mem _ (List.mem_cons_of_mem _ h)
theorem minD_mem (d : D) (l : List D) : minD d l ∈ d :: l := fold_mem (fun y a => ltD y a) l d
theorem maxD_mem (d : D) (l : List D) : maxD d l ∈ d :: l := fold_mem (fun y a => ltD a y) l d
theorem minD_py {d : D} {l : List D} (h : ∀ x ∈ d :: l, ∀ y ∈ d :: l, alikeD x y = true) : (minD d l).py = PySem.W.minD d.py (D.pys l) := by
  unfold minD PySem.W.minD
  rw [pys_map]
  induction l generalizing d with
  | nil => rfl
  | cons x l ih =>
    rw [List.map_cons, List.foldl_cons, List.foldl_cons]
    rw [(alikeD_lib (h x (by simp) d (by simp))).2.2.1]
    have e : (if ltD x d = true then x.py else d.py) = (if ltD x d = true then x else d).py := by split <;> rfl
    rw [e]
    refine ih fun a ha b hb => h a ?_ b ?_
    · rcases List.mem_cons.mp ha with rfl | ha
      · split <;> simp
      · simp [ha]
    · rcases List.mem_cons.mp hb with rfl | hb
      · split <;> simp
      · simp [hb]
theorem maxD_py {d : D} {l : List D} (h : ∀ x ∈ d :: l, ∀ y ∈ d :: l, alikeD x y = true) : (maxD d l).py = PySem.W.maxD d.py (D.pys l) := by
  unfold maxD PySem.W.maxD
  rw [pys_map]
  induction l generalizing d with
  | nil => rfl
  | cons x l ih =>
    rw [List.map_cons, List.foldl_cons, List.foldl_cons]
    rw [(alikeD_lib (h d (by simp) x (by simp))).2.2.1]
    have e : (if ltD d x = true then x.py else d.py) = (if ltD d x = true then x else d).py := by split <;> rfl
    rw [e]
    refine ih fun a ha b hb => h a ?_ b ?_
    · rcases List.mem_cons.mp ha with rfl | ha
      · split <;> simp
      · simp [ha]
    · rcases List.mem_cons.mp hb with rfl | hb
      · split <;> simp
      · simp [hb]
end DL
set_option maxHeartbeats 1000000
/-! D6: single operations, by values. -/
namespace DL
open PySem PySem.Spec PyProof.Rows L2

abbrev RX (X : Cx) (H : Hp) (d : D) (v : V) (F : List Addr) : Prop := Rep X.prog X.w X.K H d v F
/-- any value that stands for d -/
abbrev Any (X : Cx) (H : Hp) (d : D) (v : V) : Prop := ∃ F, RX X H d v F
/-- a new result -/
def NewQ (X : Cx) (H : Hp) (d : D) (Q : VK) : Prop := ∀ v H' F, Same H H' → RX X H' d v F → (∀ a ∈ F, H a = none) → F.Nodup → Q v H'
/-- what an operation asks and gives -/
def PrimQ (X : Cx) (p : Prim) (vs : List V) (H : Hp) (Q : VK) : Prop := ∃ ds d, Paired (Any X H) ds vs ∧ primD p ds = some d ∧ NewQ X H d Q
abbrev PQ1 (X : Cx) (p : Prim) : V → Hp → VK → Prop := fun x H Q => PrimQ X p [x] H Q
abbrev PQ2 (X : Cx) (p : Prim) : R2 := fun x y H Q => PrimQ X p [x, y] H Q

section
variable {X : Cx} {H : Hp} {Q : VK}
theorem NewQ.int {i : Int} (h : NewQ X H (.int i) Q) : Q (.int i) H := h _ _ [] (Same.refl H) (.int i) (fun _ z => nomatch z) List.nodup_nil
theorem NewQ.bl {i : Bool} (h : NewQ X H (.bl i) Q) : Q (.bl i) H := h _ _ [] (Same.refl H) (.bl i) (fun _ z => nomatch z) List.nodup_nil
theorem NewQ.non (h : NewQ X H .non Q) : Q .non H := h _ _ [] (Same.refl H) .non (fun _ z => nomatch z) List.nodup_nil
theorem NewQ.old {d : D} {v : V} (h : NewQ X H d Q) (r : RX X H d v []) : Q v H := h _ _ [] (Same.refl H) r (fun _ z => nomatch z) List.nodup_nil
theorem same_new {p : Addr} {o : HO} (h : H p = none) : Same H (upd H p o) := fun b x e => by
  rw [upd_ne (ne_of_none e h)]
  exact e
theorem NewQ.tup {ds : List D} {vs : List V} (h : NewQ X H (.tup ds) Q) (r : RepI X.prog X.w X.K H ds vs) (hz : ds.length ≤ sizeLine) : NT Q H vs := fun p o ho hp =>
  h _ _ [] (same_new hp) (.tup (.inl ⟨o, upd_same, ho⟩) hz (RepL.ofI (RepI.same r (same_new hp)))) (fun _ z => nomatch z) List.nodup_nil
theorem NewQ.lst {ds : List D} {vs : List V} (h : NewQ X H (.lst ds) Q) (r : RepI X.prog X.w X.K H ds vs) (hz : ds.length ≤ sizeLine) : ∀ p, H p = none → Q (.ref p) (upd H p (.lst vs)) := fun p hp =>
  h _ _ [p] (same_new hp) (.lst upd_same hz (RepL.ofI (RepI.same r (same_new hp)))) (fun a ha => by rw [List.mem_singleton.mp ha]; exact hp) (by simp)

/-- the items of a sequence -/
theorem Rep.seq {d : D} {v : V} {F : List Addr} {l : List D} (r : RX X H d v F) (e : d.seq? = some l) : ∃ a vs G, v = .ref a ∧ RepL X.prog X.w X.K H l vs G ∧ l.length ≤ sizeLine ∧ (∀ b ∈ G, b ∈ F) ∧ ((∃ ts, d = .tup ts ∧ TupOk X.K H a vs) ∨ (SqL X.K H a vs ∧ ∀ ts, d ≠ .tup ts)) := by
  cases r with
  | tup h1 h2 h3 => cases e; exact ⟨_, _, _, rfl, h3, h2, fun _ z => z, .inl ⟨_, rfl, h1⟩⟩
  | lst h1 h2 h3 => cases e; exact ⟨_, _, _, rfl, h3, h2, fun _ z => List.mem_cons_of_mem _ z, .inr ⟨SqL.of h1, nofun⟩⟩
  | frz h1 h2 h3 => cases e; exact ⟨_, _, _, rfl, h3, h2, fun _ z => z, .inr ⟨h1.sq, nofun⟩⟩
  | _ => cases e
theorem sq_or {d : D} {a : Addr} {vs : List V} (h : (∃ ts, d = .tup ts ∧ TupOk X.K H a vs) ∨ (SqL X.K H a vs ∧ ∀ ts, d ≠ .tup ts)) : SqL X.K H a vs ∨ SqT X.K H a vs := by
  rcases h with ⟨_, _, h⟩ | ⟨h, _⟩
  · exact .inr h.sq
  · exact .inl h
theorem RepL.toImm {ds : List D} {vs : List V} {F : List Addr} (r : RepL X.prog X.w X.K H ds vs F) (h : D.imms ds = true) : RepI X.prog X.w X.K H ds vs := r.toI (RepL.imm_nil h r)
theorem Paired.nil_ {α β : Type} {R : α → β → Prop} {l : List α} (h : Paired R l []) : l = [] := by cases h; rfl
theorem Paired.one {α β : Type} {R : α → β → Prop} {l : List α} {y : β} (h : Paired R l [y]) : ∃ a, l = [a] ∧ R a y := by
  cases h with
  | cons h t => cases t; exact ⟨_, rfl, h⟩
theorem Paired.two {α β : Type} {R : α → β → Prop} {l : List α} {y z : β} (h : Paired R l [y, z]) : ∃ a b, l = [a, b] ∧ R a y ∧ R b z := by
  cases h with
  | cons h t =>
    obtain ⟨b, e, h2⟩ := Paired.one t
    exact ⟨_, b, by rw [e], h, h2⟩
theorem pq1 {p : Prim} {x : V} (h : PrimQ X p [x] H Q) : ∃ a d F, RX X H a x F ∧ primD p [a] = some d ∧ NewQ X H d Q := by
  obtain ⟨ds, d, hp, hd, hq⟩ := h
  obtain ⟨a, rfl, F, r⟩ := Paired.one hp
  exact ⟨a, d, F, r, hd, hq⟩
theorem pq2 {p : Prim} {x y : V} (h : PrimQ X p [x, y] H Q) : ∃ a b d F G, RX X H a x F ∧ RX X H b y G ∧ primD p [a, b] = some d ∧ NewQ X H d Q := by
  obtain ⟨ds, d, hp, hd, hq⟩ := h
  obtain ⟨a, b, rfl, ⟨F, r⟩, ⟨G, r'⟩⟩ := Paired.two hp
  exact ⟨a, b, d, F, G, r, r', hd, hq⟩
/-- a guard that held -/
theorem ite_some {α : Type} {c : Bool} {x y : α} (h : (if c then some x else none) = some y) : c = true ∧ x = y := by
  cases c with
  | true => exact ⟨rfl, Option.some.inj h⟩
  | false => cases h

/-! ### int arithmetic and what else + does -/
theorem opAdd : OpR X (binaryOp .Add) (PQ2 X (.bin .add)) := by
  intro pins s σ H x y v u Q I rx ry h
  obtain ⟨a, b, d, F, G, ra, rb, hd, hq⟩ := pq2 h
  change binD .add a b = some d at hd
  unfold binD at hd
  cases a <;> cases b <;> first | (cases hd; done) | skip
  · cases hd
    cases ra; cases rb
    exact op_add pins s σ H _ _ v u Q I rx ry ⟨_, _, rfl, rfl, hq.int⟩
  · obtain ⟨hg, e⟩ := ite_some hd
    subst e
    rw [Bool.and_eq_true, Bool.and_eq_true] at hg
    obtain ⟨⟨h1, h2⟩, h3⟩ := hg
    have h1 := of_decide_eq_true h1
    cases ra with
    | tup ta _ la =>
      cases rb with
      | tup tb _ lb =>
        have ia := la.toImm h2
        have ib := lb.toImm h3
        have na := RepL.imm_nil h2 la
        have nb := RepL.imm_nil h3 lb
        subst na nb
        refine op_catF pins s σ H _ _ v u Q I rx ry ⟨_, _, _, _, rfl, rfl, ta.sq, tb.sq, ?_, fun e => ?_, fun e e' => ?_, fun _ _ => hq.tup (RepI.append ia ib) (by rw [List.length_append]; exact h1)⟩
        · rw [← ia.length, ← ib.length]; exact h1
        · subst e
          cases ia
          exact hq.old (.tup tb (by simpa using h1) (by simpa using lb))
        · subst e'
          cases ib
          rw [List.append_nil] at hq
          exact hq.old (.tup ta (by simp at h1; omega) la)
  · obtain ⟨hg, e⟩ := ite_some hd
    subst e
    rw [Bool.and_eq_true, Bool.and_eq_true] at hg
    obtain ⟨⟨h1, h2⟩, h3⟩ := hg
    have h1 := of_decide_eq_true h1
    cases ra with
    | lst ta _ la =>
      cases rb with
      | lst tb _ lb =>
        have ia := la.toImm h2
        have ib := lb.toImm h3
        exact op_cat pins s σ H _ _ v u Q I rx ry ⟨_, _, _, _, rfl, rfl, ta, tb, by rw [← ia.length, ← ib.length]; exact h1, hq.lst (RepI.append ia ib) (by rw [List.length_append]; exact h1)⟩
theorem opInt2 {o : Bop} {f : Value → Value → Sem Value} {C : Int → Int → Prop} {g : Int → Int → Int} (ho : OpR X f (rI C fun i j => .int (g i j)))
    (hd : ∀ a b d, binD o a b = some d → ∃ i j, a = .int i ∧ b = .int j ∧ C i j ∧ d = .int (g i j)) : OpR X f (PQ2 X (.bin o)) := by
  intro pins s σ H x y v u Q I rx ry h
  obtain ⟨a, b, d, F, G, ra, rb, e, hq⟩ := pq2 h
  obtain ⟨i, j, rfl, rfl, hc, rfl⟩ := hd a b d e
  cases ra; cases rb
  exact ho pins s σ H _ _ v u Q I rx ry ⟨_, _, rfl, rfl, hc, hq.int⟩
theorem opSub : OpR X (binaryOp .Sub) (PQ2 X (.bin .sub)) := by
  refine opInt2 (C := fun _ _ => True) (g := fun i j => i - j) (fun pins s σ H x y v u Q I rx ry ⟨i, j, e1, e2, _, q⟩ => op_sub pins s σ H x y v u Q I rx ry ⟨i, j, e1, e2, q⟩) fun a b d h => ?_
  unfold binD at h
  cases a <;> cases b <;> first | (cases h; done) | skip
  cases h
  exact ⟨_, _, rfl, rfl, trivial, rfl⟩
theorem intB_ {i : Int} (h : intB i = true) : -(2 ^ 64) < i ∧ i < 2 ^ 64 := by
  unfold intB at h
  rw [Bool.and_eq_true] at h
  exact ⟨of_decide_eq_true h.1, of_decide_eq_true h.2⟩
theorem opMul : OpR X (binaryOp .Mult) (PQ2 X (.bin .mul)) := by
  refine opInt2 (C := CMul) (g := fun i j => i * j) op_mul fun a b d h => ?_
  unfold binD at h
  cases a <;> cases b <;> first | (cases h; done) | skip
  obtain ⟨hg, e⟩ := ite_some h
  rw [Bool.or_eq_true] at hg
  exact ⟨_, _, rfl, rfl, hg.imp intB_ intB_, e.symm⟩
theorem opFdiv : OpR X (binaryOp .FloorDiv) (PQ2 X (.bin .fdiv)) := by
  refine opInt2 (C := CDiv) (g := fun i j => i / j) op_fdiv fun a b d h => ?_
  unfold binD at h
  cases a <;> cases b <;> first | (cases h; done) | skip
  obtain ⟨hg, e⟩ := ite_some h
  rw [Bool.and_eq_true] at hg
  exact ⟨_, _, rfl, rfl, ⟨of_decide_eq_true hg.1, of_decide_eq_true hg.2⟩, e.symm⟩
theorem opMod : OpR X (binaryOp .Mod) (PQ2 X (.bin .mod)) := by
  refine opInt2 (C := fun _ j => 0 < j) (g := fun i j => i % j) op_mod fun a b d h => ?_
  unfold binD at h
  cases a <;> cases b <;> first | (cases h; done) | skip
  obtain ⟨hg, e⟩ := ite_some h
  exact ⟨_, _, rfl, rfl, of_decide_eq_true hg, e.symm⟩
theorem opPow : OpR X (binaryOp .Pow) (PQ2 X (.bin .pow)) := by
  refine opInt2 (C := CPowB) (g := fun i j => i ^ j.toNat) op_powB fun a b d h => ?_
  unfold binD at h
  cases a <;> cases b <;> first | (cases h; done) | skip
  obtain ⟨hg, e⟩ := ite_some h
  rw [Bool.and_eq_true, Bool.and_eq_true] at hg
  exact ⟨_, _, rfl, rfl, ⟨of_decide_eq_true hg.1.1, of_decide_eq_true hg.1.2, of_decide_eq_true hg.2⟩, e.symm⟩
theorem unNeg : UnR X (unaryOp .USub) (PQ1 X .neg) := by
  intro pins s σ H x v Q I rx h
  obtain ⟨a, d, F, ra, hd, hq⟩ := pq1 h
  replace hd : negD a = some d := hd
  cases a <;> first | (cases hd; done) | skip
  cases hd
  cases ra
  exact un_neg pins s σ H _ v Q I rx ⟨_, rfl, hq.int⟩

/-! ### comparisons -/
theorem opCmpI {c : Cm} {f : Value → Value → Sem Value} {g : Int → Int → Bool} (ho : OpR X f (rI0 fun i j => .bl (g i j))) (hd : ∀ a b d, cmpD c a b = some d → ∃ i j, a = .int i ∧ b = .int j ∧ d = g i j) : OpR X f (PQ2 X (.cmp c)) := by
  intro pins s σ H x y v u Q I rx ry h
  obtain ⟨a, b, d, F, G, ra, rb, e, hq⟩ := pq2 h
  change (cmpD c a b).map .bl = some d at e
  obtain ⟨k, e1, e2⟩ := Option.map_eq_some_iff.mp e
  subst e2
  obtain ⟨i, j, rfl, rfl, rfl⟩ := hd a b k e1
  cases ra; cases rb
  exact ho pins s σ H _ _ v u Q I rx ry ⟨_, _, rfl, rfl, hq.bl⟩
theorem opLt : OpR X (compareOp .Lt) (PQ2 X (.cmp .lt)) := opCmpI op_lt fun a b d h => by
  cases a <;> cases b <;> first | (cases h; done) | skip
  cases h
  exact ⟨_, _, rfl, rfl, rfl⟩
theorem opLe : OpR X (compareOp .LtE) (PQ2 X (.cmp .le)) := opCmpI op_le fun a b d h => by
  cases a <;> cases b <;> first | (cases h; done) | skip
  cases h
  exact ⟨_, _, rfl, rfl, rfl⟩
theorem opGt : OpR X (compareOp .Gt) (PQ2 X (.cmp .gt)) := opCmpI op_gt fun a b d h => by
  cases a <;> cases b <;> first | (cases h; done) | skip
  cases h
  exact ⟨_, _, rfl, rfl, rfl⟩
theorem opGe : OpR X (compareOp .GtE) (PQ2 X (.cmp .ge)) := opCmpI op_ge fun a b d h => by
  cases a <;> cases b <;> first | (cases h; done) | skip
  cases h
  exact ⟨_, _, rfl, rfl, rfl⟩
theorem shaped_nod {d : D} (h : SeqAt.shaped d.py = true) : D.nod d = true := D.nod_of (SeqAt.canLay_of_shaped h)
theorem opEq (hu : X.A.units + 64 < cLine) : OpR X (compareOp .Eq) (PQ2 X (.cmp .eq)) := by
  intro pins s σ H x y v u Q I rx ry h
  obtain ⟨a, b, d, F, G, ra, rb, e, hq⟩ := pq2 h
  change (cmpD .eq a b).map .bl = some d at e
  obtain ⟨k, e1, e2⟩ := Option.map_eq_some_iff.mp e
  subst e2
  obtain ⟨hg, rfl⟩ := ite_some e1
  rw [Bool.and_eq_true] at hg
  exact op_eqD hu pins s σ H _ _ v u Q I rx ry ⟨_, _, ra.dp (shaped_nod hg.1), rb.dp (shaped_nod hg.2), hg.1, hg.2, hq.bl⟩
theorem opNe (hu : X.A.units + 64 < cLine) : OpR X (compareOp .NotEq) (PQ2 X (.cmp .ne)) := by
  intro pins s σ H x y v u Q I rx ry h
  obtain ⟨a, b, d, F, G, ra, rb, e, hq⟩ := pq2 h
  change (cmpD .ne a b).map .bl = some d at e
  obtain ⟨k, e1, e2⟩ := Option.map_eq_some_iff.mp e
  subst e2
  obtain ⟨hg, rfl⟩ := ite_some e1
  rw [Bool.and_eq_true] at hg
  exact op_neD hu pins s σ H _ _ v u Q I rx ry ⟨_, _, ra.dp (shaped_nod hg.1), rb.dp (shaped_nod hg.2), hg.1, hg.2, hq.bl⟩
theorem pys_any (ds : List D) (f : PyData → Bool) : (D.pys ds).any f = ds.any fun d => f d.py := by
  rw [pys_map, List.any_map]
  rfl

/-! ### dicts with tuple keys -/
theorem keysOf_rep {P : Program} {w : World} {K : PySem.W.Frag} {H : Hp} : ∀ {ds : List D} {vs : List V} {F : List Addr} {k : List Key}, RepL P w K H ds vs F → keysOf ds = some k → vs = k.map kV
  | [], _, _, _, h, e => by cases h; cases e; rfl
  | d :: ds, _, _, k, h, e => by
    cases h with
    | cons h1 h2 =>
      cases d <;> first | (simp [keysOf] at e; done) | skip
      · simp only [keysOf] at e
        obtain ⟨k', e1, rfl⟩ := Option.map_eq_some_iff.mp e
        cases h1
        rw [keysOf_rep h2 e1]
        rfl
      · simp only [keysOf] at e
        obtain ⟨k', e1, rfl⟩ := Option.map_eq_some_iff.mp e
        cases h1
        rw [keysOf_rep h2 e1]
        rfl
theorem keyOf_rep {d : D} {v : V} {F : List Addr} {k : List Key} (r : RX X H d v F) (e : keyOf d = some k) : ∃ a, v = .ref a ∧ TupOk X.K H a (k.map kV) := by
  cases r with
  | tup h1 _ h3 =>
    have := keysOf_rep h3 e
    subst this
    exact ⟨_, rfl, h1⟩
  | _ => cases e
/-- a tuple is a key -/
theorem key_is {pins : List (Addr × Obj)} {σ : L2.St} {s : Shared} {a : Addr} {k : List Key} (I : Inv X pins σ H s) (h : TupOk X.K H a (k.map kV)) : (tupleKind (mixKind X.prog X.w)).is s.heap k a := by
  obtain ⟨its, r, ⟨o, h1, h2, n, h3⟩, _⟩ := I.tuple h.sq
  exact ⟨o, its.toArray, n, h1, h2, h3, by simpa using items_are r⟩
theorem dict_is {pins : List (Addr × Obj)} {σ : L2.St} {s : Shared} {d : Addr} {xs : List (List Key × Addr × Value)} (I : Inv X pins σ H s) (h : H d = some (.ext (RawT X.prog X.w d xs))) (hn : (xs.map (·.1)).Nodup) (hk : ∀ x ∈ xs, TupOk X.K H x.2.1 (x.1.map kV)) :
    s.heap.DictOfH (tupleKind (mixKind X.prog X.w)) d xs := by
  obtain ⟨⟨o, es, ep, h1, h2, h3, h4⟩, _⟩ := (show ObjOk X.prog X.w H s.heap d (.ext (RawT X.prog X.w d xs)) from I.hok d _ h)
  exact ⟨o, es, ep, h1, h2, h3, h4, fun x hx => key_is I (hk x hx), hn⟩
theorem lookT_at {xs : List (List Key × Addr × Value)} {k : List Key} : ∀ {ds : List D} {vs : List V} {F : List Addr} {d : D}, RepL X.prog X.w X.K H ds vs F → Vals vs (xs.map (·.2.2)) → lookT (xs.map (·.1)) ds k = some d →
    ∃ (a : Addr) (u : Value) (v : V) (G : List Addr), atKey xs k = some (a, u) ∧ RelV v u ∧ RX X H d v G ∧ ∀ b ∈ G, b ∈ F := by
  induction xs with
  | nil => intro ds vs F d _ _ e; simp [lookT] at e
  | cons x xs ih =>
    intro ds vs F d r rv e
    cases r with
    | nil => simp [lookT] at e
    | cons h1 h2 =>
      cases rv with
      | cons r1 r2 =>
        simp only [List.map_cons, lookT] at e
        by_cases q : x.1 = k
        · rw [if_pos q] at e
          cases e
          exact ⟨x.2.1, x.2.2, _, _, by simp [atKey, q], r1, h1, fun b hb => List.mem_append_left _ hb⟩
        · rw [if_neg q] at e
          obtain ⟨a, u, v, G, e1, e2, e3, e4⟩ := ih h2 r2 e
          exact ⟨a, u, v, G, by simpa [atKey, q] using e1, e2, e3, fun b hb => List.mem_append_right _ (e4 b hb)⟩
theorem memT_at {xs : List (List Key × Addr × Value)} {k : List Key} : memT k (xs.map (·.1)) = (atKey xs k).isSome := by
  induction xs with
  | nil => rfl
  | cons x xs ih =>
    unfold memT atKey at ih ⊢
    by_cases q : x.1 = k
    · simp [q]
    · simpa [q] using ih
end
end DL
set_option maxHeartbeats 1000000
/-! D7: single operations by values, further: in, subscripts, slices, built-in functions. -/
namespace DL
open PySem PySem.Spec PyProof.Rows L2
section
variable {X : Cx} {H : Hp} {Q : VK}
theorem opIn (hu : X.A.units + 65 < cLine) : OpR X (compareOp .In) (PQ2 X (.cmp .inn)) := by
  intro pins s σ H x y v u Q I rx ry h
  obtain ⟨a, b, d, F, G, ra, rb, e, hq⟩ := pq2 h
  change (cmpD .inn a b).map .bl = some d at e
  obtain ⟨k, e1, e2⟩ := Option.map_eq_some_iff.mp e
  subst e2
  cases rb with
  | dT h1 h0 h2 h3 h4 h5 h6 hl =>
    subst h0
    simp only [cmpD] at e1
    obtain ⟨key, ek, rfl⟩ := Option.map_eq_some_iff.mp e1
    obtain ⟨ad, rfl, tk⟩ := keyOf_rep ra ek
    cases rx; cases ry
    refine wpAny_in_heap (tupleKind_room_in1 (by omega)) (key_is I tk) h3 (dict_is I h1 h2 h4) ?_
    rw [memT_at] at hq
    exact ⟨.bl _, H, I.tok _, rfl, hq.bl⟩
  | lst h1 h2 hl =>
    obtain ⟨hg, rfl⟩ := ite_some e1
    rw [Bool.and_eq_true] at hg
    have hb := shaped_nod hg.2
    rw [D.nod] at hb
    have hs := hg.2
    rw [D.py] at hs
    exact op_inD hu pins s σ H _ _ v u Q I rx ry ⟨_, _, ra.dp (shaped_nod hg.1), .lst (SqL.of h1) (RepL.dps hl hb), hg.1, hs, by rw [pys_any]; exact hq.bl⟩
  | frz h1 h2 hl =>
    obtain ⟨hg, rfl⟩ := ite_some e1
    rw [Bool.and_eq_true] at hg
    have hb := shaped_nod hg.2
    rw [D.nod] at hb
    have hs := hg.2
    rw [D.py] at hs
    exact op_inD hu pins s σ H _ _ v u Q I rx ry ⟨_, _, ra.dp (shaped_nod hg.1), .lst h1.sq (RepL.dps hl hb), hg.1, hs, by rw [pys_any]; exact hq.bl⟩
  | tup h1 h2 hl =>
    obtain ⟨hg, rfl⟩ := ite_some e1
    rw [Bool.and_eq_true] at hg
    have hb := shaped_nod hg.2
    rw [D.nod] at hb
    have hs := hg.2
    rw [D.py] at hs
    obtain ⟨as, r1⟩ := Dp.reads I _ _ v (ra.dp (shaped_nod hg.1)) rx
    obtain ⟨bs, r2⟩ := Dp.reads I (.tuple _) _ u (.tup h1.sq (RepL.dps hl hb)) ry
    exact SeqAt.in_tuple_reads r2 r1 (SeqAt.canLay_of_shaped hs) (SeqAt.canLay_of_shaped hg.1) (room_in_shaped hg.1 hu) ⟨.bl _, H, I, rfl, by rw [pys_any]; exact hq.bl⟩
  | _ => cases e1
theorem opNin (hu : X.A.units + 65 < cLine) : OpR X (compareOp .NotIn) (PQ2 X (.cmp .nin)) := by
  intro pins s σ H x y v u Q I rx ry h
  obtain ⟨a, b, d, F, G, ra, rb, e, hq⟩ := pq2 h
  change (cmpD .nin a b).map .bl = some d at e
  obtain ⟨k, e1, e2⟩ := Option.map_eq_some_iff.mp e
  subst e2
  cases rb with
  | dT h1 h0 h2 h3 h4 h5 h6 hl =>
    subst h0
    simp only [cmpD] at e1
    obtain ⟨key, ek, rfl⟩ := Option.map_eq_some_iff.mp e1
    obtain ⟨ad, rfl, tk⟩ := keyOf_rep ra ek
    cases rx; cases ry
    refine wpAny_notIn_heap (tupleKind_room_in1 (by omega)) (key_is I tk) h3 (dict_is I h1 h2 h4) ?_
    rw [memT_at] at hq
    exact ⟨.bl _, H, I.tok _, rfl, hq.bl⟩
  | lst h1 h2 hl =>
    obtain ⟨hg, rfl⟩ := ite_some e1
    rw [Bool.and_eq_true] at hg
    have hb := shaped_nod hg.2
    rw [D.nod] at hb
    have hs := hg.2
    rw [D.py] at hs
    exact op_notInD hu pins s σ H _ _ v u Q I rx ry ⟨_, _, ra.dp (shaped_nod hg.1), .lst (SqL.of h1) (RepL.dps hl hb), hg.1, hs, by rw [pys_any]; exact hq.bl⟩
  | frz h1 h2 hl =>
    obtain ⟨hg, rfl⟩ := ite_some e1
    rw [Bool.and_eq_true] at hg
    have hb := shaped_nod hg.2
    rw [D.nod] at hb
    have hs := hg.2
    rw [D.py] at hs
    exact op_notInD hu pins s σ H _ _ v u Q I rx ry ⟨_, _, ra.dp (shaped_nod hg.1), .lst h1.sq (RepL.dps hl hb), hg.1, hs, by rw [pys_any]; exact hq.bl⟩
  | tup h1 h2 hl =>
    obtain ⟨hg, rfl⟩ := ite_some e1
    rw [Bool.and_eq_true] at hg
    have hb := shaped_nod hg.2
    rw [D.nod] at hb
    have hs := hg.2
    rw [D.py] at hs
    obtain ⟨as, r1⟩ := Dp.reads I _ _ v (ra.dp (shaped_nod hg.1)) rx
    obtain ⟨bs, r2⟩ := Dp.reads I (.tuple _) _ u (.tup h1.sq (RepL.dps hl hb)) ry
    exact SeqAt.notIn_tuple_reads r2 r1 (SeqAt.canLay_of_shaped hs) (SeqAt.canLay_of_shaped hg.1) (room_in_shaped hg.1 hu) ⟨.bl _, H, I, rfl, by rw [pys_any]; exact hq.bl⟩
  | _ => cases e1
theorem opIsB : OpR X (compareOp .Is) (PQ2 X (.isB true)) := by
  intro pins s σ H x y v u Q I rx ry h
  obtain ⟨a, b, d, F, G, ra, rb, e, hq⟩ := pq2 h
  replace e : isBD true a b = some d := e
  cases a <;> cases b <;> first | (cases e; done) | skip
  cases e
  cases ra; cases rb
  exact op_isBl pins s σ H _ _ v u Q I rx ry ⟨_, _, rfl, rfl, hq.bl⟩
theorem opNotB : OpR X (compareOp .IsNot) (PQ2 X (.isB false)) := by
  intro pins s σ H x y v u Q I rx ry h
  obtain ⟨a, b, d, F, G, ra, rb, e, hq⟩ := pq2 h
  replace e : isBD false a b = some d := e
  cases a <;> cases b <;> first | (cases e; done) | skip
  cases e
  cases ra; cases rb
  exact op_notBl pins s σ H _ _ v u Q I rx ry ⟨_, _, rfl, rfl, hq.bl⟩

/-! ### subscripts -/
theorem immO_ {o : Option D} {d : D} (h : immO o = some d) : o = some d ∧ d.imm = true := by
  cases o with
  | none => cases h
  | some v =>
    obtain ⟨h1, h2⟩ := ite_some h
    subst h2
    exact ⟨rfl, h1⟩
theorem ix_prim (hu : X.A.units + 1 < cLine) : IxR X (PQ2 X .ix) := by
  intro value slice pins s σ H x y v u Q I rx ry h hs
  obtain ⟨a, b, d, F, G, ra, rb, e, hq⟩ := pq2 h
  replace e : ixD a b = some d := e
  have fin : ∀ (l : List D), a.seq? = some l → ixS l b = some d → wpAny (model X.prog X.w) X.A (subscriptTail value slice v u) (EP X pins σ Q) X.xe s := fun l hl e' => by
    obtain ⟨ad, vs, G', rfl, rl, hz, _, hq2⟩ := Rep.seq ra hl
    cases b <;> first | (cases e'; done) | skip
    rename_i i
    cases rb
    obtain ⟨ea, hi⟩ := immO_ (show immO (atI l i) = some d from e')
    have hat : ∃ w', atI vs i = some w' ∧ RX X H d w' [] := by
      unfold atI at ea ⊢
      rw [← rl.length]
      cases ex : ixN l.length i with
      | none => rw [ex] at ea; cases ea
      | some j =>
        rw [ex] at ea
        obtain ⟨w', G2, h1, h2, _⟩ := rl.get (show l[j]? = some d from ea)
        exact ⟨w', h1, by rw [Rep.imm_nil hi h2] at h2; exact h2⟩
    obtain ⟨w', hw, rw'⟩ := hat
    rcases sq_or hq2 with hq2 | hq2
    · exact ix_list value slice pins s σ H _ _ v u Q I rx ry ⟨_, _, _, _, rfl, rfl, hq2, hw, hq.old rw'⟩ hs
    · exact ix_tup value slice pins s σ H _ _ v u Q I rx ry ⟨_, _, _, _, rfl, rfl, hq2, hw, hq.old rw'⟩ hs
  cases a with
  | tup l => exact fin l rfl e
  | lst l => exact fin l rfl e
  | frz l => exact fin l rfl e
  | dT ks vs =>
    unfold ixD at e
    simp only at e
    cases ek : keyOf b with
    | none => rw [ek] at e; cases e
    | some k =>
      rw [ek] at e
      obtain ⟨el, hi⟩ := immO_ (show immO (lookT ks vs k) = some d from e)
      obtain ⟨kb, rfl, tk⟩ := keyOf_rep rb ek
      cases ra with
      | dT h1 h0 h2 h3 h4 h5 h6 hl =>
        subst h0
        obtain ⟨ka, u', v', G', e1, e2, e3, _⟩ := lookT_at hl h5 el
        rw [Rep.imm_nil hi e3] at e3
        cases rx; cases ry
        have dd := dict_is I h1 h2 h4
        refine tail_any (ops := [.ref _, .ref kb]) dd.typeIs PySem.F.slot_dict_getitem.lookup ?_ (hs.trans rfl)
        refine wpAny_getItem_heap (tupleKind_room_in1 (by omega)) (key_is I tk) dd e1 ?_
        exact ⟨v', H, I.tok _, e2, hq.old e3⟩
  | _ => cases e
/-- x[lo:hi] -/
def SlQ (X : Cx) : V → Option Int → Option Int → Hp → VK → Prop := fun x lo hi H Q => ∃ a l d F, RX X H a x F ∧ a.seq? = some l ∧ reseq a (cutD l lo hi) = some d ∧ NewQ X H d Q
theorem cutV_rep {l : List D} {vs : List V} {lo hi : Option Int} (r : RepI X.prog X.w X.K H l vs) : RepI X.prog X.w X.K H (cutD l lo hi) (cutV vs lo hi) := by
  unfold cutD cutV
  rw [← r.length]
  exact RepI.take _ (RepI.drop _ r)
theorem imms_drop {l : List D} {n : Nat} (h : D.imms l = true) : D.imms (l.drop n) = true := imms_of fun d hd => imms_mem h d (List.mem_of_mem_drop hd)
/-- the parts that a cut takes, each without a footprint, where all that is cut is imm -/
theorem RepL.cut {l : List D} {vs : List V} {F : List Addr} : ∀ (m n : Nat), RepL X.prog X.w X.K H l vs F → D.imms ((l.drop m).take n) = true → RepI X.prog X.w X.K H ((l.drop m).take n) ((vs.drop m).take n) := by
  intro m n r
  induction m generalizing n l vs F with
  | zero =>
    rw [List.drop_zero, List.drop_zero]
    induction n generalizing l vs F with
    | zero => intro _; exact .nil
    | succ n ih =>
      cases r with
      | nil => intro _; exact .nil
      | cons h1 h2 =>
        intro hi
        rw [List.take_succ_cons, D.imms, Bool.and_eq_true] at hi
        rw [List.take_succ_cons, List.take_succ_cons]
        exact .cons (by rw [Rep.imm_nil hi.1 h1] at h1; exact h1) (ih h2 hi.2)
  | succ m ih =>
    cases r with
    | nil => intro _; simp; exact .nil
    | cons h1 h2 => exact fun hi => ih n h2 hi
theorem cutD_len (l : List D) (lo hi : Option Int) : (cutD l lo hi).length ≤ l.length := by
  unfold cutD
  rw [List.length_take, List.length_drop]
  omega
theorem sl_prim : SlR X (SlQ X) := by
  intro pins s σ H x v vl vu lo hi sl Q I rx hs pl pu h
  obtain ⟨a, l, d, F, ra, hl, hd, hq⟩ := h
  obtain ⟨ad, vs, G, rfl, rl, hz, _, hq2⟩ := Rep.seq ra hl
  unfold reseq at hd
  split at hd
  · rename_i hi'
    have rc : RepI X.prog X.w X.K H (cutD l lo hi) (cutV vs lo hi) := by
      unfold cutD cutV
      rw [← rl.length]
      exact RepL.cut _ _ rl (by unfold cutD at hi'; exact hi')
    have hlen := Nat.le_trans (cutD_len l lo hi) hz
    rcases hq2 with ⟨ts, rfl, ht⟩ | ⟨hq2, hn⟩
    · simp only at hd
      cases hd
      cases hl
      refine sl_tupF pins s σ H _ v vl vu lo hi sl Q I rx hs pl pu ⟨_, _, rfl, ht.sq, fun hw => ?_, fun _ => hq.tup rc hlen⟩
      have e : cutD l lo hi = l := by
        unfold cutD
        rw [← rl.length] at hw
        rw [hw.1, hw.2]
        simp
      rw [e] at hq hi'
      have := RepL.imm_nil hi' rl
      subst this
      exact hq.old (.tup ht hz rl)
    · have hd' : d = .lst (cutD l lo hi) := by
        cases a <;> first | (cases hl; done) | skip
        · exact absurd rfl (hn _)
        · cases hd; rfl
        · cases hd; rfl
      subst hd'
      exact sl_list pins s σ H _ v vl vu lo hi sl Q I rx hs pl pu ⟨_, _, rfl, hq2, hq.lst rc hlen⟩
  · cases hd

/-! ### built-in functions -/
abbrev PQn (X : Cx) (p : Prim) : List V → Hp → VK → Prop := fun vs H Q => PrimQ X p vs H Q
end
end DL
set_option maxHeartbeats 1000000
/-! D8: built-in functions by values. -/
namespace DL
open PySem PySem.Spec PyProof.Rows L2
section
variable {X : Cx} {H : Hp} {Q : VK}
theorem allInt_rep {P : Program} {w : World} {K : PySem.W.Frag} {H : Hp} : ∀ {ds : List D} {vs : List V} {F : List Addr} {m : List Int}, RepL P w K H ds vs F → allInt ds = some m → vs = m.map V.int
  | [], _, _, _, h, e => by cases h; cases e; rfl
  | d :: ds, _, _, m, h, e => by
    cases h with
    | cons h1 h2 =>
      cases d <;> first | (simp [allInt] at e; done) | skip
      simp only [allInt] at e
      obtain ⟨k', e1, rfl⟩ := Option.map_eq_some_iff.mp e
      cases h1
      rw [allInt_rep h2 e1]
      rfl
theorem allBl_rep {P : Program} {w : World} {K : PySem.W.Frag} {H : Hp} : ∀ {ds : List D} {vs : List V} {F : List Addr} {m : List Bool}, RepL P w K H ds vs F → allBl ds = some m → vs = m.map V.bl
  | [], _, _, _, h, e => by cases h; cases e; rfl
  | d :: ds, _, _, m, h, e => by
    cases h with
    | cons h1 h2 =>
      cases d <;> first | (simp [allBl] at e; done) | skip
      simp only [allBl] at e
      obtain ⟨k', e1, rfl⟩ := Option.map_eq_some_iff.mp e
      cases h1
      rw [allBl_rep h2 e1]
      rfl
theorem callOne {f : Value} {p : Prim} {r : List V → Hp → VK → Prop} (g : D → Option D) (ho : CallR X f r) (hp : ∀ a, prim1 p a = g a)
    (h : ∀ (H : Hp) (x : V) (a d : D) (F : List Addr) (Q : VK), RX X H a x F → g a = some d → NewQ X H d Q → r [x] H Q) : CallR X f (fun vs H Q => (∃ x, vs = [x]) ∧ PrimQ X p vs H Q) := by
  intro pins s σ H xs us Q I rs q
  obtain ⟨⟨x, rfl⟩, q⟩ := q
  obtain ⟨a, d, F, ra, hd, hq⟩ := pq1 q
  exact ho pins s σ H _ us Q I rs (h H x a d F Q ra ((hp a).symm.trans hd) hq)
abbrev C1 (X : Cx) (f : Value) (p : Prim) : Prop := CallR X f (fun vs H Q => (∃ x, vs = [x]) ∧ PrimQ X p vs H Q)
abbrev C2 (X : Cx) (f : Value) (p : Prim) : Prop := CallR X f (fun vs H Q => (∃ x y, vs = [x, y]) ∧ PrimQ X p vs H Q)
theorem cAbs : C1 X (.builtin "abs") .abs := callOne absD call_abs (fun _ => rfl) fun H x a d F Q ra hd hq => by
  cases a <;> first | (cases hd; done) | skip
  cases hd; cases ra
  exact ⟨_, rfl, hq.int⟩
theorem cInt : C1 X (.type "int") .int := callOne intD call_int1 (fun _ => rfl) fun H x a d F Q ra hd hq => by
  cases a <;> first | (cases hd; done) | skip
  · cases hd; cases ra
    exact .inr ⟨_, rfl, hq.int⟩
  · cases hd; cases ra
    exact .inl ⟨_, rfl, hq.int⟩
theorem cSum (hc : X.calm = true) : C1 X (.builtin "sum") .sum := callOne sumD (cr_sum hc) (fun _ => rfl) fun H x a d F Q ra hd hq => by
  cases a <;> first | (cases hd; done) | skip
  · obtain ⟨m, h1, rfl⟩ := Option.map_eq_some_iff.mp hd
    cases ra with
    | lst h2 _ h3 =>
      have := allInt_rep h3 h1
      subst this
      exact ⟨_, _, rfl, SqL.of h2, hq.int⟩
  · obtain ⟨m, h1, rfl⟩ := Option.map_eq_some_iff.mp hd
    cases ra with
    | frz h2 _ h3 =>
      have := allInt_rep h3 h1
      subst this
      exact ⟨_, _, rfl, h2.sq, hq.int⟩
theorem cAll (hc : X.calm = true) : C1 X (.builtin "all") .all := callOne allD (cr_all hc) (fun _ => rfl) fun H x a d F Q ra hd hq => by
  cases a <;> first | (cases hd; done) | skip
  obtain ⟨m, h1, rfl⟩ := Option.map_eq_some_iff.mp hd
  cases ra with
  | lst h2 _ h3 =>
    have := allBl_rep h3 h1
    subst this
    exact ⟨_, _, rfl, SqL.of h2, hq.bl⟩
theorem cAny (hc : X.calm = true) : C1 X (.builtin "any") .any := callOne anyD (cr_any hc) (fun _ => rfl) fun H x a d F Q ra hd hq => by
  cases a <;> first | (cases hd; done) | skip
  obtain ⟨m, h1, rfl⟩ := Option.map_eq_some_iff.mp hd
  cases ra with
  | lst h2 _ h3 =>
    have := allBl_rep h3 h1
    subst this
    exact ⟨_, _, rfl, SqL.of h2, hq.bl⟩
theorem cTuple : C1 X (.type "tuple") .tuple := callOne tupleD cr_tupF (fun _ => rfl) fun H x a d F Q ra hd hq => by
  cases a <;> first | (cases hd; done) | skip
  · obtain ⟨hi, rfl⟩ := ite_some hd
    have hF := Rep.imm_nil (by rw [D.imm]; exact hi) ra
    subst hF
    cases ra with
    | tup h1 h2 h3 => exact ⟨_, _, rfl, .inr ⟨h1.sq, hq.old (.tup h1 h2 h3)⟩⟩
  · obtain ⟨hi, rfl⟩ := ite_some hd
    cases ra with
    | lst h1 h2 h3 => exact ⟨_, _, rfl, .inl ⟨SqL.of h1, hq.tup (h3.toImm hi) h2⟩⟩
  · obtain ⟨hi, rfl⟩ := ite_some hd
    cases ra with
    | frz h1 h2 h3 => exact ⟨_, _, rfl, .inl ⟨h1.sq, hq.tup (h3.toImm hi) h2⟩⟩
theorem cList : C1 X (.type "list") .list := callOne listD call_list_of (fun _ => rfl) fun H x a d F Q ra hd hq => by
  cases a <;> first | (cases hd; done) | skip
  · obtain ⟨hi, rfl⟩ := ite_some hd
    cases ra with
    | tup h1 h2 h3 => exact ⟨_, _, rfl, .inr h1.sq, hq.lst (h3.toImm hi) h2⟩
  · obtain ⟨hi, rfl⟩ := ite_some hd
    cases ra with
    | lst h1 h2 h3 => exact ⟨_, _, rfl, .inl (SqL.of h1), hq.lst (h3.toImm hi) h2⟩
  · obtain ⟨hi, rfl⟩ := ite_some hd
    cases ra with
    | frz h1 h2 h3 => exact ⟨_, _, rfl, .inl h1.sq, hq.lst (h3.toImm hi) h2⟩
theorem cMin2 (hc : X.calm = true) : C2 X (.builtin "min") .min2 := by
  intro pins s σ H xs us Q I rs q
  obtain ⟨⟨x, y, rfl⟩, q⟩ := q
  obtain ⟨a, b, d, F, G, ra, rb, hd, hq⟩ := pq2 q
  replace hd : min2D a b = some d := hd
  cases a <;> cases b <;> first | (cases hd; done) | skip
  cases hd; cases ra; cases rb
  exact call_min2 hc pins s σ H _ us Q I rs ⟨_, _, rfl, hq.int⟩
theorem cMax2 (hc : X.calm = true) : C2 X (.builtin "max") .max2 := by
  intro pins s σ H xs us Q I rs q
  obtain ⟨⟨x, y, rfl⟩, q⟩ := q
  obtain ⟨a, b, d, F, G, ra, rb, hd, hq⟩ := pq2 q
  replace hd : max2D a b = some d := hd
  cases a <;> cases b <;> first | (cases hd; done) | skip
  cases hd; cases ra; cases rb
  exact call_max2 hc pins s σ H _ us Q I rs ⟨_, _, rfl, hq.int⟩
/-- len of a dict with tuple keys -/
theorem cLen : C1 X (.builtin "len") .len := by
  intro pins s σ H xs us Q I rs q
  obtain ⟨⟨x, rfl⟩, q⟩ := q
  obtain ⟨a, d, F, ra, hd, hq⟩ := pq1 q
  replace hd : lenD a = some d := hd
  cases a <;> first | (cases hd; done) | skip
  · cases hd
    cases ra with
    | tup h1 h2 h3 => exact call_len_seq pins s σ H _ us Q I rs ⟨_, _, rfl, .inr h1.sq, by rw [← h3.length]; exact hq.int⟩
  · cases hd
    cases ra with
    | lst h1 h2 h3 => exact call_len_seq pins s σ H _ us Q I rs ⟨_, _, rfl, .inl (SqL.of h1), by rw [← h3.length]; exact hq.int⟩
  · cases hd
    cases ra with
    | frz h1 h2 h3 => exact call_len_seq pins s σ H _ us Q I rs ⟨_, _, rfl, .inl h1.sq, by rw [← h3.length]; exact hq.int⟩
  · cases hd
    cases ra with
    | dT h1 h0 h2 h3 h4 h5 h6 hl =>
      subst h0
      obtain ⟨u, rfl, rv⟩ := vals1 rs
      cases rv
      refine call_len_dictH h3 (dict_is I h1 h2 h4) (by rw [sizeLine_eq] at h6; omega) ?_
      have := hq.int
      rw [List.length_map] at this
      exact ⟨.int _, H, I.tok _, ⟨_, rfl⟩, this⟩
/-- x and the items that a list of alike data reads as -/
theorem alike_lib {d : D} {l : List D} (h : alikeAll d l = true) : PySem.W.AlikeAll (d.py :: D.pys l) ∧ PyData.depthAll (d.py :: D.pys l) ≤ 60 ∧ D.nods (d :: l) = true ∧ D.imms (d :: l) = true := by
  obtain ⟨h1, h2⟩ := alikeAll_each h
  have e : d.py :: D.pys l = (d :: l).map D.py := by rw [pys_map]; rfl
  refine ⟨⟨?_, ?_⟩, ?_, nods_of fun x hx => (alikeD_lib (h1 x hx x hx)).2.2.2.2.1, imms_of fun x hx => (alikeD_lib (h1 x hx x hx)).2.2.2.2.2.2.2.1⟩
  · rw [e]
    intro x hx y hy
    obtain ⟨a, ha, rfl⟩ := List.mem_map.mp hx
    obtain ⟨b, hb, rfl⟩ := List.mem_map.mp hy
    exact (alikeD_lib (h1 a ha b hb)).1
  · rw [e]
    intro x hx
    obtain ⟨a, ha, rfl⟩ := List.mem_map.mp hx
    exact (alikeD_lib (h1 a ha a ha)).2.2.2.2.2.1
  · have := depthAll_le (n := 60) (ds := d :: l) fun x hx => by rw [(alikeD_lib (h1 x hx x hx)).2.2.2.1]; exact h2 x hx
    rw [D.pys] at this
    exact this
/-- the item of a list of data that reads as a D -/
theorem item_is {pins : List (Addr × Obj)} {σ : L2.St} {s : Shared} {h' : Heap} {tk : Nat} {ds : List D} {vs : List V} {its : List Value} {i : Nat} {u : Value} {m : D} {bs : List Addr} (I : Inv X pins σ H s) (hk : ∀ b o, s.heap.get? b = some o → h'.get? b = some o)
    (hal : ∀ x ∈ ds, ∀ y ∈ ds, alikeD x y = true) (hm : m ∈ ds) (r : RepI X.prog X.w X.K H ds vs) (rv : Vals vs its) (hi : its[i]? = some u) (hr : Reads h' u m.py bs) : ∃ v, RelV v u ∧ RX X H m v [] := by
  have hil : i < its.length := (List.getElem?_eq_some_iff.mp hi).1
  have h2 : i < vs.length := by rw [rv.length]; exact hil
  have h3 : i < ds.length := by rw [r.length]; exact h2
  obtain ⟨v, hv, rd⟩ := r.get (List.getElem?_eq_getElem h3)
  obtain ⟨u', hu', rvv⟩ := rv.get hv
  rw [hi] at hu'
  cases hu'
  have I2 : Inv X pins σ H { s with heap := h' } := I.kept (t' := s.toks) hk
  have hmem : ds[i] ∈ ds := List.getElem_mem h3
  obtain ⟨as, q⟩ := Dp.reads I2 _ v u (rd.dp (alikeD_lib (hal _ hmem _ hmem)).2.2.2.2.1) rvv
  have e := PySem.W.alike_unique _ _ u as bs (alikeD_lib (hal _ hmem m hm)).1 q hr
  have e2 := (alikeD_lib (hal _ hmem m hm)).2.2.2.2.2.2.1 e
  rw [e2] at rd
  exact ⟨v, rvv, rd⟩
theorem cMinL (hc : X.calm = true) (hu : X.A.units + 65 < cLine) : C1 X (.builtin "min") .minL := by
  intro pins s σ H xs us Q I rs q
  obtain ⟨⟨x, rfl⟩, q⟩ := q
  obtain ⟨a, d, F, ra, hd, hq⟩ := pq1 q
  replace hd : minLD a = some d := hd
  obtain ⟨u, rfl, rv⟩ := vals1 rs
  have fin : ∀ (z : D) (l : List D) (ad : Addr) (vs : List V) (G : List Addr), alikeAll z l = true → d = minD z l → x = .ref ad → SqL X.K H ad vs → RepL X.prog X.w X.K H (z :: l) vs G → wpAny (model X.prog X.w) X.A (call (.builtin "min") [u]) (EP X pins σ Q) X.xe s := by
    intro z l ad vs G ha e ex hsq hl
    subst e ex
    cases rv
    obtain ⟨its, r', pl, _⟩ := I.list hsq
    obtain ⟨l1, l2, l3, l4⟩ := alike_lib ha
    obtain ⟨as, rd⟩ := Dp.readsAll I _ _ its (RepL.dps hl l3) r'
    rw [D.pys] at rd
    obtain ⟨h1, _⟩ := alikeAll_each ha
    refine PySem.W.min_list_data (I.ok.hd hc) pl.isList (by simpa using rd) l1 (by omega) fun i v h' tk bs hi hr hk => ?_
    rw [← minD_py h1] at hr
    obtain ⟨y, ry, rr⟩ := item_is (tk := tk) I hk h1 (minD_mem z l) (hl.toImm l4) r' (by simpa using hi) hr
    exact ⟨y, H, I.kept (t' := tk) hk, ry, hq.old rr⟩
  cases a <;> first | (cases hd; done) | skip
  · rename_i l
    cases l with
    | nil => cases hd
    | cons z l =>
      obtain ⟨hg, e⟩ := ite_some hd
      cases ra with
      | lst h1 h2 h3 => exact fin z l _ _ _ hg e.symm rfl (SqL.of h1) h3
  · rename_i l
    cases l with
    | nil => cases hd
    | cons z l =>
      obtain ⟨hg, e⟩ := ite_some hd
      cases ra with
      | frz h1 h2 h3 => exact fin z l _ _ _ hg e.symm rfl h1.sq h3
theorem cMaxL (hc : X.calm = true) (hu : X.A.units + 65 < cLine) : C1 X (.builtin "max") .maxL := by
  intro pins s σ H xs us Q I rs q
  obtain ⟨⟨x, rfl⟩, q⟩ := q
  obtain ⟨a, d, F, ra, hd, hq⟩ := pq1 q
  replace hd : maxLD a = some d := hd
  obtain ⟨u, rfl, rv⟩ := vals1 rs
  have fin : ∀ (z : D) (l : List D) (ad : Addr) (vs : List V) (G : List Addr), alikeAll z l = true → d = maxD z l → x = .ref ad → SqL X.K H ad vs → RepL X.prog X.w X.K H (z :: l) vs G → wpAny (model X.prog X.w) X.A (call (.builtin "max") [u]) (EP X pins σ Q) X.xe s := by
    intro z l ad vs G ha e ex hsq hl
    subst e ex
    cases rv
    obtain ⟨its, r', pl, _⟩ := I.list hsq
    obtain ⟨l1, l2, l3, l4⟩ := alike_lib ha
    obtain ⟨as, rd⟩ := Dp.readsAll I _ _ its (RepL.dps hl l3) r'
    rw [D.pys] at rd
    obtain ⟨h1, _⟩ := alikeAll_each ha
    refine PySem.W.max_list_data (I.ok.hd hc) pl.isList (by simpa using rd) l1 (by omega) fun i v h' tk bs hi hr hk => ?_
    rw [← maxD_py h1] at hr
    obtain ⟨y, ry, rr⟩ := item_is (tk := tk) I hk h1 (maxD_mem z l) (hl.toImm l4) r' (by simpa using hi) hr
    exact ⟨y, H, I.kept (t' := tk) hk, ry, hq.old rr⟩
  cases a <;> first | (cases hd; done) | skip
  · rename_i l
    cases l with
    | nil => cases hd
    | cons z l =>
      obtain ⟨hg, e⟩ := ite_some hd
      cases ra with
      | lst h1 h2 h3 => exact fin z l _ _ _ hg e.symm rfl (SqL.of h1) h3
  · rename_i l
    cases l with
    | nil => cases hd
    | cons z l =>
      obtain ⟨hg, e⟩ := ite_some hd
      cases ra with
      | frz h1 h2 h3 => exact fin z l _ _ _ hg e.symm rfl h1.sq h3
end
end DL
set_option maxHeartbeats 1000000
/-! D9: sorted, isinstance, tuple.index, sets' sizes. -/
namespace DL
open PySem PySem.Spec PyProof.Rows L2
section
variable {X : Cx} {H : Hp} {Q : VK}
theorem each_zip {ds : List D} : ∀ {vs : List V} {its : List Value}, ds.length = vs.length → Vals vs its → PySem.W.EachIs (fun (u : Value) (b : D × V) => RelV b.2 u) its (ds.zip vs) := by
  induction ds with
  | nil =>
    intro vs its e r
    cases vs with
    | nil => cases r; exact .nil
    | cons _ _ => cases e
  | cons d ds ih =>
    intro vs its e r
    cases vs with
    | nil => cases e
    | cons v vs =>
      cases r with
      | cons h t => exact .cons h (ih (by simpa using e) t)
theorem each_reads {pins : List (Addr × Obj)} {σ : L2.St} {s : Shared} (I : Inv X pins σ H s) {ds : List D} {vs : List V} {its : List Value} (r : RepI X.prog X.w X.K H ds vs) (rv : Vals vs its) (hn : ∀ d ∈ ds, D.nod d = true) :
    PySem.W.EachIs (fun (u : Value) (b : D × V) => ∃ as, Reads s.heap u b.1.py as) its (ds.zip vs) := by
  induction r generalizing its with
  | nil => cases rv; exact .nil
  | @cons d v ds vs h t ih =>
    cases rv with
    | cons h1 t1 => exact .cons (Dp.reads I _ v _ (h.dp (hn d List.mem_cons_self)) h1) (ih t1 fun x hx => hn x (List.mem_cons_of_mem _ hx))
theorem each_vals {l : List (D × V)} {its : List Value} (h : PySem.W.EachIs (fun (u : Value) (b : D × V) => RelV b.2 u) its l) : Vals (l.map (·.2)) its := by
  induction h with
  | nil => exact .nil
  | cons h t ih => exact .cons h ih
theorem zip_mem_rep {ds : List D} {vs : List V} (r : RepI X.prog X.w X.K H ds vs) : ∀ b ∈ ds.zip vs, b.1 ∈ ds ∧ RX X H b.1 b.2 [] := by
  induction r with
  | nil => intro b hb; cases hb
  | cons h t ih =>
    intro b hb
    rcases List.mem_cons.mp hb with rfl | hb
    · exact ⟨List.mem_cons_self, h⟩
    · exact ⟨List.mem_cons_of_mem _ (ih b hb).1, (ih b hb).2⟩
theorem repI_of_pairs {l : List (D × V)} (h : ∀ b ∈ l, RX X H b.1 b.2 []) : RepI X.prog X.w X.K H (l.map (·.1)) (l.map (·.2)) := by
  induction l with
  | nil => exact .nil
  | cons b l ih => exact .cons (h b List.mem_cons_self) (ih fun c hc => h c (List.mem_cons_of_mem _ hc))
theorem map_fst_zip' {ds : List D} : ∀ {vs : List V}, ds.length = vs.length → (ds.zip vs).map (·.1) = ds := by
  induction ds with
  | nil => intro vs _; simp
  | cons d ds ih =>
    intro vs e
    cases vs with
    | nil => cases e
    | cons v vs => rw [List.zip_cons_cons, List.map_cons, ih (by simpa using e)]
theorem mrg_eq : ∀ {n : Nat} {xs ys : List D}, xs.length + ys.length ≤ n → mrg n xs ys = List.merge xs ys leD
  | 0, xs, ys, h => by
    have h1 : xs = [] := List.length_eq_zero_iff.mp (by omega)
    have h2 : ys = [] := List.length_eq_zero_iff.mp (by omega)
    subst h1; subst h2
    simp [mrg]
  | _ + 1, [], ys, h => by simp [mrg]
  | _ + 1, x :: xs, [], h => by simp [mrg]
  | n + 1, x :: xs, y :: ys, h => by
    simp only [List.length_cons] at h
    rw [mrg, List.merge]
    split
    · rw [mrg_eq (by simp only [List.length_cons]; omega)]
    · rw [mrg_eq (by simp only [List.length_cons]; omega)]
theorem msort_eq : ∀ {n : Nat} {l : List D}, l.length ≤ n → msort n l = l.mergeSort leD
  | 0, l, h => by
    have h1 : l = [] := List.length_eq_zero_iff.mp (by omega)
    subst h1
    simp [msort]
  | _ + 1, [], h => by simp [msort]
  | _ + 1, [a], h => by simp [msort]
  | n + 1, a :: b :: xs, h => by
    simp only [List.length_cons] at h
    rw [msort, msort_eq (by rw [List.length_take]; simp only [List.length_cons]; omega), msort_eq (by rw [List.length_drop]; simp only [List.length_cons]; omega)]
    rw [mrg_eq (by rw [List.length_mergeSort, List.length_mergeSort, List.length_take, List.length_drop]; simp only [List.length_cons]; omega)]
    rw [List.mergeSort]
    simp only [List.MergeSort.Internal.splitInTwo_fst, List.MergeSort.Internal.splitInTwo_snd, List.length_cons]
theorem cSorted (hu : X.A.units + 65 < cLine) : C1 X (.builtin "sorted") .sorted := by
  intro pins s σ H xs us Q I rs q
  obtain ⟨⟨x, rfl⟩, q⟩ := q
  obtain ⟨a, d, F, ra, hd, hq⟩ := pq1 q
  replace hd : sortedD a = some d := hd
  obtain ⟨u, rfl, rv⟩ := vals1 rs
  have fin : ∀ (ds : List D) (ad : Addr) (vs : List V), (∀ x ∈ ds, ∀ y ∈ ds, alikeD x y = true) → (∀ x ∈ ds, D.depth x ≤ 60) → (∀ x ∈ ds, isTup0 x = false) → ds.length ≤ sizeLine → d = .lst (ds.mergeSort leD) → x = .ref ad → SqL X.K H ad vs → RepI X.prog X.w X.K H ds vs →
      wpAny (model X.prog X.w) X.A (call (.builtin "sorted") [u]) (EP X pins σ Q) X.xe s := by
    intro ds ad vs h1 h2 h3 hz e ex hsq hl
    subst e ex
    cases rv
    obtain ⟨its, r', pl, _⟩ := I.list hsq
    have hn : ∀ d ∈ ds, D.nod d = true := fun x hx => (alikeD_lib (h1 x hx x hx)).2.2.2.2.1
    have hmem := zip_mem_rep hl
    refine PySem.W.sorted_data (enc := fun b : D × V => b.1.py) pl.isList (each_zip hl.length r') (each_reads I hl r' hn) ?_ ?_ ?_ ?_ fun out ho he => ?_
    · intro p hp p' hp'
      obtain ⟨b, hb, rfl⟩ := List.mem_map.mp hp
      obtain ⟨b', hb', rfl⟩ := List.mem_map.mp hp'
      exact (alikeD_lib (h1 _ (hmem b hb).1 _ (hmem b' hb').1)).1
    · cases ds with
      | nil => exact .inl fun p hp => by simp at hp
      | cons z ds =>
        by_cases hz : ∃ l, z = .tup l
        · obtain ⟨l, rfl⟩ := hz
          refine .inl fun p hp => ?_
          obtain ⟨b, hb, rfl⟩ := List.mem_map.mp hp
          have q1 := h1 _ List.mem_cons_self _ (hmem b hb).1
          have q2 := h3 _ (hmem b hb).1
          generalize b.1 = c at q1 q2
          cases c <;> first | (simp [alikeD] at q1; done) | skip
          rename_i l'
          cases l' with
          | nil => simp [isTup0] at q2
          | cons c cs => exact ⟨c.py, D.pys cs, by rw [D.py, D.pys]⟩
        · refine .inr fun p hp => ?_
          obtain ⟨b, hb, rfl⟩ := List.mem_map.mp hp
          have q1 := h1 _ List.mem_cons_self _ (hmem b hb).1
          generalize b.1 = c at q1
          cases z <;> first | (simp [alikeD] at q1; done) | (exact absurd ⟨_, rfl⟩ hz) | skip
          all_goals (cases c <;> first | (simp [alikeD] at q1; done) | (rw [D.py]; exact ⟨nofun, nofun⟩))
    · rw [List.length_zip]; omega
    · intro b hb
      have := h2 _ (hmem b hb).1
      have e := (alikeD_lib (h1 _ (hmem b hb).1 _ (hmem b hb).1)).2.2.2.1
      show X.A.units + 2 + b.1.py.depth < cLine
      rw [e]
      omega
    · obtain ⟨ep, he'⟩ := PyProof.Rows.sortedAll_at s.heap its out.toArray
      have hmem2 : ∀ b ∈ (ds.zip vs).mergeSort (PySem.W.dataLe false fun b : D × V => b.1.py), RX X H b.1 b.2 [] := fun b hb => (hmem b ((List.mergeSort_perm _ _).mem_iff.mp hb)).2
      have hrep := repI_of_pairs hmem2
      have hsort : ((ds.zip vs).mergeSort (PySem.W.dataLe false fun b : D × V => b.1.py)).map (·.1) = ds.mergeSort leD := by
        rw [PySem.W.sort_maps (s := leD) (fun b : D × V => b.1) fun a ha b hb => ?_, map_fst_zip' hl.length]
        show (!PySem.W.dataLt b.1.py a.1.py) = leD a.1 b.1
        rw [(alikeD_lib (h1 _ (hmem b hb).1 _ (hmem a ha).1)).2.2.1]
        rfl
      rw [hsort] at hrep
      have hv := each_vals he
      have hlen : (ds.mergeSort leD).length ≤ sizeLine := by rw [List.length_mergeSort]; exact hz
      have hlen2 : (((ds.zip vs).mergeSort (PySem.W.dataLe false fun b : D × V => b.1.py)).map (·.2)).length ≤ sizeLine := by rw [← hrep.length]; exact hlen
      exact ⟨.ref _, _, I.laid (t' := s.toks) (o := .lst (((ds.zip vs).mergeSort (PySem.W.dataLe false fun b : D × V => b.1.py)).map (·.2))) (fun _ _ => PyProof.Rows.sortedAll_old) (Nat.le_succ _) ⟨hlen2, out, ep, hv, he'⟩, rfl, hq.lst hrep hlen _ (I.hok.fresh (Nat.le_succ _))⟩
  have all : ∀ (z : D) (l : List D), (alikeAll z l && !isTup0 z) = true → (∀ x ∈ z :: l, ∀ y ∈ z :: l, alikeD x y = true) ∧ (∀ x ∈ z :: l, D.depth x ≤ 60) ∧ ∀ x ∈ z :: l, isTup0 x = false := fun z l h => by
    rw [Bool.and_eq_true] at h
    obtain ⟨h1, h2⟩ := alikeAll_each h.1
    refine ⟨h1, h2, fun x hx => ?_⟩
    have q := h1 _ List.mem_cons_self x hx
    have n := h.2
    cases z <;> first | (simp [alikeD] at q; done) | skip
    all_goals (cases x <;> first | (simp [alikeD] at q; done) | rfl | skip)
    rename_i a b
    cases a with
    | nil => simp [isTup0] at n
    | cons a as =>
      cases b with
      | nil => simp [alikeD, alikeDs] at q
      | cons b bs => rfl
  cases a <;> first | (cases hd; done) | skip
  · rename_i l
    cases ra with
    | lst h1 h2 h3 =>
      cases l with
      | nil =>
        cases hd
        cases h3
        exact fin [] _ [] (by simp) (by simp) (by simp) (Nat.zero_le _) (by simp) rfl (SqL.of h1) .nil
      | cons z l =>
        obtain ⟨hg, e⟩ := ite_some hd
        obtain ⟨q1, q2, q3⟩ := all z l hg
        exact fin (z :: l) _ _ q1 q2 q3 h2 (by rw [← e, msort_eq (n := l.length + 1) (l := z :: l) (Nat.le_refl _)]) rfl (SqL.of h1) (h3.toImm (imms_of fun x hx => (alikeD_lib (q1 x hx x hx)).2.2.2.2.2.2.2.1))
  · rename_i l
    cases ra with
    | frz h1 h2 h3 =>
      cases l with
      | nil => cases hd
      | cons z l =>
        obtain ⟨hg, e⟩ := ite_some hd
        obtain ⟨q1, q2, q3⟩ := all z l hg
        exact fin (z :: l) _ _ q1 q2 q3 h2 (by rw [← e, msort_eq (n := l.length + 1) (l := z :: l) (Nat.le_refl _)]) rfl h1.sq (h3.toImm (imms_of fun x hx => (alikeD_lib (q1 x hx x hx)).2.2.2.2.2.2.2.1))
end
end DL
set_option maxHeartbeats 1000000
/-! D10: isinstance, index, sets' sizes, dicts made of pairs. -/
namespace DL
open PySem PySem.Spec PyProof.Rows L2
def kdName : Kd → String
  | .int => "int" | .bool => "bool" | .str => "str" | .tuple => "tuple" | .list => "list" | .dict => "dict"
section
variable {X : Cx} {H : Hp} {Q : VK}
theorem kit_int (k : Kd) : kitB "int" (kdName k) = some (decide (k = .int)) := by cases k <;> decide +kernel
theorem kit_bool (k : Kd) : kitB "bool" (kdName k) = some (k = .int || k = .bool) := by cases k <;> decide +kernel
theorem kit_str (k : Kd) : kitB "str" (kdName k) = some (decide (k = .str)) := by cases k <;> decide +kernel
theorem kit_non (k : Kd) : kitB "NoneType" (kdName k) = some false := by cases k <;> decide +kernel
theorem kit_tup (k : Kd) : kitB "tuple" (kdName k) = some (decide (k = .tuple)) := by cases k <;> decide +kernel
theorem kit_lst (k : Kd) : kitB "list" (kdName k) = some (decide (k = .list)) := by cases k <;> decide +kernel
/-- isinstance(x, T): the second argument is the type -/
theorem cIsi (k : Kd) : CallR X (.builtin "isinstance") (fun vs H Q => ∃ x, vs = [x, .ty (kdName k)] ∧ PrimQ X (.isinst k) [x] H Q) := by
  intro pins s σ H xs us Q I rs q
  obtain ⟨x, rfl, q⟩ := q
  obtain ⟨a, d, F, ra, hd, hq⟩ := pq1 q
  replace hd : isKd k a = some d := hd
  refine call_isi pins s σ H _ us Q I rs ?_
  cases a <;> first | (cases hd; done) | skip
  all_goals (cases hd)
  · cases ra
    exact ⟨_, _, _, _, _, rfl, .ty _, .base .non, kit_ty (kit_non k), hq.bl⟩
  · cases ra
    exact ⟨_, _, _, _, _, rfl, .ty _, .base (.bl _), kit_ty (kit_bool k), hq.bl⟩
  · cases ra
    exact ⟨_, _, _, _, _, rfl, .ty _, .base (.int _), kit_ty (kit_int k), hq.bl⟩
  · cases ra
    exact ⟨_, _, _, _, _, rfl, .ty _, .base (.str _), kit_ty (kit_str k), hq.bl⟩
  · cases ra with
    | tup h1 h2 h3 =>
      rcases h1 with ⟨o, h1, _⟩ | ⟨o, its, n, h1, h4, _⟩
      · exact ⟨_, _, _, _, _, rfl, .ty _, .fTuple h1, kit_ty (kit_tup k), hq.bl⟩
      · exact ⟨_, _, _, _, _, rfl, .ty _, .kTuple h1 h4, kit_ty (kit_tup k), hq.bl⟩
  · cases ra with
    | lst h1 h2 h3 => exact ⟨_, _, _, _, _, rfl, .ty _, .base (.lst h1), kit_ty (kit_lst k), hq.bl⟩
theorem dedup_mem : ∀ {m : List Int} {x : Int}, x ∈ dedupI m ↔ x ∈ m
  | [], _ => Iff.rfl
  | y :: r, x => by
    unfold dedupI
    by_cases h : y ∈ r
    · rw [if_pos h, dedup_mem]
      constructor
      · exact List.mem_cons_of_mem _
      · intro q
        rcases List.mem_cons.mp q with rfl | q
        · exact h
        · exact q
    · rw [if_neg h, List.mem_cons, List.mem_cons, dedup_mem]
theorem dedup_nodup : ∀ m : List Int, (dedupI m).Nodup
  | [] => List.nodup_nil
  | y :: r => by
    unfold dedupI
    by_cases h : y ∈ r
    · rw [if_pos h]; exact dedup_nodup r
    · rw [if_neg h]
      exact List.nodup_cons.mpr ⟨fun q => h (dedup_mem.mp q), dedup_nodup r⟩
theorem ints_vals {m : List Int} : ∀ {its : List Value}, Vals (m.map V.int) its → IntsAre its m := intsAre_of
/-- len(set(t)) -/
theorem pe_lenSetT {a : Expr} {ta : TE} {p p2 q pos : Pos} (hc : X.calm = true) (hg : Gl X "len") (hm : X.mg "len" = none) (hg2 : Gl X "set") (hm2 : X.mg "set" = none) (ha : PE X a ta)
    (na : starEach [a] X.env = (false, eval a X.env) :: starEach [] X.env) : PE X (.Call (.Name "len" p) [.Call (.Name "set" p2) [a] [] q] [] pos) (fun σ H Q => ta σ H fun x H1 => PrimQ X .lenSet [x] H1 Q) := by
  refine ⟨fun pins s σ H Q I h => ?_⟩
  refine Call_ (ld_blt I hg hm boot_len ?_)
  refine PyProof.Rows.callWith_builtin1 (PyProof.Rows.args_cons ?_ rfl) rfl rfl
  refine Call_ (ld_blt I hg2 hm2 PyProof.Rows.boot_set ?_)
  refine PyProof.Rows.callWith_type1 (PyProof.Rows.args_cons (thn (ha.run pins s σ H _ I h) fun v s1 ⟨x, H1, I1, r1, q1⟩ => PyProof.Rows.args_nil ?_) na) na rfl
  obtain ⟨y, d, F, ra, hd, hq⟩ := pq1 q1
  replace hd : lenSetD y = some d := hd
  cases y <;> first | (cases hd; done) | skip
  rename_i l
  unfold lenSetD at hd
  simp only at hd
  cases em : allInt l with
  | none => rw [em] at hd; cases hd
  | some m =>
    rw [em] at hd
    obtain ⟨hg, rfl⟩ := ite_some hd
    have hg := of_decide_eq_true hg
    cases ra with
    | tup h1 h2 h3 =>
      have e := allInt_rep h3 em
      subst e
      cases r1
      obtain ⟨its, r, pl, hz⟩ := I1.tuple h1.sq
      refine call_set_tupI m (I1.ok.hd hc) pl (by simpa using ints_vals r) (by unfold scanBound; omega) fun h' tk c hS hc2 hk => ?_
      refine PyProof.Rows.args_nil ?_
      obtain ⟨o, es, ep, t, ho, hex, hdt, _, hnd, hmem, hsz, hf, hn, _⟩ := hS
      have I2 : Inv X pins σ H1 { s1 with heap := h', toks := tk } := I1.kept hk
      have hlen : es.size = (dedupI m).length := by
        have hp := (List.perm_ext_iff_of_nodup hnd (dedup_nodup m)).mpr fun z => by
          rw [← hmem z, dedup_mem]
          simp
        have := hp.length_eq
        rw [List.length_map, Array.length_toList] at this
        exact this
      refine call_len_set ho hex hdt hf (by unfold scanBound at hsz; omega) ?_
      exact ⟨.int es.size, H1, I2.tok _, ⟨_, rfl⟩, by rw [hlen]; exact hq.int⟩
end
end DL
set_option maxHeartbeats 1000000
/-! D11: readings of expressions by the small language; names, constants, operands, lists of them. -/
namespace DL
open PySem PySem.Spec PyProof.Rows L2

section
variable (P : Program) (w : World) (K : PySem.W.Frag)
/-- what an expression does: by the environment, a value that stands apart -/
def tD (F : DL.Env → Option (D × DL.Env)) : TE := fun σ H Q => ∃ (ρ : DL.Env) (Φ : Nat → List Addr) (d : D) (ρ' : DL.Env), EnvRep P w K H ρ σ Φ ∧ F ρ = some (d, ρ') ∧
  ∀ (v : V) (H' : Hp) (Φ' : Nat → List Addr) (G : List Addr), Post P w K σ H ρ Φ H' ρ' Φ' → Res P w K H ρ Φ H' ρ' Φ' d v G → Q v H'
def tDB (F : DL.Env → Option (Bool × DL.Env)) : TT := fun σ H Q => ∃ (ρ : DL.Env) (Φ : Nat → List Addr) (b : Bool) (ρ' : DL.Env), EnvRep P w K H ρ σ Φ ∧ F ρ = some (b, ρ') ∧
  ∀ (H' : Hp) (Φ' : Nat → List Addr), Post P w K σ H ρ Φ H' ρ' Φ' → Q b H'
/-- operands: new values apart from all (footprint G), or names -/
inductive OpR' (H : Hp) (σ : L2.St) : List Opd → List V → List Addr → Prop
  | nil : OpR' H σ [] [] []
  | val {d : D} {v : V} {F : List Addr} {os : List Opd} {vs : List V} {G : List Addr} : Rep P w K H d v F → OpR' H σ os vs G → OpR' H σ (.val d :: os) (v :: vs) (F ++ G)
  | ref {i : Nat} {v : V} {os : List Opd} {vs : List V} {G : List Addr} : σ[i]? = some (some v) → OpR' H σ os vs G → OpR' H σ (.ref i :: os) (v :: vs) G
structure OpsRes (σ : L2.St) (H : Hp) (ρ : DL.Env) (Φ : Nat → List Addr) (H' : Hp) (ρ' : DL.Env) (Φ' : Nat → List Addr) (os : List Opd) (vs : List V) (G : List Addr) : Prop where
  rep : OpR' P w K H' σ os vs G
  nod : G.Nodup
  dis : ∀ a ∈ G, ¬ FP ρ' Φ' a
  new : ∀ a ∈ G, H a = none ∨ FP ρ Φ a
def tO (F : DL.Env → Option (Opd × DL.Env)) : TE := fun σ H Q => ∃ (ρ : DL.Env) (Φ : Nat → List Addr) (o : Opd) (ρ' : DL.Env), EnvRep P w K H ρ σ Φ ∧ F ρ = some (o, ρ') ∧
  ∀ (v : V) (H' : Hp) (Φ' : Nat → List Addr) (G : List Addr), Post P w K σ H ρ Φ H' ρ' Φ' → OpsRes P w K σ H ρ Φ H' ρ' Φ' [o] [v] G → Q v H'
def tOs (F : DL.Env → Option (List Opd × DL.Env)) : TA := fun σ H Q => ∃ (ρ : DL.Env) (Φ : Nat → List Addr) (os : List Opd) (ρ' : DL.Env), EnvRep P w K H ρ σ Φ ∧ F ρ = some (os, ρ') ∧
  ∀ (vs : List V) (H' : Hp) (Φ' : Nat → List Addr) (G : List Addr), Post P w K σ H ρ Φ H' ρ' Φ' → OpsRes P w K σ H ρ Φ H' ρ' Φ' os vs G → Q vs H'
/-- a row of values apart from all -/
structure ResL (H : Hp) (ρ : DL.Env) (Φ : Nat → List Addr) (H' : Hp) (ρ' : DL.Env) (Φ' : Nat → List Addr) (ds : List D) (vs : List V) (F : List Addr) : Prop where
  rep : RepL P w K H' ds vs F
  nod : F.Nodup
  dis : ∀ a ∈ F, ¬ FP ρ' Φ' a
  new : ∀ a ∈ F, H a = none ∨ FP ρ Φ a
def tDs (F : DL.Env → Option (List D × DL.Env)) : TA := fun σ H Q => ∃ (ρ : DL.Env) (Φ : Nat → List Addr) (ds : List D) (ρ' : DL.Env), EnvRep P w K H ρ σ Φ ∧ F ρ = some (ds, ρ') ∧
  ∀ (vs : List V) (H' : Hp) (Φ' : Nat → List Addr) (G : List Addr), Post P w K σ H ρ Φ H' ρ' Φ' → ResL P w K H ρ Φ H' ρ' Φ' ds vs G → Q vs H'
end
section
variable {P : Program} {w : World} {K : PySem.W.Frag} {H H' H1 H2 : Hp} {ρ ρ' ρ1 ρ2 : DL.Env} {σ σ1 σ2 : L2.St} {Φ Φ' Φ1 Φ2 : Nat → List Addr}
theorem Post.trans' (p : Post P w K σ1 H ρ Φ H1 ρ1 Φ1) (q : Post P w K σ2 H1 ρ1 Φ1 H2 ρ2 Φ2) : Post P w K σ2 H ρ Φ H2 ρ2 Φ2 :=
  Post.trans (σ := σ2) ⟨q.env, fun a o h n => q.keep a o (p.keep a o h n) fun f => by
    rcases p.new a f with z | z
    · rw [h] at z; cases z
    · exact n z, fun a h => by
    rcases q.new a h with z | z
    · exact p.none_ z
    · exact p.new a z⟩ (Post.refl q.env)
theorem FP.some_ (e : EnvRep P w K H ρ σ Φ) {a : Addr} (h : FP ρ Φ a) : H a ≠ none := by
  obtain ⟨o, h1, _⟩ := e.mut h
  rw [h1]
  exact nofun
theorem Rep.some_ {d : D} {v : V} {F : List Addr} (r : Rep P w K H d v F) {a : Addr} (h : a ∈ F) : H a ≠ none := by
  obtain ⟨o, h1, _⟩ := r.mut a h
  rw [h1]
  exact nofun
theorem RepL.some_ {d : List D} {v : List V} {F : List Addr} (r : RepL P w K H d v F) {a : Addr} (h : a ∈ F) : H a ≠ none := by
  obtain ⟨o, h1, _⟩ := r.mut a h
  rw [h1]
  exact nofun
theorem OpR'.some_ {os : List Opd} {vs : List V} {G : List Addr} (r : OpR' P w K H σ os vs G) {a : Addr} (h : a ∈ G) : H a ≠ none := by
  induction r with
  | nil => cases h
  | val r _ ih =>
    rcases List.mem_append.mp h with h | h
    · exact r.some_ h
    · exact ih h
  | ref _ _ ih => exact ih h
theorem OpR'.step (q : Post P w K σ1 H1 ρ1 Φ1 H2 ρ2 Φ2) (e : EnvRep P w K H1 ρ1 σ1 Φ1) {os : List Opd} {vs : List V} {G : List Addr} (r : OpR' P w K H1 σ os vs G) (n : ∀ a ∈ G, ¬ FP ρ1 Φ1 a) : OpR' P w K H2 σ os vs G := by
  induction r with
  | nil => exact .nil
  | val r _ ih => exact .val (q.rep e r fun a ha => n a (List.mem_append_left _ ha)) (ih fun a ha => n a (List.mem_append_right _ ha))
  | ref h _ ih => exact .ref h (ih n)
/-- a value that comes first stays while the others come -/
theorem Res.step (q : Post P w K σ H1 ρ1 Φ1 H2 ρ2 Φ2) (p : Post P w K σ H ρ Φ H1 ρ1 Φ1) {d : D} {v : V} {F : List Addr} (r : Res P w K H ρ Φ H1 ρ1 Φ1 d v F) : Res P w K H ρ Φ H2 ρ2 Φ2 d v F :=
  ⟨q.rep p.env r.rep r.dis, r.nod, q.apart (fun a ha => r.rep.some_ ha) r.dis, r.new⟩
theorem OpsRes.cons {o : Opd} {os : List Opd} {v : V} {vs : List V} {F G : List Addr} (p : Post P w K σ H ρ Φ H1 ρ1 Φ1) (q : Post P w K σ H1 ρ1 Φ1 H2 ρ2 Φ2) (r : OpsRes P w K σ H ρ Φ H1 ρ1 Φ1 [o] [v] F) (t : OpsRes P w K σ H1 ρ1 Φ1 H2 ρ2 Φ2 os vs G) :
    OpsRes P w K σ H ρ Φ H2 ρ2 Φ2 (o :: os) (v :: vs) (F ++ G) := by
  have hd : ∀ a ∈ F, a ∉ G := fun a ha hb => by
    rcases t.new a hb with z | z
    · exact r.rep.some_ ha z
    · exact r.dis a ha z
  have h1 := OpR'.step q p.env r.rep r.dis
  have ap := q.apart (fun a ha => r.rep.some_ ha) r.dis
  have e : OpR' P w K H2 σ (o :: os) (v :: vs) (F ++ G) := by
    cases h1 with
    | val a b => cases b; rw [List.append_nil]; exact .val a t.rep
    | ref a b => cases b; exact .ref a t.rep
  refine ⟨e, List.nodup_append.mpr ⟨r.nod, t.nod, fun a ha b hb e => hd a ha (e ▸ hb)⟩, fun a ha => ?_, fun a ha => ?_⟩
  · rcases List.mem_append.mp ha with ha | ha
    · exact ap a ha
    · exact t.dis a ha
  · rcases List.mem_append.mp ha with ha | ha
    · exact r.new a ha
    · rcases t.new a ha with z | z
      · exact p.none_ z
      · exact p.new a z
theorem ResL.cons {d : D} {ds : List D} {v : V} {vs : List V} {F G : List Addr} (p : Post P w K σ H ρ Φ H1 ρ1 Φ1) (q : Post P w K σ H1 ρ1 Φ1 H2 ρ2 Φ2) (r : Res P w K H ρ Φ H1 ρ1 Φ1 d v F) (t : ResL P w K H1 ρ1 Φ1 H2 ρ2 Φ2 ds vs G) :
    ResL P w K H ρ Φ H2 ρ2 Φ2 (d :: ds) (v :: vs) (F ++ G) := by
  have hd : ∀ a ∈ F, a ∉ G := fun a ha hb => by
    rcases t.new a hb with z | z
    · exact r.rep.some_ ha z
    · exact r.dis a ha z
  have r2 := r.step q p
  refine ⟨.cons r2.rep t.rep, List.nodup_append.mpr ⟨r.nod, t.nod, fun a ha b hb e => hd a ha (e ▸ hb)⟩, fun a ha => ?_, fun a ha => ?_⟩
  · rcases List.mem_append.mp ha with ha | ha
    · exact r2.dis a ha
    · exact t.dis a ha
  · rcases List.mem_append.mp ha with ha | ha
    · exact r.new a ha
    · rcases t.new a ha with z | z
      · exact p.none_ z
      · exact p.new a z
/-- what has no footprint stands apart -/
theorem Res.flat {d : D} {v : V} (r : Rep P w K H' d v []) : Res P w K H ρ Φ H' ρ' Φ' d v [] := ⟨r, List.nodup_nil, nofun, nofun⟩
/-- each operand's value -/
theorem OpR'.any (e : EnvRep P w K H ρ σ Φ) : ∀ {os : List Opd} {vs : List V} {G : List Addr} {ds : List D}, OpR' P w K H σ os vs G → opds ρ os = some ds → Paired (fun d v => ∃ F, Rep P w K H d v F) ds vs
  | [], _, _, _, r, h => by cases r; cases h; exact .nil
  | o :: os, _, _, ds, r, h => by
    unfold opds at h
    split at h
    · rename_i d ds' h1 h2
      cases h
      cases r with
      | val a b => cases h1; exact .cons ⟨_, a⟩ (OpR'.any e b h2)
      | ref a b =>
        obtain ⟨u, e1, e2⟩ := e.rep _ _ h1
        rw [a] at e1
        cases e1
        exact .cons ⟨_, e2⟩ (OpR'.any e b h2)
    · cases h
end

/-! ### weaker readings -/
section
variable {X : Cx} {x : Expr} {xs : List Expr} {t t' : TE}
theorem _root_.L2.PE.wk (h : PE X x t) (hw : ∀ σ H Q, t' σ H Q → t σ H Q) : PE X x t' := ⟨fun pins s σ H Q I q => h.run pins s σ H Q I (hw σ H Q q)⟩
theorem _root_.L2.PA.wk {t t' : TA} (h : PA X xs t) (hw : ∀ σ H Q, t' σ H Q → t σ H Q) : PA X xs t' := ⟨fun pos pins s σ H Q I q => h.run pos pins s σ H Q I (hw σ H Q q)⟩
theorem _root_.L2.PT.wk {t t' : TT} (h : PT X x t) (hw : ∀ σ H Q, t' σ H Q → t σ H Q) : PT X x t' := ⟨fun pins s σ H Q I q => h.run pins s σ H Q I (hw σ H Q q)⟩
theorem _root_.L2.PW.wk {t t' : TT} (h : PW X x t) (hw : ∀ σ H Q, t' σ H Q → t σ H Q) : PW X x t' := ⟨fun whole pins s σ H Q I q => h.run whole pins s σ H Q I (hw σ H Q q)⟩
theorem _root_.L2.PTs.wk {t t' : TT} (h : PTs X xs t) (hw : ∀ σ H Q, t' σ H Q → t σ H Q) : PTs X xs t' := ⟨fun pins s σ H Q I q => h.run pins s σ H Q I (hw σ H Q q)⟩
theorem _root_.L2.PS.wk {x : Stmt} {t t' : TS} (h : PS X x t) (hw : ∀ D σ H, t' D σ H → t D σ H) : PS X x t' := ⟨fun pins s σ H D I q => h.run pins s σ H D I (hw D σ H q)⟩
theorem _root_.L2.PSs.wk {x : List Stmt} {t t' : TS} (h : PSs X x t) (hw : ∀ D σ H, t' D σ H → t D σ H) : PSs X x t' := ⟨fun pins s σ H D I q => h.run pins s σ H D I (hw D σ H q)⟩
end

/-! ### judgements -/
variable (X : Cx) (cf : Cf)
abbrev SE (x : Expr) (e : E) : Prop := PE X x (tD X.prog X.w X.K (evE cf e))
abbrev SO (x : Expr) (e : E) : Prop := PE X x (tO X.prog X.w X.K fun ρ => opOf e (evE cf e ρ) ρ)
abbrev SOs (xs : List Expr) (es : List E) : Prop := PA X xs (tOs X.prog X.w X.K (evOps cf es))
abbrev STk (xs : List Expr) (es : List E) : Prop := PA X xs (tDs X.prog X.w X.K (evTk cf es))
abbrev SDisp (xs : List Expr) (st : List Bool) (es : List E) : Prop := PA X xs (tDs X.prog X.w X.K (evDisp cf st es))
abbrev SB (x : Expr) (e : E) : Prop := PT X x (tDB X.prog X.w X.K fun ρ => asBl (evE cf e ρ))
abbrev SW (x : Expr) (e : E) : Prop := PW X x (tDB X.prog X.w X.K fun ρ => asBl (evE cf e ρ))
abbrev SCs (xs : List Expr) (es : List E) : Prop := PTs X xs (tDB X.prog X.w X.K (evCs cf es))
section
variable {X : Cx} {cf : Cf}
variable {x y z : Expr} {xs : List Expr} {e e' e'' : E} {es : List E} {st : List Bool} {pos p : Pos}
/-! ### constants, names -/
theorem se_c {v : V} {d : D} (h : PE X x (tC v)) (r : ∀ H, Rep X.prog X.w X.K H d v []) (he : ∀ ρ, evE cf e ρ = some (d, ρ)) : SE X cf x e := h.wk fun σ H Q ⟨ρ, Φ, d', ρ', h1, h2, h3⟩ => by
  rw [he] at h2
  cases h2
  exact h3 v H Φ [] (Post.refl h1) (Res.flat (r H))
theorem se_int {i : Int} {j} : SE X cf (.Constant (.int i) j pos) (.int i) := se_c pe_int (fun _ => .int i) fun _ => rfl
theorem se_bl {i : Bool} {j} : SE X cf (.Constant (.bool i) j pos) (.bl i) := se_c pe_bl (fun _ => .bl i) fun _ => rfl
theorem se_non {j} : SE X cf (.Constant .none j pos) .non := se_c pe_non (fun _ => .non) fun _ => rfl
theorem se_str {i : Str} {j} : SE X cf (.Constant (.str i) j pos) (.str i) := se_c pe_str (fun _ => .str i) fun _ => rfl
/-- a module's constant -/
theorem se_conI {n : Str} {i : Int} {tk : Tok} (hg : Gl X n) (hm : X.mg n = some (.int i tk)) (hd : (n == ("__debug__" : Str)) = false := by decide) : SE X cf (.Name n pos) (.con n (.int i)) :=
  se_c (v := .int i) (pe_glob hg hm ⟨tk, rfl⟩ hd) (fun _ => .int i) fun _ => rfl
theorem se_var {i : Nat} {n : Str} (hN : X.N[i]? = some n) (hv : Vis X.env.scope n) (hd : (n == ("__debug__" : Str)) = false := by decide) (hcd : (n == ("__classdict__" : Str)) = false := by decide) : SE X cf (.Name n pos) (.var i) := (pe_var hN hv hd hcd).wk fun σ H Q ⟨ρ, Φ, d, ρ', h1, h2, h3⟩ => by
  rw [evE, take] at h2
  split at h2
  · rename_i d0 hd0
    obtain ⟨v, e1, r⟩ := h1.rep i d0 hd0
    refine ⟨v, e1, ?_⟩
    split at h2
    · rename_i hi
      cases h2
      rw [Rep.imm_nil hi r] at r
      exact h3 v H Φ [] (Post.refl h1) (Res.flat r)
    · cases h2
      refine h3 v H Φ (Φ i) ⟨h1.drop i, fun _ _ h _ => h, fun a h => .inr h.drop⟩ ⟨r, h1.nod i _ hd0, fun a ha f => ?_, fun a ha => .inr ⟨i, _, hd0, ha⟩⟩
      obtain ⟨j, d', h4, h5⟩ := f
      obtain ⟨h6, h7⟩ := eget_eset_none h4
      exact h1.dis i j _ _ (Ne.symm h6) hd0 h7 a ha h5
  · cases h2
/-! ### operands -/
theorem so_of (h : SE X cf x e) (he : ∀ r ρ, opOf e r ρ = (match r with | some (d, ρ1) => some (.val d, ρ1) | none => none) := by intros; rfl) : SO X cf x e := PE.wk h fun σ H Q ⟨ρ, Φ, o, ρ', h1, h2, h3⟩ => by
  dsimp only at h2
  rw [he] at h2
  split at h2
  · rename_i d ρ1 h4
    cases h2
    refine ⟨ρ, Φ, d, _, h1, h4, fun v H' Φ' G p r => h3 v H' Φ' G p ?_⟩
    have := OpR'.val r.rep (.nil (P := X.prog) (w := X.w) (K := X.K) (H := H') (σ := σ))
    rw [List.append_nil] at this
    exact ⟨this, r.nod, r.dis, r.new⟩
  · cases h2
theorem so_var {i : Nat} {n : Str} (hN : X.N[i]? = some n) (hv : Vis X.env.scope n) (hd : (n == ("__debug__" : Str)) = false := by decide) (hcd : (n == ("__classdict__" : Str)) = false := by decide) : SO X cf (.Name n pos) (.var i) := (pe_var hN hv hd hcd).wk fun σ H Q ⟨ρ, Φ, o, ρ', h1, h2, h3⟩ => by
  change (if (eget ρ i).isSome then some (Opd.ref i, ρ) else none) = some (o, ρ') at h2
  split at h2
  · rename_i hs
    cases h2
    obtain ⟨d0, hd0⟩ := Option.isSome_iff_exists.mp hs
    obtain ⟨v, e1, r⟩ := h1.rep i d0 hd0
    exact ⟨v, e1, h3 v H Φ [] (Post.refl h1) ⟨.ref e1 .nil, List.nodup_nil, nofun, nofun⟩⟩
  · cases h2
theorem sos_nil : SOs X cf [] [] := pa_nil.wk fun σ H Q ⟨ρ, Φ, os, ρ', h1, h2, h3⟩ => by
  cases h2
  exact h3 [] H Φ [] (Post.refl h1) ⟨.nil, List.nodup_nil, nofun, nofun⟩
theorem tOs_cons {P : Program} {w : World} {K : PySem.W.Frag} {σ : L2.St} {H : Hp} {Q : List V → Hp → Prop} (h : tOs P w K (evOps cf (e :: es)) σ H Q) : tCons (tO P w K fun ρ => opOf e (evE cf e ρ) ρ) (tOs P w K (evOps cf es)) σ H Q := by
  obtain ⟨ρ, Φ, os, ρ', h1, h2, h3⟩ := h
  rw [evOps] at h2
  split at h2
  · rename_i o ρ1 e1
    split at h2
    · rename_i os' ρ2 e2
      cases h2
      exact ⟨ρ, Φ, o, ρ1, h1, e1, fun v H1 Φ1 G1 p1 r1 => ⟨ρ1, Φ1, os', _, p1.env, e2, fun vs H2 Φ2 G2 p2 r2 => h3 _ _ _ _ (p1.trans p2) (OpsRes.cons p1 p2 r1 r2)⟩⟩
    · cases h2
  · cases h2
theorem tOs_nil {P : Program} {w : World} {K : PySem.W.Frag} {σ : L2.St} {H : Hp} {Q : List V → Hp → Prop} (h : tOs P w K (evOps cf []) σ H Q) : tNil σ H Q := by
  obtain ⟨ρ, Φ, os, ρ', h1, h2, h3⟩ := h
  cases h2
  exact h3 [] H Φ [] (Post.refl h1) ⟨.nil, List.nodup_nil, nofun, nofun⟩
theorem sos_cons (h : SO X cf x e) (t : SOs X cf xs es) (hs : starEach (x :: xs) X.env = (false, eval x X.env) :: starEach xs X.env := by rfl) : SOs X cf (x :: xs) (e :: es) := (pa_cons h t hs).wk fun σ H Q q => tOs_cons q
theorem tCons_mono {ta : TE} {t u : TA} {σ : L2.St} {H : Hp} {Q : List V → Hp → Prop} (hm : ∀ (Q Q' : VK), (∀ v H, Q v H → Q' v H) → ta σ H Q → ta σ H Q') (htu : ∀ σ H Q, t σ H Q → u σ H Q) (h : tCons ta t σ H Q) : tCons ta u σ H Q := hm _ _ (fun v H' q => htu σ H' _ q) h
theorem tO_mono {P : Program} {w : World} {K : PySem.W.Frag} {F : DL.Env → Option (Opd × DL.Env)} {σ : L2.St} {H : Hp} (Q Q' : VK) (h : ∀ v H, Q v H → Q' v H) (q : tO P w K F σ H Q) : tO P w K F σ H Q' := by
  obtain ⟨ρ, Φ, o, ρ', h1, h2, h3⟩ := q
  exact ⟨ρ, Φ, o, ρ', h1, h2, fun v H' Φ' G p r => h _ _ (h3 v H' Φ' G p r)⟩
theorem tOs1 {P : Program} {w : World} {K : PySem.W.Frag} {σ : L2.St} {H : Hp} {Q : List V → Hp → Prop} (h : tOs P w K (evOps cf [e]) σ H Q) : tO P w K (fun ρ => opOf e (evE cf e ρ) ρ) σ H fun v H1 => Q [v] H1 :=
  tO_mono _ _ (fun v H1 q => tOs_nil (Q := fun vs H2 => Q (v :: vs) H2) (cf := cf) q) (tOs_cons h)
theorem tOs2 {P : Program} {w : World} {K : PySem.W.Frag} {σ : L2.St} {H : Hp} {Q : List V → Hp → Prop} (h : tOs P w K (evOps cf [e, e']) σ H Q) : tO P w K (fun ρ => opOf e (evE cf e ρ) ρ) σ H fun v H1 => tO P w K (fun ρ => opOf e' (evE cf e' ρ) ρ) σ H1 fun u H2 => Q [v, u] H2 :=
  tO_mono _ _ (fun v H1 q => tOs1 (Q := fun vs H2 => Q (v :: vs) H2) (cf := cf) q) (tOs_cons h)
/-! ### a primitive, by its operands -/
theorem prim_by {pr : Prim} {σ : L2.St} {H : Hp} {Q : VK} (h : tD X.prog X.w X.K (evE cf (.prim pr es)) σ H Q) : tOs X.prog X.w X.K (evOps cf es) σ H fun vs H1 => PrimQ X pr vs H1 Q := by
  obtain ⟨ρ, Φ, d, ρ', h1, h2, h3⟩ := h
  rw [evE] at h2
  split at h2
  · rename_i os ρ1 e1
    split at h2
    · rename_i ds e2
      split at h2
      · rename_i d' e3
        cases h2
        refine ⟨ρ, Φ, os, _, h1, e1, fun vs H' Φ' G p r => ⟨ds, _, OpR'.any p.env r.rep e2, e3, fun v H2 F s rv hn nd => ?_⟩⟩
        refine h3 v H2 Φ' F (p.same s) ⟨rv, nd, fun a ha f => ?_, fun a ha => p.none_ (hn a ha)⟩
        exact FP.some_ p.env f (hn a ha)
      · cases h2
    · cases h2
  · cases h2
theorem se_p1 {pr : Prim} {f : V → Hp → VK → Prop} (h : PE X z (fun σ H Q => tO X.prog X.w X.K (fun ρ => opOf e (evE cf e ρ) ρ) σ H fun v H1 => PrimQ X pr [v] H1 Q)) : SE X cf z (.prim pr [e]) := h.wk fun σ H Q q => tOs1 (prim_by q)
theorem se_p2 {pr : Prim} (h : PE X z (fun σ H Q => tO X.prog X.w X.K (fun ρ => opOf e (evE cf e ρ) ρ) σ H fun v H1 => tO X.prog X.w X.K (fun ρ => opOf e' (evE cf e' ρ) ρ) σ H1 fun u H2 => PrimQ X pr [v, u] H2 Q)) : SE X cf z (.prim pr [e, e']) := h.wk fun σ H Q q => tOs2 (prim_by q)
theorem se_bin {o : Bop} {op : Operator} (ho : OpR X (binaryOp op) (PQ2 X (.bin o))) (h1 : SO X cf x e) (h2 : SO X cf y e') : SE X cf (.BinOp x op y pos) (.prim (.bin o) [e, e']) := se_p2 (pe_op ho h1 h2)
theorem se_neg (h1 : SO X cf x e) : SE X cf (.UnaryOp .USub x pos) (.prim .neg [e]) := se_p1 (f := PQ1 X .neg) (pe_un unNeg h1)
theorem se_cmp {c : Cm} {op : CmpOp} (ho : OpR X (compareOp op) (PQ2 X (.cmp c))) (h1 : SO X cf x e) (h2 : SO X cf y e') (hm : behindInMarks op y = false) : SE X cf (.Compare x [op] [y] pos) (.prim (.cmp c) [e, e']) := se_p2 (pe_cmpR ho h1 h2 hm)
theorem se_cmpB {b : Bool} {op : CmpOp} (ho : OpR X (compareOp op) (PQ2 X (.isB b))) (h1 : SO X cf x e) (h2 : SO X cf y e') (hm : behindInMarks op y = false) : SE X cf (.Compare x [op] [y] pos) (.prim (.isB b) [e, e']) := se_p2 (pe_cmpR ho h1 h2 hm)
theorem so_p (h : SE X cf x (.prim pr es)) : SO X cf x (.prim pr es) := so_of h
end
end DL
set_option maxHeartbeats 1000000
/-! D12: readings of expressions: calls of built-ins, subscripts, displays, tests. -/
namespace DL
open PySem PySem.Spec PyProof.Rows L2
section
variable {X : Cx} {cf : Cf}
variable {x y z a b c : Expr} {xs : List Expr} {e e' e'' e1 e2 e3 : E} {es : List E} {st : List Bool} {pos p p2 q : Pos} {n n2 : Str} {id : String} {pr : Prim}
abbrev boolOp_true (_ : Unit) : True := trivial
/-- what a name of a built-in asks -/
structure Blt (X : Cx) (n : Str) (v : Value) : Prop where
  gl : Gl X n
  mg : X.mg n = none
  bt : bootBuiltins n = some v
  n0 : n ≠ "__name__" := by decide
  nd : (n == ("__debug__" : Str)) = false := by decide
theorem se_cb1 (hc : C1 X (.builtin id) pr) (B : Blt X n (.builtin id)) (h1 : SO X cf x e) (hs : starEach [x] X.env = (false, eval x X.env) :: starEach [] X.env := by rfl) :
    SE X cf (.Call (.Name n p) [x] [] pos) (.prim pr [e]) := se_p1 (f := PQ1 X pr) (PE.wk (pe_callB hc B.gl B.mg B.bt (pa_cons h1 pa_nil hs) B.n0 B.nd hs rfl) fun σ H Q h => tO_mono _ _ (fun v H1 q => ⟨⟨v, rfl⟩, q⟩) h)
theorem se_ct1 (hc : C1 X (.type id) pr) (B : Blt X n (.type id)) (h1 : SO X cf x e) (hs : starEach [x] X.env = (false, eval x X.env) :: starEach [] X.env := by rfl) :
    SE X cf (.Call (.Name n p) [x] [] pos) (.prim pr [e]) := se_p1 (f := PQ1 X pr) (PE.wk (pe_callTy hc B.gl B.mg B.bt (pa_cons h1 pa_nil hs) B.n0 B.nd hs rfl) fun σ H Q h => tO_mono _ _ (fun v H1 q => ⟨⟨v, rfl⟩, q⟩) h)
theorem se_cb2 (hc : C2 X (.builtin id) pr) (B : Blt X n (.builtin id)) (h1 : SO X cf x e) (h2 : SO X cf y e') (hs : starEach [x, y] X.env = (false, eval x X.env) :: starEach [y] X.env := by rfl) (hs2 : starEach [y] X.env = (false, eval y X.env) :: starEach [] X.env := by rfl) (hp : (backTo pos (starEach [y] X.env)).any (·.1) = false := by rfl) :
    SE X cf (.Call (.Name n p) [x, y] [] pos) (.prim pr [e, e']) := se_p2 (PE.wk (pe_callB hc B.gl B.mg B.bt (pa_cons h1 (pa_cons h2 pa_nil hs2) hs) B.n0 B.nd hs hp) fun σ H Q h => tO_mono _ _ (fun v H1 q => tO_mono _ _ (fun u H2 q2 => ⟨⟨v, u, rfl⟩, q2⟩) q) h)
theorem se_isi {k : Kd} (B : Blt X n (.builtin "isinstance")) (B2 : Blt X n2 (.type (kdName k))) (h1 : SO X cf x e) (hs : starEach [x, .Name n2 p2] X.env = (false, eval x X.env) :: starEach [.Name n2 p2] X.env := by rfl) (hs2 : starEach [.Name n2 p2] X.env = (false, eval (.Name n2 p2) X.env) :: starEach [] X.env := by rfl) (hp : (backTo pos (starEach [.Name n2 p2] X.env)).any (·.1) = false := by rfl) :
    SE X cf (.Call (.Name n p) [x, .Name n2 p2] [] pos) (.prim (.isinst k) [e]) := se_p1 (f := PQ1 X (.isinst k)) (PE.wk (pe_callB (cIsi k) B.gl B.mg B.bt (pa_cons h1 (pa_cons (pe_bltn (v := .ty (kdName k)) B2.gl B2.mg B2.bt rfl B2.n0 B2.nd) pa_nil hs2) hs) B.n0 B.nd hs hp) fun σ H Q h => tO_mono _ _ (fun v H1 q => ⟨v, rfl, q⟩) h)
theorem se_lenSet (hc : X.calm = true) (B : Blt X "len" (.builtin "len")) (B2 : Blt X "set" (.type "set")) (h1 : SO X cf x e) (hs : starEach [x] X.env = (false, eval x X.env) :: starEach [] X.env := by rfl) :
    SE X cf (.Call (.Name "len" p) [.Call (.Name "set" p2) [x] [] q] [] pos) (.prim .lenSet [e]) := se_p1 (f := PQ1 X .lenSet) (pe_lenSetT hc B.gl B.mg B2.gl B2.mg h1 hs)
/-! ### subscripts -/
theorem se_ix (hu : X.A.units + 1 < cLine) (h1 : SO X cf x e) (h2 : SO X cf y e') (hs : PlainIx y := by intro _ _; rfl) : SE X cf (.Subscript x y pos) (.prim .ix [e, e']) := se_p2 (pe_ix (ix_prim hu) h1 h2 hs)
theorem rev_q {v : V} {H : Hp} {Q : VK} (h : PrimQ X .rev [v] H Q) : ∃ a xs, v = .ref a ∧ ((SqL X.K H a xs ∧ ∀ p, H p = none → Q (.ref p) (upd H p (.lst xs.reverse))) ∨ (SqT X.K H a xs ∧ NT Q H xs.reverse)) := by
  obtain ⟨a, d, F, r, hd, hq⟩ := pq1 h
  change revD a = some d at hd
  cases a <;> first | (cases hd; done) | skip
  · obtain ⟨hi, rfl⟩ := ite_some hd
    cases r with
    | tup h1 h2 h3 => exact ⟨_, _, rfl, .inr ⟨h1.sq, hq.tup (h3.toImm hi).reverse (by rw [List.length_reverse]; exact h2)⟩⟩
  · obtain ⟨hi, rfl⟩ := ite_some hd
    cases r with
    | lst h1 h2 h3 => exact ⟨_, _, rfl, .inl ⟨SqL.of h1, hq.lst (h3.toImm hi).reverse (by rw [List.length_reverse]; exact h2)⟩⟩
  · obtain ⟨hi, rfl⟩ := ite_some hd
    cases r with
    | frz h1 h2 h3 => exact ⟨_, _, rfl, .inl ⟨h1.sq, hq.lst (h3.toImm hi).reverse (by rw [List.length_reverse]; exact h2)⟩⟩
theorem se_rev {k : Nat} {p1 p2 p3 : Pos} (h1 : SO X cf x e) : SE X cf (.Subscript x (.Slice none none (some (.UnaryOp .USub (.Constant (.int 1) k p1) p2)) p3) pos) (.prim .rev [e]) :=
  se_p1 (f := PQ1 X .rev) (PE.wk (pe_revA h1) fun σ H Q h => tO_mono _ _ (fun v H1 q => rev_q q) h)
theorem se_revTo {k k0 : Nat} {p0 p1 p2 p3 : Pos} (h1 : SO X cf x e) : SE X cf (.Subscript x (.Slice none (some (.Constant (.int 0) k0 p0)) (some (.UnaryOp .USub (.Constant (.int 1) k p1) p2)) p3) pos) (.prim .revTo [e]) :=
  se_p1 (f := PQ1 X .revTo) (PE.wk (pe_rev0 h1) fun σ H Q h => tO_mono _ _ (fun v H1 q => by
    obtain ⟨a, d, F, r, hd, hq⟩ := pq1 q
    change revToD a = some d at hd
    unfold revToD at hd
    split at hd
    · obtain ⟨hi, rfl⟩ := ite_some hd
      cases r with
      | tup h1 h2 h3 =>
        cases h3 with
        | cons h4 h5 =>
          refine ⟨_, _, rfl, h1.sq, ?_⟩
          rw [List.drop_one, List.tail_cons]
          exact hq.tup (h5.toImm hi).reverse (by rw [List.length_reverse]; rw [List.length_cons] at h2; omega)
    · cases hd) h)
/-- what leaves the environment as it was -/
def Pur (cf : Cf) (e : E) : Prop := ∀ ρ o ρ1, opOf e (evE cf e ρ) ρ = some (o, ρ1) → ρ1 = ρ
theorem pur_int {i : Int} : Pur cf (.int i) := fun ρ o ρ1 h => by
  change some (Opd.val (D.int i), ρ) = some (o, ρ1) at h
  cases h; rfl
theorem pur_con {n : Str} {d : D} : Pur cf (.con n d) := fun ρ o ρ1 h => by
  change (match (if d.imm then some (d, ρ) else none) with | some (d, ρ1) => some (Opd.val d, ρ1) | none => none) = some (o, ρ1) at h
  split at h
  · rename_i h1
    split at h1
    · cases h1; cases h; rfl
    · cases h1
  · cases h
theorem pur_var {i : Nat} : Pur cf (.var i) := fun ρ o ρ1 h => by
  change (if (eget ρ i).isSome then some (Opd.ref i, ρ) else none) = some (o, ρ1) at h
  split at h
  · cases h; rfl
  · cases h
theorem pur_ops : ∀ {es : List E}, (∀ e ∈ es, Pur cf e) → ∀ ρ os ρ1, evOps cf es ρ = some (os, ρ1) → ρ1 = ρ
  | [], _, ρ, os, ρ1, h => by cases h; rfl
  | e :: es, hp, ρ, os, ρ1, h => by
    rw [evOps] at h
    split at h
    · rename_i o ρ2 h1
      have e1 := hp e List.mem_cons_self ρ o ρ2 h1
      subst e1
      split at h
      · rename_i os' ρ3 h2
        cases h
        exact pur_ops (fun e' he' => hp e' (List.mem_cons_of_mem _ he')) _ _ _ h2
      · cases h
    · cases h
theorem pur_prim {pr : Prim} {es : List E} (hp : ∀ e ∈ es, Pur cf e) : Pur cf (.prim pr es) := fun ρ o ρ1 h => by
  change (match evE cf (.prim pr es) ρ with | some (d, ρ1) => some (Opd.val d, ρ1) | none => none) = some (o, ρ1) at h
  split at h
  · rename_i d ρ2 h1
    cases h
    rw [evE] at h1
    split at h1
    · rename_i os ρ3 h2
      have := pur_ops hp _ _ _ h2
      subst this
      split at h1
      · split at h1
        · cases h1; rfl
        · cases h1
      · cases h1
    · cases h1
  · cases h
theorem pur_1 (h : Pur cf e) : ∀ x ∈ [e], Pur cf x := fun x hx => by rw [List.mem_singleton.mp hx]; exact h
theorem pur_2 (h : Pur cf e) (h' : Pur cf e') : ∀ x ∈ [e, e'], Pur cf x := fun x hx => by
  rcases List.mem_cons.mp hx with rfl | hx
  · exact h
  · rw [List.mem_singleton.mp hx]; exact h'
section
variable {P : Program} {w : World} {K : PySem.W.Frag} {H H' : Hp} {ρ ρ' : DL.Env} {σ : L2.St} {Φ Φ' : Nat → List Addr}
/-- an operand's value -/
theorem OpsRes.one {o : Opd} {v : V} {G : List Addr} {d : D} (r : OpsRes P w K σ H ρ Φ H' ρ' Φ' [o] [v] G) (e : EnvRep P w K H' ρ' σ Φ') (h : opdD ρ' o = some d) : ∃ F, Rep P w K H' d v F := by
  have := OpR'.any (ds := [d]) e r.rep (by rw [opds, h]; rfl)
  cases this with
  | cons h t => exact h
theorem opds_cons {o : Opd} {os : List Opd} {l : List D} (h : opds ρ (o :: os) = some l) : ∃ d ds, l = d :: ds ∧ opdD ρ o = some d ∧ opds ρ os = some ds := by
  rw [opds] at h
  split at h
  · cases h; exact ⟨_, _, rfl, ‹_›, ‹_›⟩
  · cases h
theorem opds_nil {l : List D} (h : opds ρ [] = some l) : l = [] := by cases h; rfl
theorem evOps_cons {ρ : DL.Env} {r : List Opd × DL.Env} (h : evOps cf (e :: es) ρ = some r) : ∃ o ρ1 os ρ2, opOf e (evE cf e ρ) ρ = some (o, ρ1) ∧ evOps cf es ρ1 = some (os, ρ2) ∧ r = (o :: os, ρ2) := by
  rw [evOps] at h
  split at h
  · rename_i o ρ1 e1
    split at h
    · rename_i os ρ2 e2
      cases h
      exact ⟨_, _, _, _, e1, e2, rfl⟩
    · cases h
  · cases h
theorem prim_inv {ρ : DL.Env} {r : D × DL.Env} {pr : Prim} {es : List E} (h : evE cf (.prim pr es) ρ = some r) : ∃ os ds, evOps cf es ρ = some (os, r.2) ∧ opds r.2 os = some ds ∧ primD pr ds = some r.1 := by
  rw [evE] at h
  split at h
  · rename_i os ρ1 e1
    split at h
    · rename_i ds e2
      split at h
      · cases h; exact ⟨_, _, e1, e2, ‹_›⟩
      · cases h
    · cases h
  · cases h
end
theorem fin_new {d : D} {σ : L2.St} {H H1 : Hp} {ρ ρ1 : DL.Env} {Φ Φ1 : Nat → List Addr} {Q : VK} (p : Post X.prog X.w X.K σ H ρ Φ H1 ρ1 Φ1)
    (h3 : ∀ (v : V) (H' : Hp) (Φ' : Nat → List Addr) (G : List Addr), Post X.prog X.w X.K σ H ρ Φ H' ρ1 Φ' → Res X.prog X.w X.K H ρ Φ H' ρ1 Φ' d v G → Q v H') : NewQ X H1 d Q := fun v H2 F s rv hn nd =>
  h3 v H2 Φ1 F (p.same s) ⟨rv, nd, fun a ha f => FP.some_ p.env f (hn a ha), fun a ha => p.none_ (hn a ha)⟩
theorem se_sl2 (h1 : SO X cf x e) (h2 : SO X cf a e1) (h3 : SO X cf b e2) (p1 : Pur cf e1) (p2 : Pur cf e2) {q2 : Pos} : SE X cf (.Subscript x (.Slice (some a) (some b) none q2) pos) (.prim (.slice true true) [e, e1, e2]) :=
  PE.wk (pe_slice sl_prim h1 (po_some h2) (po_some h3)) fun σ H Q ⟨ρ, Φ, d, ρ', E, hev, hq⟩ => by
    obtain ⟨os, ds, g1, g2, g3⟩ := prim_inv hev
    obtain ⟨o, ρ1, os1, _, f1, f2, f3⟩ := evOps_cons g1
    obtain ⟨o1, _, os2, _, f4, f5, f6⟩ := evOps_cons f2
    obtain ⟨o2, _, os3, _, f7, f8, f9⟩ := evOps_cons f5
    cases p1 _ _ _ f4; cases p2 _ _ _ f7; cases f8; cases f9; cases f6; cases f3
    obtain ⟨a0, _, rfl, k1, g4⟩ := opds_cons g2
    obtain ⟨a1, _, rfl, k2, g5⟩ := opds_cons g4
    obtain ⟨a2, _, rfl, k3, g6⟩ := opds_cons g5
    cases opds_nil g6
    cases a1 <;> cases a2 <;> first | (cases g3; done) | skip
    refine ⟨ρ, Φ, o, _, E, f1, fun v H1 Φ1 G1 P1 R1 => ⟨_, Φ1, o1, _, P1.env, f4, fun u H2 Φ2 G2 P2 R2 => ?_⟩⟩
    obtain ⟨_, r2⟩ := R2.one P2.env k2
    cases r2
    refine ⟨_, rfl, _, Φ2, o2, _, P2.env, f7, fun u' H3 Φ3 G3 P3 R3 => ?_⟩
    obtain ⟨_, r3⟩ := R3.one P3.env k3
    cases r3
    have R1' := OpsRes.cons P1 (P2.trans P3) R1 (⟨.nil, List.nodup_nil, nofun, nofun⟩ : OpsRes X.prog X.w X.K σ H1 _ Φ1 H3 _ Φ3 [] [] [])
    obtain ⟨F, r⟩ := R1'.one P3.env k1
    change sliceD a0 _ _ = some _ at g3
    unfold sliceD at g3
    split at g3
    · rename_i l hl
      exact ⟨_, rfl, a0, l, d, F, r, hl, g3, fin_new ((P1.trans P2).trans P3) hq⟩
    · cases g3
theorem se_sl1 (h1 : SO X cf x e) (h2 : SO X cf a e1) (p1 : Pur cf e1) {q2 : Pos} : SE X cf (.Subscript x (.Slice (some a) none none q2) pos) (.prim (.slice true false) [e, e1]) :=
  PE.wk (pe_slice sl_prim h1 (po_some h2) po_none) fun σ H Q ⟨ρ, Φ, d, ρ', E, hev, hq⟩ => by
    obtain ⟨os, ds, g1, g2, g3⟩ := prim_inv hev
    obtain ⟨o, ρ1, os1, _, f1, f2, f3⟩ := evOps_cons g1
    obtain ⟨o1, _, os2, _, f4, f5, f6⟩ := evOps_cons f2
    cases p1 _ _ _ f4; cases f5; cases f6; cases f3
    obtain ⟨a0, _, rfl, k1, g4⟩ := opds_cons g2
    obtain ⟨a1, _, rfl, k2, g5⟩ := opds_cons g4
    cases opds_nil g5
    cases a1 <;> first | (cases g3; done) | skip
    refine ⟨ρ, Φ, o, _, E, f1, fun v H1 Φ1 G1 P1 R1 => ⟨_, Φ1, o1, _, P1.env, f4, fun u H2 Φ2 G2 P2 R2 => ?_⟩⟩
    obtain ⟨_, r2⟩ := R2.one P2.env k2
    cases r2
    have R1' := OpsRes.cons P1 P2 R1 (⟨.nil, List.nodup_nil, nofun, nofun⟩ : OpsRes X.prog X.w X.K σ H1 _ Φ1 H2 _ Φ2 [] [] [])
    obtain ⟨F, r⟩ := R1'.one P2.env k1
    change sliceD a0 _ _ = some _ at g3
    unfold sliceD at g3
    split at g3
    · rename_i l hl
      exact ⟨_, rfl, a0, l, d, F, r, hl, g3, fin_new (P1.trans P2) hq⟩
    · cases g3
theorem se_sl0 (h1 : SO X cf x e) (h2 : SO X cf a e1) (p1 : Pur cf e1) {q2 : Pos} : SE X cf (.Subscript x (.Slice none (some a) none q2) pos) (.prim (.slice false true) [e, e1]) :=
  PE.wk (pe_slice sl_prim h1 po_none (po_some h2)) fun σ H Q ⟨ρ, Φ, d, ρ', E, hev, hq⟩ => by
    obtain ⟨os, ds, g1, g2, g3⟩ := prim_inv hev
    obtain ⟨o, ρ1, os1, _, f1, f2, f3⟩ := evOps_cons g1
    obtain ⟨o1, _, os2, _, f4, f5, f6⟩ := evOps_cons f2
    cases p1 _ _ _ f4; cases f5; cases f6; cases f3
    obtain ⟨a0, _, rfl, k1, g4⟩ := opds_cons g2
    obtain ⟨a1, _, rfl, k2, g5⟩ := opds_cons g4
    cases opds_nil g5
    cases a1 <;> first | (cases g3; done) | skip
    refine ⟨ρ, Φ, o, _, E, f1, fun v H1 Φ1 G1 P1 R1 => ⟨_, Φ1, o1, _, P1.env, f4, fun u H2 Φ2 G2 P2 R2 => ?_⟩⟩
    obtain ⟨_, r2⟩ := R2.one P2.env k2
    cases r2
    have R1' := OpsRes.cons P1 P2 R1 (⟨.nil, List.nodup_nil, nofun, nofun⟩ : OpsRes X.prog X.w X.K σ H1 _ Φ1 H2 _ Φ2 [] [] [])
    obtain ⟨F, r⟩ := R1'.one P2.env k1
    change sliceD a0 _ _ = some _ at g3
    unfold sliceD at g3
    split at g3
    · rename_i l hl
      exact ⟨_, rfl, a0, l, d, F, r, hl, g3, fin_new (P1.trans P2) hq⟩
    · cases g3
/-! ### index -/
theorem tup_dict {pins : List (Addr × Obj)} {σ : L2.St} {H : Hp} {s : Shared} {t : Addr} {vs : List V} (I : Inv X pins σ H s) (h : TupOk X.K H t vs) : ∃ ob, s.heap.get? t = some ob ∧ ob.dict = none := by
  rcases h with ⟨o, h, hd⟩ | ⟨o, its, n, h1, h2, h3, _⟩
  · exact ⟨o, (I.hok t _ h).1, hd⟩
  · exact ⟨o, I.kIn t o h1, h3⟩
theorem se_index {apos : Pos} (h1 : SO X cf x e) (h2 : SO X cf a e1) (p1 : Pur cf e1)
    (hbase : attributeBase x "index" X.env (eval x X.env) = eval x X.env := by rfl)
    (hfew : ((backTo pos (starEach [a] X.env)).all (fun x => !x.1) && (backToKw pos (keywordEach [] X.env)).all (fun x => x.1.isSome)
      && decide ([a].length + ([] : List Keyword).length + (if ([] : List Keyword).isEmpty then 0 else 1) < 30)) = true := by rfl)
    (hline : (apos.endLine == pos.line) = true := by rfl) (hs : starEach [a] X.env = (false, eval a X.env) :: starEach [] X.env := by rfl) :
    SE X cf (.Call (.Attribute x "index" apos) [a] [] pos) (.prim .index [e, e1]) := by
  refine ⟨fun pins s σ H Q I ⟨ρ, Φ, d, ρ', E, hev, hq⟩ => ?_⟩
  obtain ⟨os, ds, g1, g2, g3⟩ := prim_inv hev
  obtain ⟨o, ρ1, os1, _, f1, f2, f3⟩ := evOps_cons g1
  obtain ⟨o1, _, os2, _, f4, f5, f6⟩ := evOps_cons f2
  cases p1 _ _ _ f4; cases f5; cases f6; cases f3
  obtain ⟨a0, _, rfl, k1, g4⟩ := opds_cons g2
  obtain ⟨a1, _, rfl, k2, g5⟩ := opds_cons g4
  cases opds_nil g5
  change indexD a0 a1 = some d at g3
  refine wpAny_Call_method_late hbase hfew hline rfl (thn (h1.run pins s σ H (fun v H1 => ∃ Φ1 G1, Post X.prog X.w X.K σ H ρ Φ H1 ρ' Φ1 ∧ OpsRes X.prog X.w X.K σ H ρ Φ H1 ρ' Φ1 [o] [v] G1) I ⟨ρ, Φ, o, _, E, f1, fun v H1 Φ1 G1 P1 R1 => ⟨Φ1, G1, P1, R1⟩⟩) fun v s1 ⟨vv, H1, I1, rv, Φ1, G1, P1, R1⟩ => ?_)
  have fin : ∀ (id : String) (l : List D) (m : List Int) (i : Int), (a0 = .tup l ∧ id = "tuple.index" ∨ a0 = .lst l ∧ id = "list.index") → a1 = .int i → allInt l = some m → i ∈ m → d = .int (m.idxOf i : Nat) →
      wpAny (model X.prog X.w) X.A (callWith pos (.builtin id) [v] (backTo pos (starEach [a] X.env)) []) (EP X pins σ Q) X.xe s1 := by
    intro id l m i hid ei em him ed
    subst ei; subst ed
    have hA := (pa_cons h2 pa_nil hs).run pos pins s1 σ H1 (fun vs H2 => ∃ u Φ2 G2, vs = [u] ∧ Post X.prog X.w X.K σ H1 ρ' Φ1 H2 ρ' Φ2 ∧ OpsRes X.prog X.w X.K σ H1 ρ' Φ1 H2 ρ' Φ2 [o1] [u] G2) I1 ⟨ρ', Φ1, o1, ρ', P1.env, f4, fun u H2 Φ2 G2 P2 R2 => ⟨u, Φ2, G2, rfl, P2, R2⟩⟩
    rw [hs] at hA ⊢
    refine Calls.callWith_builtin rfl (Calls.evalArgs_plain ?_)
    refine thn hA fun us s2 ⟨vs, H2, I2, rvs, u, Φ2, G2, e1, P2, R2⟩ => ?_
    subst e1
    obtain ⟨_, r2⟩ := R2.one P2.env k2
    cases r2
    have R1' := OpsRes.cons P1 P2 R1 (⟨.nil, List.nodup_nil, nofun, nofun⟩ : OpsRes X.prog X.w X.K σ H1 ρ' Φ1 H2 ρ' Φ2 [] [] [])
    obtain ⟨F, r⟩ := R1'.one P2.env k1
    have NQ := fin_new (P1.trans P2) hq
    have fin2 : ∀ tk, EP X pins σ Q (.int (m.idxOf i : Nat) tk) { s2 with toks := s2.toks + 1 } := fun tk => ⟨.int _, H2, I2.tok _, ⟨tk, rfl⟩, NQ.int⟩
    obtain ⟨w', rfl, rw'⟩ := rvs.one
    obtain ⟨tk, rfl⟩ := rw'
    rcases hid with ⟨rfl, rfl⟩ | ⟨rfl, rfl⟩
    · cases r with
      | tup t1 t2 t3 =>
        cases rv
        obtain ⟨its, rv', pl, _⟩ := I2.tuple t1.sq
        rw [allInt_rep t3 em] at rv'
        exact PySem.SeqAt.tuple_index_ints pl (ints_vals rv') him (fin2 _)
    · cases r with
      | lst t1 t2 t3 =>
        cases rv
        obtain ⟨its, rv', pl, hz⟩ := I2.list (SqL.of t1)
        rw [allInt_rep t3 em] at rv' hz
        rw [List.length_map] at hz
        exact PySem.SeqAt.list_index_ints pl.isList (ints_vals rv') hz him (fin2 _)
  obtain ⟨F, r⟩ := R1.one P1.env k1
  unfold indexD at g3
  cases a0 <;> first | (cases g3; done) | skip
  · cases a1 <;> first | (cases g3; done) | skip
    simp only at g3
    split at g3
    · rename_i m em
      obtain ⟨hi, ed⟩ := ite_some g3
      cases r with
      | tup t1 t2 t3 =>
        cases rv
        obtain ⟨its, _, pl, _⟩ := I1.tuple t1.sq
        exact ⟨"tuple", "tuple.index", PySem.F.plainAttrs_tuple, PySem.F.slot_tuple_index, PySem.F.type_tuple_index, pl.typeIs, (fun t e => by cases e; exact tup_dict I1 t1), fin _ _ _ _ (.inl ⟨rfl, rfl⟩) rfl em (of_decide_eq_true hi) ed.symm⟩
    · cases g3
  · cases a1 <;> first | (cases g3; done) | skip
    simp only at g3
    split at g3
    · rename_i m em
      obtain ⟨hi, ed⟩ := ite_some g3
      cases r with
      | lst t1 t2 t3 =>
        cases rv
        obtain ⟨k1, k2⟩ := tyV_is (T := "list") (x := .ref _) (v := .ref _) I1 rfl (Or.inl ⟨rfl, _, SqL.of t1⟩)
        exact ⟨"list", "list.index", PySem.F.plainAttrs_list, PySem.F.slot_list_index, PySem.F.type_list_index, k1, k2, fin _ _ _ _ (.inr ⟨rfl, rfl⟩) rfl em (of_decide_eq_true hi) ed.symm⟩
    · cases g3
end
end DL
set_option maxHeartbeats 1000000
/-! D13: displays, tests. -/
namespace DL
open PySem PySem.Spec PyProof.Rows L2
section
variable {P : Program} {w : World} {K : PySem.W.Frag} {H H' H1 H2 : Hp} {ρ ρ' ρ1 ρ2 : DL.Env} {σ σ1 σ2 : L2.St} {Φ Φ' Φ1 Φ2 : Nat → List Addr} {cf : Cf} {e e' : E} {es : List E} {st : List Bool}
theorem Res.pre {d : D} {v : V} {G : List Addr} (p : Post P w K σ H ρ Φ H1 ρ1 Φ1) (r : Res P w K H1 ρ1 Φ1 H2 ρ2 Φ2 d v G) : Res P w K H ρ Φ H2 ρ2 Φ2 d v G := ⟨r.rep, r.nod, r.dis, fun a ha => by
  rcases r.new a ha with z | z
  · exact p.none_ z
  · exact p.new a z⟩
theorem ResL.pre {d : List D} {v : List V} {G : List Addr} (p : Post P w K σ H ρ Φ H1 ρ1 Φ1) (r : ResL P w K H1 ρ1 Φ1 H2 ρ2 Φ2 d v G) : ResL P w K H ρ Φ H2 ρ2 Φ2 d v G := ⟨r.rep, r.nod, r.dis, fun a ha => by
  rcases r.new a ha with z | z
  · exact p.none_ z
  · exact p.new a z⟩
theorem tD_mono {F : DL.Env → Option (D × DL.Env)} {Q Q' : VK} (h : ∀ v H, Q v H → Q' v H) (q : tD P w K F σ H Q) : tD P w K F σ H Q' := by
  obtain ⟨ρ, Φ, o, ρ', h1, h2, h3⟩ := q
  exact ⟨ρ, Φ, o, ρ', h1, h2, fun v H' Φ' G p r => h _ _ (h3 v H' Φ' G p r)⟩
end
section
variable {X : Cx} {cf : Cf}
variable {x y z a b c : Expr} {xs rest : List Expr} {e e' e'' e1 e2 e3 : E} {es : List E} {st : List Bool} {pos p p2 q : Pos}
/-! ### displays -/
theorem sd_nil : SDisp X cf [] [] [] := pa_nil.wk fun σ H Q ⟨ρ, Φ, os, ρ', h1, h2, h3⟩ => by
  cases h2
  exact h3 [] H Φ [] (Post.refl h1) ⟨.nil, List.nodup_nil, nofun, nofun⟩
theorem sd_cons (h : SE X cf x e) (t : SDisp X cf xs st es) (hs : starEach (x :: xs) X.env = (false, eval x X.env) :: starEach xs X.env := by rfl) : SDisp X cf (x :: xs) (false :: st) (e :: es) := (pa_cons h t hs).wk fun σ H Q ⟨ρ, Φ, ds, ρ', h1, h2, h3⟩ => by
  rw [evDisp] at h2
  split at h2
  · rename_i d ρ1 k1
    split at h2
    · rename_i ds2 ρ2 k2
      cases h2
      exact ⟨ρ, Φ, d, ρ1, h1, k1, fun v H1 Φ1 G1 p1 r1 => ⟨ρ1, Φ1, ds2, _, p1.env, k2, fun vs H2 Φ2 G2 p2 r2 => h3 _ _ _ _ (p1.trans p2) (ResL.cons p1 p2 r1 r2)⟩⟩
    · cases h2
  · cases h2
theorem sd_star (h : SE X cf x e) (t : SDisp X cf xs st es) (hs : starEach (.Starred x p :: xs) X.env = (true, eval x X.env) :: starEach xs X.env := by rfl) : SDisp X cf (.Starred x p :: xs) (true :: st) (e :: es) := (StX.pa_star h t hs).wk fun σ H Q ⟨ρ, Φ, ds, ρ', h1, h2, h3⟩ => by
  rw [evDisp] at h2
  split at h2
  · rename_i d ρ1 k1
    split at h2
    · rename_i l k2
      split at h2
      · rename_i hi
        split at h2
        · rename_i ds2 ρ2 k3
          cases h2
          refine ⟨ρ, Φ, d, ρ1, h1, k1, fun v H1 Φ1 G1 p1 r1 => ?_⟩
          obtain ⟨t, vs, G, rfl, rl, hz, _, hk⟩ := Rep.seq (X := X) r1.rep k2
          have ri := rl.toImm hi
          refine ⟨t, vs, rfl, (sq_or hk).symm, ρ1, Φ1, ds2, _, p1.env, k3, fun us H2 Φ2 G2 p2 r2 => h3 _ _ _ G2 (p1.trans p2) ?_⟩
          refine ⟨?_, r2.nod, r2.dis, (r2.pre p1).new⟩
          have := RepL.append ((RepL.ofI ri).stay (p2.stays p1.env) nofun) r2.rep
          exact this
        · cases h2
      · cases h2
    · cases h2
  · cases h2
theorem se_tup {k : Nat} (h : SDisp X cf xs st es) : SE X cf (.Tuple xs k pos) (.disp true st es) := (pe_tupF h).wk fun σ H Q ⟨ρ, Φ, d, ρ', h1, h2, h3⟩ => by
  rw [evE] at h2
  split at h2
  · rename_i ds ρ1 k1
    split at h2
    · rename_i hz
      have hz := of_decide_eq_true hz
      cases h2
      refine ⟨ρ, Φ, ds, _, h1, k1, fun vs H1 Φ1 G p r => ⟨by rw [← r.rep.length]; exact hz, fun l o ho hl => ?_⟩⟩
      have s := same_new (o := .frz o (.tup vs)) hl
      exact h3 _ _ Φ1 G (p.same s) ⟨.tup (.inl ⟨o, upd_same, ho⟩) hz (r.rep.same s), r.nod, r.dis, r.new⟩
    · cases h2
  · cases h2
theorem se_lst (h : SDisp X cf xs st es) : SE X cf (.List xs pos) (.disp false st es) := PE.wk (pe_lst h) fun σ H Q ⟨ρ, Φ, d, ρ', h1, h2, h3⟩ => by
  rw [evE] at h2
  split at h2
  · rename_i ds ρ1 k1
    split at h2
    · rename_i hz
      have hz := of_decide_eq_true hz
      cases h2
      refine ⟨ρ, Φ, ds, _, h1, k1, fun vs H1 Φ1 G p r => ⟨by rw [← r.rep.length]; exact hz, fun l hl => ?_⟩⟩
      have s := same_new (o := .lst vs) hl
      refine h3 _ _ Φ1 (l :: G) (p.same s) ⟨.lst upd_same hz (r.rep.same s), List.nodup_cons.mpr ⟨fun q => r.rep.some_ q hl, r.nod⟩, fun b hb f => ?_, fun b hb => ?_⟩
      · rcases List.mem_cons.mp hb with rfl | hb
        · exact FP.some_ p.env f hl
        · exact r.dis b hb f
      · rcases List.mem_cons.mp hb with rfl | hb
        · exact p.none_ hl
        · exact r.new b hb
    · cases h2
  · cases h2
/-! ### as truth -/
theorem bl_of {r : Option (D × DL.Env)} {b : Bool} {ρ' : DL.Env} (h : asBl r = some (b, ρ')) : r = some (.bl b, ρ') := by
  unfold asBl at h
  split at h
  · cases h; rfl
  · cases h
theorem tDB_tD {σ : L2.St} {H : Hp} {Q : Bool → Hp → Prop} (h : tDB X.prog X.w X.K (fun ρ => asBl (evE cf e ρ)) σ H Q) : tD X.prog X.w X.K (evE cf e) σ H fun v H1 => ∃ k, v = .bl k ∧ Q k H1 := by
  obtain ⟨ρ, Φ, b, ρ', h1, h2, h3⟩ := h
  refine ⟨ρ, Φ, .bl b, ρ', h1, bl_of h2, fun v H' Φ' G p r => ?_⟩
  have := r.rep
  cases this
  exact ⟨b, rfl, h3 H' Φ' p⟩
theorem sb_val (h : SE X cf x e) (he : ∀ whole, isTrue x X.env whole = (do let v ← whole; standAt x.pos; holding [v] (truthy v)) := by intro _; rfl) : SB X cf x e := PT.wk (pt_val h he) fun σ H Q q => tDB_tD q
theorem sb_cmp {c : Cm} {op : CmpOp} (ho : OpR X (compareOp op) (PQ2 X (.cmp c))) (h1 : SO X cf x e) (h2 : SO X cf y e') (hm : behindInMarks op y = false) : SB X cf (.Compare x [op] [y] pos) (.prim (.cmp c) [e, e']) :=
  PT.wk (pt_cmpR ho h1 h2 hm) fun σ H Q q => tOs2 (prim_by (tDB_tD q))
theorem sb_cmpB {b : Bool} {op : CmpOp} (ho : OpR X (compareOp op) (PQ2 X (.isB b))) (h1 : SO X cf x e) (h2 : SO X cf y e') (hm : behindInMarks op y = false) : SB X cf (.Compare x [op] [y] pos) (.prim (.isB b) [e, e']) :=
  PT.wk (pt_cmpR ho h1 h2 hm) fun σ H Q q => tOs2 (prim_by (tDB_tD q))
theorem sb_not (h : SB X cf x e) : SB X cf (.UnaryOp .Not x pos) (.notE e) := PT.wk (pt_not h) fun σ H Q ⟨ρ, Φ, b, ρ', h1, h2, h3⟩ => by
  have h2 := bl_of h2
  rw [evE] at h2
  split at h2
  · rename_i b0 ρ1 k1
    cases h2
    refine ⟨ρ, Φ, b0, _, h1, ?_, fun H' Φ' p => h3 H' Φ' p⟩
    dsimp only
    rw [k1]; rfl
  · cases h2
theorem sw_one {op : BoolOp} (h : SB X cf x e) : SW X cf (.BoolOp op [x] pos) e := by
  cases op with
  | And => exact pw_and1 h
  | Or => exact pw_or1 h
theorem sb_of (h : SW X cf x e) : SB X cf x e := PW.pt h
theorem sw_and (h : SB X cf x e) (t : SW X cf (.BoolOp .And (y :: rest) pos) e') : SW X cf (.BoolOp .And (x :: y :: rest) pos) (.andE e e') := PW.wk (pw_and h t) fun σ H Q ⟨ρ, Φ, b, ρ', h1, h2, h3⟩ => by
  have h2 := bl_of h2
  rw [evE] at h2
  split at h2
  · rename_i ρ1 k1
    split at h2
    · rename_i b2 ρ2 k2
      cases h2
      refine ⟨ρ, Φ, true, ρ1, h1, (by dsimp only; rw [k1]; rfl), fun H1 Φ1 p => ?_⟩
      refine iteT ?_
      exact ⟨ρ1, Φ1, b, _, p.env, (by dsimp only; rw [k2]; rfl), fun H2 Φ2 p2 => h3 H2 Φ2 (p.trans p2)⟩
    · cases h2
  · rename_i ρ1 k1
    cases h2
    refine ⟨ρ, Φ, false, _, h1, (by dsimp only; rw [k1]; rfl), fun H1 Φ1 p => ?_⟩
    refine iteF ?_
    exact h3 H1 Φ1 p
  · cases h2
theorem sw_or (h : SB X cf x e) (t : SW X cf (.BoolOp .Or (y :: rest) pos) e') : SW X cf (.BoolOp .Or (x :: y :: rest) pos) (.orE e e') := PW.wk (pw_or h t) fun σ H Q ⟨ρ, Φ, b, ρ', h1, h2, h3⟩ => by
  have h2 := bl_of h2
  rw [evE] at h2
  split at h2
  · rename_i ρ1 k1
    split at h2
    · rename_i b2 ρ2 k2
      cases h2
      refine ⟨ρ, Φ, false, ρ1, h1, (by dsimp only; rw [k1]; rfl), fun H1 Φ1 p => ?_⟩
      refine iteF ?_
      exact ⟨ρ1, Φ1, b, _, p.env, (by dsimp only; rw [k2]; rfl), fun H2 Φ2 p2 => h3 H2 Φ2 (p.trans p2)⟩
    · cases h2
  · rename_i ρ1 k1
    cases h2
    refine ⟨ρ, Φ, true, _, h1, (by dsimp only; rw [k1]; rfl), fun H1 Φ1 p => ?_⟩
    refine iteT ?_
    exact h3 H1 Φ1 p
  · cases h2
/-! ### .. as values -/
theorem se_not (h : SE X cf x e) : SE X cf (.UnaryOp .Not x pos) (.notE e) := PE.wk (pe_not h) fun σ H Q ⟨ρ, Φ, d, ρ', h1, h2, h3⟩ => by
  rw [evE] at h2
  split at h2
  · rename_i b0 ρ1 k1
    cases h2
    refine ⟨ρ, Φ, .bl b0, _, h1, k1, fun v H' Φ' G p r => ?_⟩
    have := r.rep
    cases this
    exact ⟨b0, rfl, h3 _ H' Φ' [] p (Res.flat (.bl _))⟩
  · cases h2
theorem se_one {op : BoolOp} (h : SE X cf x e) : SE X cf (.BoolOp op [x] pos) e := pe_one h
theorem se_and (h : SE X cf x e) (t : SE X cf (.BoolOp .And (y :: rest) pos) e') : SE X cf (.BoolOp .And (x :: y :: rest) pos) (.andE e e') := PE.wk (pe_and h t) fun σ H Q ⟨ρ, Φ, d, ρ', h1, h2, h3⟩ => by
  rw [evE] at h2
  split at h2
  · rename_i ρ1 k1
    split at h2
    · rename_i b2 ρ2 k2
      cases h2
      refine ⟨ρ, Φ, .bl true, ρ1, h1, k1, fun v H1 Φ1 G p r => ?_⟩
      have := r.rep
      cases this
      refine ⟨true, rfl, ?_⟩
      refine iteT ?_
      exact ⟨ρ1, Φ1, .bl b2, _, p.env, k2, fun v H2 Φ2 G p2 r2 => h3 v H2 Φ2 G (p.trans p2) (r2.pre p)⟩
    · cases h2
  · rename_i ρ1 k1
    cases h2
    refine ⟨ρ, Φ, .bl false, _, h1, k1, fun v H1 Φ1 G p r => ?_⟩
    have := r.rep
    cases this
    refine ⟨false, rfl, ?_⟩
    refine iteF ?_
    exact h3 _ H1 Φ1 [] p (Res.flat (.bl _))
  · cases h2
theorem se_or (h : SE X cf x e) (t : SE X cf (.BoolOp .Or (y :: rest) pos) e') : SE X cf (.BoolOp .Or (x :: y :: rest) pos) (.orE e e') := PE.wk (pe_or h t) fun σ H Q ⟨ρ, Φ, d, ρ', h1, h2, h3⟩ => by
  rw [evE] at h2
  split at h2
  · rename_i ρ1 k1
    split at h2
    · rename_i b2 ρ2 k2
      cases h2
      refine ⟨ρ, Φ, .bl false, ρ1, h1, k1, fun v H1 Φ1 G p r => ?_⟩
      have := r.rep
      cases this
      refine ⟨false, rfl, ?_⟩
      refine iteF ?_
      exact ⟨ρ1, Φ1, .bl b2, _, p.env, k2, fun v H2 Φ2 G p2 r2 => h3 v H2 Φ2 G (p.trans p2) (r2.pre p)⟩
    · cases h2
  · rename_i ρ1 k1
    cases h2
    refine ⟨ρ, Φ, .bl true, _, h1, k1, fun v H1 Φ1 G p r => ?_⟩
    have := r.rep
    cases this
    refine ⟨true, rfl, ?_⟩
    refine iteT ?_
    exact h3 _ H1 Φ1 [] p (Res.flat (.bl _))
  · cases h2
theorem se_ife (hc : SB X cf c e) (ha : SE X cf a e1) (hb : SE X cf b e2) : SE X cf (.IfExp c a b pos) (.ife e e1 e2) := PE.wk (pe_ifExp hc ha hb) fun σ H Q ⟨ρ, Φ, d, ρ', h1, h2, h3⟩ => by
  rw [evE] at h2
  split at h2
  · rename_i ρ1 k1
    refine ⟨ρ, Φ, true, ρ1, h1, (by dsimp only; rw [k1]; rfl), fun H1 Φ1 p => ?_⟩
    refine iteT ?_
    exact ⟨ρ1, Φ1, d, _, p.env, h2, fun v H2 Φ2 G p2 r2 => h3 v H2 Φ2 G (p.trans p2) (r2.pre p)⟩
  · rename_i ρ1 k1
    refine ⟨ρ, Φ, false, ρ1, h1, (by dsimp only; rw [k1]; rfl), fun H1 Φ1 p => ?_⟩
    refine iteF ?_
    exact ⟨ρ1, Φ1, d, _, p.env, h2, fun v H2 Φ2 G p2 r2 => h3 v H2 Φ2 G (p.trans p2) (r2.pre p)⟩
  · cases h2
theorem se_chain {c1 c2 : Cm} {op op' : CmpOp} (ho : OpR X (compareOp op) (PQ2 X (.cmp c1))) (ho' : OpR X (compareOp op') (PQ2 X (.cmp c2))) (ha : SE X cf a e1) (hb : SE X cf b e2) (hc : SE X cf c e3) (hm : lastMarks [op, op'] [b, c] = false := by with_unfolding_all rfl) :
    SE X cf (.Compare a [op, op'] [b, c] pos) (.chain c1 c2 e1 e2 e3) := PE.wk (pe_chain ho ho' ha hb hc hm) fun σ H Q ⟨ρ, Φ, d, ρ', h1, h2, h3⟩ => by
  rw [evE] at h2
  split at h2
  · rename_i xd ρ1 k1
    split at h2
    · rename_i yd ρ2 k2
      split at h2
      · rename_i hi
        rw [Bool.and_eq_true] at hi
        refine ⟨ρ, Φ, xd, ρ1, h1, k1, fun vx H1 Φ1 G1 p1 r1 => ⟨ρ1, Φ1, yd, ρ2, p1.env, k2, fun vy H2 Φ2 G2 p2 r2 => ?_⟩⟩
        have r1' := r1.step p2 p1
        split at h2
        · rename_i k3
          refine ⟨[xd, yd], .bl true, .cons ⟨_, r1'.rep⟩ (.cons ⟨_, r2.rep⟩ .nil), (by show (cmpD c1 xd yd).map D.bl = _; rw [k3]; rfl), fun v H3 F s rv hn nd => ?_⟩
          cases rv
          refine ⟨true, rfl, ?_⟩
          refine iteT ?_
          split at h2
          · rename_i zd ρ3 k4
            split at h2
            · rename_i hz
              split at h2
              · rename_i r k5
                cases h2
                have p2' := p2.same s
                refine ⟨ρ2, Φ2, zd, _, p2'.env, k4, fun vz H4 Φ4 G4 p4 r4 => ?_⟩
                have r2i := r2.rep.same s
                rw [Rep.imm_nil hi.2 r2i] at r2i
                have r2' := r2i.stay (p4.stays p2'.env) nofun
                refine ⟨[yd, zd], .bl r, .cons ⟨_, r2'⟩ (.cons ⟨_, r4.rep⟩ .nil), (by show (cmpD c2 yd zd).map D.bl = _; rw [k5]; rfl), fun v H5 F5 s5 rv5 hn5 nd5 => ?_⟩
                cases rv5
                exact h3 _ H5 Φ4 [] ((p1.trans (p2'.trans p4)).same s5) (Res.flat (.bl _))
              · cases h2
            · cases h2
          · cases h2
        · rename_i k3
          cases h2
          refine ⟨[xd, yd], .bl false, .cons ⟨_, r1'.rep⟩ (.cons ⟨_, r2.rep⟩ .nil), (by show (cmpD c1 xd yd).map D.bl = _; rw [k3]; rfl), fun v H3 F s rv hn nd => ?_⟩
          cases rv
          refine ⟨false, rfl, ?_⟩
          refine iteF ?_
          exact h3 _ H3 Φ2 [] ((p1.trans p2).same s) (Res.flat (.bl _))
        · cases h2
      · cases h2
    · cases h2
  · cases h2
/-! ### the ifs of a comprehension -/
theorem sc_nil : SCs X cf [] [] := PTs.wk pts_nil fun σ H Q ⟨ρ, Φ, b, ρ', h1, h2, h3⟩ => by
  cases h2
  exact h3 H Φ (Post.refl h1)
theorem sc_one (h : SB X cf x e) : SCs X cf [x] [e] := PTs.wk (pts_one h) fun σ H Q ⟨ρ, Φ, b, ρ', h1, h2, h3⟩ => by
  rw [evCs] at h2
  split at h2
  · rename_i ρ1 k1
    cases h2
    exact ⟨ρ, Φ, true, _, h1, (by dsimp only; rw [k1]; rfl), h3⟩
  · rename_i ρ1 k1
    cases h2
    exact ⟨ρ, Φ, false, _, h1, (by dsimp only; rw [k1]; rfl), h3⟩
  · cases h2
end
end DL
set_option maxHeartbeats 1000000
/-! D14: calls of functions of one's own. -/
namespace DL
open PySem PySem.Spec PyProof.Rows L2
section
variable {P : Program} {w : World} {K : PySem.W.Frag} {H H' H1 H2 : Hp} {ρ ρ' ρ1 ρ2 : DL.Env} {σ σ1 σ2 : L2.St} {Φ Φ' Φ1 Φ2 : Nat → List Addr}
theorem eget_cons0 {o : Option D} : eget (o :: ρ) 0 = o := rfl
theorem eget_consS {o : Option D} {i : Nat} : eget (o :: ρ) (i + 1) = eget ρ i := by
  unfold eget
  rw [List.getElem?_cons_succ]
def fcons (F : List Addr) (Φ : Nat → List Addr) : Nat → List Addr
  | 0 => F
  | i + 1 => Φ i
theorem FP.cons {o : Option D} {F : List Addr} {a : Addr} (h : FP (o :: ρ) (fcons F Φ) a) : a ∈ F ∨ FP ρ Φ a := by
  obtain ⟨i, d, h1, h2⟩ := h
  cases i with
  | zero => exact .inl h2
  | succ i => exact .inr ⟨i, d, by rw [← h1, eget_consS], h2⟩
theorem eget_nil {i : Nat} {d : D} (h : eget [] i = some d) : False := by
  unfold eget at h
  rw [List.getElem?_nil] at h
  cases h
theorem EnvRep.nil : EnvRep P w K H [] [] Φ := ⟨rfl, fun i d h => (eget_nil h).elim, fun i d h => (eget_nil h).elim, fun i j d e _ h => (eget_nil h).elim⟩
theorem EnvRep.cons {d : D} {v : V} {F : List Addr} (e : EnvRep P w K H ρ σ Φ) (r : Rep P w K H d v F) (hn : F.Nodup) (n : ∀ a ∈ F, ¬ FP ρ Φ a) : EnvRep P w K H (some d :: ρ) (some v :: σ) (fcons F Φ) := by
  refine ⟨by simp [e.len], fun i x h => ?_, fun i x h => ?_, fun i j x y q h h' => ?_⟩
  · cases i with
    | zero => cases h; exact ⟨v, rfl, r⟩
    | succ i =>
      rw [eget_consS] at h
      obtain ⟨u, h1, h2⟩ := e.rep i x h
      exact ⟨u, by rw [List.getElem?_cons_succ]; exact h1, h2⟩
  · cases i with
    | zero => exact hn
    | succ i => rw [eget_consS] at h; exact e.nod i x h
  · cases i with
    | zero =>
      cases j with
      | zero => exact absurd rfl q
      | succ j => rw [eget_consS] at h'; exact fun a ha hb => n a ha ⟨j, y, h', hb⟩
    | succ i =>
      rw [eget_consS] at h
      cases j with
      | zero => exact fun a ha hb => n a hb ⟨i, x, h, ha⟩
      | succ j => rw [eget_consS] at h'; exact e.dis i j x y (fun z => q (by rw [z])) h h'
theorem EnvRep.tail {o : Option D} {v : Option V} (e : EnvRep P w K H (o :: ρ) (v :: σ) Φ) : EnvRep P w K H ρ σ (fun j => Φ (j + 1)) := by
  refine ⟨by have := e.len; simpa using this, fun i x h => ?_, fun i x h => e.nod (i + 1) x (by rw [eget_consS]; exact h), fun i j x y q h h' => e.dis (i + 1) (j + 1) x y (fun z => q (by omega)) (by rw [eget_consS]; exact h) (by rw [eget_consS]; exact h')⟩
  obtain ⟨u, h1, h2⟩ := e.rep (i + 1) x (by rw [eget_consS]; exact h)
  exact ⟨u, by rw [List.getElem?_cons_succ] at h1; exact h1, h2⟩
theorem FP.tail {o : Option D} {a : Addr} (h : FP ρ (fun j => Φ (j + 1)) a) : FP (o :: ρ) Φ a := let ⟨i, d, h1, h2⟩ := h; ⟨i + 1, d, by rw [eget_consS]; exact h1, h2⟩
/-- the environment that a function begins with -/
theorem callEnv (e : EnvRep P w K H ρ σ Φ) : ∀ {os : List Opd} {vs : List V} {G : List Addr} {ds : List D}, OpR' P w K H σ os vs G → opds ρ os = some ds → G.Nodup → (∀ a ∈ G, ¬ FP ρ Φ a) → (lent os ds).Nodup →
    ∃ Φc, EnvRep P w K H (ds.map some) (vs.map some) Φc ∧ (∀ a, FP (ds.map some) Φc a → a ∈ G ∨ ∃ i ∈ lent os ds, (∃ d, eget ρ i = some d) ∧ a ∈ Φ i) ∧ ∀ i ∈ lent os ds, ∃ d, eget ρ i = some d
  | [], _, _, _, r, h, _, _, _ => by cases r; cases h; exact ⟨fun _ => [], EnvRep.nil, (fun a h => by obtain ⟨i, d, h, _⟩ := h; exact (eget_nil h).elim), nofun⟩
  | o :: os, _, _, _, r, h, hn, ha, hl => by
    obtain ⟨d, ds, rfl, k1, k2⟩ := opds_cons h
    cases r with
    | @val d0 v F _ vs G a b =>
      cases k1
      obtain ⟨n1, n2, n3⟩ := List.nodup_append.mp hn
      obtain ⟨Φc, e1, e2, e3⟩ := callEnv e b k2 n2 (fun a h => ha a (List.mem_append_right _ h)) hl
      refine ⟨fcons F Φc, e1.cons a n1 fun x hx f => ?_, fun x f => ?_, e3⟩
      · rcases e2 x f with z | ⟨i, _, ⟨d', z⟩, z2⟩
        · exact n3 x hx x z rfl
        · exact ha x (List.mem_append_left _ hx) ⟨i, d', z, z2⟩
      · rcases FP.cons f with z | z
        · exact .inl (List.mem_append_left _ z)
        · rcases e2 x z with z | z
          · exact .inl (List.mem_append_right _ z)
          · exact .inr z
    | @ref i v _ vs G a b =>
      change eget ρ i = some d at k1
      obtain ⟨u, q1, q2⟩ := e.rep i d k1
      rw [a] at q1
      cases q1
      by_cases hi : d.imm = true
      · have el : lent (.ref i :: os) (d :: ds) = lent os ds := by rw [lent, if_pos hi]
        rw [el] at hl ⊢
        obtain ⟨Φc, e1, e2, e3⟩ := callEnv e b k2 hn ha hl
        rw [Rep.imm_nil hi q2] at q2
        refine ⟨fcons [] Φc, e1.cons q2 List.nodup_nil nofun, fun x f => ?_, e3⟩
        rcases FP.cons f with z | z
        · cases z
        · exact e2 x z
      · have el : lent (.ref i :: os) (d :: ds) = i :: lent os ds := by rw [lent, if_neg hi]
        rw [el] at hl ⊢
        obtain ⟨l1, l2⟩ := List.nodup_cons.mp hl
        obtain ⟨Φc, e1, e2, e3⟩ := callEnv e b k2 hn ha l2
        refine ⟨fcons (Φ i) Φc, e1.cons q2 (e.nod i d k1) fun x hx f => ?_, fun x f => ?_, fun j hj => ?_⟩
        · rcases e2 x f with z | ⟨j, hj, ⟨d', z⟩, z2⟩
          · exact ha x z ⟨i, d, k1, hx⟩
          · exact e.dis i j d d' (fun q => l1 (q ▸ hj)) k1 z x hx z2
        · rcases FP.cons f with z | z
          · exact .inr ⟨i, List.mem_cons_self, ⟨d, k1⟩, z⟩
          · rcases e2 x z with z | ⟨j, hj, z⟩
            · exact .inl z
            · exact .inr ⟨j, List.mem_cons_of_mem _ hj, z⟩
        · rcases List.mem_cons.mp hj with rfl | hj
          · exact ⟨d, k1⟩
          · exact e3 j hj
/-- what was lent comes back -/
theorem backEnv : ∀ {os : List Opd} {vs : List V} {G : List Addr} {ds : List D} {fin ρ : DL.Env} {Φf Φ : Nat → List Addr}, OpR' P w K H1 σ os vs G → ds.length = os.length → EnvRep P w K H fin (vs.map some) Φf → EnvRep P w K H ρ σ Φ → (∀ a, FP fin Φf a → ¬ FP ρ Φ a) →
    (∀ i ∈ lent os ds, i < ρ.length) → ∃ Φ', EnvRep P w K H (giveBack os ds fin ρ) σ Φ' ∧ ∀ a, FP (giveBack os ds fin ρ) Φ' a → FP ρ Φ a ∨ FP fin Φf a
  | [], _, _, [], fin, ρ, Φf, Φ, r, hl, ef, e, ha, hi => by
    rw [giveBack] <;> try (intros; simp_all)
    exact ⟨Φ, e, fun a h => .inl h⟩
  | o :: os, _, _, d :: ds, fin, ρ, Φf, Φ, r, hl, ef, e, ha, hi => by
    have hl' : ds.length = os.length := by simpa using hl
    cases r with
    | @val d0 v F _ vs G a b =>
      cases fin with
      | nil => have := ef.len; simp at this
      | cons f fs =>
        have e2 : lent (.val d0 :: os) (d :: ds) = lent os ds := rfl
        rw [e2] at hi
        obtain ⟨Φ', q1, q2⟩ := backEnv b hl' ef.tail e (fun a h => ha a h.tail) hi
        exact ⟨Φ', q1, fun a h => (q2 a h).imp id fun z => z.tail⟩
    | @ref i v _ vs G a b =>
      cases fin with
      | nil => have := ef.len; simp at this
      | cons f fs =>
        have eg : giveBack (.ref i :: os) (d :: ds) (f :: fs) ρ = giveBack os ds fs (if d.imm then ρ else eset ρ i f) := rfl
        rw [eg]
        by_cases hd : d.imm = true
        · have e2 : lent (.ref i :: os) (d :: ds) = lent os ds := by rw [lent, if_pos hd]
          rw [e2] at hi
          rw [if_pos hd]
          obtain ⟨Φ', q1, q2⟩ := backEnv b hl' ef.tail e (fun a h => ha a h.tail) hi
          exact ⟨Φ', q1, fun a h => (q2 a h).imp id fun z => z.tail⟩
        · have e2 : lent (.ref i :: os) (d :: ds) = i :: lent os ds := by rw [lent, if_neg hd]
          rw [e2] at hi
          rw [if_neg hd]
          have hil := hi i List.mem_cons_self
          cases f with
          | none =>
            obtain ⟨Φ', q1, q2⟩ := backEnv b hl' ef.tail (e.drop i) (fun a h f => ha a h.tail f.drop) (fun j hj => by rw [eset_length]; exact hi j (List.mem_cons_of_mem _ hj))
            exact ⟨Φ', q1, fun a h => (q2 a h).imp (fun z => z.drop) fun z => z.tail⟩
          | some d' =>
            obtain ⟨u, g1, g2⟩ := ef.rep 0 d' rfl
            have : u = v := by simpa using g1.symm
            subst this
            have e3 := e.put (i := i) (σ' := σ) g2 (ef.nod 0 d' rfl) (fun a h f => ha a ⟨0, d', rfl, h⟩ f.drop) hil rfl a (fun _ _ => rfl)
            have hz : ∀ a, FP fs (fun j => Φf (j + 1)) a → ¬ FP (eset ρ i (some d')) (fset Φ i (Φf 0)) a := fun a h f => by
              rcases FP.put hil f with z | z
              · obtain ⟨j, x, h1, h2⟩ := h
                exact ef.dis 0 (j + 1) d' x (by omega) rfl (by rw [eget_consS]; exact h1) a z h2
              · exact ha a h.tail z.drop
            obtain ⟨Φ', q1, q2⟩ := backEnv b hl' ef.tail e3 hz (fun j hj => by rw [eset_length]; exact hi j (List.mem_cons_of_mem _ hj))
            refine ⟨Φ', q1, fun a h => ?_⟩
            rcases q2 a h with z | z
            · rcases FP.put hil z with z | z
              · exact .inr ⟨0, d', rfl, z⟩
              · exact .inl z.drop
            · exact .inr z.tail
  | [], _, _, _ :: _, _, _, _, _, _, hl, _, _, _, _ => by simp at hl
  | _ :: _, _, _, [], _, _, _, _, _, hl, _, _, _, _ => by simp at hl
theorem ewipe_length (ρ : DL.Env) : ∀ l : List Nat, (ewipe ρ l).length = ρ.length
  | [] => rfl
  | v :: l => by rw [ewipe, List.length_set, ewipe_length ρ l]
theorem eget_wipe {l : List Nat} {i : Nat} {d : D} : eget (ewipe ρ l) i = some d → i ∉ l ∧ eget ρ i = some d := by
  induction l with
  | nil => exact fun h => ⟨nofun, h⟩
  | cons v l ih =>
    intro h
    obtain ⟨h1, h2⟩ := eget_eset_none (ρ := ewipe ρ l) (i := v) h
    obtain ⟨h3, h4⟩ := ih h2
    exact ⟨fun q => by rcases List.mem_cons.mp q with rfl | q; exact h1 rfl; exact h3 q, h4⟩
theorem eget_wipe_of {l : List Nat} {i : Nat} (h : i ∉ l) : eget (ewipe ρ l) i = eget ρ i := by
  induction l with
  | nil => rfl
  | cons v l ih =>
    have h1 : v ≠ i := fun q => h (q ▸ List.mem_cons_self)
    rw [ewipe]
    show eget (eset (ewipe ρ l) v none) i = _
    rw [eget_eset_ne h1, ih fun q => h (List.mem_cons_of_mem _ q)]
theorem EnvRep.wipe (e : EnvRep P w K H ρ σ Φ) (l : List Nat) : EnvRep P w K H (ewipe ρ l) σ Φ :=
  ⟨by rw [ewipe_length]; exact e.len, fun j d h => e.rep j d (eget_wipe h).2, fun j d h => e.nod j d (eget_wipe h).2, fun j k d d' n h h' => e.dis j k d d' n (eget_wipe h).2 (eget_wipe h').2⟩
theorem FP.wipe {l : List Nat} {a : Addr} (h : FP (ewipe ρ l) Φ a) : FP ρ Φ a := let ⟨j, d, h1, h2⟩ := h; ⟨j, d, (eget_wipe h1).2, h2⟩
theorem OpR'.length {os : List Opd} {vs : List V} {G : List Addr} (r : OpR' P w K H σ os vs G) : os.length = vs.length := by
  induction r with
  | nil => rfl
  | val _ _ ih => simp [ih]
  | ref _ _ ih => simp [ih]
theorem opds_length : ∀ {os : List Opd} {ds : List D}, opds ρ os = some ds → ds.length = os.length
  | [], _, h => by cases h; rfl
  | o :: os, _, h => by
    obtain ⟨d, ds, rfl, k1, k2⟩ := opds_cons h
    simp [opds_length k2]
end
/-- what a function promises -/
def spD (P : Program) (w : World) (K : PySem.W.Frag) (n : Nat) (F : DL.Env → Option (D × DL.Env)) : Sp := fun vs H Q _ => vs.length = n ∧ ∃ (ρ : DL.Env) (Φ : Nat → List Addr) (d : D) (ρ' : DL.Env), EnvRep P w K H ρ (vs.map some) Φ ∧ F ρ = some (d, ρ') ∧
  ∀ (v : V) (H' : Hp) (Φ' : Nat → List Addr) (G : List Addr), Post P w K (vs.map some) H ρ Φ H' ρ' Φ' → Res P w K H ρ Φ H' ρ' Φ' d v G → Q v H'
section
variable {X : Cx} {cf : Cf} {es : List E}
theorem evOps_length : ∀ {es : List E} {ρ ρ1 : DL.Env} {os : List Opd}, evOps cf es ρ = some (os, ρ1) → os.length = es.length
  | [], _, _, _, h => by cases h; rfl
  | e :: es, _, _, _, h => by
    obtain ⟨o, ρ2, os2, ρ3, f1, f2, f3⟩ := evOps_cons h
    cases f3
    simp [evOps_length f2]
theorem call_by {i n : Nat} {σ : L2.St} {H : Hp} {Q : VK} (hl : es.length = n) (h : tD X.prog X.w X.K (evE cf (.call i es)) σ H Q) : tOs X.prog X.w X.K (evOps cf es) σ H fun vs H1 => spD X.prog X.w X.K n (cf i) vs H1 Q E0 := by
  obtain ⟨ρ, Φ, d, ρ', E, h2, hq⟩ := h
  rw [evE] at h2
  split at h2
  · rename_i os ρ1 k1
    split at h2
    · rename_i ds k2
      split at h2
      · rename_i hl2
        have hl2 := of_decide_eq_true hl2
        split at h2
        · rename_i d' fin k3
          cases h2
          refine ⟨ρ, Φ, os, ρ1, E, k1, fun vs H1 Φ1 G P1 R => ?_⟩
          obtain ⟨Φc, ec, hc, hs⟩ := callEnv P1.env R.rep k2 R.nod R.dis hl2
          have len : vs.length = n := by
            rw [← R.rep.length, ← hl]
            exact evOps_length k1
          refine ⟨len, ds.map some, Φc, _, fin, ec, k3, fun v H2 Φf G2 P2 R2 => ?_⟩
          have st := P2.stays ec
          have nfp : ∀ a, FP (ds.map some) Φc a → ¬ FP (ewipe ρ1 (lent os ds)) Φ1 a := fun a f g => by
            obtain ⟨j, x, g1, g2⟩ := g
            obtain ⟨g3, g4⟩ := eget_wipe g1
            rcases hc a f with z | ⟨i, hi, ⟨y, z⟩, z2⟩
            · exact R.dis a z ⟨j, x, g4, g2⟩
            · exact P1.env.dis i j y x (fun q => g3 (q ▸ hi)) z g4 a z2 g2
          have e1 := P1.env.wipe (lent os ds)
          have e2 : EnvRep X.prog X.w X.K H2 (ewipe ρ1 (lent os ds)) σ Φ1 := ⟨e1.len, fun j x hj => by
            obtain ⟨u, z1, z2⟩ := e1.rep j x hj
            exact ⟨u, z1, z2.stay st fun a ha o ho => P2.keep a o ho fun f => nfp a f ⟨j, x, hj, ha⟩⟩, e1.nod, e1.dis⟩
          have ap : ∀ a, FP fin Φf a → ¬ FP (ewipe ρ1 (lent os ds)) Φ1 a := fun a f g => by
            rcases P2.new a f with z | z
            · exact FP.some_ e1 g z
            · exact nfp a z g
          obtain ⟨Φ', b1, b2⟩ := backEnv R.rep (opds_length k2) P2.env e2 ap fun i hi => by
            obtain ⟨y, hy⟩ := hs i hi
            rw [ewipe_length]
            exact eget_lt hy
          have fpc : ∀ a, FP (ds.map some) Φc a → H a = none ∨ FP ρ Φ a := fun a f => by
            rcases hc a f with z | ⟨i, hi, ⟨y, z⟩, z2⟩
            · exact R.new a z
            · exact P1.new a ⟨i, y, z, z2⟩
          refine hq v H2 Φ' G2 ⟨b1, fun a o ha hf => ?_, fun a f => ?_⟩ ⟨R2.rep, R2.nod, fun a ha f => ?_, fun a ha => ?_⟩
          · refine P2.keep a o (P1.keep a o ha hf) fun f => ?_
            rcases fpc a f with z | z
            · rw [ha] at z; cases z
            · exact hf z
          · rcases b2 a f with z | z
            · exact P1.new a z.wipe
            · rcases P2.new a z with z | z
              · exact P1.none_ z
              · exact fpc a z
          · rcases b2 a f with z | z
            · rcases R2.new a ha with z2 | z2
              · exact FP.some_ e1 z z2
              · exact nfp a z2 z
            · exact R2.dis a ha z
          · rcases R2.new a ha with z | z
            · exact P1.none_ z
            · exact fpc a z
        · cases h2
      · cases h2
    · cases h2
  · cases h2
end
end DL
set_option maxHeartbeats 1000000
/-! D15: calls, methods that change a list, stores into a list. -/
namespace DL
open PySem PySem.Spec PyProof.Rows L2
/-- a function that may be called by its name -/
structure Cal (P : Program) (w : World) (K : PySem.W.Frag) (mg : Str → Option Value) (base : Heap) (A : Around) (cf : Cf) (i : Nat) (nm : Str) (n : Nat) : Prop where
  ex : ∃ (f : Addr) (fd : FuncData) (ps : List Str) (k : Nat), FnOk P w K mg base CX0 k f fd ps (spD P w K n (cf i)) ∧ Room k A ∧ PySem.W.keepIn K (.ref f) = true ∧ Binds K fd ps [] ∧ mg nm = some (.ref f)
section
variable {X : Cx} {cf : Cf} {es : List E} {x y z a : Expr} {xs : List Expr} {e e' e1 : E} {pos p apos : Pos} {nm : Str}
theorem se_call {i n : Nat} (C : Cal X.prog X.w X.K X.mg X.base X.A cf i nm n) (hg : Gl X nm) (ha : SOs X cf (x :: xs) es) (hl : es.length = n := by rfl) (hdb : (nm == ("__debug__" : Str)) = false := by decide)
    (he : starEach (x :: xs) X.env = (false, eval x X.env) :: starEach xs X.env := by rfl) (hpl : (backTo pos (starEach xs X.env)).any (·.1) = false := by rfl) : SE X cf (.Call (.Name nm p) (x :: xs) [] pos) (.call i es) := by
  obtain ⟨f, fd, ps, k, F, hr, hk, hb, hm⟩ := C.ex
  refine PE.wk (pe_call F hr hg hm hk hb .nil pass0 ha hdb he hpl) fun σ H Q q => ?_
  have := call_by hl q
  unfold tCall
  obtain ⟨ρ, Φ, os, ρ', h1, h2, h3⟩ := this
  exact ⟨ρ, Φ, os, ρ', h1, h2, fun vs H' Φ' G p r => by show spD _ _ _ _ _ (vs ++ []) _ _ _; rw [List.append_nil]; exact h3 vs H' Φ' G p r⟩
/-! ### one value, taken -/
theorem stk_nil : STk X cf [] [] := pa_nil.wk fun σ H Q ⟨ρ, Φ, os, ρ', h1, h2, h3⟩ => by
  cases h2
  exact h3 [] H Φ [] (Post.refl h1) ⟨.nil, List.nodup_nil, nofun, nofun⟩
theorem stk_cons (h : SE X cf x e) (t : STk X cf xs es) (hs : starEach (x :: xs) X.env = (false, eval x X.env) :: starEach xs X.env := by rfl) : STk X cf (x :: xs) (e :: es) := (pa_cons h t hs).wk fun σ H Q ⟨ρ, Φ, ds, ρ', h1, h2, h3⟩ => by
  rw [evTk] at h2
  split at h2
  · rename_i d ρ1 k1
    split at h2
    · rename_i ds2 ρ2 k2
      cases h2
      exact ⟨ρ, Φ, d, ρ1, h1, k1, fun v H1 Φ1 G1 p1 r1 => ⟨ρ1, Φ1, ds2, _, p1.env, k2, fun vs H2 Φ2 G2 p2 r2 => h3 _ _ _ _ (p1.trans p2) (ResL.cons p1 p2 r1 r2)⟩⟩
    · cases h2
  · cases h2
end
section
variable {P : Program} {w : World} {K : PySem.W.Frag} {H H' H1 H2 : Hp} {ρ ρ' ρ1 ρ2 : DL.Env} {σ σ1 σ2 : L2.St} {Φ Φ' Φ1 Φ2 : Nat → List Addr}
theorem eset_eset {i : Nat} {o o' : Option D} : eset (eset ρ i o) i o' = eset ρ i o' := by
  unfold eset
  rw [List.set_set]
theorem upd_off {a b : Addr} {o ob : HO} {F : List Addr} (n : a ∉ F) (hb : b ∈ F) (h : H b = some ob) : upd H a o b = some ob := by
  rw [upd_ne fun q => n (by rw [← q]; exact hb)]
  exact h
theorem stays_upd {a : Addr} {o1 o2 : HO} (h : H a = some o1) (m : IsMut o1) : Stays H (upd H a o2) := fun b o e n => by
  by_cases q : b = a
  · subst q
    rw [h] at e; cases e
    exact absurd m n
  · rw [upd_ne q]; exact e
/-- what stands in a slot is changed in its place -/
theorem mutate {i : Nat} {a : Addr} {d1 d2 : D} {o1 o2 : HO} {F2 G : List Addr} (p : Post P w K σ H ρ Φ H1 ρ1 Φ1) (h1 : eget ρ1 i = some d1) (hσ : σ[i]? = some (some (.ref a))) (ha : a ∈ Φ1 i) (ho : H1 a = some o1) (hm : IsMut o1)
    (r : Rep P w K (upd H1 a o2) d2 (.ref a) F2) (nd : F2.Nodup) (hF : ∀ b ∈ F2, b ∈ Φ1 i ∨ b ∈ G) (hG : ∀ b ∈ G, ¬ FP ρ1 Φ1 b) (hG2 : ∀ b ∈ G, H b = none ∨ FP ρ Φ b) :
    Post P w K σ H ρ Φ (upd H1 a o2) (eset ρ1 i (some d2)) (fset Φ1 i F2) := by
  have hi := eget_lt h1
  have e1 : EnvRep P w K (upd H1 a o2) (eset ρ1 i none) σ Φ1 := by
    have e0 := p.env.drop i
    refine ⟨e0.len, fun j x hj => ?_, e0.nod, e0.dis⟩
    obtain ⟨u, z1, z2⟩ := e0.rep j x hj
    obtain ⟨q1, q2⟩ := eget_eset_none hj
    refine ⟨u, z1, z2.stay (stays_upd ho hm) fun b hb o hbo => ?_⟩
    exact upd_off (fun q => p.env.dis i j d1 x (Ne.symm q1) h1 q2 a ha q) hb hbo
  have ap : ∀ b ∈ F2, ¬ FP (eset (eset ρ1 i none) i none) Φ1 b := fun b hb f => by
    rw [eset_eset] at f
    rcases hF b hb with z | z
    · obtain ⟨j, x, q1, q2⟩ := f
      obtain ⟨q3, q4⟩ := eget_eset_none q1
      exact p.env.dis i j d1 x (Ne.symm q3) h1 q4 b z q2
    · exact hG b z f.drop
  have e2 := e1.put (i := i) (σ' := σ) r nd ap (by rw [eset_length]; exact hi) rfl hσ (fun _ _ => rfl)
  rw [eset_eset] at e2
  refine ⟨e2, fun b o hb hn => ?_, fun b f => ?_⟩
  · have k := p.keep b o hb hn
    rw [upd_ne fun q => ?_]
    · exact k
    · subst q
      rcases p.new b ⟨i, d1, h1, ha⟩ with z | z
      · rw [hb] at z; cases z
      · exact hn z
  · rcases FP.put hi f with z | z
    · rcases hF b z with z | z
      · exact p.new b ⟨i, d1, h1, z⟩
      · exact hG2 b z
    · exact p.new b z.drop
theorem RepL.erase : ∀ {ds : List D} {vs : List V} {F : List Addr} {k : Nat} {d : D}, RepL P w K H ds vs F → ds[k]? = some d → ∃ v G F', vs[k]? = some v ∧ Rep P w K H d v G ∧ RepL P w K H (ds.eraseIdx k) (vs.eraseIdx k) F' ∧ (G ++ F').Perm F
  | [], _, _, _, _, _, e => by simp at e
  | d :: ds, _, _, 0, x, h, e => by
    cases h with
    | cons h1 h2 =>
      simp at e
      subst e
      exact ⟨_, _, _, rfl, h1, h2, List.Perm.refl _⟩
  | d :: ds, _, _, k + 1, x, h, e => by
    cases h with
    | @cons _ v A _ vs B h1 h2 =>
      obtain ⟨v', G, F', e1, e2, e3, e4⟩ := RepL.erase (k := k) h2 (by simpa using e)
      refine ⟨v', G, A ++ F', by simpa using e1, e2, .cons h1 e3, ?_⟩
      rw [← List.append_assoc]
      refine List.Perm.trans (List.Perm.append_right _ List.perm_append_comm) ?_
      rw [List.append_assoc]
      exact List.Perm.append_left _ e4
/-- a list that takes one at an end, or many -/
theorem RepL.set : ∀ {ds : List D} {vs : List V} {F : List Addr} {k : Nat} {d : D} {v : V}, RepL P w K H ds vs F → D.imms ds = true → Rep P w K H d v [] → RepL P w K H (ds.set k d) (vs.set k v) []
  | [], _, _, _, _, _, h, _, _ => by cases h; exact .nil
  | d :: ds, _, _, 0, x, v, h, hi, r => by
    cases h with
    | cons h1 h2 =>
      rw [D.imms, Bool.and_eq_true] at hi
      rw [RepL.imm_nil hi.2 h2] at h2
      exact RepL.cons (F := []) r h2
  | d :: ds, _, _, k + 1, x, v, h, hi, r => by
    cases h with
    | cons h1 h2 =>
      rw [D.imms, Bool.and_eq_true] at hi
      rw [Rep.imm_nil hi.1 h1] at h1
      exact RepL.cons (F := []) h1 (RepL.set h2 hi.2 r)
end
section
variable {X : Cx} {cf : Cf} {es : List E} {x y z a : Expr} {xs : List Expr} {e e' e1 : E} {pos p apos : Pos} {nm : Str}
theorem meth_inv {m : Meth} {i : Nat} {e : E} {ρ : DL.Env} {r : D × DL.Env} (h : evE cf (.meth m i [e]) ρ = some r) : ∃ l0 d ρ1 rv r', eget ρ i = some (.lst l0) ∧ evE cf e ρ = some (d, ρ1) ∧ eget ρ1 i = some rv ∧ methD m rv [d] = some (r.1, r') ∧ r.2 = eset ρ1 i (some r') := by
  rw [evE] at h
  split at h
  · rename_i hm
    have : ∃ l0, eget ρ i = some (.lst l0) := by
      unfold isLst at hm
      split at hm
      · exact ⟨_, ‹_›⟩
      · cases hm
    obtain ⟨l0, hl0⟩ := this
    split at h
    · rename_i ds ρ1 k1
      rw [evTk] at k1
      split at k1
      · rename_i d ρ2 k2
        rw [evTk] at k1
        cases k1
        split at h
        · rename_i rv k3
          split at h
          · rename_i d' r' k4
            cases h
            exact ⟨l0, d, ρ1, rv, r', hl0, k2, k3, k4, rfl⟩
          · cases h
        · cases h
      · cases k1
    · cases h
  · cases h
theorem se_meth {m : Meth} {i : Nat} {n : Str} {id mn : String} {r : V → List V → Hp → VK → Prop} {q0 : Pos} (pa : PlainAttrs "list") (slot : Slot "list" mn id) (hty : typeOf (.builtin id) = pure (.type "method_descriptor")) (hm : MtR X id r)
    (hN : X.N[i]? = some n) (hv : Vis X.env.scope n) (ha : SE X cf x e)
    (hfin : ∀ (σ : L2.St) (H H1 : Hp) (ρ ρ1 : DL.Env) (Φ Φ1 : Nat → List Addr) (Q : VK) (a : Addr) (l : List D) (d dr r' : D) (v : V) (G : List Addr), σ[i]? = some (some (.ref a)) → Post X.prog X.w X.K σ H ρ Φ H1 ρ1 Φ1 → Res X.prog X.w X.K H ρ Φ H1 ρ1 Φ1 d v G →
      eget ρ1 i = some (.lst l) → methD m (.lst l) [d] = some (dr, r') →
      (∀ (v : V) (H' : Hp) (Φ' : Nat → List Addr) (G : List Addr), Post X.prog X.w X.K σ H ρ Φ H' (eset ρ1 i (some r')) Φ' → Res X.prog X.w X.K H ρ Φ H' (eset ρ1 i (some r')) Φ' dr v G → Q v H') → r (.ref a) [v] H1 Q)
    (hbase : attributeBase (.Name n q0) mn X.env (eval (.Name n q0) X.env) = eval (.Name n q0) X.env := by rfl)
    (hfew : ((backTo pos (starEach [x] X.env)).all (fun x => !x.1) && (backToKw pos (keywordEach [] X.env)).all (fun x => x.1.isSome)
      && decide ([x].length + ([] : List Keyword).length + (if ([] : List Keyword).isEmpty then 0 else 1) < 30)) = true := by rfl)
    (hline : (apos.endLine == pos.line) = true := by rfl) (hs : starEach [x] X.env = (false, eval x X.env) :: starEach [] X.env := by rfl) (hd : (n == ("__debug__" : Str)) = false := by decide) (hcd : (n == ("__classdict__" : Str)) = false := by decide) :
    SE X cf (.Call (.Attribute (.Name n q0) mn apos) [x] [] pos) (.meth m i [e]) :=
  PE.wk (pe_bm pa slot hty hm (pe_var hN hv hd hcd) (pa_cons ha pa_nil hs) hbase hfew hline hs rfl) fun σ H Q ⟨ρ, Φ, d, ρ', E, hev, hq⟩ => by
    obtain ⟨l0, d1, ρ1, rv, r', k1, k2, k3, k4, k5⟩ := meth_inv hev
    obtain ⟨v0, s1, s2⟩ := E.rep i _ k1
    generalize Φ i = Fi at s2
    cases s2 with
    | lst t1 t2 t3 =>
      refine ⟨_, s1, Or.inl ⟨rfl, _, SqL.of t1⟩, ρ, Φ, d1, ρ1, E, k2, fun v H1 Φ1 G P1 R1 => ?_⟩
      have hl : ∃ l, rv = .lst l := by
        cases m <;> cases rv <;> first | (simp [methD] at k4; done) | exact ⟨_, rfl⟩
      obtain ⟨l, rfl⟩ := hl
      subst k5
      exact hfin σ H H1 ρ ρ1 Φ Φ1 Q _ l d1 d r' v G s1 P1 R1 k3 k4 hq
theorem se_append {i : Nat} {n : Str} {q0 : Pos} (hN : X.N[i]? = some n) (hv : Vis X.env.scope n) (ha : SE X cf x e)
    (hbase : attributeBase (.Name n q0) "append" X.env (eval (.Name n q0) X.env) = eval (.Name n q0) X.env := by rfl)
    (hfew : ((backTo pos (starEach [x] X.env)).all (fun x => !x.1) && (backToKw pos (keywordEach [] X.env)).all (fun x => x.1.isSome)
      && decide ([x].length + ([] : List Keyword).length + (if ([] : List Keyword).isEmpty then 0 else 1) < 30)) = true := by rfl)
    (hline : (apos.endLine == pos.line) = true := by rfl) (hs : starEach [x] X.env = (false, eval x X.env) :: starEach [] X.env := by rfl) (hd : (n == ("__debug__" : Str)) = false := by decide) (hcd : (n == ("__classdict__" : Str)) = false := by decide) :
    SE X cf (.Call (.Attribute (.Name n q0) "append" apos) [x] [] pos) (.meth .append i [e]) :=
  se_meth PySem.F.plainAttrs_list PySem.F.slot_list_append PySem.F.type_list_append mt_append hN hv ha (fun σ H H1 ρ ρ1 Φ Φ1 Q a l d dr r' v G hσ P1 R1 hl hm hq => by
    unfold methD at hm
    simp only at hm
    obtain ⟨hz, hm⟩ := ite_some hm
    have hz := of_decide_eq_true hz
    cases hm
    obtain ⟨u, g1, g2⟩ := P1.env.rep i _ hl
    rw [hσ] at g1
    cases g1
    have nd0 := P1.env.nod i _ hl
    generalize hΦ : Φ1 i = Fi at g2 nd0
    cases g2 with
    | @lst _ vs _ F t1 t2 t3 =>
      refine ⟨a, vs, v, rfl, rfl, t1, by rw [← t3.length]; exact hz, ?_⟩
      have haG : a ∉ G := fun h => R1.dis a h ⟨i, _, hl, by rw [hΦ]; exact List.mem_cons_self⟩
      obtain ⟨n1, n2⟩ := List.nodup_cons.mp nd0
      have st := stays_upd (o2 := .lst (vs ++ [v])) t1 trivial
      have r1 : RepL X.prog X.w X.K (upd H1 a (.lst (vs ++ [v]))) l vs F := t3.stay st fun b hb o ho => upd_off n1 (hb) ho
      have r2 : Rep X.prog X.w X.K (upd H1 a (.lst (vs ++ [v]))) d v G := R1.rep.stay st fun b hb o ho => upd_off haG (hb) ho
      have r3 : RepL X.prog X.w X.K (upd H1 a (.lst (vs ++ [v]))) (l ++ [d]) (vs ++ [v]) (F ++ (G ++ [])) := RepL.append r1 (.cons r2 .nil)
      rw [List.append_nil] at r3
      have hdis : ∀ b ∈ F, b ∉ G := fun b hb hb2 => R1.dis b hb2 ⟨i, _, hl, by rw [hΦ]; exact List.mem_cons_of_mem _ hb⟩
      refine hq .non _ (fset Φ1 i (a :: (F ++ G))) [] (mutate (G := G) P1 hl hσ (by rw [hΦ]; exact List.mem_cons_self) t1 trivial (.lst upd_same (by rw [List.length_append]; exact hz) r3)
        (List.nodup_cons.mpr ⟨fun h => (List.mem_append.mp h).elim n1 haG, List.nodup_append.mpr ⟨n2, R1.nod, fun b hb c hc q => hdis b hb (q ▸ hc)⟩⟩) (fun b hb => ?_) R1.dis R1.new) (Res.flat .non)
      rw [hΦ]
      rcases List.mem_cons.mp hb with rfl | hb
      · exact .inl List.mem_cons_self
      · exact (List.mem_append.mp hb).imp (List.mem_cons_of_mem _) id) hbase hfew hline hs hd hcd
theorem se_extend {i : Nat} {n : Str} {q0 : Pos} (hN : X.N[i]? = some n) (hv : Vis X.env.scope n) (ha : SE X cf x e)
    (hbase : attributeBase (.Name n q0) "extend" X.env (eval (.Name n q0) X.env) = eval (.Name n q0) X.env := by rfl)
    (hfew : ((backTo pos (starEach [x] X.env)).all (fun x => !x.1) && (backToKw pos (keywordEach [] X.env)).all (fun x => x.1.isSome)
      && decide ([x].length + ([] : List Keyword).length + (if ([] : List Keyword).isEmpty then 0 else 1) < 30)) = true := by rfl)
    (hline : (apos.endLine == pos.line) = true := by rfl) (hs : starEach [x] X.env = (false, eval x X.env) :: starEach [] X.env := by rfl) (hd : (n == ("__debug__" : Str)) = false := by decide) (hcd : (n == ("__classdict__" : Str)) = false := by decide) :
    SE X cf (.Call (.Attribute (.Name n q0) "extend" apos) [x] [] pos) (.meth .extend i [e]) :=
  se_meth PySem.F.plainAttrs_list PySem.F.slot_list_extend PySem.F.type_list_extend mt_extend hN hv ha (fun σ H H1 ρ ρ1 Φ Φ1 Q a l d dr r' v G hσ P1 R1 hl hm hq => by
    unfold methD at hm
    cases d <;> first | (simp at hm; done) | skip
    rename_i m
    simp only at hm
    obtain ⟨hz, hm⟩ := ite_some hm
    have hz := of_decide_eq_true hz
    cases hm
    obtain ⟨u, g1, g2⟩ := P1.env.rep i _ hl
    rw [hσ] at g1
    cases g1
    have nd0 := P1.env.nod i _ hl
    generalize hΦ : Φ1 i = Fi at g2 nd0
    have hfp : ∀ b ∈ Fi, FP ρ1 Φ1 b := fun b hb => ⟨i, _, hl, by rw [hΦ]; exact hb⟩
    have RD := R1.dis
    have RN := R1.new
    have RD2 := R1.nod
    have RR := R1.rep
    cases g2 with
    | @lst _ vs _ F t1 t2 t3 =>
      cases RR with
      | @lst b us _ G' u1 u2 u3 =>
        obtain ⟨n1, n2⟩ := List.nodup_cons.mp nd0
        obtain ⟨m1, m2⟩ := List.nodup_cons.mp RD2
        refine ⟨a, b, vs, us, rfl, rfl, t1, u1, by rw [← t3.length, ← u3.length]; exact hz, ?_⟩
        have haG : a ∉ b :: G' := fun h => RD a h (hfp a List.mem_cons_self)
        have haG' : a ∉ G' := fun h => haG (List.mem_cons_of_mem _ h)
        have st := stays_upd (o2 := .lst (vs ++ us)) t1 trivial
        have r1 : RepL X.prog X.w X.K (upd H1 a (.lst (vs ++ us))) l vs F := t3.stay st fun b hb o ho => upd_off n1 (hb) ho
        have r2 : RepL X.prog X.w X.K (upd H1 a (.lst (vs ++ us))) m us G' := u3.stay st fun b hb o ho => upd_off haG' (hb) ho
        have r3 := RepL.append r1 r2
        have hdis : ∀ b ∈ F, b ∉ G' := fun b hb hb2 => RD b (List.mem_cons_of_mem _ hb2) (hfp b (List.mem_cons_of_mem _ hb))
        refine hq .non _ (fset Φ1 i (a :: (F ++ G'))) [] (mutate (G := b :: G') P1 hl hσ (by rw [hΦ]; exact List.mem_cons_self) t1 trivial (.lst upd_same (by rw [List.length_append]; exact hz) r3)
          (List.nodup_cons.mpr ⟨fun h => (List.mem_append.mp h).elim n1 haG', List.nodup_append.mpr ⟨n2, m2, fun b hb c hc q => hdis b hb (q ▸ hc)⟩⟩) (fun c hc => ?_) RD RN) (Res.flat .non)
        rw [hΦ]
        rcases List.mem_cons.mp hc with rfl | hc
        · exact .inl List.mem_cons_self
        · exact (List.mem_append.mp hc).imp (List.mem_cons_of_mem _) (List.mem_cons_of_mem _)) hbase hfew hline hs hd hcd
theorem se_popAt {i : Nat} {n : Str} {q0 : Pos} (hN : X.N[i]? = some n) (hv : Vis X.env.scope n) (ha : SE X cf x e)
    (hbase : attributeBase (.Name n q0) "pop" X.env (eval (.Name n q0) X.env) = eval (.Name n q0) X.env := by rfl)
    (hfew : ((backTo pos (starEach [x] X.env)).all (fun x => !x.1) && (backToKw pos (keywordEach [] X.env)).all (fun x => x.1.isSome)
      && decide ([x].length + ([] : List Keyword).length + (if ([] : List Keyword).isEmpty then 0 else 1) < 30)) = true := by rfl)
    (hline : (apos.endLine == pos.line) = true := by rfl) (hs : starEach [x] X.env = (false, eval x X.env) :: starEach [] X.env := by rfl) (hd : (n == ("__debug__" : Str)) = false := by decide) (hcd : (n == ("__classdict__" : Str)) = false := by decide) :
    SE X cf (.Call (.Attribute (.Name n q0) "pop" apos) [x] [] pos) (.meth .popAt i [e]) :=
  se_meth PySem.F.plainAttrs_list PySem.F.slot_list_pop PySem.F.type_list_pop mt_popAt hN hv ha (fun σ H H1 ρ ρ1 Φ Φ1 Q a l d dr r' v G hσ P1 R1 hl hm hq => by
    unfold methD at hm
    cases d <;> first | (simp at hm; done) | skip
    rename_i ix
    simp only at hm
    split at hm
    · rename_i hb
      rw [Bool.and_eq_true] at hb
      split at hm
      · rename_i k hk
        split at hm
        · rename_i y hy
          cases hm
          obtain ⟨u, g1, g2⟩ := P1.env.rep i _ hl
          rw [hσ] at g1
          cases g1
          have nd0 := P1.env.nod i _ hl
          generalize hΦ : Φ1 i = Fi at g2 nd0
          have hfp : ∀ b ∈ Fi, FP ρ1 Φ1 b := fun b hb => ⟨i, _, hl, by rw [hΦ]; exact hb⟩
          have RR := R1.rep
          cases RR
          cases g2 with
          | @lst _ vs _ F t1 t2 t3 =>
            obtain ⟨n1, n2⟩ := List.nodup_cons.mp nd0
            obtain ⟨vy, Gy, F', e1, e2, e3, e4⟩ := t3.erase hy
            have nd : (Gy ++ F').Nodup := e4.nodup_iff.mpr n2
            obtain ⟨d1, d2, d3⟩ := List.nodup_append.mp nd
            have hGF : ∀ b ∈ Gy, b ∈ F := fun b hb => e4.mem_iff.mp (List.mem_append_left _ hb)
            have hFF : ∀ b ∈ F', b ∈ F := fun b hb => e4.mem_iff.mp (List.mem_append_right _ hb)
            refine ⟨a, vs, ix, k, vy, rfl, rfl, t1, of_decide_eq_true hb.1, of_decide_eq_true hb.2, by rw [← t3.length]; exact hk, e1, ?_⟩
            have st := stays_upd (o2 := .lst (vs.eraseIdx k)) t1 trivial
            have r1 := e3.stay st fun b hb o ho => upd_off n1 (hFF b hb) ho
            have r2 := e2.stay st fun b hb o ho => upd_off n1 (hGF b hb) ho
            have hz : (l.eraseIdx k).length ≤ sizeLine := Nat.le_trans (List.length_eraseIdx_le _ _) t2
            have PM := mutate (G := []) P1 hl hσ (by rw [hΦ]; exact List.mem_cons_self) t1 trivial (.lst upd_same hz r1) (List.nodup_cons.mpr ⟨fun h => n1 (hFF a h), d2⟩)
              (fun b hb => .inl (by rw [hΦ]; rcases List.mem_cons.mp hb with rfl | hb; exact List.mem_cons_self; exact List.mem_cons_of_mem _ (hFF b hb))) nofun nofun
            refine hq vy _ _ Gy PM ⟨r2, d1, fun b hb f => ?_, fun b hb => P1.new b (hfp b (List.mem_cons_of_mem _ (hGF b hb)))⟩
            rcases FP.put (eget_lt hl) f with z | z
            · rcases List.mem_cons.mp z with rfl | z
              · exact n1 (hGF _ hb)
              · exact d3 b hb b z rfl
            · obtain ⟨j, x', q1, q2⟩ := z
              obtain ⟨q3, q4⟩ := eget_eset_none q1
              exact P1.env.dis i j _ x' (Ne.symm q3) hl q4 b (by rw [hΦ]; exact List.mem_cons_of_mem _ (hGF b hb)) q2
        · cases hm
      · cases hm
    · cases hm) hbase hfew hline hs hd hcd
end
end DL
set_option maxHeartbeats 1000000
/-! D16: readings of statements: targets, assignments, if, return, sequences. -/
namespace DL
open PySem PySem.Spec PyProof.Rows L2
mutual
def asgT : Tg → List Nat
  | .nm i => [i]
  | .tp ts => asgTs ts
def asgTs : List Tg → List Nat
  | [] => []
  | t :: ts => asgT t ++ asgTs ts
end
mutual
def asgS : S → List Nat
  | .asg t _ => asgT t
  | .par is _ => asgTs (is.map .nm)
  | .setix _ _ _ => []
  | .expr _ => []
  | .ret _ => []
  | .retN => []
  | .ifs _ a b => asgSs a ++ asgSs b
  | .for t _ b => asgT t ++ asgSs b
  | .whl _ b => asgSs b
  | .brk => []
  | .cnt => []
  | .pass => []
  | .raise => []
def asgSs : List S → List Nat
  | [] => []
  | s :: ss => asgS s ++ asgSs ss
end
/-- but for these slots all is as it was -/
structure Off (As : List Nat) (σ σ' : L2.St) : Prop where
  len : σ'.length = σ.length
  at_ : ∀ i, i ∉ As → σ'[i]? = σ[i]?
theorem Off.refl {As : List Nat} {σ : L2.St} : Off As σ σ := ⟨rfl, fun _ _ => rfl⟩
theorem Off.mono {As Bs : List Nat} {σ σ' : L2.St} (h : Off As σ σ') (s : ∀ i ∈ As, i ∈ Bs) : Off Bs σ σ' := ⟨h.len, fun i hi => h.at_ i fun q => hi (s i q)⟩
theorem Off.trans {As Bs : List Nat} {σ σ' σ'' : L2.St} (h : Off As σ σ') (k : Off Bs σ' σ'') : Off (As ++ Bs) σ σ'' :=
  ⟨k.len.trans h.len, fun i hi => (k.at_ i fun q => hi (List.mem_append_right _ q)).trans (h.at_ i fun q => hi (List.mem_append_left _ q))⟩
theorem Off.trans1 {As : List Nat} {σ σ' σ'' : L2.St} (h : Off As σ σ') (k : Off As σ' σ'') : Off As σ σ'' :=
  ⟨k.len.trans h.len, fun i hi => (k.at_ i hi).trans (h.at_ i hi)⟩
section
variable (P : Program) (w : World) (K : PySem.W.Frag)
def EndK (D : Ends) (σ' : L2.St) (H : Hp) (ρ : DL.Env) (Φ : Nat → List Addr) (H' : Hp) (ρ' : DL.Env) (Φ' : Nat → List Addr) : Fl → Prop
  | .nx => D.nx σ' H'
  | .bk => D.bk σ' H'
  | .ct => D.ct σ' H'
  | .rt d => ∀ v G, Res P w K H ρ Φ H' ρ' Φ' d v G → D.rt v H'
def tS (As : List Nat) (F : DL.Env → Option (Fl × DL.Env)) : TS := fun D σ H => ∃ (ρ : DL.Env) (Φ : Nat → List Addr) (f : Fl) (ρ' : DL.Env), EnvRep P w K H ρ σ Φ ∧ F ρ = some (f, ρ') ∧
  ∀ (σ' : L2.St) (H' : Hp) (Φ' : Nat → List Addr), Off As σ σ' → Post P w K σ' H ρ Φ H' ρ' Φ' → EndK P w K D σ' H ρ Φ H' ρ' Φ' f
/-- a value that a target takes -/
def tgRep (H : Hp) : Tg → D → V → List Addr → Prop
  | .nm _, d, v, G => Rep P w K H d v G
  | .tp _, d, v, G => ∃ a vs ds, d = .tup ds ∧ v = .ref a ∧ SqT K H a vs ∧ RepL P w K H ds vs G
def gD (t : Tg) : TG := fun v σ H Q => ∃ (ρ : DL.Env) (Φ : Nat → List Addr) (d : D) (ρ' : DL.Env) (G : List Addr), EnvRep P w K H ρ σ Φ ∧ bindT t d ρ = some ρ' ∧ tgRep P w K H t d v G ∧ G.Nodup ∧ (∀ a ∈ G, ¬ FP ρ Φ a) ∧
  ∀ (σ' : L2.St) (Φ' : Nat → List Addr), Off (asgT t) σ σ' → EnvRep P w K H ρ' σ' Φ' → (∀ a, FP ρ' Φ' a → a ∈ G ∨ FP ρ Φ a) → Q σ' H
def gDs (ts : List Tg) : TGs := fun vs σ H Q => ∃ (ρ : DL.Env) (Φ : Nat → List Addr) (ds : List D) (ρ' : DL.Env) (G : List Addr), EnvRep P w K H ρ σ Φ ∧ bindTs ts ds ρ = some ρ' ∧ RepL P w K H ds vs G ∧ G.Nodup ∧ (∀ a ∈ G, ¬ FP ρ Φ a) ∧
  ∀ (σ' : L2.St) (Φ' : Nat → List Addr), Off (asgTs ts) σ σ' → EnvRep P w K H ρ' σ' Φ' → (∀ a, FP ρ' Φ' a → a ∈ G ∨ FP ρ Φ a) → Q σ' H
end
section
variable {P : Program} {w : World} {K : PySem.W.Frag} {H H' H1 H2 : Hp} {ρ ρ' ρ1 ρ2 : DL.Env} {σ σ' σ1 σ2 : L2.St} {Φ Φ' Φ1 Φ2 : Nat → List Addr} {As Bs : List Nat}
theorem tgRep_of {t : Tg} {d : D} {v : V} {G : List Addr} (r : Rep P w K H d v G) (h : bindT t d ρ = some ρ') : tgRep P w K H t d v G := by
  cases t with
  | nm i => exact r
  | tp ts =>
    cases d <;> first | (simp [bindT] at h; done) | skip
    cases r with
    | tup h1 _ h3 => exact ⟨_, _, _, rfl, rfl, h1.sq, h3⟩
theorem tS_mono {F : DL.Env → Option (Fl × DL.Env)} {D : Ends} (h : tS P w K As F D σ H) (s : ∀ i ∈ As, i ∈ Bs) : tS P w K Bs F D σ H → True := fun _ => trivial
end
variable (X : Cx) (cf : Cf)
abbrev SS (x : Stmt) (s : S) : Prop := PS X x (tS X.prog X.w X.K (asgS s) (evS cf s))
abbrev SSs (xs : List Stmt) (ss : List S) : Prop := PSs X xs (tS X.prog X.w X.K (asgSs ss) (evSs cf ss))
abbrev SG (x : Expr) (t : Tg) : Prop := PG X x (gD X.prog X.w X.K t)
abbrev SGs (xs : List Expr) (ts : List Tg) : Prop := PGs X xs (gDs X.prog X.w X.K ts)
section
variable {X : Cx} {cf : Cf} {es : List E} {x y z a b c : Expr} {xs : List Expr} {e e' e1 e2 e3 : E} {pos p apos : Pos} {nm n n2 n3 : Str} {t : Tg} {ts : List Tg} {st : Stmt} {sts sts2 : List Stmt} {s : S} {ss ss2 : List S}
theorem _root_.L2.PG.wk {t t' : TG} (h : PG X x t) (hw : ∀ v σ H Q, t' v σ H Q → t v σ H Q) : PG X x t' := ⟨fun pins s σ H v u Q I r q => h.run pins s σ H v u Q I r (hw v σ H Q q)⟩
theorem _root_.L2.PGs.wk {t t' : TGs} (h : PGs X xs t) (hw : ∀ v σ H Q, t' v σ H Q → t v σ H Q) : PGs X xs t' := ⟨fun pins s σ H v u Q I r q => h.run pins s σ H v u Q I r (hw v σ H Q q)⟩
theorem set_off {σ : L2.St} {i : Nat} {o : Option V} : Off [i] σ (σ.set i o) := ⟨List.length_set, fun j hj => by rw [List.getElem?_set_ne fun q => hj (by rw [q]; exact List.mem_singleton_self _)]⟩
/-- a slot takes a value -/
theorem put_any {P : Program} {w : World} {K : PySem.W.Frag} {H : Hp} {ρ : DL.Env} {σ : L2.St} {Φ : Nat → List Addr} {i : Nat} {d : D} {v : V} {G : List Addr} (e : EnvRep P w K H ρ σ Φ) (r : Rep P w K H d v G) (nd : G.Nodup) (ap : ∀ a ∈ G, ¬ FP ρ Φ a) :
    ∃ Φ', EnvRep P w K H (eset ρ i (some d)) (σ.set i (some v)) Φ' ∧ ∀ a, FP (eset ρ i (some d)) Φ' a → a ∈ G ∨ FP ρ Φ a := by
  by_cases hi : i < ρ.length
  · refine ⟨fset Φ i G, e.put r nd (fun a ha f => ap a ha f.drop) hi List.length_set (by rw [List.getElem?_set_self (by rw [← e.len]; exact hi)]) (fun j hj => by rw [List.getElem?_set_ne (Ne.symm hj)]), fun a f => ?_⟩
    exact (FP.put hi f).imp id fun z => z.drop
  · have h1 : eset ρ i (some d) = ρ := by
      unfold eset
      exact List.set_eq_of_length_le (by omega)
    have h2 : σ.set i (some v) = σ := List.set_eq_of_length_le (by rw [← e.len]; omega)
    rw [h1, h2]
    exact ⟨Φ, e, fun a f => .inr f⟩
theorem sg_nm {i : Nat} (hN : X.N.Nodup) (hi : X.N[i]? = some n) (hx : Loc X.env.scope n) (hf : X.fn n = true ∨ X.env.scope.names.lookup n = some .local := by first | exact .inl rfl | exact .inr rfl) : SG X (.Name n pos) (.nm i) := PG.wk (pg_name hN hi hx hf) fun v σ H Q ⟨ρ, Φ, d, ρ', G, h1, h2, h3, h4, h5, h6⟩ => by
  rw [bindT] at h2
  cases h2
  obtain ⟨Φ', q1, q2⟩ := put_any (i := i) h1 h3 h4 h5
  exact h6 _ Φ' set_off q1 q2
theorem sgs_nil : SGs X [] [] := PGs.wk pgs_nil fun v σ H Q ⟨ρ, Φ, d, ρ', G, h1, h2, h3, h4, h5, h6⟩ => by
  cases d with
  | nil =>
    cases h2
    cases h3
    exact ⟨rfl, h6 σ Φ Off.refl h1 fun a f => .inr f⟩
  | cons x l => simp [bindTs] at h2
theorem sgs_cons (h : SG X x t) (u : SGs X xs ts) (hs : (assignEach (x :: xs) X.env).map (·.2) = assign x X.env :: (assignEach xs X.env).map (·.2) := by rfl) : SGs X (x :: xs) (t :: ts) := PGs.wk (pgs_cons h u hs) fun vs σ H Q ⟨ρ, Φ, ds, ρ', G, h1, h2, h3, h4, h5, h6⟩ => by
  cases ds with
  | nil => simp [bindTs] at h2
  | cons d ds =>
    rw [bindTs] at h2
    split at h2
    · rename_i ρ1 k1
      cases h3 with
      | @cons _ v F _ vs G' r1 r2 =>
        obtain ⟨n1, n2, n3⟩ := List.nodup_append.mp h4
        refine ⟨v, vs, rfl, ρ, Φ, d, ρ1, F, h1, k1, tgRep_of r1 k1, n1, fun a ha => h5 a (List.mem_append_left _ ha), fun σ' Φ' o e f => ⟨ρ1, Φ', ds, ρ', G', e, h2, r2, n2, fun a ha g => ?_, fun σ2 Φ2 o2 e2 f2 => h6 σ2 Φ2 (o.trans o2) e2 fun a g => ?_⟩⟩
        · rcases f a g with z | z
          · exact n3 a z a ha rfl
          · exact h5 a (List.mem_append_right _ ha) z
        · rcases f2 a g with z | z
          · exact .inl (List.mem_append_right _ z)
          · exact (f a z).imp (List.mem_append_left _) id
    · cases h2
theorem bindTs_length : ∀ {ts : List Tg} {ds : List D} {ρ ρ' : DL.Env}, bindTs ts ds ρ = some ρ' → ds.length = ts.length
  | [], [], _, _, _ => rfl
  | [], _ :: _, _, _, h => by simp [bindTs] at h
  | _ :: _, [], _, _, h => by simp [bindTs] at h
  | t :: ts, d :: ds, _, _, h => by
    rw [bindTs] at h
    split at h
    · simp [bindTs_length h]
    · cases h
theorem sg_tp {k m : Nat} (hc : X.calm = true) (h : SGs X xs ts) (hm : ts.length = m) (hn : (assignEach xs X.env).length = m := by rfl) (hst : List.findIdx? (fun x => x.fst) (assignEach xs X.env) = none := by rfl) : SG X (.Tuple xs k pos) (.tp ts) := PG.wk (pg_tup hc h hn hst) fun v σ H Q ⟨ρ, Φ, d, ρ', G, h1, h2, ⟨a, vs, ds, h7, h8, h9, h10⟩, h4, h5, h6⟩ => by
  subst h7; subst h8
  rw [bindT] at h2
  refine ⟨a, vs, rfl, h9, ?_, ρ, Φ, ds, ρ', G, h1, h2, h10, h4, h5, h6⟩
  rw [← h10.length, ← hm, bindTs_length h2]
/-! ### statements -/
theorem ss_asg (he : SE X cf y e) (hg : SG X x t) (hs : swapsWithSole [x] y pos.line X.env = pure false := by rfl) (hw : swappedStores [x] y X.env = pure none := by rfl) (h1 : (assignEach [x] X.env).map (·.2) = [assign x X.env] := by rfl) : SS X cf (.Assign [x] y pos) (.asg t e) := PS.wk (ps_asg he hg hs hw h1) fun D σ H ⟨ρ, Φ, f, ρ', h1, h2, h3⟩ => by
  rw [evS] at h2
  split at h2
  · rename_i d ρ1 k1
    obtain ⟨ρ2, k2, k3⟩ := Option.map_eq_some_iff.mp h2
    cases k3
    refine ⟨ρ, Φ, d, ρ1, h1, k1, fun v H1 Φ1 G P1 R1 => ⟨ρ1, Φ1, d, _, G, P1.env, k2, tgRep_of R1.rep k2, R1.nod, R1.dis, fun σ' Φ' o e f => ?_⟩⟩
    refine h3 σ' H1 Φ' o ⟨e, P1.keep, fun a g => ?_⟩
    rcases f a g with z | z
    · exact R1.new a z
    · exact P1.new a z
  · cases h2
theorem puts_any {P : Program} {w : World} {K : PySem.W.Frag} {H : Hp} : ∀ {is : List Nat} {ds : List D} {vs : List V} {G : List Addr} {ρ' : DL.Env} {ρ : DL.Env} {σ : L2.St} {Φ : Nat → List Addr}, EnvRep P w K H ρ σ Φ → RepL P w K H ds vs G → G.Nodup → (∀ a ∈ G, ¬ FP ρ Φ a) → bindTs (is.map .nm) ds ρ = some ρ' →
    ∃ Φ', EnvRep P w K H ρ' ((is.zip vs).foldl (fun s p => s.set p.1 (some p.2)) σ) Φ' ∧ ∀ a, FP ρ' Φ' a → a ∈ G ∨ FP ρ Φ a
  | [], ds, vs, G, ρ', ρ, σ, Φ, e, r, nd, ap, h => by
    cases ds with
    | nil => cases h; cases r; exact ⟨Φ, e, fun a f => .inr f⟩
    | cons _ _ => simp [bindTs] at h
  | i :: is, ds, vs, G, ρ', ρ, σ, Φ, e, r, nd, ap, h => by
    cases ds with
    | nil => simp [bindTs] at h
    | cons d ds =>
      rw [List.map_cons, bindTs, bindT] at h
      cases r with
      | @cons _ v F _ vs G' r1 r2 =>
        obtain ⟨n1, n2, n3⟩ := List.nodup_append.mp nd
        obtain ⟨Φ1, q1, q2⟩ := put_any (i := i) e r1 n1 fun a ha => ap a (List.mem_append_left _ ha)
        obtain ⟨Φ2, q3, q4⟩ := puts_any q1 r2 n2 (fun a ha f => by
          rcases q2 a f with z | z
          · exact n3 a z a ha rfl
          · exact ap a (List.mem_append_right _ ha) z) h
        refine ⟨Φ2, q3, fun a f => ?_⟩
        rcases q4 a f with z | z
        · exact .inl (List.mem_append_right _ z)
        · exact (q2 a z).imp (List.mem_append_left _) id
theorem par_off : ∀ {is : List Nat} {vs : List V} {σ : L2.St}, Off (asgTs (is.map .nm)) σ ((is.zip vs).foldl (fun s p => s.set p.1 (some p.2)) σ)
  | [], vs, σ => Off.refl
  | i :: is, [], σ => Off.refl
  | i :: is, v :: vs, σ => by
    rw [List.map_cons, asgTs, asgT]
    exact (set_off (o := some v)).trans (par_off (is := is) (vs := vs))
theorem par_by {is : List Nat} {D : Ends} {σ : L2.St} {H : Hp} (h : tS X.prog X.w X.K (asgS (.par is es)) (evS cf (.par is es)) D σ H) : tDs X.prog X.w X.K (evTk cf es) σ H fun vs H1 => vs.length = is.length ∧ D.nx ((is.zip vs).foldl (fun s p => s.set p.1 (some p.2)) σ) H1 := by
  obtain ⟨ρ, Φ, f, ρ', h1, h2, h3⟩ := h
  rw [evS] at h2
  split at h2
  · rename_i ds ρ1 k1
    obtain ⟨ρ2, k2, k3⟩ := Option.map_eq_some_iff.mp h2
    cases k3
    refine ⟨ρ, Φ, ds, ρ1, h1, k1, fun vs H1 Φ1 G P1 R1 => ?_⟩
    obtain ⟨Φ2, q1, q2⟩ := puts_any P1.env R1.rep R1.nod R1.dis k2
    refine ⟨by rw [← R1.rep.length, bindTs_length k2, List.length_map], h3 _ H1 Φ2 par_off ⟨q1, P1.keep, fun a g => ?_⟩⟩
    rcases q2 a g with z | z
    · exact R1.new a z
    · exact P1.new a z
  · cases h2
theorem ss_par2 {i j : Nat} {px py pt : Pos} {kt k2 pt2} (hc : X.calm = true) (hN : X.N.Nodup) (hi : X.N[i]? = some n) (hj : X.N[j]? = some n2) (hij : i ≠ j)
    (hx : X.env.scope.names.lookup n = some .local) (hy : X.env.scope.names.lookup n2 = some .local) (ha : STk X cf [a, b] es)
    (hw : swappedStores [.Tuple [.Name n px, .Name n2 py] kt pt] (.Tuple [a, b] k2 pt2) X.env = pure (some [n, n2]) := by rfl)
    (hs : swapsWithSole [.Tuple [.Name n px, .Name n2 py] kt pt] (.Tuple [a, b] k2 pt2) pos.line X.env = pure false := by rfl) :
    SS X cf (.Assign [.Tuple [.Name n px, .Name n2 py] kt pt] (.Tuple [a, b] k2 pt2) pos) (.par [i, j] es) := PS.wk (ps_par hc hN hi hj hij hx hy ha hw hs) fun D σ H q => by
  obtain ⟨ρ, Φ, ds, ρ', h1, h2, h3⟩ := par_by q
  refine ⟨ρ, Φ, ds, ρ', h1, h2, fun vs H1 Φ1 G p r => ?_⟩
  obtain ⟨z1, z2⟩ := h3 vs H1 Φ1 G p r
  match vs, z1, z2 with
  | [v, u], _, z2 => exact ⟨v, u, rfl, z2⟩
theorem ss_par3 {i j l : Nat} {px py pz pt : Pos} {kt k2 pt2} (hc : X.calm = true) (hN : X.N.Nodup) (hi : X.N[i]? = some n) (hj : X.N[j]? = some n2) (hl : X.N[l]? = some n3) (hij : i ≠ j) (hil : i ≠ l) (hjl : j ≠ l)
    (hx : X.env.scope.names.lookup n = some .local) (hy : X.env.scope.names.lookup n2 = some .local) (hz : X.env.scope.names.lookup n3 = some .local) (ha : STk X cf [a, b, c] es)
    (hw : swappedStores [.Tuple [.Name n px, .Name n2 py, .Name n3 pz] kt pt] (.Tuple [a, b, c] k2 pt2) X.env = pure (some [n, n2, n3]) := by rfl)
    (hs : swapsWithSole [.Tuple [.Name n px, .Name n2 py, .Name n3 pz] kt pt] (.Tuple [a, b, c] k2 pt2) pos.line X.env = pure false := by rfl) :
    SS X cf (.Assign [.Tuple [.Name n px, .Name n2 py, .Name n3 pz] kt pt] (.Tuple [a, b, c] k2 pt2) pos) (.par [i, j, l] es) := PS.wk (ps_par3 hc hN hi hj hl hij hil hjl hx hy hz ha hw hs) fun D σ H q => by
  obtain ⟨ρ, Φ, ds, ρ', h1, h2, h3⟩ := par_by q
  refine ⟨ρ, Φ, ds, ρ', h1, h2, fun vs H1 Φ1 G p r => ?_⟩
  obtain ⟨z1, z2⟩ := h3 vs H1 Φ1 G p r
  match vs, z1, z2 with
  | [v, u, t], _, z2 => exact ⟨v, u, t, rfl, z2⟩
theorem ss_expr (he : SE X cf x e) (hs : swapsWith x none pos.line X.env = pure false := by rfl) : SS X cf (.Expr x pos) (.expr e) := PS.wk (ps_expr he hs) fun D σ H ⟨ρ, Φ, f, ρ', h1, h2, h3⟩ => by
  rw [evS] at h2
  split at h2
  · rename_i d ρ1 k1
    cases h2
    exact ⟨ρ, Φ, d, _, h1, k1, fun v H1 Φ1 G P1 R1 => h3 σ H1 Φ1 Off.refl P1⟩
  · cases h2
theorem ss_ret (he : SE X cf x e) : SS X cf (.Return (some x) pos) (.ret e) := PS.wk (ps_ret he) fun D σ H ⟨ρ, Φ, f, ρ', h1, h2, h3⟩ => by
  rw [evS] at h2
  split at h2
  · rename_i d ρ1 k1
    cases h2
    exact ⟨ρ, Φ, d, _, h1, k1, fun v H1 Φ1 G P1 R1 => h3 σ H1 Φ1 Off.refl P1 v G R1⟩
  · cases h2
theorem ss_retN : SS X cf (.Return none pos) .retN := PS.wk ps_retN fun D σ H ⟨ρ, Φ, f, ρ', h1, h2, h3⟩ => by
  cases h2
  exact h3 σ H Φ Off.refl (Post.refl h1) .non [] (Res.flat .non)
theorem ss_pass : SS X cf (.Pass pos) .pass := PS.wk ps_pass fun D σ H ⟨ρ, Φ, f, ρ', h1, h2, h3⟩ => by
  cases h2
  exact h3 σ H Φ Off.refl (Post.refl h1)
theorem ss_brk : SS X cf (.Break pos) .brk := PS.wk ps_break fun D σ H ⟨ρ, Φ, f, ρ', h1, h2, h3⟩ => by
  cases h2
  exact h3 σ H Φ Off.refl (Post.refl h1)
theorem ss_cnt : SS X cf (.Continue pos) .cnt := PS.wk ps_continue fun D σ H ⟨ρ, Φ, f, ρ', h1, h2, h3⟩ => by
  cases h2
  exact h3 σ H Φ Off.refl (Post.refl h1)
/-- what is never come to -/
theorem ss_raise : SS X cf st .raise := PS.wk ps_never fun D σ H ⟨ρ, Φ, f, ρ', h1, h2, h3⟩ => by
  rw [evS] at h2
  cases h2
theorem sss_nil : SSs X cf [] [] := PSs.wk pss_nil fun D σ H ⟨ρ, Φ, f, ρ', h1, h2, h3⟩ => by
  cases h2
  exact h3 σ H Φ Off.refl (Post.refl h1)
theorem EndK.pre {P : Program} {w : World} {K : PySem.W.Frag} {H H1 H2 : Hp} {ρ ρ1 ρ2 : DL.Env} {σ1 σ2 : L2.St} {Φ Φ1 Φ2 : Nat → List Addr} {D : Ends} {f : Fl} (p : Post P w K σ1 H ρ Φ H1 ρ1 Φ1) (h : EndK P w K D σ2 H ρ Φ H2 ρ2 Φ2 f) : EndK P w K D σ2 H1 ρ1 Φ1 H2 ρ2 Φ2 f := by
  cases f with
  | rt d => exact fun v G r => h v G (r.pre p)
  | _ => exact h
theorem sss_cons (h : SS X cf st s) (t : SSs X cf sts ss) : SSs X cf (st :: sts) (s :: ss) := PSs.wk (pss_cons h t) fun D σ H ⟨ρ, Φ, f, ρ', h1, h2, h3⟩ => by
  rw [evSs] at h2
  have key : ∀ {f' : Fl} {ρ1 : DL.Env}, evS cf s ρ = some (f', ρ1) → (f' = .nx → evSs cf ss ρ1 = some (f, ρ')) → (f' ≠ .nx → f' = f ∧ ρ1 = ρ') → tSeq (tS X.prog X.w X.K (asgS s) (evS cf s)) (tS X.prog X.w X.K (asgSs ss) (evSs cf ss)) D σ H := by
    intro f' ρ1 k1 k2 k3
    refine ⟨ρ, Φ, f', ρ1, h1, k1, fun σ1 H1 Φ1 o1 P1 => ?_⟩
    cases f' with
    | nx => exact ⟨ρ1, Φ1, f, ρ', P1.env, k2 rfl, fun σ2 H2 Φ2 o2 P2 => EndK.pre P1 (h3 σ2 H2 Φ2 (o1.trans o2) (P1.trans' P2))⟩
    | rt d =>
      obtain ⟨rfl, rfl⟩ := k3 nofun
      exact h3 σ1 H1 Φ1 (o1.mono fun i hi => List.mem_append_left _ hi) P1
    | bk =>
      obtain ⟨rfl, rfl⟩ := k3 nofun
      exact h3 σ1 H1 Φ1 (o1.mono fun i hi => List.mem_append_left _ hi) P1
    | ct =>
      obtain ⟨rfl, rfl⟩ := k3 nofun
      exact h3 σ1 H1 Φ1 (o1.mono fun i hi => List.mem_append_left _ hi) P1
  split at h2
  · rename_i ρ1 k1
    exact key k1 (fun _ => h2) (fun q => absurd rfl q)
  · rename_i r hn
    refine key h2 (fun q => ?_) (fun _ => ⟨rfl, rfl⟩)
    subst q
    exact absurd h2 (hn _)
theorem ss_ifs (hc : SB X cf x e) (h : SSs X cf sts ss) (t : SSs X cf sts2 ss2) : SS X cf (.If x sts sts2 pos) (.ifs e ss ss2) := PS.wk (ps_if hc h t) fun D σ H ⟨ρ, Φ, f, ρ', h1, h2, h3⟩ => by
  rw [evS] at h2
  split at h2
  · rename_i ρ1 k1
    refine ⟨ρ, Φ, true, ρ1, h1, (by dsimp only; rw [k1]; rfl), fun H1 Φ1 P1 => ?_⟩
    refine iteT ?_
    exact ⟨ρ1, Φ1, f, ρ', P1.env, h2, fun σ2 H2 Φ2 o P2 => EndK.pre P1 (h3 σ2 H2 Φ2 (o.mono fun i hi => List.mem_append_left _ hi) (P1.trans' P2))⟩
  · rename_i ρ1 k1
    refine ⟨ρ, Φ, false, ρ1, h1, (by dsimp only; rw [k1]; rfl), fun H1 Φ1 P1 => ?_⟩
    refine iteF ?_
    exact ⟨ρ1, Φ1, f, ρ', P1.env, h2, fun σ2 H2 Φ2 o P2 => EndK.pre P1 (h3 σ2 H2 Φ2 (o.mono fun i hi => List.mem_append_right _ hi) (P1.trans' P2))⟩
  · cases h2
end
end DL
set_option maxHeartbeats 1000000
/-! D17: what is walked; for, while. -/
namespace DL
open PySem PySem.Spec PyProof.Rows L2
section
variable (P : Program) (w : World) (K : PySem.W.Frag)
/-- what a walk leans on stands as it did at the walk's start -/
structure LO (σ1 : L2.St) (H1 : Hp) (T : List Addr) (ws : List (Nat × D)) (σ : L2.St) (H : Hp) (ρ : DL.Env) (Φ : Nat → List Addr) : Prop where
  env : EnvRep P w K H ρ σ Φ
  stays : Stays H1 H
  tmp : ∀ a ∈ T, H1 a ≠ none ∧ H a = H1 a ∧ ¬ FP ρ Φ a
  wat : ∀ i d, (i, d) ∈ ws → σ[i]? = σ1[i]? ∧ eget ρ i = some d
structure Wlk (t : Tg) (J : L2.It) (ds : List D) (σ1 : L2.St) (H1 : Hp) (T : List Addr) (ws : List (Nat × D)) : Prop where
  ex : ∃ (G : Hp → Prop) (Y : Nat → Hp → V → Hp → Prop), Walk J ds.length G Y ∧ (∀ σ H ρ Φ, LO P w K σ1 H1 T ws σ H ρ Φ → G H) ∧
    ∀ i H x H', i < ds.length → G H → Y i H x H' → ∃ d, ds[i]? = some d ∧ tgRep P w K H' t d x [] ∧ Same H H'
def tI (t : Tg) (F : DL.Env → Option (Wk × DL.Env)) : TI := fun σ H R => ∃ (ρ : DL.Env) (Φ : Nat → List Addr) (ds : List D) (ws : List (Nat × D)) (ρ' : DL.Env), EnvRep P w K H ρ σ Φ ∧ F ρ = some ((ds, ws), ρ') ∧
  ∀ (J : L2.It) (H1 : Hp) (Φ1 : Nat → List Addr) (T : List Addr), Post P w K σ H ρ Φ H1 ρ' Φ1 → (∀ a ∈ T, H1 a ≠ none ∧ ¬ FP ρ' Φ1 a) → Wlk P w K t J ds σ H1 T ws → R J H1
end
variable (X : Cx) (cf : Cf)
abbrev SIt (tg : Expr) (t : Tg) (x : Expr) (it : It) : Prop := PI X tg x (tI X.prog X.w X.K t (evIt cf it))
section
variable {X : Cx} {cf : Cf} {es : List E} {x y z a b c tg : Expr} {xs elts : List Expr} {e e' e1 e2 e3 : E} {pos p apos tpos : Pos} {nm n n2 n3 : Str} {t : Tg} {ts : List Tg} {st : Stmt} {sts sts2 : List Stmt} {s : S} {ss ss2 : List S} {it : It} {kk : Nat}
theorem _root_.L2.PI.wk {t t' : TI} (h : PI X tg x t) (hw : ∀ σ H R, t' σ H R → t σ H R) : PI X tg x t' := ⟨fun pins s σ H R I q => h.run pins s σ H R I (hw σ H R q)⟩
def iSeq (K : PySem.W.Frag) (tl : TE) : TI := fun σ H R => tl σ H fun x H1 => ∃ a, x = .ref a ∧ (((∃ xs, SqL K H1 a xs) ∧ R (Itl K a) H1) ∨ ((∃ xs, SqT K H1 a xs) ∧ R (Itt K a) H1))
theorem pi_seq {l : Expr} {tl : TE} (hl : PE X l tl) : PI X tg l (iSeq X.K tl) := by
  refine ⟨fun pins s σ H R I h => ?_⟩
  refine thn (hl.run pins s σ H _ I h) fun v s1 ⟨x, H1, I1, r1, q1⟩ => ?_
  obtain ⟨a, e, q1⟩ := q1
  subst e
  cases r1
  have fp : ∀ b ∈ [s1.heap.objs.size], FpOk X pins H1 b := fun b hb => by
    have e : b = s1.heap.objs.size := by simpa using hb
    subst e
    exact I1.fpOk (Nat.le_refl _) (I1.hok.fresh (Nat.le_refl _))
  rcases q1 with ⟨⟨xs, hq⟩, q⟩ | ⟨⟨xs, hq⟩, q⟩
  · obtain ⟨its, rv, p, hz⟩ := I1.list hq
    refine wpAny_pyIter_list p.isList ?_
    exact ⟨s1.heap.objs.size, [s1.heap.objs.size], _, _, H1, rfl, I1.kept (t' := s1.toks) fun b o e => Heap.get?_push_of_some _ e, turn_list a _, ⟨_, Heap.get?_push_size _ rfl, rfl, rfl⟩, fp, q⟩
  · obtain ⟨its, rv, p, hz⟩ := I1.tuple hq
    refine wpAny_pyIter_tuple (show s1.heap.IsTuple a its.toArray from p) ?_
    exact ⟨s1.heap.objs.size, [s1.heap.objs.size], _, _, H1, rfl, I1.kept (t' := s1.toks) fun b o e => Heap.get?_push_of_some _ e, turn_tuple a _, ⟨_, Heap.get?_push_size _ rfl, rfl, rfl⟩, fp, q⟩
section
variable {P : Program} {w : World} {K : PySem.W.Frag} {H H' H1 H2 : Hp} {ρ ρ' ρ1 ρ2 : DL.Env} {σ σ' σ1 σ2 : L2.St} {Φ Φ' Φ1 Φ2 : Nat → List Addr} {l : List D} {ad : Addr}
theorem tgRep_flat {d : D} {v : V} {ρ0 ρ0' : DL.Env} (r : Rep P w K H d v []) (h : (∃ i, t = .nm i) ∨ ∃ ds, d = .tup ds) : tgRep P w K H t d v [] := by
  cases t with
  | nm i => exact r
  | tp ts =>
    rcases h with ⟨_, h⟩ | ⟨ds, rfl⟩
    · cases h
    · cases r with
      | tup h1 _ h3 => exact ⟨_, _, _, rfl, rfl, h1.sq, h3⟩
/-- an operand's sequence while all that it leans on stands -/
theorem seq_leans {o : Opd} {d : D} {v : V} {G : List Addr} (R : OpsRes P w K σ H ρ Φ H1 ρ' Φ1 [o] [v] G) (p : Post P w K σ H ρ Φ H1 ρ' Φ1) (k : opdD ρ' o = some d) {σ2 : L2.St} {H2 : Hp} {ρ2 : DL.Env} {Φ2 : Nat → List Addr} {T : List Addr} {ws : List (Nat × D)}
    (hT : ∀ a ∈ G, a ∈ T) (hw : ∀ q ∈ watchOf o d, q ∈ ws) (lo : LO P w K σ H1 T ws σ2 H2 ρ2 Φ2) : ∃ F, Rep P w K H2 d v F := by
  have rr := R.rep
  cases rr with
  | val r1 r2 =>
    cases k
    cases r2
    rw [List.append_nil] at hT
    exact ⟨_, r1.stay lo.stays fun a ha o ho => by rw [(lo.tmp a (hT a ha)).2.1]; exact ho⟩
  | @ref i v _ _ _ r1 r2 =>
    obtain ⟨w1, w2⟩ := lo.wat i d (hw _ (List.mem_singleton_self _))
    obtain ⟨u, q1, q2⟩ := lo.env.rep i d w2
    rw [w1, r1] at q1
    cases q1
    exact ⟨_, q2⟩
theorem repI_get {l : List D} {vs : List V} {i : Nat} {x : V} (r : RepI P w K H l vs) (h : vs[i]? = some x) : ∃ d, l[i]? = some d ∧ Rep P w K H d x [] := by
  have hi : i < vs.length := (List.getElem?_eq_some_iff.mp h).1
  have hl : i < l.length := by rw [r.length]; exact hi
  obtain ⟨v, q1, q2⟩ := r.get (i := i) (d := l[i]) (by simp [hl])
  rw [h] at q1
  cases q1
  exact ⟨l[i], by simp [hl], q2⟩
end
/-- a list's or a tuple's items -/
theorem si_seq (h : SO X cf x e) {i : Nat} : SIt X cf tg (.nm i) x (.seq e) := PI.wk (pi_seq h) fun σ H R ⟨ρ, Φ, ds, ws, ρ', h1, h2, h3⟩ => by
  rw [evIt] at h2
  split at h2
  · rename_i o ρ1 k1
    split at h2
    · rename_i d k2
      split at h2
      · rename_i l k3
        split at h2
        · rename_i hi
          cases h2
          refine ⟨ρ, Φ, o, _, h1, k1, fun v H1 Φ1 G P1 R1 => ?_⟩
          obtain ⟨F, r⟩ := R1.one P1.env k2
          obtain ⟨ad, vs, F', rfl, rl, hz, hF, hk⟩ := Rep.seq (X := X) r k3
          have lean := fun σ2 H2 ρ2 Φ2 => seq_leans (σ2 := σ2) (H2 := H2) (ρ2 := ρ2) (Φ2 := Φ2) R1 P1 k2 (T := G) (fun _ z => z) (fun _ z => z)
          have tm : ∀ a ∈ G, H1 a ≠ none ∧ ¬ FP ρ' Φ1 a := fun a ha => ⟨R1.rep.some_ ha, R1.dis a ha⟩
          rcases hk with ⟨ts, rfl, ht⟩ | ⟨hl, hnt⟩
          · refine ⟨ad, rfl, .inr ⟨⟨vs, ht.sq⟩, h3 _ H1 Φ1 G P1 tm ⟨fun H => ∃ xs, SqT X.K H ad xs ∧ RepI X.prog X.w X.K H ds xs, fun i H x H' => H' = H ∧ ∀ xs, SqT X.K H ad xs → xs[i]? = some x, ?_, ?_, ?_⟩⟩⟩
            · refine ⟨fun i H hi ⟨xs, q1, q2⟩ => ⟨xs, xs[i]'(by rw [← q2.length]; exact hi), q1, by simp⟩, fun H ⟨xs, q1, q2⟩ => ⟨xs, q1, by rw [← q2.length]; exact Nat.le_refl _⟩, fun i H x H' _ _ y => y⟩
            · intro σ2 H2 ρ2 Φ2 lo
              obtain ⟨F2, r2⟩ := lean σ2 H2 ρ2 Φ2 lo
              cases k3
              cases r2 with
              | tup u1 u2 u3 => exact ⟨_, u1.sq, u3.toImm hi⟩
            · rintro i H x H' _ ⟨xs, q1, q2⟩ ⟨rfl, q3⟩
              obtain ⟨d', z1, z2⟩ := repI_get q2 (q3 xs q1)
              exact ⟨d', z1, z2, Same.refl' _⟩
          · refine ⟨ad, rfl, .inl ⟨⟨vs, hl⟩, h3 _ H1 Φ1 G P1 tm ⟨fun H => ∃ xs, SqL X.K H ad xs ∧ RepI X.prog X.w X.K H ds xs, fun i H x H' => H' = H ∧ ∀ xs, SqL X.K H ad xs → xs[i]? = some x, ?_, ?_, ?_⟩⟩⟩
            · refine ⟨fun i H hi ⟨xs, q1, q2⟩ => ⟨xs, xs[i]'(by rw [← q2.length]; exact hi), q1, by simp⟩, fun H ⟨xs, q1, q2⟩ => ⟨xs, q1, by rw [← q2.length]; exact Nat.le_refl _⟩, fun i H x H' _ _ y => y⟩
            · intro σ2 H2 ρ2 Φ2 lo
              obtain ⟨F2, r2⟩ := lean σ2 H2 ρ2 Φ2 lo
              obtain ⟨ad2, vs2, F3, e3, rl2, _, _, hk2⟩ := Rep.seq (X := X) r2 k3
              cases e3
              rcases hk2 with ⟨ts, e4, _⟩ | ⟨hl2, _⟩
              · exact absurd e4 (hnt ts)
              · exact ⟨vs2, hl2, rl2.toImm hi⟩
            · rintro i H x H' _ ⟨xs, q1, q2⟩ ⟨rfl, q3⟩
              obtain ⟨d', z1, z2⟩ := repI_get q2 (q3 xs q1)
              exact ⟨d', z1, z2, Same.refl' _⟩
        · cases h2
      · cases h2
    · cases h2
  · cases h2
theorem tI_tp {P : Program} {w : World} {K : PySem.W.Frag} {J : L2.It} {ds : List D} {σ1 : L2.St} {H1 : Hp} {T : List Addr} {ws : List (Nat × D)} {i : Nat} (h : Wlk P w K (.nm i) J ds σ1 H1 T ws) (hd : ∀ d ∈ ds, ∃ l, d = D.tup l) : Wlk P w K (.tp ts) J ds σ1 H1 T ws := by
  obtain ⟨G, Y, h1, h2, h3⟩ := h.ex
  refine ⟨G, Y, h1, h2, fun i H x H' hi g y => ?_⟩
  obtain ⟨d, z1, z2, z3⟩ := h3 i H x H' hi g y
  obtain ⟨l, rfl⟩ := hd d (List.mem_of_getElem? z1)
  refine ⟨_, z1, ?_, z3⟩
  have z2 : Rep P w K H' (.tup l) x [] := z2
  cases z2 with
  | tup u1 _ u3 => exact ⟨_, _, _, rfl, rfl, u1.sq, u3⟩
theorem seqT_inv {ρ : DL.Env} {r : Wk × DL.Env} (h : evIt cf (.seqT e) ρ = some r) : evIt cf (.seq e) ρ = some r ∧ r.1.1.all isTupD = true := by
  rw [evIt] at h
  rw [evIt]
  split at h
  · rename_i o ρ1 k1
    split at h
    · rename_i d k2
      split at h
      · rename_i l k3
        split at h
        · rename_i hi
          split at h
          · rename_i hl
            cases h
            first
              | (rw [if_pos hi]; exact ⟨rfl, hl⟩)
              | (simp only [k1, k2, k3, if_pos hi]; exact ⟨rfl, hl⟩)
          · cases h
        · cases h
      · cases h
    · cases h
  · cases h
theorem si_seqT (h : SO X cf x e) : SIt X cf tg (.tp ts) x (.seqT e) := PI.wk (si_seq (i := 0) h) fun σ H R ⟨ρ, Φ, ds, ws, ρ', h1, h2, h3⟩ => by
  obtain ⟨q1, q2⟩ := seqT_inv h2
  refine ⟨ρ, Φ, ds, ws, ρ', h1, q1, fun J H1 Φ1 T P1 tm wk => h3 J H1 Φ1 T P1 tm (tI_tp wk fun d hd => ?_)⟩
  have := List.all_eq_true.mp q2 d hd
  cases d <;> first | (cases this; done) | exact ⟨_, rfl⟩
/-- range -/
theorem rng_wlk {P : Program} {w : World} {K : PySem.W.Frag} {i : Nat} {lo : Int} {n : Nat} {σ1 : L2.St} {H1 : Hp} {T : List Addr} {ws : List (Nat × D)} : Wlk P w K (.nm i) (Itr lo n) ((List.range n).map fun i : Nat => D.int (lo + (i : Int))) σ1 H1 T ws := by
  refine ⟨fun _ => True, YFn fun i => .int (lo + i), ?_, fun _ _ _ _ _ => trivial, ?_⟩
  · rw [List.length_map, List.length_range]; exact walk_range
  · rintro j H x H' hj _ ⟨rfl, rfl⟩
    rw [List.length_map, List.length_range] at hj
    exact ⟨.int (lo + (j : Int)), by rw [List.getElem?_map, List.getElem?_range hj]; rfl, Rep.int _, Same.refl' _⟩
theorem rangeD_ {a b : Int} {l : List D} (h : rangeD a b = some l) : (-(2 ^ 62) ≤ a ∧ a < 2 ^ 62 ∧ -(2 ^ 62) ≤ b ∧ b < 2 ^ 62) ∧ l = (List.range (b - a).toNat).map fun i : Nat => D.int (a + (i : Int)) := by
  unfold rangeD at h
  obtain ⟨h1, h2⟩ := ite_some h
  simp only [Bool.and_eq_true, decide_eq_true_eq] at h1
  exact ⟨⟨h1.1.1.1.2, h1.1.1.2, h1.1.2, h1.2⟩, h2.symm⟩
theorem si_rng1 {i : Nat} (B : Blt X "range" (.type "range")) (h : SO X cf x e) (hs : starEach [x] X.env = [(false, eval x X.env)] := by rfl) : SIt X cf tg (.nm i) (.Call (.Name "range" p) [x] [] pos) (.rng [e]) :=
  PI.wk (pi_range1 B.gl B.mg (pa_cons h pa_nil hs) hs) fun σ H R ⟨ρ, Φ, ds, ws, ρ', h1, h2, h3⟩ => by
  rw [evIt] at h2
  split at h2
  · rename_i os ρ1 k1
    obtain ⟨o, ρ2, os2, ρ3, f1, f2, f3⟩ := evOps_cons k1
    cases f2; cases f3
    split at h2
    · rename_i b k2
      obtain ⟨l, k3, k4⟩ := Option.map_eq_some_iff.mp h2
      cases k4
      obtain ⟨hb, hl⟩ := rangeD_ k3
      obtain ⟨a0, _, e0, k5, _⟩ := opds_cons k2
      cases e0
      refine ⟨ρ, Φ, o, _, h1, f1, fun v H1 Φ1 G P1 R1 => ?_⟩
      obtain ⟨F, r⟩ := R1.one P1.env k5
      cases r
      refine ⟨b, rfl, hb.2.2.1, hb.2.2.2, h3 _ H1 Φ1 [] P1 nofun ?_⟩
      subst hl
      have := rng_wlk (P := X.prog) (w := X.w) (K := X.K) (i := i) (lo := 0) (n := b.toNat) (σ1 := σ) (H1 := H1) (T := []) (ws := [])
      rw [show (b - 0).toNat = b.toNat by omega]
      exact this
    · rename_i a0 b0 k2
      obtain ⟨_, _, e0, _, e1⟩ := opds_cons k2
      cases opds_nil e1
      cases e0
    · cases h2
  · cases h2
theorem si_rng2 {i : Nat} (B : Blt X "range" (.type "range")) (h : SO X cf x e) (h' : SO X cf y e') (hs : starEach [x, y] X.env = [(false, eval x X.env), (false, eval y X.env)] := by rfl) (hs2 : starEach [y] X.env = [(false, eval y X.env)] := by rfl) : SIt X cf tg (.nm i) (.Call (.Name "range" p) [x, y] [] pos) (.rng [e, e']) :=
  PI.wk (pi_range2 B.gl B.mg (pa_cons h (pa_cons h' pa_nil hs2) (by rw [hs, hs2])) hs hs2) fun σ H R ⟨ρ, Φ, ds, ws, ρ', h1, h2, h3⟩ => by
  rw [evIt] at h2
  split at h2
  · rename_i os ρ1 k1
    obtain ⟨o, ρ2, os2, ρ3, f1, f2, f3⟩ := evOps_cons k1
    obtain ⟨o', ρ4, os4, ρ5, f4, f5, f6⟩ := evOps_cons f2
    cases f3; cases f6; cases f5
    split at h2
    · rename_i a0 k2
      obtain ⟨_, _, e0, _, e1⟩ := opds_cons k2
      obtain ⟨_, _, e2, _, _⟩ := opds_cons e1
      subst e2
      cases e0
    · rename_i a0 b0 k2
      obtain ⟨l, k3, k4⟩ := Option.map_eq_some_iff.mp h2
      cases k4
      obtain ⟨hb, hl⟩ := rangeD_ k3
      obtain ⟨_, _, e0, k5, e1⟩ := opds_cons k2
      obtain ⟨_, _, e2, k6, _⟩ := opds_cons e1
      subst e2
      cases e0
      refine ⟨ρ, Φ, o, _, h1, f1, fun v H1 Φ1 G P1 R1 => ⟨_, Φ1, o', _, P1.env, f4, fun v' H2 Φ2 G2 P2 R2 => ?_⟩⟩
      obtain ⟨F2, r2⟩ := R2.one P2.env k6
      cases r2
      have R1' := OpsRes.cons P1 P2 R1 (⟨.nil, List.nodup_nil, nofun, nofun⟩ : OpsRes X.prog X.w X.K σ H1 _ Φ1 H2 _ Φ2 [] [] [])
      obtain ⟨F, r⟩ := R1'.one P2.env k5
      cases r
      subst hl
      exact ⟨a0, b0, rfl, hb, h3 _ H2 Φ2 [] (P1.trans P2) nofun rng_wlk⟩
    · cases h2
  · cases h2
/-- zip of two lists, of two tuples -/
theorem si_zip (B : Blt X "zip" (.type "zip")) (h : SO X cf x e) (h' : SO X cf y e') (hs : starEach [x, y] X.env = (false, eval x X.env) :: starEach [y] X.env := by rfl) (hs2 : starEach [y] X.env = (false, eval y X.env) :: starEach [] X.env := by rfl) (hpl : (backTo pos (starEach [y] X.env)).any (·.1) = false := by rfl): PI X (.Tuple elts kk tpos) (.Call (.Name "zip" p) [x, y] [] pos) (fun σ H R => tI X.prog X.w X.K (.tp ts) (evIt cf (.zip e e')) σ H R) :=
  PI.wk (RZ.pi_zipA B.gl B.mg (pa_cons h (pa_cons h' pa_nil hs2) hs) hs hpl) fun σ H R ⟨ρ, Φ, ds, ws, ρ', h1, h2, h3⟩ => by
  rw [evIt] at h2
  split at h2
  · rename_i o ρ1 k1
    split at h2
    · rename_i o' ρ2 k2
      split at h2
      · rename_i d d' k3 k4
        split at h2
        · rename_i l l' k5 k6
          split at h2
          · rename_i hi
            rw [Bool.and_eq_true, Bool.and_eq_true] at hi
            obtain ⟨⟨hi1, hi2⟩, hk⟩ := hi
            cases h2
            refine ⟨ρ, Φ, o, ρ1, h1, k1, fun v H1 Φ1 G P1 R1 => ⟨ρ1, Φ1, o', _, P1.env, k2, fun v' H2 Φ2 G2 P2 R2 => ?_⟩⟩
            have P12 := P1.trans P2
            have R1' := OpsRes.cons P1 P2 R1 (⟨.nil, List.nodup_nil, nofun, nofun⟩ : OpsRes X.prog X.w X.K σ H1 _ Φ1 H2 _ Φ2 [] [] [])
            rw [List.append_nil] at R1'
            obtain ⟨F, r⟩ := R1'.one P12.env k3
            obtain ⟨F', r'⟩ := R2.one P2.env k4
            obtain ⟨ad, vs, _, rfl, rl, _, _, kd⟩ := Rep.seq (X := X) r k5
            obtain ⟨ad', vs', _, rfl, rl', _, _, kd'⟩ := Rep.seq (X := X) r' k6
            have lean := fun σ2 H3 ρ2 Φ3 => seq_leans (σ2 := σ2) (H2 := H3) (ρ2 := ρ2) (Φ2 := Φ3) R1' P12 k3 (T := G ++ G2) (ws := watchOf o d ++ watchOf o' d') (fun _ z => List.mem_append_left _ z) (fun _ z => List.mem_append_left _ z)
            have lean' := fun σ2 H3 ρ2 Φ3 => seq_leans (σ2 := σ2) (H2 := H3) (ρ2 := ρ2) (Φ2 := Φ3) R2 P2 k4 (T := G ++ G2) (ws := watchOf o d ++ watchOf o' d') (fun _ z => List.mem_append_right _ z) (fun _ z => List.mem_append_right _ z)
            have tm : ∀ a ∈ G ++ G2, H2 a ≠ none ∧ ¬ FP ρ' Φ2 a := fun a ha => by
              rcases List.mem_append.mp ha with ha | ha
              · exact ⟨R1'.rep.some_ ha, R1'.dis a ha⟩
              · exact ⟨R2.rep.some_ ha, R2.dis a ha⟩
            have lenz : ((l.zip l').map fun (x, y) => D.tup [x, y]).length = min l.length l'.length := by rw [List.length_map, List.length_zip]
            have item : ∀ {i : Nat} {H : Hp} {xs ys : List V} {T : Addr} {x y : V}, RepI X.prog X.w X.K H l xs → RepI X.prog X.w X.K H l' ys → xs[i]? = some x → ys[i]? = some y → H T = none →
                ∃ d, ((l.zip l').map fun (x, y) => D.tup [x, y])[i]? = some d ∧ tgRep X.prog X.w X.K (upd H T (.tup [x, y])) (.tp ts) d (.ref T) [] ∧ Same H (upd H T (.tup [x, y])) := by
              intro i H xs ys T x y q1 q2 e1 e2 hT
              obtain ⟨d1, z1, z2⟩ := repI_get q1 e1
              obtain ⟨d2, z3, z4⟩ := repI_get q2 e2
              have s := same_new (o := .tup [x, y]) hT
              have eg : ((l.zip l').map fun (x, y) => D.tup [x, y])[i]? = some (.tup [d1, d2]) := by
                rw [List.getElem?_map, List.getElem?_zip_eq_some (z := (d1, d2)) |>.mpr ⟨z1, z3⟩]; rfl
              exact ⟨.tup [d1, d2], eg, ⟨_, _, _, rfl, rfl, SqT.of upd_same, RepL.ofI (.cons (z2.same s) (.cons (z4.same s) .nil))⟩, s⟩
            rcases kd with ⟨tt, rfl, ht⟩ | ⟨hl, hnt⟩
            · rcases kd' with ⟨tt', rfl, ht'⟩ | ⟨hl', hnt'⟩
              · refine ⟨ad, ad', vs, vs', rfl, .inr ⟨ht.sq, ht'.sq, h3 _ H2 Φ2 (G ++ G2) P12 tm ⟨fun H => (∃ xs, SqT X.K H ad xs ∧ RepI X.prog X.w X.K H l xs) ∧ ∃ ys, SqT X.K H ad' ys ∧ RepI X.prog X.w X.K H l' ys, (RZ.ItzT X.K ad ad').yld, ⟨?_, ?_, fun _ _ _ _ _ _ y => y⟩, ?_, ?_⟩⟩⟩
                · rintro i H hi ⟨⟨xs, q1, q2⟩, ys, q3, q4⟩
                  rw [lenz] at hi
                  exact ⟨xs, ys, xs[i]'(by rw [← q2.length]; omega), ys[i]'(by rw [← q4.length]; omega), q1, q3, by simp, by simp⟩
                · rintro H ⟨⟨xs, q1, q2⟩, ys, q3, q4⟩
                  refine ⟨xs, ys, q1, q3, ?_⟩
                  rw [lenz, ← q2.length, ← q4.length]
                  omega
                · intro σ2 H3 ρ2 Φ3 lo
                  obtain ⟨_, r2⟩ := lean σ2 H3 ρ2 Φ3 lo
                  obtain ⟨_, r3⟩ := lean' σ2 H3 ρ2 Φ3 lo
                  cases k5; cases k6
                  cases r2 with
                  | tup u1 u2 u3 =>
                    cases r3 with
                    | tup w1 w2 w3 => exact ⟨⟨_, u1.sq, u3.toImm hi1⟩, _, w1.sq, w3.toImm hi2⟩
                · rintro i H x H' hi ⟨⟨xs, q1, q2⟩, ys, q3, q4⟩ ⟨T, x1, y1, rfl, hT, rfl, g1, g2⟩
                  exact item q2 q4 (g1 xs q1) (g2 ys q3) hT
              · exfalso
                cases d' with
                | tup q => exact hnt' q rfl
                | _ => cases hk
            · rcases kd' with ⟨tt', rfl, ht'⟩ | ⟨hl', hnt'⟩
              · exfalso
                cases d with
                | tup q => exact hnt q rfl
                | _ => cases hk
              · refine ⟨ad, ad', vs, vs', rfl, .inl ⟨hl, hl', h3 _ H2 Φ2 (G ++ G2) P12 tm ⟨fun H => (∃ xs, SqL X.K H ad xs ∧ RepI X.prog X.w X.K H l xs) ∧ ∃ ys, SqL X.K H ad' ys ∧ RepI X.prog X.w X.K H l' ys, (Itz X.K ad ad').yld, ⟨?_, ?_, fun _ _ _ _ _ _ y => y⟩, ?_, ?_⟩⟩⟩
                · rintro i H hi ⟨⟨xs, q1, q2⟩, ys, q3, q4⟩
                  rw [lenz] at hi
                  exact ⟨xs, ys, xs[i]'(by rw [← q2.length]; omega), ys[i]'(by rw [← q4.length]; omega), q1, q3, by simp, by simp⟩
                · rintro H ⟨⟨xs, q1, q2⟩, ys, q3, q4⟩
                  refine ⟨xs, ys, q1, q3, ?_⟩
                  rw [lenz, ← q2.length, ← q4.length]
                  omega
                · intro σ2 H3 ρ2 Φ3 lo
                  obtain ⟨_, r2⟩ := lean σ2 H3 ρ2 Φ3 lo
                  obtain ⟨_, r3⟩ := lean' σ2 H3 ρ2 Φ3 lo
                  obtain ⟨_, _, _, e3, rl2, _, _, kk2⟩ := Rep.seq (X := X) r2 k5
                  obtain ⟨_, _, _, e4, rl3, _, _, kk3⟩ := Rep.seq (X := X) r3 k6
                  cases e3; cases e4
                  rcases kk2 with ⟨_, e5, _⟩ | ⟨hl2, _⟩
                  · exact absurd e5 (hnt _)
                  · rcases kk3 with ⟨_, e5, _⟩ | ⟨hl3, _⟩
                    · exact absurd e5 (hnt' _)
                    · exact ⟨⟨_, hl2, rl2.toImm hi1⟩, _, hl3, rl3.toImm hi2⟩
                · rintro i H x H' hi ⟨⟨xs, q1, q2⟩, ys, q3, q4⟩ ⟨T, x1, y1, rfl, hT, rfl, g1, g2⟩
                  exact item q2 q4 (g1 xs q1) (g2 ys q3) hT
          · cases h2
        · cases h2
      · cases h2
    · cases h2
  · cases h2
end
end DL
set_option maxHeartbeats 1000000
/-! D18: for, while. -/
namespace DL
open PySem PySem.Spec PyProof.Rows L2
def refE : E → List Nat
  | .var i => [i]
  | _ => []
def refI : It → List Nat
  | .seq e => refE e
  | .seqT e => refE e
  | .rng _ => []
  | .zip a b => refE a ++ refE b
  | .keys i => [i]
section
variable {cf : Cf}
theorem watchOf_ref {e : E} {ρ ρ1 : DL.Env} {o : Opd} {d : D} (h : opOf e (evE cf e ρ) ρ = some (o, ρ1)) : ∀ q ∈ watchOf o d, q.1 ∈ refE e := by
  intro q hq
  cases o with
  | val d' => cases hq
  | ref i =>
    have : e = .var i := by
      unfold opOf at h
      split at h
      · split at h
        · cases h; rfl
        · cases h
      · split at h <;> cases h
    subst this
    rw [List.mem_singleton.mp hq]
    exact List.mem_singleton_self _
theorem ws_ref {it : It} {ρ ρ1 : DL.Env} {ds : List D} {ws : List (Nat × D)} (h : evIt cf it ρ = some ((ds, ws), ρ1)) : ∀ q ∈ ws, q.1 ∈ refI it := by
  cases it with
  | seq e =>
    rw [evIt] at h
    split at h
    · rename_i o ρ2 k1
      split at h
      · split at h
        · split at h
          · cases h; exact watchOf_ref k1
          · cases h
        · cases h
      · cases h
    · cases h
  | seqT e =>
    have h := (seqT_inv h).1
    rw [evIt] at h
    split at h
    · rename_i o ρ2 k1
      split at h
      · split at h
        · split at h
          · cases h; exact watchOf_ref k1
          · cases h
        · cases h
      · cases h
    · cases h
  | rng es =>
    rw [evIt] at h
    split at h
    · split at h
      · obtain ⟨_, _, k⟩ := Option.map_eq_some_iff.mp h
        cases k; exact nofun
      · obtain ⟨_, _, k⟩ := Option.map_eq_some_iff.mp h
        cases k; exact nofun
      · cases h
    · cases h
  | zip a b =>
    rw [evIt] at h
    split at h
    · rename_i o ρ2 k1
      split at h
      · rename_i o' ρ3 k2
        split at h
        · split at h
          · split at h
            · cases h
              intro q hq
              rcases List.mem_append.mp hq with hq | hq
              · exact List.mem_append_left _ (watchOf_ref k1 q hq)
              · exact List.mem_append_right _ (watchOf_ref k2 q hq)
            · cases h
          · cases h
        · cases h
      · cases h
    · cases h
  | keys i =>
    rw [evIt] at h
    split at h
    · cases h
      intro q hq
      rw [List.mem_singleton.mp hq]
      exact List.mem_singleton_self _
    · cases h
theorem watch_ {ρ : DL.Env} : ∀ {ws : List (Nat × D)}, watch ρ ws = true → ∀ i d, (i, d) ∈ ws → eget ρ i = some d
  | [], _, _, _, h => nomatch h
  | (j, e) :: ws, h, i, d, hm => by
    rw [watch, Bool.and_eq_true] at h
    rcases List.mem_cons.mp hm with q | q
    · cases q; exact of_decide_eq_true h.1
    · exact watch_ h.2 i d q
theorem forL_watch {ws : List (Nat × D)} {t : Tg} {body : DL.Env → Option (Fl × DL.Env)} {ds : List D} {ρ : DL.Env} {r : Fl × DL.Env} (h : forL ws t body ds ρ = some r) : watch ρ ws = true := by
  cases ds with
  | nil => rw [forL] at h; exact (ite_some h).1
  | cons d ds => rw [forL] at h; split at h; assumption; cases h
theorem Post.stays' {P : Program} {w : World} {K : PySem.W.Frag} {H H1 : Hp} {ρ ρ1 : DL.Env} {σ σ1 : L2.St} {Φ Φ1 : Nat → List Addr} (p : Post P w K σ1 H ρ Φ H1 ρ1 Φ1) (e : EnvRep P w K H ρ σ Φ) : Stays H H1 := fun a o h n => by
  refine p.keep a o h fun f => ?_
  obtain ⟨o', h1, h2⟩ := e.mut f
  rw [h] at h1
  cases h1
  exact n h2
theorem Stays.trans {H H1 H2 : Hp} (a : Stays H H1) (b : Stays H1 H2) : Stays H H2 := fun x o h n => b x o (a x o h n) n
/-- a target took a value: nothing else is otherwise -/
theorem Post.tgt {P : Program} {w : World} {K : PySem.W.Frag} {H : Hp} {ρ ρ' : DL.Env} {σ' : L2.St} {Φ Φ' : Nat → List Addr} (e : EnvRep P w K H ρ' σ' Φ') (f : ∀ a, FP ρ' Φ' a → a ∈ ([] : List Addr) ∨ FP ρ Φ a) : Post P w K σ' H ρ Φ H ρ' Φ' :=
  ⟨e, fun _ _ h _ => h, fun a g => .inr ((f a g).elim (fun z => nomatch z) id)⟩
end
section
variable {X : Cx} {cf : Cf} {x y z tg : Expr} {e : E} {pos : Pos} {t : Tg} {sts : List Stmt} {ss : List S} {it : It}
theorem ss_for (hp : PassesOwn (model X.prog X.w) X.A X.env X.xe) (hc : X.calm = true) (hi : SIt X cf tg t x it) (hg : SG X tg t) (hb : SSs X cf sts ss) (hr : ∀ i ∈ refI it, i ∉ asgT t ++ asgSs ss := by decide) (hs : ∀ y, foldedSetIterable x X.env y = pure y := by intro _; rfl) :
    SS X cf (.For tg x sts [] pos) (.for t it ss) := PS.wk (ps_for hp hc hi hg hb hs) fun D σ H ⟨ρ, Φ, f, ρ', h1, h2, h3⟩ => by
  rw [evS] at h2
  split at h2
  · rename_i ds ws ρ1 k1
    refine ⟨ρ, Φ, ds, ws, ρ1, h1, k1, fun J H1 Φ1 T P1 tm wk => ?_⟩
    obtain ⟨G, Y, W, hG, hY⟩ := wk.ex
    let Pv : Nat → L2.St → Hp → Prop := fun i σi Hi => ∃ ρi Φi, Off (asgT t ++ asgSs ss) σ σi ∧ Post X.prog X.w X.K σi H ρ Φ Hi ρi Φi ∧ forL ws t (fun r => evSs cf ss r) (ds.drop i) ρi = some (f, ρ') ∧ Stays H1 Hi ∧ ∀ a ∈ T, H1 a ≠ none ∧ Hi a = H1 a ∧ ¬ FP ρi Φi a
    refine for_it W Pv ⟨ρ1, Φ1, Off.refl, P1, by rw [List.drop_zero]; exact h2, fun a o h _ => h, fun a ha => ⟨(tm a ha).1, rfl, (tm a ha).2⟩⟩ ?_ ?_ ?_
    · rintro i σi Hi hle ⟨ρi, Φi, o, Pi, hf, hst, htm⟩
      exact hG σi Hi ρi Φi ⟨Pi.env, hst, htm, fun j d hm => ⟨o.at_ j (hr j (ws_ref k1 (j, d) hm)), watch_ (forL_watch hf) j d hm⟩⟩
    · rintro i xv σi Hi H' hlt ⟨ρi, Φi, o, Pi, hf, hst, htm⟩ hy
      have lo : LO X.prog X.w X.K σ H1 T ws σi Hi ρi Φi := ⟨Pi.env, hst, htm, fun j d hm => ⟨o.at_ j (hr j (ws_ref k1 (j, d) hm)), watch_ (forL_watch hf) j d hm⟩⟩
      obtain ⟨d, hd, htg, sm⟩ := hY i Hi xv H' hlt (hG _ _ _ _ lo) hy
      have hdrop : ds.drop i = d :: ds.drop (i + 1) := by
        rw [List.getElem?_eq_getElem hlt] at hd
        cases hd
        exact List.drop_eq_getElem_cons hlt
      rw [hdrop, forL] at hf
      have Pi' := Pi.same sm
      have hst' : Stays H1 H' := hst.trans (Same.stays sm)
      have htm' : ∀ a ∈ T, H1 a ≠ none ∧ H' a = H1 a ∧ ¬ FP ρi Φi a := fun a ha => by
        obtain ⟨q1, q2, q3⟩ := htm a ha
        refine ⟨q1, ?_, q3⟩
        cases q : H1 a with
        | none => exact absurd q q1
        | some ob => rw [q] at q2; exact sm a ob q2
      split at hf
      · split at hf
        · rename_i ρa k2
          refine ⟨ρi, Φi, d, ρa, [], Pi'.env, k2, htg, List.nodup_nil, nofun, fun σ2 Φ2 o2 e2 f2 => ?_⟩
          have Pt := Pi'.trans' (Post.tgt e2 f2)
          have o2' : Off (asgT t ++ asgSs ss) σ σ2 := o.trans1 (o2.mono fun i hi => List.mem_append_left _ hi)
          have nt : ∀ a ∈ T, ¬ FP ρa Φ2 a := fun a ha q => by
            rcases f2 a q with z | z
            · cases z
            · exact (htm a ha).2.2 z
          have go : ∀ {fl : Fl} {ρ2 : DL.Env}, evSs cf ss ρa = some (fl, ρ2) → (fl = .nx ∨ fl = .ct → forL ws t (fun r => evSs cf ss r) (ds.drop (i + 1)) ρ2 = some (f, ρ')) → (fl = .bk → f = .nx ∧ ρ' = ρ2) → (∀ dd, fl = .rt dd → f = .rt dd ∧ ρ' = ρ2) →
              tS X.prog X.w X.K (asgSs ss) (evSs cf ss) { D with nx := Pv (i + 1), ct := Pv (i + 1), bk := D.nx } σ2 H' := by
            intro fl ρ2 b1 b2 b3 b4
            refine ⟨ρa, Φ2, fl, ρ2, e2, b1, fun σ3 H3 Φ3 o3 P3 => ?_⟩
            have P' := Pt.trans' P3
            have o3' : Off (asgT t ++ asgSs ss) σ σ3 := o2'.trans1 (o3.mono fun i hi => List.mem_append_right _ hi)
            have next : (fl = .nx ∨ fl = .ct) → Pv (i + 1) σ3 H3 := fun q => by
              refine ⟨ρ2, Φ3, o3', P', b2 q, hst'.trans (P3.stays' e2), fun a ha => ?_⟩
              obtain ⟨q1, q2, q3⟩ := htm' a ha
              refine ⟨q1, ?_, fun g => ?_⟩
              · cases qq : H1 a with
                | none => exact absurd qq q1
                | some ob => rw [qq] at q2; exact P3.keep a ob q2 (nt a ha)
              · rcases P3.new a g with z | z
                · rw [q2] at z; exact q1 z
                · exact nt a ha z
            cases fl with
            | nx => exact next (.inl rfl)
            | ct => exact next (.inr rfl)
            | bk =>
              obtain ⟨rfl, rfl⟩ := b3 rfl
              exact h3 σ3 H3 Φ3 o3' P'
            | rt dd =>
              obtain ⟨rfl, rfl⟩ := b4 dd rfl
              exact fun v G' r => h3 σ3 H3 Φ3 o3' P' v G' (r.pre Pt)
          split at hf
          · rename_i ρ2 b1
            exact go b1 (fun _ => hf) nofun nofun
          · rename_i ρ2 b1
            exact go b1 (fun _ => hf) nofun nofun
          · rename_i ρ2 b1
            cases hf
            exact go b1 (fun q => by rcases q with q | q <;> cases q) (fun _ => ⟨rfl, rfl⟩) nofun
          · rename_i dd ρ2 b1
            cases hf
            exact go b1 (fun q => by rcases q with q | q <;> cases q) nofun (fun _ q => by cases q; exact ⟨rfl, rfl⟩)
          · cases hf
        · cases hf
      · cases hf
    · rintro σi Hi ⟨ρi, Φi, o, Pi, hf, hst, htm⟩
      rw [List.drop_length, forL] at hf
      obtain ⟨_, q⟩ := ite_some hf
      cases q
      exact h3 σi Hi Φi o Pi
  · cases h2
theorem ss_whl (hp : PassesOwn (model X.prog X.w) X.A X.env X.xe) (hc : SB X cf x e) (hb : SSs X cf sts ss) : SS X cf (.While x sts [] pos) (.whl e ss) := PS.wk (ps_while hp hc hb) fun D σ H ⟨ρ, Φ, f, ρ', h1, h2, h3⟩ => by
  rw [evS] at h2
  refine ⟨fun m σi Hi => ∃ ρi Φi, Off (asgSs ss) σ σi ∧ Post X.prog X.w X.K σi H ρ Φ Hi ρi Φi ∧ whlF (fun r => asBl (evE cf e r)) (fun r => evSs cf ss r) m ρi = some (f, ρ'), ⟨whFuel, ρ, Φ, Off.refl, Post.refl h1, h2⟩, ?_⟩
  rintro m σi Hi ⟨ρi, Φi, o, Pi, hf⟩
  cases m with
  | zero => rw [whlF] at hf; cases hf
  | succ m =>
    rw [whlF] at hf
    split at hf
    · rename_i ρa k1
      refine ⟨ρi, Φi, true, ρa, Pi.env, k1, fun H1 Φ1 P1 => ?_⟩
      refine iteT ?_
      have P01 := Pi.trans' P1
      refine ⟨fun σ' H' => ∃ ρi Φi, Off (asgSs ss) σ σ' ∧ Post X.prog X.w X.K σ' H ρ Φ H' ρi Φi ∧ whlF (fun r => asBl (evE cf e r)) (fun r => evSs cf ss r) m ρi = some (f, ρ'), fun σ' H' q => ⟨m, Nat.lt_succ_self _, q⟩, ?_⟩
      have go : ∀ {fl : Fl} {ρ2 : DL.Env}, evSs cf ss ρa = some (fl, ρ2) → (fl = .nx ∨ fl = .ct → whlF (fun r => asBl (evE cf e r)) (fun r => evSs cf ss r) m ρ2 = some (f, ρ')) → (fl = .bk → f = .nx ∧ ρ' = ρ2) → (∀ dd, fl = .rt dd → f = .rt dd ∧ ρ' = ρ2) →
          tS X.prog X.w X.K (asgSs ss) (evSs cf ss) { D with nx := (fun σ' H' => ∃ ρi Φi, Off (asgSs ss) σ σ' ∧ Post X.prog X.w X.K σ' H ρ Φ H' ρi Φi ∧ whlF (fun r => asBl (evE cf e r)) (fun r => evSs cf ss r) m ρi = some (f, ρ')), ct := (fun σ' H' => ∃ ρi Φi, Off (asgSs ss) σ σ' ∧ Post X.prog X.w X.K σ' H ρ Φ H' ρi Φi ∧ whlF (fun r => asBl (evE cf e r)) (fun r => evSs cf ss r) m ρi = some (f, ρ')), bk := D.nx } σi H1 := by
        intro fl ρ2 b1 b2 b3 b4
        refine ⟨ρa, Φ1, fl, ρ2, P1.env, b1, fun σ3 H3 Φ3 o3 P3 => ?_⟩
        have P' := P01.trans' P3
        cases fl with
        | nx => exact ⟨ρ2, Φ3, o.trans1 o3, P', b2 (.inl rfl)⟩
        | ct => exact ⟨ρ2, Φ3, o.trans1 o3, P', b2 (.inr rfl)⟩
        | bk =>
          obtain ⟨rfl, rfl⟩ := b3 rfl
          exact h3 σ3 H3 Φ3 (o.trans1 o3) P'
        | rt dd =>
          obtain ⟨rfl, rfl⟩ := b4 dd rfl
          exact fun v G' r => h3 σ3 H3 Φ3 (o.trans1 o3) P' v G' (r.pre P01)
      split at hf
      · rename_i ρ2 b1
        exact go b1 (fun _ => hf) nofun nofun
      · rename_i ρ2 b1
        exact go b1 (fun _ => hf) nofun nofun
      · rename_i ρ2 b1
        cases hf
        exact go b1 (fun q => by rcases q with q | q <;> cases q) (fun _ => ⟨rfl, rfl⟩) nofun
      · rename_i dd ρ2 b1
        cases hf
        exact go b1 (fun q => by rcases q with q | q <;> cases q) nofun (fun _ q => by cases q; exact ⟨rfl, rfl⟩)
      · cases hf
    · rename_i ρa k1
      cases hf
      refine ⟨ρi, Φi, false, _, Pi.env, k1, fun H1 Φ1 P1 => ?_⟩
      refine iteF ?_
      exact h3 σi H1 Φ1 o (Pi.trans' P1)
    · cases hf
end
end DL
set_option maxHeartbeats 1000000
/-! D19: comprehensions. -/
namespace DL
open PySem PySem.Spec PyProof.Rows L2
section
variable {cf : Cf} {ρ ρ' : DL.Env}
theorem ite_some' {α : Type} {c : Bool} {x : Option α} {y : α} (h : (if c then x else none) = some y) : c = true ∧ x = some y := by
  cases c with
  | true => exact ⟨rfl, h⟩
  | false => cases h
theorem eget_erest : ∀ {own : List Nat} {i : Nat}, ρ.length = ρ'.length → eget (erest ρ ρ' own) i = if i ∈ own then eget ρ i else eget ρ' i
  | [], i, _ => by rw [erest, if_neg (by simp)]
  | v :: vs, i, h => by
    have hl : ∀ own : List Nat, (erest ρ ρ' own).length = ρ'.length := fun own => by
      induction own with
      | nil => rfl
      | cons u us ih => rw [erest, List.length_set, ih]
    rw [erest]
    show eget (eset (erest ρ ρ' vs) v (eget ρ v)) i = _
    by_cases q : v = i
    · subst q
      rw [if_pos List.mem_cons_self]
      by_cases hv : v < (erest ρ ρ' vs).length
      · rw [eget_eset_same hv]
      · have h1 : eset (erest ρ ρ' vs) v (eget ρ v) = erest ρ ρ' vs := by
          unfold eset
          exact List.set_eq_of_length_le (by omega)
        rw [h1]
        rw [hl, ← h] at hv
        have e1 : eget ρ v = none := by unfold eget; rw [List.getElem?_eq_none (by omega)]; rfl
        have e2 : eget (erest ρ ρ' vs) v = none := by unfold eget; rw [List.getElem?_eq_none (by rw [hl, ← h]; omega)]; rfl
        rw [e1, e2]
    · rw [eget_eset_ne q, eget_erest h]
      by_cases k : i ∈ vs
      · rw [if_pos k, if_pos (List.mem_cons_of_mem _ k)]
      · rw [if_neg k, if_neg fun z => (List.mem_cons.mp z).elim (fun z => q z.symm) k]
theorem erest_length : ∀ {own : List Nat}, (erest ρ ρ' own).length = ρ'.length
  | [] => rfl
  | v :: vs => by rw [erest, List.length_set, erest_length]
theorem compL_watch {ws : List (Nat × D)} {own : List Nat} {t : Tg} {cond : DL.Env → Option (Bool × DL.Env)} {elt : DL.Env → Option (D × DL.Env)} {ds : List D} {ρ : DL.Env} {acc : List D} {r : List D × DL.Env} (h : compL ws own t cond elt ds ρ acc = some r) : watch ρ ws = true := by
  cases ds with
  | nil => rw [compL] at h; exact (ite_some h).1
  | cons d ds => rw [compL] at h; split at h; assumption; cases h
theorem wipe_at {σ : L2.St} {vs : List Nat} {i : Nat} (h : i ∉ vs) : (wipe σ vs)[i]? = σ[i]? := wipe_out h
theorem wipe_in {σ : L2.St} : ∀ {vs : List Nat} {i : Nat}, i ∈ vs → i < σ.length → (wipe σ vs)[i]? = some none
  | v :: vs, i, h, hl => by
    rw [wipe]
    by_cases q : v = i
    · subst q
      rw [List.getElem?_set_self (by rw [wipe_length]; exact hl)]
    · rw [List.getElem?_set_ne q]
      rcases List.mem_cons.mp h with z | z
      · exact absurd z.symm q
      · exact wipe_in z hl
/-- slots of one's own: wiped again all is as it was -/
theorem wipe_off {σ σ2 : L2.St} {As vs : List Nat} (o : Off As (wipe σ vs) σ2) (h : ∀ i ∈ As, i ∈ vs) : wipe σ2 vs = wipe σ vs := by
  have hl : σ2.length = σ.length := o.len.trans (wipe_length σ vs)
  refine List.ext_getElem? fun i => ?_
  by_cases k : i ∈ vs
  · by_cases hi : i < σ.length
    · rw [wipe_in k (by rw [hl]; exact hi), wipe_in k hi]
    · rw [List.getElem?_eq_none (by rw [wipe_length, hl]; omega), List.getElem?_eq_none (by rw [wipe_length]; omega)]
  · rw [wipe_at k, o.at_ i fun q => k (h i q)]
end
section
variable {P : Program} {w : World} {K : PySem.W.Frag} {H H' H1 H2 : Hp} {ρ ρ' ρ1 ρ2 : DL.Env} {σ σ1 σ2 : L2.St} {Φ Φ' Φ1 Φ2 : Nat → List Addr}
theorem EnvRep.wipes (e : EnvRep P w K H ρ σ Φ) (l : List Nat) : EnvRep P w K H (ewipe ρ l) (L2.wipe σ l) Φ := by
  refine ⟨by rw [ewipe_length, wipe_length]; exact e.len, fun j d h => ?_, fun j d h => e.nod j d (eget_wipe h).2, fun j k d d' n h h' => e.dis j k d d' n (eget_wipe h).2 (eget_wipe h').2⟩
  obtain ⟨h1, h2⟩ := eget_wipe h
  rw [wipe_at h1]
  exact e.rep j d h2
theorem Post.upd_new {D : Addr} {o1 o2 : HO} (p : Post P w K σ H ρ Φ H1 ρ1 Φ1) (ho : H1 D = some o1) (hm : IsMut o1) (hD : ¬ FP ρ1 Φ1 D) (hD2 : ¬ ∃ o, H D = some o ∧ ¬ FP ρ Φ D) : Post P w K σ H ρ Φ (upd H1 D o2) ρ1 Φ1 := by
  refine ⟨⟨p.env.len, fun i d h => ?_, p.env.nod, p.env.dis⟩, fun a o h n => ?_, p.new⟩
  · obtain ⟨v, q1, q2⟩ := p.env.rep i d h
    exact ⟨v, q1, q2.stay (stays_upd ho hm) fun a ha ob hob => upd_off (F := Φ1 i) (fun q => hD ⟨i, d, h, q⟩) ha hob⟩
  · rw [upd_ne fun q => hD2 (by rw [← q]; exact ⟨o, h, n⟩)]
    exact p.keep a o h n
end
section
variable {X : Cx} {cf : Cf} {x y z tg elt iter : Expr} {e eltE : E} {pos : Pos} {t : Tg} {sts : List Stmt} {ss : List S} {it : It} {ifs : List Expr} {cs : List E} {scope : Scope} {own : List (Str × Nat)}
theorem comp_by (hsub : ∀ i ∈ asgT t, i ∈ own.map (·.2)) {σ : L2.St} {H : Hp} {Q : VK} (h : tD X.prog X.w X.K (evE cf (.comp (own.map (·.2)) t it cs eltE)) σ H Q) :
    tLc (tI X.prog X.w X.K t (evIt cf it)) (gD X.prog X.w X.K t) (tDB X.prog X.w X.K (evCs cf cs)) (tD X.prog X.w X.K (evE cf eltE)) (own.map (·.2)) σ H Q := by
  obtain ⟨ρ, Φ, d, ρ', h1, h2, h3⟩ := h
  rw [evE] at h2
  generalize hvs : own.map (·.2) = vs at *
  split at h2
  · rename_i ds ws ρ1 k1
    split at h2
    · rename_i res ρe k2
      cases h2
      refine ⟨ρ, Φ, ds, ws, ρ1, h1, k1, fun J H1 Φ1 T P1 tm wk D0 hD => ?_⟩
      obtain ⟨G, Y, W, hG, hY⟩ := wk.ex
      have s1 := same_new (o := .lst []) hD
      have E1 := (P1.env.wipes vs).same s1
      have hf0 : ∀ a, FP (ewipe ρ1 vs) Φ1 a → H1 a ≠ none := fun a f => FP.some_ P1.env f.wipe
      let Pv : Nat → Hp → Prop := fun i Hi => ∃ ρi Φi vals vv Gv, Post X.prog X.w X.K (wipe σ vs) H1 (ewipe ρ1 vs) Φ1 Hi ρi Φi ∧ compL ws vs t (fun r => evCs cf cs r) (fun r => evE cf eltE r) (ds.drop i) ρi vals = some (res, ρe) ∧ Hi D0 = some (.lst vv) ∧ ¬ FP ρi Φi D0 ∧
        RepL X.prog X.w X.K Hi vals vv Gv ∧ vals.length ≤ sizeLine ∧ Gv.Nodup ∧ (∀ a ∈ Gv, ¬ FP ρi Φi a) ∧ D0 ∉ Gv ∧ (∀ a ∈ Gv, H1 a = none ∨ FP (ewipe ρ1 vs) Φ1 a) ∧ Stays H1 Hi ∧ ∀ a ∈ T, H1 a ≠ none ∧ Hi a = H1 a ∧ ¬ FP ρi Φi a
      have lo_of : ∀ {i : Nat} {Hi : Hp}, Pv i Hi → G Hi := by
        rintro i Hi ⟨ρi, Φi, vals, vv, Gv, Pi, hc, _, _, _, _, _, _, _, _, hst, htm⟩
        refine hG (wipe σ vs) Hi ρi Φi ⟨Pi.env, hst, htm, fun j d hm => ?_⟩
        have w1 := watch_ (compL_watch hc) j d hm
        obtain ⟨v, q1, _⟩ := Pi.env.rep j d w1
        exact ⟨by rw [q1]; exact (wipe_some q1).1.symm, w1⟩
      refine lc_it W Pv ?_ (fun i Hi _ q => lo_of q) ?_ ?_
      · refine ⟨ewipe ρ1 vs, Φ1, [], [], [], ⟨E1, fun a o h _ => s1 a o h, fun a f => .inr f⟩, by rw [List.drop_zero]; exact k2, upd_same, fun f => hf0 _ f hD, .nil, Nat.zero_le _, List.nodup_nil, nofun, nofun, nofun, Same.stays s1, fun a ha => ⟨(tm a ha).1, ?_, fun f => (tm a ha).2 f.wipe⟩⟩
        exact upd_ne fun q => (tm a ha).1 (by rw [q]; exact hD)
      · rintro i xv Hi H' hlt pv hy
        have gi := lo_of pv
        obtain ⟨ρi, Φi, vals, vv, Gv, Pi, hc, hDi, hDf, hrep, hsz, hnd, hap, hDG, hnew, hst, htm⟩ := pv
        obtain ⟨d, hd, htg, sm⟩ := hY i Hi xv H' hlt gi hy
        have hdrop : ds.drop i = d :: ds.drop (i + 1) := by
          rw [List.getElem?_eq_getElem hlt] at hd
          cases hd
          exact List.drop_eq_getElem_cons hlt
        rw [hdrop, compL] at hc
        have Pi' := Pi.same sm
        split at hc
        · split at hc
          · rename_i ρa k3
            refine ⟨ρi, Φi, d, ρa, [], Pi'.env, k3, htg, List.nodup_nil, nofun, fun σ2 Φ2 o2 e2 f2 => ⟨wipe_off o2 hsub, ?_⟩⟩
            have Pt := Pi'.trans' (Post.tgt e2 f2)
            have fpa : ∀ a, FP ρa Φ2 a → FP ρi Φi a := fun a f => (f2 a f).elim (fun z => nomatch z) id
            -- what holds behind a turn, whatever was evaluated
            have back : ∀ {Hk : Hp} {ρk : DL.Env} {Φk : Nat → List Addr}, Post X.prog X.w X.K σ2 H' ρa Φ2 Hk ρk Φk →
                Post X.prog X.w X.K (wipe σ vs) H1 (ewipe ρ1 vs) Φ1 Hk (ewipe ρk vs) Φk ∧ Hk D0 = some (.lst vv) ∧ ¬ FP ρk Φk D0 ∧ RepL X.prog X.w X.K Hk vals vv Gv ∧ (∀ a ∈ Gv, ¬ FP ρk Φk a) ∧ Stays H1 Hk ∧ ∀ a ∈ T, H1 a ≠ none ∧ Hk a = H1 a ∧ ¬ FP ρk Φk a := by
              intro Hk ρk Φk Pk
              have Pall := Pt.trans' Pk
              have hD' : H' D0 = some (.lst vv) := sm _ _ hDi
              have nD : ¬ FP ρa Φ2 D0 := fun f => hDf (fpa _ f)
              have hr' := hrep.same sm
              have ew := Pall.env.wipes vs
              rw [wipe_off o2 hsub] at ew
              refine ⟨⟨ew, Pall.keep, fun a f => Pall.new a f.wipe⟩, Pk.keep _ _ hD' nD, fun f => ?_, hr'.stay (Pk.stays' e2) fun a ha o ho => Pk.keep a o ho fun f => hap a ha (fpa _ f), fun a ha f => ?_, (hst.trans (Same.stays sm)).trans (Pk.stays' e2), fun a ha => ?_⟩
              · rcases Pk.new _ f with z | z
                · rw [hD'] at z; cases z
                · exact nD z
              · rcases Pk.new _ f with z | z
                · exact hr'.some_ ha z
                · exact hap a ha (fpa _ z)
              · obtain ⟨q1, q2, q3⟩ := htm a ha
                refine ⟨q1, ?_, fun f => ?_⟩
                · cases qq : H1 a with
                  | none => exact absurd qq q1
                  | some ob => rw [qq] at q2; exact Pk.keep a ob (sm a ob q2) fun f => q3 (fpa _ f)
                · rcases Pk.new _ f with z | z
                  · cases qq : H1 a with
                    | none => exact q1 qq
                    | some ob => rw [qq] at q2; rw [sm a ob q2] at z; cases z
                  · exact q3 (fpa _ z)
            split at hc
            · rename_i ρb k4
              split at hc
              · rename_i v ρc k5
                obtain ⟨hz, hc⟩ := ite_some' hc
                have hz := of_decide_eq_true hz
                refine ⟨ρa, Φ2, true, ρb, e2, k4, fun H3 Φ3 P3 => ?_⟩
                refine iteT ?_
                refine ⟨ρb, Φ3, v, ρc, P3.env, k5, fun yv H4 Φ4 G4 P4 R4 => ?_⟩
                have P34 := P3.trans P4
                obtain ⟨b1, b2, b3, b4, b5, b6, b7⟩ := back P34
                refine ⟨vv, b2, by rw [← b4.length]; exact hz, ?_⟩
                have hDG4 : D0 ∉ G4 := fun q => by
                  have := (R4.pre P3).new D0 q
                  rcases this with z | z
                  · rw [sm _ _ hDi] at z; cases z
                  · exact hDf (fpa _ z)
                have hsep : ∀ a ∈ Gv, a ∉ G4 := fun a ha hb => by
                  rcases (R4.pre P3).new a hb with z | z
                  · exact (hrep.same sm).some_ ha z
                  · exact hap a ha (fpa _ z)
                have st := stays_upd (o2 := .lst (vv ++ [yv])) b2 trivial
                have r1 : RepL X.prog X.w X.K (upd H4 D0 (.lst (vv ++ [yv]))) vals vv Gv := b4.stay st fun a ha o ho => upd_off hDG ha ho
                have r2 : Rep X.prog X.w X.K (upd H4 D0 (.lst (vv ++ [yv]))) v yv G4 := R4.rep.stay st fun a ha o ho => upd_off hDG4 ha ho
                have r3 : RepL X.prog X.w X.K (upd H4 D0 (.lst (vv ++ [yv]))) (vals ++ [v]) (vv ++ [yv]) (Gv ++ (G4 ++ [])) := RepL.append r1 (.cons r2 .nil)
                rw [List.append_nil] at r3
                refine ⟨ewipe ρc vs, Φ4, vals ++ [v], vv ++ [yv], Gv ++ G4, b1.upd_new b2 trivial (fun f => b3 f.wipe) (fun ⟨o, q, _⟩ => by rw [hD] at q; cases q), hc, upd_same, fun f => b3 f.wipe, r3, by rw [List.length_append]; exact hz,
                  List.nodup_append.mpr ⟨hnd, R4.nod, fun a ha b hb q => hsep a ha (q ▸ hb)⟩, fun a ha f => ?_, fun q => (List.mem_append.mp q).elim hDG hDG4, fun a ha => ?_, b6.trans st, fun a ha => ?_⟩
                · rcases List.mem_append.mp ha with ha | ha
                  · exact b5 a ha f.wipe
                  · exact R4.dis a ha f.wipe
                · rcases List.mem_append.mp ha with ha | ha
                  · exact hnew a ha
                  · rcases (R4.pre P3).new a ha with z | z
                    · exact Pi'.none_ z
                    · exact Pi'.new a (fpa _ z)
                · obtain ⟨q1, q2, q3⟩ := b7 a ha
                  exact ⟨q1, by rw [upd_ne fun q => q1 (by rw [q]; exact hD)]; exact q2, fun f => q3 f.wipe⟩
              · cases hc
            · rename_i ρb k4
              refine ⟨ρa, Φ2, false, ρb, e2, k4, fun H3 Φ3 P3 => ?_⟩
              refine iteF ?_
              obtain ⟨b1, b2, b3, b4, b5, b6, b7⟩ := back P3
              exact ⟨ewipe ρb vs, Φ3, vals, vv, Gv, b1, hc, b2, fun f => b3 f.wipe, b4, hsz, hnd, fun a ha f => b5 a ha f.wipe, hDG, hnew, b6, fun a ha => ⟨(b7 a ha).1, (b7 a ha).2.1, fun f => (b7 a ha).2.2 f.wipe⟩⟩
            · cases hc
          · cases hc
        · cases hc
      · rintro Hi ⟨ρi, Φi, vals, vv, Gv, Pi, hc, hDi, hDf, hrep, hsz, hnd, hap, hDG, hnew, hst, htm⟩
        rw [List.drop_length, compL] at hc
        obtain ⟨_, q⟩ := ite_some hc
        cases q
        have hlen : ρ1.length = ρe.length := by rw [P1.env.len, Pi.env.len, wipe_length]
        have eg := fun i => eget_erest (ρ := ρ1) (ρ' := ρe) (own := vs) (i := i) hlen
        let Φe : Nat → List Addr := fun i => if i ∈ vs then Φ1 i else Φi i
        have g1 : ∀ {i : Nat} {d : DL.D}, eget (erest ρ1 ρe vs) i = some d → (i ∈ vs ∧ eget ρ1 i = some d ∧ Φe i = Φ1 i) ∨ (i ∉ vs ∧ eget ρe i = some d ∧ Φe i = Φi i) := fun {i d} h => by
          rw [eg] at h
          by_cases k : i ∈ vs
          · rw [if_pos k] at h
            exact .inl ⟨k, h, if_pos k⟩
          · rw [if_neg k] at h
            exact .inr ⟨k, h, if_neg k⟩
        have ownkeep : ∀ {i : Nat} {d : DL.D}, i ∈ vs → eget ρ1 i = some d → ∀ a ∈ Φ1 i, ¬ FP (ewipe ρ1 vs) Φ1 a := fun {i d} hi he a ha ⟨j, x, q1, q2⟩ => by
          obtain ⟨q3, q4⟩ := eget_wipe q1
          exact P1.env.dis i j d x (fun q => q3 (q ▸ hi)) he q4 a ha q2
        have fpe : ∀ {i : Nat} {d : DL.D}, eget ρe i = some d → ∀ a ∈ Φi i, H1 a = none ∨ FP (ewipe ρ1 vs) Φ1 a := fun {i d} he a ha => Pi.new a ⟨i, d, he, ha⟩
        have sep : ∀ {i j : Nat} {d e : DL.D}, i ∈ vs → eget ρ1 i = some d → eget ρe j = some e → ∀ a ∈ Φ1 i, a ∉ Φi j := fun {i j d e} hi he hj a ha hb => by
          rcases fpe hj a hb with z | z
          · exact FP.some_ P1.env ⟨i, d, he, ha⟩ z
          · exact ownkeep hi he a ha z
        have EE : EnvRep X.prog X.w X.K Hi (erest ρ1 ρe vs) σ Φe := by
          refine ⟨by rw [erest_length, Pi.env.len, wipe_length], fun i d h => ?_, fun i d h => ?_, fun i j d e n h h' => ?_⟩
          · rcases g1 h with ⟨k, q, qe⟩ | ⟨k, q, qe⟩
            · obtain ⟨v, z1, z2⟩ := P1.env.rep i d q
              rw [qe]
              exact ⟨v, z1, z2.stay hst fun a ha o ho => Pi.keep a o ho (ownkeep k q a ha)⟩
            · obtain ⟨v, z1, z2⟩ := Pi.env.rep i d q
              rw [wipe_at k] at z1
              rw [qe]
              exact ⟨v, z1, z2⟩
          · rcases g1 h with ⟨k, q, qe⟩ | ⟨k, q, qe⟩
            · rw [qe]; exact P1.env.nod i d q
            · rw [qe]; exact Pi.env.nod i d q
          · rcases g1 h with ⟨k, q, qe⟩ | ⟨k, q, qe⟩
            · rcases g1 h' with ⟨k', q', qe'⟩ | ⟨k', q', qe'⟩
              · rw [qe, qe']; exact P1.env.dis i j d e n q q'
              · rw [qe, qe']; exact sep k q q'
            · rcases g1 h' with ⟨k', q', qe'⟩ | ⟨k', q', qe'⟩
              · rw [qe, qe']; exact fun a ha hb => sep k' q' q a hb ha
              · rw [qe, qe']; exact Pi.env.dis i j d e n q q'
        have fin : ∀ a, (H1 a = none ∨ FP (ewipe ρ1 vs) Φ1 a) → H a = none ∨ FP ρ Φ a := fun a q => by
          rcases q with z | z
          · exact P1.none_ z
          · exact P1.new a z.wipe
        refine h3 (.ref D0) Hi Φe (D0 :: Gv) ⟨EE, fun a o ha hn => ?_, fun a f => ?_⟩ ⟨.lst hDi hsz hrep, List.nodup_cons.mpr ⟨hDG, hnd⟩, fun a ha f => ?_, fun a ha => ?_⟩
        · refine Pi.keep a o (P1.keep a o ha hn) fun f => ?_
          rcases P1.new a f.wipe with z | z
          · rw [ha] at z; cases z
          · exact hn z
        · obtain ⟨i, d, q1, q2⟩ := f
          rcases g1 q1 with ⟨k, q, qe⟩ | ⟨k, q, qe⟩
          · rw [qe] at q2; exact P1.new a ⟨i, d, q, q2⟩
          · rw [qe] at q2; exact fin a (fpe q a q2)
        · obtain ⟨i, d, q1, q2⟩ := f
          rcases g1 q1 with ⟨k, q, qe⟩ | ⟨k, q, qe⟩
          · rw [qe] at q2
            rcases List.mem_cons.mp ha with rfl | ha
            · exact FP.some_ P1.env ⟨i, d, q, q2⟩ hD
            · rcases hnew a ha with z | z
              · exact FP.some_ P1.env ⟨i, d, q, q2⟩ z
              · exact ownkeep k q a q2 z
          · rw [qe] at q2
            rcases List.mem_cons.mp ha with rfl | ha
            · exact hDf ⟨i, d, q, q2⟩
            · exact hap a ha ⟨i, d, q, q2⟩
        · rcases List.mem_cons.mp ha with rfl | ha
          · exact P1.none_ hD
          · exact fin a (hnew a ha)
    · cases h2
  · cases h2
theorem se_comp (hc : X.calm = true) (hN : X.N.Nodup) (ok : blkC X.N X.env.scope scope own = true) (hi : SIt X cf tg t iter it)
    (hg : ∀ (s : Shared) (H : Hp) (C : Addr) (cl : List (Str × Addr)) (fp : List Addr), SG (X.blk s H scope (compEnvC scope cl C X.env) fp) tg t) (ht : ∀ (s : Shared) (H : Hp) (C : Addr) (cl : List (Str × Addr)) (fp : List Addr), SCs (X.blk s H scope (compEnvC scope cl C X.env) fp) cf ifs cs)
    (he : ∀ (s : Shared) (H : Hp) (C : Addr) (cl : List (Str × Addr)) (fp : List Addr), SE (X.blk s H scope (compEnvC scope cl C X.env) fp) cf elt eltE) (hsub : ∀ i ∈ asgT t, i ∈ own.map (·.2) := by decide) (hs : ∀ y, foldedSetIterable iter X.env y = pure y := by intro _; rfl) :
    SE X cf (.ListComp elt [⟨tg, iter, ifs, 0⟩] scope pos) (.comp (own.map (·.2)) t it cs eltE) :=
  PE.wk (pe_lc hc hN hi (blkOk_by ok) hg ht he hs) fun σ H Q q => comp_by hsub q
theorem ss_setLc {i : Nat} {n : Str} {py spos : Pos} (hc : X.calm = true) (hN : X.N.Nodup) (hy : X.N[i]? = some n) (hyl : X.env.scope.names.lookup n = some .local)
    (hsw : swapsWith (.ListComp elt [⟨tg, iter, ifs, 0⟩] scope pos) (some (.Name n py)) spos.line X.env = pure true) (ok : blkC X.N X.env.scope scope own = true) (hi : SIt X cf tg t iter it)
    (hg : ∀ (s : Shared) (H : Hp) (C : Addr) (cl : List (Str × Addr)) (fp : List Addr), SG (X.blk s H scope (compEnvC scope cl C X.env) fp) tg t) (ht : ∀ (s : Shared) (H : Hp) (C : Addr) (cl : List (Str × Addr)) (fp : List Addr), SCs (X.blk s H scope (compEnvC scope cl C X.env) fp) cf ifs cs)
    (he : ∀ (s : Shared) (H : Hp) (C : Addr) (cl : List (Str × Addr)) (fp : List Addr), SE (X.blk s H scope (compEnvC scope cl C X.env) fp) cf elt eltE) (hsub : ∀ i ∈ asgT t, i ∈ own.map (·.2) := by decide) (hs : ∀ y, foldedSetIterable iter X.env y = pure y := by intro _; rfl) :
    SS X cf (.Assign [.Name n py] (.ListComp elt [⟨tg, iter, ifs, 0⟩] scope pos) spos) (.asg (.nm i) (.comp (own.map (·.2)) t it cs eltE)) :=
  PS.wk (ps_setLc hc hN hy hyl hsw hi (blkOk_by ok) hg ht he hs) fun D σ H ⟨ρ, Φ, f, ρ', h1, h2, h3⟩ => by
    rw [evS] at h2
    split at h2
    · rename_i d ρ1 k1
      obtain ⟨ρ2, k2, k3⟩ := Option.map_eq_some_iff.mp h2
      cases k3
      rw [bindT] at k2
      cases k2
      refine comp_by hsub ⟨ρ, Φ, d, ρ1, h1, k1, fun v H1 Φ1 G P1 R1 => ?_⟩
      obtain ⟨Φ', q1, q2⟩ := put_any (i := i) P1.env R1.rep R1.nod R1.dis
      refine h3 _ H1 Φ' set_off ⟨q1, P1.keep, fun a g => ?_⟩
      rcases q2 a g with z | z
      · exact R1.new a z
      · exact P1.new a z
    · cases h2
end
end DL
set_option maxHeartbeats 1000000
/-! D20: functions. -/
namespace DL
open PySem PySem.Spec PyProof.Rows L2
section
variable {ρ ρ' ρe : DL.Env}
theorem pinned_ {pins : List Nat} : ∀ {ρ : DL.Env} {i : Nat}, pinned pins i ρ = true → ∀ j, j < ρ.length → ∃ d, eget ρ j = some d ∧ (d.imm = true ∨ (i + j) ∈ pins)
  | [], _, _, j, h => by simp at h
  | none :: r, i, h, _, _ => by rw [pinned] at h; cases h
  | some d :: r, i, h, 0, _ => by
    rw [pinned, Bool.and_eq_true, Bool.or_eq_true] at h
    exact ⟨d, rfl, h.1.imp id fun z => by simpa using z⟩
  | some d :: r, i, h, j + 1, hj => by
    rw [pinned, Bool.and_eq_true] at h
    obtain ⟨d', q1, q2⟩ := pinned_ (ρ := r) h.2 j (by simpa using hj)
    refine ⟨d', by rw [eget_consS]; exact q1, q2.imp id fun z => ?_⟩
    rw [show i + (j + 1) = i + 1 + j by omega]
    exact z
theorem eget_finOf : ∀ {ρ ρe : DL.Env} {j : Nat} {d : D}, (∀ k, k < ρ.length → ∃ d, eget ρ k = some d) → ρ.length ≤ ρe.length → eget (finOf ρ ρe) j = some d → (eget ρ j = some d ∧ d.imm = true) ∨ (∃ d0, eget ρ j = some d0 ∧ d0.imm = false ∧ eget ρe j = some d)
  | [], _, _, _, _, _, h => by rw [finOf] at h; exact (eget_nil h).elim; intros; simp_all
  | none :: r, _, _, _, ha, _, _ => by obtain ⟨d, q⟩ := ha 0 (by simp); cases q
  | some d0 :: r, [], _, _, _, hl, _ => by simp at hl
  | some d0 :: r, f :: fs, 0, d, ha, hl, h => by
    rw [finOf] at h
    change (if d0.imm then some d0 else f) = some d at h
    by_cases hi : d0.imm = true
    · rw [if_pos hi] at h
      cases h
      exact .inl ⟨rfl, hi⟩
    · rw [if_neg hi] at h
      subst h
      exact .inr ⟨d0, rfl, by simpa using hi, rfl⟩
  | some d0 :: r, f :: fs, j + 1, d, ha, hl, h => by
    rw [finOf, eget_consS] at h
    have := eget_finOf (ρ := r) (ρe := fs) (j := j) (d := d) (fun k hk => by
      obtain ⟨x, q⟩ := ha (k + 1) (by simpa using hk)
      rw [eget_consS] at q
      exact ⟨x, q⟩) (by simpa using hl) h
    rw [eget_consS, eget_consS]
    exact this
theorem finOf_length : ∀ {ρ ρe : DL.Env}, (∀ k, k < ρ.length → ∃ d, eget ρ k = some d) → ρ.length ≤ ρe.length → (finOf ρ ρe).length = ρ.length
  | [], _, _, _ => by simp [finOf]
  | none :: r, _, ha, _ => by obtain ⟨d, q⟩ := ha 0 (by simp); cases q
  | some d0 :: r, [], _, hl => by simp at hl
  | some d0 :: r, f :: fs, ha, hl => by
    rw [finOf, List.length_cons, List.length_cons, finOf_length (fun k hk => by
      obtain ⟨x, q⟩ := ha (k + 1) (by simpa using hk)
      rw [eget_consS] at q
      exact ⟨x, q⟩) (by simpa using hl)]
theorem eget_more {n : Nat} {j : Nat} {d : D} (h : eget (ρ ++ List.replicate n none) j = some d) : j < ρ.length ∧ eget ρ j = some d := by
  unfold eget at h ⊢
  by_cases q : j < ρ.length
  · rw [List.getElem?_append_left q] at h
    exact ⟨q, h⟩
  · rw [List.getElem?_append_right (by omega), List.getElem?_replicate] at h
    split at h <;> cases h
theorem eget_more_of {n : Nat} {j : Nat} (h : j < ρ.length) : eget (ρ ++ List.replicate n none) j = eget ρ j := by
  unfold eget
  rw [List.getElem?_append_left h]
end
section
variable {P : Program} {w : World} {K : PySem.W.Frag} {mg : Str → Option Value} {base : Heap} {x qual : Str} {params : Arguments} {body : List Stmt} {scope : Scope} {f : Addr} {fd : FuncData} {N ps : List Str} {cf : Cf} {fn : Fn} {k : Nat}
theorem fn_read {vs : List V} {H : Hp} {Q : VK} {E : XK} (hs : fn.slots = N.length) (hpin : ∀ i ∈ fn.pins, i ∉ asgSs fn.body) (h : spD P w K fn.par (callFn cf fn) vs H Q E) :
    tS P w K (asgSs fn.body) (evSs cf fn.body) { nx := fun _ H' => Q .non H', rt := Q } (L2.start N vs) H := by
  obtain ⟨hl, ρ, Φ, d, ρ', E0, hc, hq⟩ := h
  unfold callFn at hc
  split at hc
  · rename_i hg
    rw [Bool.and_eq_true] at hg
    have hρ := of_decide_eq_true hg.1
    have hall := fun j hj => pinned_ hg.2 j hj
    have ex : ∀ k, k < ρ.length → ∃ d, eget ρ k = some d := fun k hk => let ⟨d, q, _⟩ := hall k hk; ⟨d, q⟩
    have el : (vs.map some).length = ρ.length := E0.len.symm
    have hvl : vs.length = ρ.length := by simpa using el
    have ES : EnvRep P w K H (ρ ++ List.replicate (fn.slots - fn.par) none) (L2.start N vs) Φ := by
      refine ⟨by simp [L2.start, hs, hρ, hl], fun i x h => ?_, fun i x h => E0.nod i x (eget_more h).2, fun i j x y n h h' => E0.dis i j x y n (eget_more h).2 (eget_more h').2⟩
      obtain ⟨q1, q2⟩ := eget_more h
      obtain ⟨v, z1, z2⟩ := E0.rep i x q2
      exact ⟨v, by unfold L2.start; rw [List.getElem?_append_left (by rw [el]; exact q1)]; exact z1, z2⟩
    have fpS : ∀ a, FP (ρ ++ List.replicate (fn.slots - fn.par) none) Φ a → FP ρ Φ a := fun a ⟨i, x, q1, q2⟩ => ⟨i, x, (eget_more q1).2, q2⟩
    have fpS' : ∀ a, FP ρ Φ a → FP (ρ ++ List.replicate (fn.slots - fn.par) none) Φ a := fun a ⟨i, x, q1, q2⟩ => ⟨i, x, by rw [eget_more_of (eget_lt q1)]; exact q1, q2⟩
    have main : ∀ (fl : Fl) (ρe : DL.Env), evSs cf fn.body (ρ ++ List.replicate (fn.slots - fn.par) none) = some (fl, ρe) → (fl = .rt d ∨ (fl = .nx ∧ d = .non)) → ρ' = finOf ρ ρe →
        tS P w K (asgSs fn.body) (evSs cf fn.body) { nx := fun _ H' => Q .non H', rt := Q } (L2.start N vs) H := by
      intro fl ρe hb hfl hfin
      refine ⟨_, Φ, fl, ρe, ES, hb, fun σ' H' Φ' o p => ?_⟩
      have hlen : ρ.length ≤ ρe.length := by
        rw [p.env.len, o.len]
        simp [L2.start, hvl]
      let Φe : Nat → List Addr := fun j => match eget ρ j with
        | some d => if d.imm then [] else Φ' j
        | none => Φ' j
      have g : ∀ {j : Nat} {y : D}, eget ρ' j = some y → (eget ρ j = some y ∧ y.imm = true ∧ Φe j = []) ∨ (∃ d0, eget ρ j = some d0 ∧ d0.imm = false ∧ eget ρe j = some y ∧ Φe j = Φ' j) := fun {j y} hy => by
        rw [hfin] at hy
        rcases eget_finOf ex hlen hy with ⟨q1, q2⟩ | ⟨d0, q1, q2, q3⟩
        · refine .inl ⟨q1, q2, ?_⟩
          show (match eget ρ j with | some d => if d.imm then [] else Φ' j | none => Φ' j) = []
          rw [q1]
          exact if_pos q2
        · refine .inr ⟨d0, q1, q2, q3, ?_⟩
          show (match eget ρ j with | some d => if d.imm then [] else Φ' j | none => Φ' j) = Φ' j
          rw [q1]
          exact if_neg (by rw [q2]; decide)
      have fpe : ∀ a, FP ρ' Φe a → FP ρe Φ' a := fun a ⟨j, y, q1, q2⟩ => by
        rcases g q1 with ⟨_, _, z⟩ | ⟨d0, _, _, z1, z2⟩
        · rw [z] at q2; cases q2
        · rw [z2] at q2; exact ⟨j, y, z1, q2⟩
      have EE : EnvRep P w K H' ρ' (vs.map some) Φe := by
        refine ⟨by rw [hfin, finOf_length ex hlen, E0.len], fun j y hy => ?_, fun j y hy => ?_, fun i j y z n h h' => ?_⟩
        · rcases g hy with ⟨q1, q2, q3⟩ | ⟨d0, q1, q2, q3, q4⟩
          · obtain ⟨v, z1, z2⟩ := E0.rep j y q1
            refine ⟨v, z1, ?_⟩
            rw [q3]
            rw [Rep.imm_nil q2 z2] at z2
            exact z2.stay (p.stays' ES) nofun
          · obtain ⟨v, z1, z2⟩ := p.env.rep j y q3
            have hj := eget_lt q1
            have hjp : j ∉ asgSs fn.body := by
              obtain ⟨d1, e1, e2⟩ := hall j hj
              rw [q1] at e1
              cases e1
              rcases e2 with e2 | e2
              · rw [q2] at e2; cases e2
              · exact hpin j (by simpa using e2)
            rw [o.at_ j hjp] at z1
            unfold L2.start at z1
            rw [List.getElem?_append_left (by rw [el]; exact hj)] at z1
            rw [q4]
            exact ⟨v, z1, z2⟩
        · rcases g hy with ⟨q1, q2, q3⟩ | ⟨d0, q1, q2, q3, q4⟩
          · rw [q3]; exact List.nodup_nil
          · rw [q4]; exact p.env.nod j y q3
        · rcases g h with ⟨q1, q2, q3⟩ | ⟨d0, q1, q2, q3, q4⟩
          · rw [q3]; exact nofun
          · rcases g h' with ⟨u1, u2, u3⟩ | ⟨d1, u1, u2, u3, u4⟩
            · rw [u3]; exact fun _ _ => nofun
            · rw [q4, u4]; exact p.env.dis i j y z n q3 u3
      have PP : Post P w K (vs.map some) H ρ Φ H' ρ' Φe := ⟨EE, fun a o h n => p.keep a o h fun q => n (fpS a q), fun a q => (p.new a (fpe a q)).imp id (fpS a)⟩
      rcases hfl with rfl | ⟨rfl, rfl⟩
      · exact fun v G r => hq v H' Φe G PP ⟨r.rep, r.nod, fun a ha q => r.dis a ha (fpe a q), fun a ha => (r.new a ha).imp id (fpS a)⟩
      · exact hq .non H' Φe [] PP (Res.flat .non)
    split at hc
    · rename_i d' ρe hb
      cases hc
      exact main _ _ hb (.inl rfl) rfl
    · rename_i ρe hb
      cases hc
      exact main _ _ hb (.inr ⟨rfl, rfl⟩) rfl
    · cases hc
  · cases hc
/-- a function keeps its promise -/
theorem fn_step (F : FunD K x qual params body scope [] [] f fd) (S : FnScope N ps scope) (hp : fn.par = ps.length) (hs : fn.slots = N.length) (hpin : ∀ i ∈ fn.pins, i ∉ asgSs fn.body)
    (hbody : ∀ (cdv : Value) (A : Around) (outer : List PySem.Env) (s : Shared) (H : Hp) (E : XK), Room k (A.deeper (envOfC qual scope s.heap.objs.size f cdv)) →
      SSs (cxOf CX0 P w K mg base N qual scope f cdv A outer s H E).nox cf body fn.body) : FnOk P w K mg base CX0 (k + 1) f fd ps (spD P w K fn.par (callFn cf fn)) :=
  F.ok S (fun vs H Q E h => h.1.trans hp) fun cdv A outer s H vs Q E hr h => ⟨_, PSs.nox (hbody cdv A outer s H E hr), fn_read hs hpin h⟩
end
end DL
set_option maxHeartbeats 1000000
/-! D21: stores into lists and dicts, new dicts. -/
namespace DL
open PySem PySem.Spec PyProof.Rows L2
section
variable {X : Cx} {pins : List (Addr × Obj)} {σ : L2.St} {H : Hp} {s : Shared}
theorem raw_ok {d : Addr} {xs : List (List Key × Addr × Value)} {H' : Hp} {h' : Heap} (h : h'.DictOfH (tupleKind (mixKind X.prog X.w)) d xs) : ObjOk X.prog X.w H' h' d (.ext (RawT X.prog X.w d xs)) := by
  obtain ⟨o, es, ep, h1, h2, h3, h4, h5, h6⟩ := h
  refine ⟨⟨o, es, ep, h1, h2, h3, h4⟩, ⟨o, h1⟩, ?_⟩
  rintro g1 g2 ⟨o, es, ep, q1, q2, q3, q4⟩ k
  exact ⟨o, es, ep, k o q1, q2, q3, q4⟩
def rSetT (P : Program) (w : World) (K : PySem.W.Frag) : V → V → V → Hp → (Hp → Prop) → Prop := fun o i v H Q => ∃ (d ka : Addr) (k : List Key) (xs : List (List Key × Addr × Value)), o = .ref d ∧ i = .ref ka ∧ H d = some (.ext (RawT P w d xs)) ∧ (xs.map (·.1)).Nodup ∧
  (∀ x ∈ xs, TupOk K H x.2.1 (x.1.map kV)) ∧ TupOk K H ka (k.map kV) ∧ xs.length < sizeLine ∧ ∀ u, RelV v u → Q (upd H d (.ext (RawT P w d (storedH xs k ka u))))
theorem set_dict (hu : X.A.units + 1 < cLine) : PSet X (rSetT X.prog X.w X.K) := by
  intro pins s σ H o i v ov iv u Q I ro ri rv h
  obtain ⟨d, ka, k, xs, rfl, rfl, hd, hn, hk, tk, hz, q⟩ := h
  cases ro; cases ri
  have dd := dict_is I hd hn hk
  refine wpAny_setItem_heap (hsz := by omega) (tupleKind_room_in1 hu) (key_is I tk) dd fun h' hm' hs => ?_
  have he : ∃ q, h'.get? d = some q := let ⟨q, _, _, hq, _⟩ := hm'; ⟨q, hq⟩
  exact ⟨_, d_write I (by rw [hd]; exact True.intro) hs he (raw_ok hm'), q u rv⟩
theorem set_any (hu : X.A.units + 1 < cLine) : PSet X (fun o i v H Q => rSetL o i v H Q ∨ rSetT X.prog X.w X.K o i v H Q) := by
  intro pins s σ H o i v ov iv u Q I ro ri rv h
  rcases h with h | h
  · exact set_list pins s σ H o i v ov iv u Q I ro ri rv h
  · exact set_dict hu pins s σ H o i v ov iv u Q I ro ri rv h
end
section
variable {P : Program} {w : World} {K : PySem.W.Frag} {H : Hp}
theorem put_none {k : List Key} {u : Value} : ∀ {xs : List (List Key × Addr × Value)}, (∀ x ∈ xs, x.1 ≠ k) → xs.map (putAt k u) = xs
  | [], _ => rfl
  | x :: xs, h => by
    rw [List.map_cons, put_none fun y hy => h y (List.mem_cons_of_mem _ hy)]
    unfold putAt
    rw [if_neg (h x List.mem_cons_self)]
theorem put_rep {k : List Key} {u : Value} {d : D} {v : V} (rv : RelV v u) (r : Rep P w K H d v []) : ∀ {xs : List (List Key × Addr × Value)} {ds : List D} {vs : List V}, (xs.map (·.1)).Nodup → Vals vs (xs.map (·.2.2)) → RepI P w K H ds vs → memT k (xs.map (·.1)) = true →
    ∃ vs', Vals vs' ((xs.map (putAt k u)).map (·.2.2)) ∧ RepI P w K H (putT (xs.map (·.1)) ds k d) vs' := by
  intro xs
  induction xs with
  | nil => intro ds vs _ _ _ h; simp [memT] at h
  | cons x xs ih =>
    intro ds vs hn hv hr h
    rw [List.map_cons] at hn hv
    obtain ⟨n1, n2⟩ := List.nodup_cons.mp hn
    cases hv with
    | @cons v0 _ vs qs q qq =>
      cases hr with
      | @cons d0 _ ds _ z zs =>
        rw [List.map_cons, List.map_cons, List.map_cons, putT]
        by_cases e : x.1 = k
        · rw [if_pos e, put_none fun y hy q => n1 (List.mem_map.mpr ⟨y, hy, by rw [q, e]⟩)]
          refine ⟨v :: _, .cons ?_ qq, .cons r zs⟩
          unfold putAt
          rw [if_pos e]
          exact rv
        · rw [if_neg e]
          have h' : memT k (xs.map (·.1)) = true := by
            rw [List.map_cons, memT, List.any_cons, Bool.or_eq_true] at h
            rcases h with h | h
            · exact absurd (of_decide_eq_true h) e
            · exact h
          obtain ⟨vs', a1, a2⟩ := ih n2 qq zs h'
          refine ⟨v0 :: vs', .cons ?_ a1, .cons z a2⟩
          unfold putAt
          rw [if_neg e]
          exact q
theorem put_keys {k : List Key} {u : Value} {xs : List (List Key × Addr × Value)} : (xs.map (putAt k u)).map (·.1) = xs.map (·.1) := by
  rw [List.map_map]
  refine List.map_congr_left fun x _ => ?_
  show (putAt k u x).1 = x.1
  unfold putAt
  split <;> rfl
theorem put_addr {k : List Key} {u : Value} {xs : List (List Key × Addr × Value)} {y : List Key × Addr × Value} (h : y ∈ xs.map (putAt k u)) : ∃ x ∈ xs, y.1 = x.1 ∧ y.2.1 = x.2.1 := by
  obtain ⟨x, hx, rfl⟩ := List.mem_map.mp h
  refine ⟨x, hx, ?_⟩
  unfold putAt
  split <;> exact ⟨rfl, rfl⟩
theorem Vals.snoc {xs : List V} {us : List Value} {x : V} {u : Value} (h : Vals xs us) (r : RelV x u) : Vals (xs ++ [x]) (us ++ [u]) := Vals.append h (.cons r .nil)
/-- a dict with one more, or with another value -/
theorem rep_store {a ka : Addr} {ks : List (List Key)} {ds : List D} {xs : List (List Key × Addr × Value)} {vs : List V} {k : List Key} {d : D} {v : V} {u : Value} {H' : Hp} (hH : H' a = some (.ext (RawT P w a (storedH xs k ka u)))) (hk : ks = xs.map (·.1)) (hn : ks.Nodup) (hs : (a == sysModules) = false)
    (ht : ∀ x ∈ xs, TupOk K H' x.2.1 (x.1.map kV)) (tk : TupOk K H' ka (k.map kV)) (hv : Vals vs (xs.map (·.2.2))) (hz : xs.length < sizeLine) (r : RepI P w K H' ds vs) (rd : Rep P w K H' d v []) (rv : RelV v u) :
    Rep P w K H' (if memT k ks then .dT ks (putT ks ds k d) else .dT (ks ++ [k]) (ds ++ [d])) (.ref a) [a] := by
  subst hk
  by_cases hm : memT k (xs.map (·.1)) = true
  · rw [if_pos hm]
    have e : storedH xs k ka u = xs.map (putAt k u) := by
      unfold storedH
      rw [if_pos (by rw [← memT_at]; exact hm)]
    rw [e] at hH
    obtain ⟨vs', a1, a2⟩ := put_rep rv rd hn hv r hm
    refine .dT (F := []) hH put_keys.symm hn hs (fun y hy => ?_) a1 (by rw [List.length_map]; omega) (RepL.ofI a2)
    obtain ⟨x, hx, e1, e2⟩ := put_addr hy
    rw [e1, e2]
    exact ht x hx
  · rw [if_neg hm]
    have e : storedH xs k ka u = xs ++ [(k, ka, u)] := by
      unfold storedH
      rw [if_neg (by rw [← memT_at]; exact hm)]
    rw [e] at hH
    have hnk : k ∉ xs.map (·.1) := fun q => hm (by
      unfold memT
      rw [List.any_eq_true]
      exact ⟨k, q, decide_eq_true rfl⟩)
    refine .dT (F := []) (vs := vs ++ [v]) hH (by simp) (List.nodup_append.mpr ⟨hn, by simp, fun p hp q hq e => hnk (by rw [List.mem_singleton.mp hq] at e; rw [← e]; exact hp)⟩) hs (fun y hy => ?_) (by rw [List.map_append]; exact Vals.snoc hv rv) (by rw [List.length_append]; exact hz) (RepL.ofI (RepI.append r (.cons rd .nil)))
    rcases List.mem_append.mp hy with hy | hy
    · exact ht y hy
    · rw [List.mem_singleton.mp hy]
      exact tk
end
section
variable {X : Cx} {cf : Cf} {x y z a : Expr} {e e' e1 : E} {pos p apos : Pos} {n : Str}
theorem ss_setix {i : Nat} {q0 tpos : Pos} (hu : X.A.units + 1 < cLine) (hN : X.N[i]? = some n) (hv : Vis X.env.scope n) (h2 : SE X cf x e1) (h1 : SE X cf y e)
    (ha : ∀ v, assign (.Subscript (.Name n q0) x tpos) X.env v = (do
      let ov ← holding [v] (eval (.Name n q0) X.env)
      let iv ← holding [v, ov] (eval x X.env)
      standAt tpos
      holding [v, ov, iv] (setItem ov iv v)
      release [v, ov, iv] []) := by intro _; rfl)
    (hs : swapsWithSole [.Subscript (.Name n q0) x tpos] y pos.line X.env = pure false := by rfl) (hw : swappedStores [.Subscript (.Name n q0) x tpos] y X.env = pure none := by rfl) (hq : (assignEach [.Subscript (.Name n q0) x tpos] X.env).map (·.2) = [assign (.Subscript (.Name n q0) x tpos) X.env] := by rfl)
    (hd : (n == ("__debug__" : Str)) = false := by decide) (hcd : (n == ("__classdict__" : Str)) = false := by decide) : SS X cf (.Assign [.Subscript (.Name n q0) x tpos] y pos) (.setix i e1 e) :=
  PS.wk (ps_asg h1 (pg_sub (pe_var hN hv hd hcd) h2 (set_any hu) ha) hs hw hq) fun En σ H ⟨ρ, Φ, f, ρ', E, hev, h3⟩ => by
    rw [evS] at hev
    split at hev
    · rename_i d ρ1 k1
      split at hev
      · rename_i hm
        split at hev
        · rename_i xd ρ2 k2
          have hex : ∃ d0, eget ρ1 i = some d0 := by
            cases q : eget ρ1 i with
            | none => rw [q] at hm; cases hm
            | some d0 => exact ⟨d0, rfl⟩
          obtain ⟨d0, hd0⟩ := hex
          refine ⟨ρ, Φ, d, ρ1, E, k1, fun v H1 Φ1 G1 P1 R1 => ?_⟩
          obtain ⟨u0, s1, _⟩ := P1.env.rep i d0 hd0
          refine ⟨u0, s1, ρ1, Φ1, xd, ρ2, P1.env, k2, fun iv H2 Φ2 G2 P2 R2 => ?_⟩
          have P12 := P1.trans P2
          have R1' := R1.step P2 P1
          have fin : ∀ {dd : DL.D} {a0 : Addr} {o1 o2 : HO}, eget ρ2 i = some dd → σ[i]? = some (some (.ref a0)) → a0 ∈ Φ2 i → H2 a0 = some o1 → IsMut o1 → ∀ d2, Rep X.prog X.w X.K (upd H2 a0 o2) d2 (.ref a0) [a0] → f = .nx → ρ' = eset ρ2 i (some d2) → En.nx σ (upd H2 a0 o2) := by
            intro dd a0 o1 o2 g1 g2 g3 g4 g5 d2 g6 hf hr
            have PM := mutate (G := []) P12 g1 g2 g3 g4 g5 g6 (by simp) (fun b hb => .inl (by rw [List.mem_singleton.mp hb]; exact g3)) nofun nofun
            subst hf; subst hr
            exact h3 σ _ _ Off.refl PM
          split at hev
          · rename_i l g1
            split at hev
            · rename_i nn
              split at hev
              · rename_i j hj
                obtain ⟨hi, hev⟩ := ite_some hev
                rw [Bool.and_eq_true] at hi
                cases hev
                obtain ⟨u, q1, q2⟩ := P2.env.rep i _ g1
                rw [s1] at q1
                cases q1
                have r2 := R2.rep
                cases r2
                generalize hΦ : Φ2 i = Fi at q2
                cases q2 with
                | @lst ad vs _ F t1 t2 t3 =>
                  have rv := R1'.rep
                  rw [Rep.imm_nil hi.1 rv] at rv
                  refine .inl ⟨ad, vs, nn, j, rfl, rfl, t1, by rw [← t3.length]; exact hj, ?_⟩
                  have st := stays_upd (o2 := .lst (vs.set j v)) t1 trivial
                  have t3' := t3
                  rw [RepL.imm_nil hi.2 t3] at t3'
                  have r3 : RepL X.prog X.w X.K (upd H2 ad (.lst (vs.set j v))) (l.set j d) (vs.set j v) [] := RepL.set (t3'.stay st nofun) hi.2 (rv.stay st nofun)
                  exact fin g1 s1 (by rw [hΦ]; exact List.mem_cons_self) t1 trivial _ (.lst upd_same (by rw [List.length_set]; exact t2) r3) rfl rfl
              · cases hev
            · cases hev
          · rename_i ks ds g1
            split at hev
            · rename_i kk hkk
              have hev : (if d.imm && decide (ks.length < sizeLine) && D.imms ds then some (Fl.nx, eset ρ2 i (some (if memT kk ks then DL.D.dT ks (putT ks ds kk d) else .dT (ks ++ [kk]) (ds ++ [d])))) else none) = some (f, ρ') := by
                rw [← hev]
                by_cases hm : memT kk ks = true
                · simp only [hm, if_true]
                · simp only [hm, if_false]; rfl
              obtain ⟨hi, hev⟩ := ite_some hev
              rw [Bool.and_eq_true, Bool.and_eq_true] at hi
              cases hev
              obtain ⟨u, q1, q2⟩ := P2.env.rep i _ g1
              rw [s1] at q1
              cases q1
              obtain ⟨ka, rfl, tk⟩ := keyOf_rep R2.rep hkk
              generalize hΦ : Φ2 i = Fi at q2
              cases q2 with
              | @dT ad xs vs _ F _ t1 t0 t2 t3 t4 t5 t6 t7 =>
                have rv := R1'.rep
                rw [Rep.imm_nil hi.1.1 rv] at rv
                have hz : xs.length < sizeLine := by
                  have := of_decide_eq_true hi.1.2
                  rw [t0, List.length_map] at this
                  exact this
                refine .inr ⟨ad, ka, kk, xs, rfl, rfl, t1, by rw [← t0]; exact t2, t4, tk, hz, fun uu ru => ?_⟩
                have st := stays_upd (o2 := .ext (RawT X.prog X.w ad (storedH xs kk ka uu))) t1 trivial
                have t7' := t7
                rw [RepL.imm_nil hi.2 t7] at t7'
                exact fin g1 s1 (by rw [hΦ]; exact List.mem_cons_self) t1 trivial _ (rep_store upd_same t0 t2 t3 (fun x hx => (t4 x hx).stay st) (tk.stay st) t5 hz (RepL.toImm (X := X) (t7'.stay st nofun) hi.2) (rv.stay st nofun) ru) rfl rfl
            · cases hev
          · cases hev
        · cases hev
      · cases hev
    · cases hev
/-! ### new dicts -/
theorem se_dnew : SE X cf (.Dict [] [] pos) .dnew := by
  refine ⟨fun pins s σ H Q I ⟨ρ, Φ, d, ρ', E, hev, hq⟩ => ?_⟩
  rw [evE] at hev
  cases hev
  have hn := I.hok.fresh (Nat.le_refl s.heap.objs.size)
  have sm := same_new (o := .ext (RawT X.prog X.w s.heap.objs.size [])) hn
  have ok : ObjOk X.prog X.w (upd H s.heap.objs.size (.ext (RawT X.prog X.w s.heap.objs.size []))) (s.heap.push { cls := .type "dict", data := .dict #[] }) s.heap.objs.size (.ext (RawT X.prog X.w s.heap.objs.size [])) := raw_ok (Heap.DictOfH.new s.heap)
  refine wpAny_Dict_empty ⟨.ref s.heap.objs.size, _, I.laid (a := s.heap.objs.size) (t' := s.toks) (fun _ _ q => Heap.get?_push_of_some _ q) (Nat.le_refl _) ok, rfl, ?_⟩
  refine hq _ _ Φ [s.heap.objs.size] ((Post.refl E).same sm) ⟨.dT (F := []) upd_same rfl List.nodup_nil (beq_eq_false_iff_ne.mpr (Ne.symm (Nat.ne_of_lt I.big))) nofun .nil (Nat.zero_le _) .nil, by simp, fun a ha f => ?_, fun a ha => ?_⟩
  · rw [List.mem_singleton.mp ha] at f
    exact FP.some_ E f hn
  · rw [List.mem_singleton.mp ha]
    exact .inl hn
theorem se_done (hu : X.A.units < cLine) (h1 : SE X cf x e) (h2 : SE X cf y e') : SE X cf (.Dict [some x] [y] pos) (.done e e') := by
  refine ⟨fun pins s σ H Q I ⟨ρ, Φ, d, ρ', E, hev, hq⟩ => ?_⟩
  rw [evE] at hev
  split at hev
  · rename_i kd ρ1 k1
    split at hev
    · rename_i vd ρ2 k2
      split at hev
      · rename_i kk hkk
        obtain ⟨hi, hev⟩ := ite_some hev
        cases hev
        have hn := I.hok.fresh (Nat.le_refl s.heap.objs.size)
        generalize hd0 : s.heap.objs.size = d0 at *
        have sm := same_new (o := .ext (RawT X.prog X.w d0 [])) hn
        have ok : ObjOk X.prog X.w (upd H d0 (.ext (RawT X.prog X.w d0 []))) (s.heap.push { cls := .type "dict", data := .dict #[] }) d0 (.ext (RawT X.prog X.w d0 [])) := by subst hd0; exact raw_ok (Heap.DictOfH.new s.heap)
        have I1 := I.laid (a := d0) (h' := s.heap.push { cls := .type "dict", data := .dict #[] }) (t' := s.toks) (fun _ _ q => Heap.get?_push_of_some _ q) (by omega) ok
        rw [arm_eval_Dict, zip_pairTrees [some x] [y] X.env pos rfl rfl, dictDisplay_pairs _ (by unfold pairTrees; exact List.cons_ne_nil _ _) (by show (1 : Nat) < 17; decide)]
        refine wpAny_bind (wpAny_standAt (wpAny_bind (wpAny_subDictH (knd := tupleKind (mixKind X.prog X.w)) (Q := fun d s' => wpAny (model X.prog X.w) X.A (pure (Value.ref d)) _ X.xe s') hu (by show (1 : Nat) ≤ 15; decide) ?_)))
        rw [hd0]
        refine pairTrees_cons_walk (thn (h1.run pins _ σ _ (fun kv H1 => ∃ Φ1 G1, Post X.prog X.w X.K σ (upd H d0 (.ext (RawT X.prog X.w d0 []))) ρ Φ H1 ρ1 Φ1 ∧ Res X.prog X.w X.K (upd H d0 (.ext (RawT X.prog X.w d0 []))) ρ Φ H1 ρ1 Φ1 kd kv G1) I1 ⟨ρ, Φ, kd, ρ1, E.same sm, k1, fun v H1 Φ1 G P R => ⟨Φ1, G, P, R⟩⟩) fun u1 s2 ⟨kv, H1, I2, rk, Φ1, G1, P1, R1⟩ => ?_)
        refine thn (h2.run pins s2 σ H1 (fun vv H2 => ∃ Φ2 G2, Post X.prog X.w X.K σ H1 ρ1 Φ1 H2 _ Φ2 ∧ Res X.prog X.w X.K H1 ρ1 Φ1 H2 _ Φ2 vd vv G2) I2 ⟨ρ1, Φ1, vd, _, P1.env, k2, fun v H2 Φ2 G P R => ⟨Φ2, G, P, R⟩⟩) fun u2 s3 ⟨vv, H2, I3, rvv, Φ2, G2, P2, R2⟩ => ?_
        refine pairTrees_nil_walk ?_
        have P12 := P1.trans P2
        have R1' := R1.step P2 P1
        obtain ⟨ka, rfl, tk⟩ := keyOf_rep R1'.rep hkk
        cases rk
        have hnf : ¬ FP ρ Φ d0 := fun f => FP.some_ E f hn
        have hd2 : H2 d0 = some (.ext (RawT X.prog X.w d0 [])) := P12.keep d0 _ upd_same hnf
        have dd := dict_is I3 hd2 List.nodup_nil nofun
        refine ⟨[(kk, ka, u2)], ⟨rfl, rfl, key_is I3 tk, trivial⟩, dd, fun h' tkn hm' hs => wpAny_pure ?_⟩
        have he : ∃ q, h'.get? d0 = some q := let ⟨q, _, _, hq, _⟩ := hm'; ⟨q, hq⟩
        have hnf2 : ¬ FP ρ' Φ2 d0 := fun f => by
          rcases P12.new d0 f with z | z
          · rw [upd_same] at z; cases z
          · exact hnf z
        have st := stays_upd (o2 := .ext (RawT X.prog X.w d0 (storedAllH [] [(kk, ka, u2)]))) hd2 trivial
        have rv := R2.rep
        rw [Rep.imm_nil hi rv] at rv
        have P12' : Post X.prog X.w X.K σ H ρ Φ H2 ρ' Φ2 := ⟨P12.env, fun a o h n => P12.keep a o (sm a o h) n, fun a f => (P12.new a f).imp (fun z => by
          by_cases q : a = d0
          · rw [q]; exact hn
          · rw [upd_ne q] at z; exact z) id⟩
        have PU := P12'.upd_new (o2 := .ext (RawT X.prog X.w d0 (storedAllH [] [(kk, ka, u2)]))) hd2 trivial hnf2 (fun ⟨o, q, _⟩ => by rw [hn] at q; cases q)
        have hb : (d0 == sysModules) = false := by subst hd0; exact beq_eq_false_iff_ne.mpr (Ne.symm (Nat.ne_of_lt I.big))
        have rep := rep_store (P := X.prog) (w := X.w) (K := X.K) (a := d0) (ka := ka) (ks := []) (ds := []) (xs := []) (vs := []) (k := kk) (d := vd) (v := vv) (u := u2) (H' := upd H2 d0 (.ext (RawT X.prog X.w d0 (storedAllH [] [(kk, ka, u2)])))) upd_same rfl List.nodup_nil hb nofun (tk.stay st) .nil (by rw [sizeLine_eq]; decide) .nil (rv.stay st nofun) rvv
        refine ⟨.ref d0, _, d_write I3 (by rw [hd2]; exact True.intro) hs he (raw_ok hm'), rfl, hq _ _ Φ2 [d0] PU ⟨rep, by simp, fun a ha f => ?_, fun a ha => ?_⟩⟩
        · rw [List.mem_singleton.mp ha] at f
          exact hnf2 f
        · rw [List.mem_singleton.mp ha]
          exact .inl hn
      · cases hev
    · cases hev
  · cases hev
end
end DL
set_option maxHeartbeats 1000000
/-! D22: a zip whose last pair is still held; list(zip(a, b)). -/
namespace DL
open PySem PySem.Spec PyProof.Rows L2
abbrev ZOut (h : Heap) (z TI TO a : Addr) (f : Bool) : Prop := h.get? z = some { cls := .type "zip", dict := none, data := .fields #[rawInt (a : Nat), .bool f, .bool false, .ref TI, .ref TO], slots := #[] }
section
variable {prog : Program} {w : World} {A : Around} {E : Value → Shared → Prop} {s : Shared} {z TI TO i1 i2 a : Addr} {fp1 fp2 : List Addr} {n1 n2 i : Nat} {P1 P2 : Nat → Value → Prop} {St1 St2 : Nat → Heap → Prop} {oa : Obj} {f : Bool}
theorem zip_out_item {Q : Value → Shared → Prop} (S : ZipSep2 z TI TO i1 i2 fp1 fp2) (D1 : Draws prog w A i1 fp1 n1 P1 St1) (D2 : Draws prog w A i2 fp2 n2 P2 St2)
    (hz : ZOut s.heap z TI TO a f) (ha : s.heap.get? a = some oa) (haz : a ≠ z) (hTI : IsTupOf2 s.heap TI (.ref i1) (.ref i2)) (st1 : St1 i s.heap) (st2 : St2 i s.heap) (hlt1 : i < n1) (hlt2 : i < n2)
    (hQ : ∀ x1 x2 h' tk, P1 i x1 → P2 i x2 → ZOut h' z TI TO a true → St1 (i + 1) h' → St2 (i + 1) h' → IsTupOf2 h' s.heap.objs.size x1 x2 → h'.objs.size = s.heap.objs.size + 1 →
      (∀ c o, c ≠ z → c ≠ i1 → c ≠ i2 → s.heap.get? c = some o → h'.get? c = some o) → Q (.ref s.heap.objs.size) { s with heap := h', toks := tk }) :
    wpAny (model prog w) A (Builtin.«zip.__next__» ⟨[.ref z], []⟩) (fun fin s' => ∃ v, fin = .done (.ret v) ∧ Q v s') E s := by
  obtain ⟨hp, g, d, tk0, os⟩ := s
  show wpAny _ _ (field (.ref z) 2 >>= _) _ _ _
  refine wpAny_bind (wpAny_field hz rfl (x := .bool false) rfl ?_)
  show wpAny _ _ (field (.ref z) 3 >>= _) _ _ _
  refine wpAny_bind (wpAny_field hz rfl (x := .ref TI) rfl ?_)
  refine wpAny_bind (wpAny_seqItems hTI rfl ?_)
  show wpAny _ _ (Builtin.SmallTypes.ownedTupleIsFree (.ref z) >>= _) _ _ _
  refine wpAny_bind ?_
  unfold Builtin.SmallTypes.ownedTupleIsFree
  refine wpAny_bind (wpAny_field hz rfl (x := rawInt (a : Nat)) rfl ?_)
  show wpAny _ _ (loadIfAlive ((a : Int).toNat) >>= _) _ _ _
  rw [Int.toNat_natCast]
  refine wpAny_bind (PySem.W.kdx_alive ha ?_)
  simp only [Option.isNone_some, Bool.false_eq_true, if_false]
  refine wpAny_bind (wpAny_field hz rfl (x := .bool f) rfl ?_)
  cases f with
  | true =>
    rw [if_neg (show ¬ ((Value.bool true != Value.bool true) = true) from Bool.false_ne_true)]
    refine wpAny_pure ?_
    have hz0 : ZOut hp z TI TO a true := hz
    have hs0 : Heap.SameBut z hp hp := Heap.SameBut.refl _ _
    simp only [Bool.false_eq_true, if_false]
    simp only [← Array.forIn_toList, List.forIn_cons, List.forIn_nil]
    refine wpAny_bind (wpAny_bind (wpAny_bind (wpAny_holding ?_)))
    show wpAny _ _ (Builtin.SmallTypes.nextOf (.ref i1) >>= _) _ _ ⟨hp, g, d, tk0, os⟩
    refine wpAny_bind (D1.item i _ _ _ hlt1 (D1.over st1 hs0 S.zf1) fun x1 p1 tk1 hx1 sn1 hp1 => wpAny_pure (wpAny_pure ?_))
    replace hp1 : Heap.SameBut i1 hp p1 := hp1
    refine wpAny_bind (wpAny_bind (wpAny_holding ?_))
    show wpAny _ _ (Builtin.SmallTypes.nextOf (.ref i2) >>= _) _ _ ⟨p1, g, d, tk1, os⟩
    refine wpAny_bind (D2.item i _ _ _ hlt2 (D2.over (D2.over st2 hs0 S.zf2) hp1 S.sep1_2) fun x2 p2 tk2 hx2 sn2 hp2 => wpAny_pure (wpAny_pure (wpAny_pure ?_)))
    replace hp2 : Heap.SameBut i2 p1 p2 := hp2
    refine wpAny_bind (wpAny_newTuple (hsz := (by show (2 : Nat) ≤ sizeLine; rw [sizeLine_eq]; decide)) ?_)
    have hsz : p2.objs.size = hp.objs.size := by rw [hp2.1, hp1.1, hs0.1]
    have hzz : ZOut p2 z TI TO a true := hp2.extBut _ _ S.zi2 (hp1.extBut _ _ S.zi1 hz0)
    have kp : ∀ c o, c ≠ z → c ≠ i1 → c ≠ i2 → hp.get? c = some o → p2.get? c = some o := fun c o cz c1 c2 e => hp2.extBut _ _ c2 (hp1.extBut _ _ c1 (hs0.extBut _ _ cz e))
    have up : ∀ c o, p2.get? c = some o → (p2.push { cls := .type "tuple", data := .seq #[x1, x2] }).get? c = some o := fun c o e => Heap.get?_push_of_some _ e
    refine wpAny_pure ⟨_, rfl, ?_⟩
    show Q (.ref p2.objs.size) ⟨p2.push { cls := .type "tuple", data := .seq #[x1, x2] }, g, d, tk2, os⟩
    rw [hsz]
    exact hQ x1 x2 _ tk2 hx1 hx2 (up _ _ hzz) (D1.frame _ _ _ (D1.over sn1 hp2 S.sep2_1) fun b hb o e => up b o e) (D2.frame _ _ _ sn2 fun b hb o e => up b o e) (by show (p2.push _).get? hp.objs.size = _; rw [← hsz]; exact Heap.get?_push_size _ rfl) (by show (p2.push _).objs.size = _; rw [Heap.size_push, hsz]) fun c o cz c1 c2 e => up c o (kp c o cz c1 c2 e)
  | false =>
    rw [if_pos (show (Value.bool false != Value.bool true) = true from rfl)]
    refine wpAny_bind (wpAny_setField_rec hz (by simp) fun g0 hz0 hs0 => wpAny_pure ?_)
    replace hz0 : ZOut g0 z TI TO a true := hz0
    replace hs0 : Heap.SameBut z hp g0 := hs0
    simp only [Bool.false_eq_true, if_false]
    simp only [← Array.forIn_toList, List.forIn_cons, List.forIn_nil]
    refine wpAny_bind (wpAny_bind (wpAny_bind (wpAny_holding ?_)))
    show wpAny _ _ (Builtin.SmallTypes.nextOf (.ref i1) >>= _) _ _ ⟨g0, g, d, tk0, os⟩
    refine wpAny_bind (D1.item i _ _ _ hlt1 (D1.over st1 hs0 S.zf1) fun x1 p1 tk1 hx1 sn1 hp1 => wpAny_pure (wpAny_pure ?_))
    replace hp1 : Heap.SameBut i1 g0 p1 := hp1
    refine wpAny_bind (wpAny_bind (wpAny_holding ?_))
    show wpAny _ _ (Builtin.SmallTypes.nextOf (.ref i2) >>= _) _ _ ⟨p1, g, d, tk1, os⟩
    refine wpAny_bind (D2.item i _ _ _ hlt2 (D2.over (D2.over st2 hs0 S.zf2) hp1 S.sep1_2) fun x2 p2 tk2 hx2 sn2 hp2 => wpAny_pure (wpAny_pure (wpAny_pure ?_)))
    replace hp2 : Heap.SameBut i2 p1 p2 := hp2
    refine wpAny_bind (wpAny_newTuple (hsz := (by show (2 : Nat) ≤ sizeLine; rw [sizeLine_eq]; decide)) ?_)
    have hsz : p2.objs.size = hp.objs.size := by rw [hp2.1, hp1.1, hs0.1]
    have hzz : ZOut p2 z TI TO a true := hp2.extBut _ _ S.zi2 (hp1.extBut _ _ S.zi1 hz0)
    have kp : ∀ c o, c ≠ z → c ≠ i1 → c ≠ i2 → hp.get? c = some o → p2.get? c = some o := fun c o cz c1 c2 e => hp2.extBut _ _ c2 (hp1.extBut _ _ c1 (hs0.extBut _ _ cz e))
    have up : ∀ c o, p2.get? c = some o → (p2.push { cls := .type "tuple", data := .seq #[x1, x2] }).get? c = some o := fun c o e => Heap.get?_push_of_some _ e
    refine wpAny_pure ⟨_, rfl, ?_⟩
    show Q (.ref p2.objs.size) ⟨p2.push { cls := .type "tuple", data := .seq #[x1, x2] }, g, d, tk2, os⟩
    rw [hsz]
    exact hQ x1 x2 _ tk2 hx1 hx2 (up _ _ hzz) (D1.frame _ _ _ (D1.over sn1 hp2 S.sep2_1) fun b hb o e => up b o e) (D2.frame _ _ _ sn2 fun b hb o e => up b o e) (by show (p2.push _).get? hp.objs.size = _; rw [← hsz]; exact Heap.get?_push_size _ rfl) (by show (p2.push _).objs.size = _; rw [Heap.size_push, hsz]) fun c o cz c1 c2 e => up c o (kp c o cz c1 c2 e)

theorem zip_out_end {Q : Fin → Shared → Prop} (S : ZipSep2 z TI TO i1 i2 fp1 fp2) (D1 : Draws prog w A i1 fp1 n1 P1 St1) (D2 : Draws prog w A i2 fp2 n2 P2 St2)
    (hz : ZOut s.heap z TI TO a f) (ha : s.heap.get? a = some oa) (haz : a ≠ z) (hTI : IsTupOf2 s.heap TI (.ref i1) (.ref i2)) (st1 : St1 i s.heap) (st2 : St2 i s.heap) (hle1 : i ≤ n1) (hle2 : i ≤ n2) (hend : i = n1 ∨ i = n2)
    (hE : ∀ h' tk e, (∀ c o, c ≠ z → c ≠ i1 → c ≠ i2 → s.heap.get? c = some o → h'.get? c = some o) → (∃ o, h'.get? e = some o ∧ o.cls = .type "StopIteration") → E (.ref e) { s with heap := h', toks := tk }) :
    wpAny (model prog w) A (Builtin.«zip.__next__» ⟨[.ref z], []⟩) Q E s := by
  obtain ⟨hp, g, d, tk0, os⟩ := s
  show wpAny _ _ (field (.ref z) 2 >>= _) _ _ _
  refine wpAny_bind (wpAny_field hz rfl (x := .bool false) rfl ?_)
  show wpAny _ _ (field (.ref z) 3 >>= _) _ _ _
  refine wpAny_bind (wpAny_field hz rfl (x := .ref TI) rfl ?_)
  refine wpAny_bind (wpAny_seqItems hTI rfl ?_)
  show wpAny _ _ (Builtin.SmallTypes.ownedTupleIsFree (.ref z) >>= _) _ _ _
  refine wpAny_bind ?_
  unfold Builtin.SmallTypes.ownedTupleIsFree
  refine wpAny_bind (wpAny_field hz rfl (x := rawInt (a : Nat)) rfl ?_)
  show wpAny _ _ (loadIfAlive ((a : Int).toNat) >>= _) _ _ _
  rw [Int.toNat_natCast]
  refine wpAny_bind (PySem.W.kdx_alive ha ?_)
  simp only [Option.isNone_some, Bool.false_eq_true, if_false]
  refine wpAny_bind (wpAny_field hz rfl (x := .bool f) rfl ?_)
  cases f with
  | true =>
    rw [if_neg (show ¬ ((Value.bool true != Value.bool true) = true) from Bool.false_ne_true)]
    refine wpAny_pure ?_
    have hs0 : Heap.SameBut z hp hp := Heap.SameBut.refl _ _
    simp only [Bool.false_eq_true, if_false]
    simp only [← Array.forIn_toList, List.forIn_cons, List.forIn_nil]
    refine wpAny_bind (wpAny_bind (wpAny_bind (wpAny_holding ?_)))
    show wpAny _ _ (Builtin.SmallTypes.nextOf (.ref i1) >>= _) _ _ ⟨hp, g, d, tk0, os⟩
    by_cases hlt1 : i < n1
    · refine wpAny_bind (D1.item i _ _ _ hlt1 (D1.over st1 hs0 S.zf1) fun x1 p1 tk1 hx1 sn1 hp1 => wpAny_pure (wpAny_pure ?_))
      replace hp1 : Heap.SameBut i1 hp p1 := hp1
      have hi2 : i = n2 := by omega
      refine wpAny_bind (wpAny_bind (wpAny_holding ?_))
      show wpAny _ _ (Builtin.SmallTypes.nextOf (.ref i2) >>= _) _ _ ⟨p1, g, d, tk1, os⟩
      refine wpAny_bind (D2.done ⟨p1, g, d, tk1, os⟩ _ _ (by rw [← hi2]; exact D2.over (D2.over st2 hs0 S.zf2) hp1 S.sep1_2) fun q e hq he => ?_)
      replace hq : Heap.ExtBut i2 p1 q := hq
      exact hE q tk1 e (fun c o cz c1 c2 x => hq _ _ c2 (hp1.extBut _ _ c1 (hs0.extBut _ _ cz x))) he
    · have hi1 : i = n1 := by omega
      refine wpAny_bind (D1.done ⟨hp, g, d, tk0, os⟩ _ _ (by rw [← hi1]; exact D1.over st1 hs0 S.zf1) fun q e hq he => ?_)
      replace hq : Heap.ExtBut i1 hp q := hq
      exact hE q tk0 e (fun c o cz c1 c2 x => hq _ _ c1 (hs0.extBut _ _ cz x)) he
  | false =>
    rw [if_pos (show (Value.bool false != Value.bool true) = true from rfl)]
    refine wpAny_bind (wpAny_setField_rec hz (by simp) fun g0 hz0 hs0 => wpAny_pure ?_)
    replace hs0 : Heap.SameBut z hp g0 := hs0
    simp only [Bool.false_eq_true, if_false]
    simp only [← Array.forIn_toList, List.forIn_cons, List.forIn_nil]
    refine wpAny_bind (wpAny_bind (wpAny_bind (wpAny_holding ?_)))
    show wpAny _ _ (Builtin.SmallTypes.nextOf (.ref i1) >>= _) _ _ ⟨g0, g, d, tk0, os⟩
    by_cases hlt1 : i < n1
    · refine wpAny_bind (D1.item i _ _ _ hlt1 (D1.over st1 hs0 S.zf1) fun x1 p1 tk1 hx1 sn1 hp1 => wpAny_pure (wpAny_pure ?_))
      replace hp1 : Heap.SameBut i1 g0 p1 := hp1
      have hi2 : i = n2 := by omega
      refine wpAny_bind (wpAny_bind (wpAny_holding ?_))
      show wpAny _ _ (Builtin.SmallTypes.nextOf (.ref i2) >>= _) _ _ ⟨p1, g, d, tk1, os⟩
      refine wpAny_bind (D2.done ⟨p1, g, d, tk1, os⟩ _ _ (by rw [← hi2]; exact D2.over (D2.over st2 hs0 S.zf2) hp1 S.sep1_2) fun q e hq he => ?_)
      replace hq : Heap.ExtBut i2 p1 q := hq
      exact hE q tk1 e (fun c o cz c1 c2 x => hq _ _ c2 (hp1.extBut _ _ c1 (hs0.extBut _ _ cz x))) he
    · have hi1 : i = n1 := by omega
      refine wpAny_bind (D1.done ⟨g0, g, d, tk0, os⟩ _ _ (by rw [← hi1]; exact D1.over st1 hs0 S.zf1) fun q e hq he => ?_)
      replace hq : Heap.ExtBut i1 g0 q := hq
      exact hE q tk0 e (fun c o cz c1 c2 x => hq _ _ c1 (hs0.extBut _ _ cz x)) he

/-! ### the zip while it is walked, its pairs held by a list at L -/
structure ZSt (z TI TO i1 i2 L : Addr) (St1 St2 : Nat → Heap → Prop) (i : Nat) (h : Heap) : Prop where
  ti : IsTupOf2 h TI (.ref i1) (.ref i2)
  s1 : St1 i h
  s2 : St2 i h
  zz : (IsZip h z TI TO .none ∧ ∃ a1 a2, IsTupOf2 h TO a1 a2) ∨ ∃ a f oa, ZOut h z TI TO a f ∧ h.get? a = some oa ∧ a ≠ z ∧ a ≠ i1 ∧ a ≠ i2 ∧ a ≠ L
theorem ZSt.keep (S : ZipSep2 z TI TO i1 i2 fp1 fp2) (D1 : Draws prog w A i1 fp1 n1 P1 St1) (D2 : Draws prog w A i2 fp2 n2 P2 St2) {L : Addr} {h h' : Heap} (x : ZSt z TI TO i1 i2 L St1 St2 i h) (k : ∀ c o, c ≠ L → h.get? c = some o → h'.get? c = some o) (hL : L ≠ z ∧ L ≠ TI ∧ L ≠ TO ∧ L ∉ fp1 ∧ L ∉ fp2) : ZSt z TI TO i1 i2 L St1 St2 i h' := by
  obtain ⟨h1, h2, h3, h4, h5⟩ := hL
  refine ⟨k _ _ h2.symm x.ti, D1.frame _ _ _ x.s1 fun b hb o e => k b o (fun q => h4 (q ▸ hb)) e, D2.frame _ _ _ x.s2 fun b hb o e => k b o (fun q => h5 (q ▸ hb)) e, ?_⟩
  rcases x.zz with ⟨q1, a1, a2, q2⟩ | ⟨a, f, oa, q1, q2, q3, q4, q5, q6⟩
  · exact .inl ⟨k _ _ h1.symm q1, a1, a2, k _ _ h3.symm q2⟩
  · exact .inr ⟨a, f, oa, k _ _ h1.symm q1, k _ _ q6 q2, q3, q4, q5, q6⟩
theorem zs_item {Q : Option Value → Shared → Prop} (S : ZipSep2 z TI TO i1 i2 fp1 fp2) (D1 : Draws prog w A.in1 i1 fp1 n1 P1 St1) (D2 : Draws prog w A.in1 i2 fp2 n2 P2 St2) {L : Addr} (hLs : L < s.heap.objs.size)
    (x : ZSt z TI TO i1 i2 L St1 St2 i s.heap) (hlt1 : i < n1) (hlt2 : i < n2)
    (hQ : ∀ x1 x2 h' tk, P1 i x1 → P2 i x2 → ZSt z TI TO i1 i2 L St1 St2 (i + 1) h' → IsTupOf2 h' s.heap.objs.size x1 x2 → h'.objs.size = s.heap.objs.size + 1 →
      (∀ c o, c ≠ z → c ≠ TO → c ≠ i1 → c ≠ i2 → s.heap.get? c = some o → h'.get? c = some o) → Q (some (.ref s.heap.objs.size)) { s with heap := h', toks := tk }) :
    wpAny (model prog w) A (pyNext (.ref z)) Q E s := by
  have lz : z < s.heap.objs.size := by
    rcases x.zz with ⟨q, _⟩ | ⟨a, f, oa, q, _⟩
    · exact Heap.lt_size q
    · exact Heap.lt_size q
  obtain ⟨_, l1⟩ := D1.live _ _ x.s1
  obtain ⟨_, l2⟩ := D2.live _ _ x.s2
  have m1 := Heap.lt_size l1
  have m2 := Heap.lt_size l2
  rcases x.zz with ⟨q1, a1, a2, q2⟩ | ⟨a, f, oa, q1, q2, q3, q4, q5, q6⟩
  · refine wpAny_pyNext_zipD2_item S D1 D2 q1 x.ti q2 x.s1 x.s2 hlt1 hlt2 fun x1 x2 h' tk p1 p2 c1 c2 c3 c4 c5 c6 c7 => ?_
    exact hQ x1 x2 h' tk p1 p2 ⟨c7 _ _ S.TIz S.TITO S.TIi1 S.TIi2 x.ti, c3, c4, .inr ⟨_, false, _, c1, c5, Nat.ne_of_gt lz, Nat.ne_of_gt m1, Nat.ne_of_gt m2, Nat.ne_of_gt hLs⟩⟩ c5 c6 c7
  · have hT : s.TypeIs (.ref z) "zip" := ⟨_, q1, rfl⟩
    unfold pyNext
    refine wpAny_bind (wpAny_attempt (wpAny_callSpecial?_slot (name := Str.ofString "__next__") hT PySem.F.slot_zip_next
      (wpAny_call_entry PySem.F.slot_zip_next hT PySem.F.entry_zip_next
        (zip_out_item S D1 D2 q1 q2 q3 x.ti x.s1 x.s2 hlt1 hlt2 fun x1 x2 h' tk p1 p2 c1 c2 c3 c4 c5 c6 => wpAny_pure ?_) (PySem.F.args_zip_next_1 _))))
    exact hQ x1 x2 h' tk p1 p2 ⟨c6 _ _ S.TIz S.TIi1 S.TIi2 x.ti, c2, c3, .inr ⟨a, true, oa, c1, c6 _ _ q3 q4 q5 q2, q3, q4, q5, q6⟩⟩ c4 c5 fun c o e1 _ e3 e4 e5 => c6 c o e1 e3 e4 e5
theorem zs_done {Q : Option Value → Shared → Prop} (S : ZipSep2 z TI TO i1 i2 fp1 fp2) (D1 : Draws prog w A.in1 i1 fp1 n1 P1 St1) (D2 : Draws prog w A.in1 i2 fp2 n2 P2 St2) {L : Addr}
    (x : ZSt z TI TO i1 i2 L St1 St2 i s.heap) (hle1 : i ≤ n1) (hle2 : i ≤ n2) (hend : i = n1 ∨ i = n2)
    (hQ : ∀ h' tk, (∀ c o, c ≠ z → c ≠ TO → c ≠ i1 → c ≠ i2 → s.heap.get? c = some o → h'.get? c = some o) → Q none { s with heap := h', toks := tk }) :
    wpAny (model prog w) A (pyNext (.ref z)) Q E s := by
  rcases x.zz with ⟨q1, a1, a2, q2⟩ | ⟨a, f, oa, q1, q2, q3, q4, q5, q6⟩
  · exact wpAny_pyNext_zipD2_end S D1 D2 q1 x.ti q2 x.s1 x.s2 hle1 hle2 hend hQ
  · have hT : s.TypeIs (.ref z) "zip" := ⟨_, q1, rfl⟩
    unfold pyNext
    refine wpAny_bind (wpAny_attempt (wpAny_callSpecial?_slot (name := Str.ofString "__next__") hT PySem.F.slot_zip_next
      (wpAny_call_entry PySem.F.slot_zip_next hT PySem.F.entry_zip_next (zip_out_end S D1 D2 q1 q2 q3 x.ti x.s1 x.s2 hle1 hle2 hend fun h' tk e hk he => ?_) (PySem.F.args_zip_next_1 _))))
    obtain ⟨o, ho, hc⟩ := he
    refine wpAny_bind (wpAny_isInstance (T := "StopIteration") (b := true) ⟨o, ho, hc⟩ isSubtype_stop ?_)
    exact wpAny_pure (hQ _ _ fun c o e1 _ e3 e4 e5 => hk c o e1 e3 e4 e5)
/-! ### list(zip(..)) -/
theorem zip_no_len : typeLookup (.type "zip") "__len__" = pure none := by rw [typeLookup_type, builtinLookup_eq_fast]; kernel_rfl
theorem zip_no_hint : typeLookup (.type "zip") "__length_hint__" = pure none := by rw [typeLookup_type, builtinLookup_eq_fast]; kernel_rfl
structure LzG (P1 P2 : Nat → Value → Prop) (lo : Addr) (h : Heap) (as : List Addr) : Prop where
  above : ∀ a ∈ as, lo < a
  pairs : ∀ (j : Nat) (a : Addr), as[j]? = some a → ∃ x1 x2, P1 j x1 ∧ P2 j x2 ∧ IsTupOf2 h a x1 x2
theorem LzG.there {lo : Addr} {h : Heap} {as : List Addr} (g : LzG P1 P2 lo h as) {a : Addr} (ha : a ∈ as) : a < h.objs.size := by
  obtain ⟨j, hj⟩ := List.mem_iff_getElem?.mp ha
  obtain ⟨_, _, _, _, e⟩ := g.pairs j a hj
  exact Heap.lt_size e
theorem LzG.keep {lo : Addr} {h h' : Heap} {as : List Addr} (g : LzG P1 P2 lo h as) (k : ∀ c o, lo < c → h.get? c = some o → h'.get? c = some o) : LzG P1 P2 lo h' as :=
  ⟨g.above, fun j a hj => let ⟨x1, x2, p1, p2, e⟩ := g.pairs j a hj; ⟨x1, x2, p1, p2, k a _ (g.above a (List.mem_of_getElem? hj)) e⟩⟩
/-- what the loop begins with -/
structure LzIn (z TI TO i1 i2 L : Addr) (fp1 fp2 : List Addr) : Prop where
  z : z < L
  o : TO < L
  i1 : i1 < L
  i2 : i2 < L
  ti : TI < L
  f1 : L ∉ fp1
  f2 : L ∉ fp2
theorem LzIn.apart {L : Addr} (a : LzIn z TI TO i1 i2 L fp1 fp2) : L ≠ z ∧ L ≠ TI ∧ L ≠ TO ∧ L ∉ fp1 ∧ L ∉ fp2 := ⟨Nat.ne_of_gt a.z, Nat.ne_of_gt a.ti, Nat.ne_of_gt a.o, a.f1, a.f2⟩
variable {R : Result → Shared → Prop} {L : Addr} {n : Nat}
theorem lz_loop (S : ZipSep2 z TI TO i1 i2 fp1 fp2) (D1 : Draws prog w A.in1.in1 i1 fp1 n1 P1 St1) (D2 : Draws prog w A.in1.in1 i2 fp2 n2 P2 St2) (hn : n = min n1 n2) (hz : n ≤ sizeLine) (a : LzIn z TI TO i1 i2 L fp1 fp2) (res : Value) {h₁ : Heap}
    (hR : ∀ h' tk acc c as, (∀ b o, b ≠ L → b ≠ z → b ≠ TO → b ≠ i1 → b ≠ i2 → h₁.get? b = some o → h'.get? b = some o) → h'.get? L = some { cls := .type "list", dict := none, data := .seq acc c, slots := #[] } → as.length = n → LzG P1 P2 L h' as →
      acc.toList = as.map Value.ref → R (.ok (.ret res)) { s with heap := h', toks := tk }) :
    ∀ (k i : Nat) (h : Heap) (tk c : Nat) (acc : Array Value) (as : List Addr), n - i = k → i ≤ n → ZSt z TI TO i1 i2 L St1 St2 i h → (∀ b o, b ≠ L → b ≠ z → b ≠ TO → b ≠ i1 → b ≠ i2 → h₁.get? b = some o → h.get? b = some o) →
      h.get? L = some { cls := .type "list", dict := none, data := .seq acc c, slots := #[] } → acc.toList = as.map Value.ref → as.length = i → LzG P1 P2 L h as →
      codeAny (model prog w) A (.builtin "list.extend.loop" ⟨[.ref L, .ref z, res], []⟩) R { s with heap := h, toks := tk } := by
  intro k
  induction k with
  | zero =>
    intro i h tk c acc as hk hi hst hkeep hS hacc hal hG
    have hin : i = n := by omega
    refine codeAny_builtin PySem.F.entry_extend_loop ?_
    rw [Around.under_plainId PySem.F.plain_extend_loop _]
    show wpAny _ A.in1 (pyNext (.ref z) >>= _) _ _ _
    refine wpAny_bind (zs_done (s := { s with heap := h, toks := tk }) (A := A.in1) S D1 D2 hst (by omega) (by omega) (by omega) fun h' tk' kp => ?_)
    dsimp only at kp
    exact wpAny_pure (hR h' tk' acc c as (fun b o e0 e1 e2 e3 e4 e => kp b o e1 e2 e3 e4 (hkeep b o e0 e1 e2 e3 e4 e)) (kp L _ (Nat.ne_of_gt a.z) (Nat.ne_of_gt a.o) (Nat.ne_of_gt a.i1) (Nat.ne_of_gt a.i2) hS) (by omega)
      (hG.keep fun c o hc e => kp c o (Nat.ne_of_gt (Nat.lt_trans a.z hc)) (Nat.ne_of_gt (Nat.lt_trans a.o hc)) (Nat.ne_of_gt (Nat.lt_trans a.i1 hc)) (Nat.ne_of_gt (Nat.lt_trans a.i2 hc)) e) hacc)
  | succ k ih =>
    intro i h tk c acc as hk hi hst hkeep hS hacc hal hG
    have hlt : i < n := by omega
    have hsz : acc.size = i := by rw [← Array.length_toList, hacc, List.length_map, hal]
    refine codeAny_builtin PySem.F.entry_extend_loop ?_
    rw [Around.under_plainId PySem.F.plain_extend_loop _]
    show wpAny _ A.in1 (pyNext (.ref z) >>= _) _ _ _
    refine wpAny_bind (zs_item (s := { s with heap := h, toks := tk }) (A := A.in1) S D1 D2 (Heap.lt_size hS) hst (by omega) (by omega) fun x1 x2 h' tk' p1 p2 hst' ht hz' kp => ?_)
    dsimp only at ht hz' kp ⊢
    have hS' := kp L _ (Nat.ne_of_gt a.z) (Nat.ne_of_gt a.o) (Nat.ne_of_gt a.i1) (Nat.ne_of_gt a.i2) hS
    have up : ∀ b o, b ≠ L → h'.get? b = some o → (h'.update L (Obj.mapSeq (·.push (Value.ref h.objs.size)))).get? b = some o := fun b o hb e => (Heap.get?_update_other _ _ (Ne.symm hb)).trans e
    have hSl : L < h.objs.size := Heap.lt_size hS
    show wpAny _ A.in1 (updateSeq L (·.push (Value.ref h.objs.size)) >>= _) _ _ _
    refine wpAny_bind ?_
    have hG' := hG.keep (h' := h'.update L (Obj.mapSeq (·.push (Value.ref h.objs.size)))) fun c o hc e => up c o (Nat.ne_of_gt hc) (kp c o (Nat.ne_of_gt (Nat.lt_trans a.z hc)) (Nat.ne_of_gt (Nat.lt_trans a.o hc)) (Nat.ne_of_gt (Nat.lt_trans a.i1 hc)) (Nat.ne_of_gt (Nat.lt_trans a.i2 hc)) e)
    refine wpAny_updateSeq hS' rfl (wpAny_pure ⟨plainId_quiet PySem.F.plain_extend_loop _, ih (i + 1) _ tk' _ (acc.push (Value.ref h.objs.size)) (as ++ [h.objs.size]) (by omega) hlt (hst'.keep S D1 D2 up a.apart)
      (fun b o e0 e1 e2 e3 e4 e => up b o e0 (kp b o e1 e2 e3 e4 (hkeep b o e0 e1 e2 e3 e4 e))) (Heap.get?_update_self _ hS' rfl) (by rw [Array.toList_push, hacc, List.map_append]; rfl) (by rw [List.length_append, hal]; rfl) ⟨?_, ?_⟩⟩) (by rw [hsz]; omega) (by show (acc.push (Value.ref h.objs.size)).size ≤ sizeLine + 1; rw [Array.size_push, hsz]; omega)
    · intro b hb
      rcases List.mem_append.mp hb with hb | hb
      · exact hG.above b hb
      · rw [List.mem_singleton.mp hb]; exact hSl
    · intro j b hj
      rcases Nat.lt_trichotomy j as.length with h1 | h1 | h1
      · rw [List.getElem?_append_left h1] at hj
        exact hG'.pairs j b hj
      · subst h1
        have hb : h.objs.size = b := by simpa using hj
        subst hb
        exact ⟨x1, x2, by rw [hal]; exact p1, by rw [hal]; exact p2, up _ _ (Nat.ne_of_gt hSl) ht⟩
      · have hnone : (as ++ [h.objs.size])[j]? = none := List.getElem?_eq_none (by rw [List.length_append, List.length_singleton]; omega)
        rw [hnone] at hj; cases hj
theorem lz_extend (S : ZipSep2 z TI TO i1 i2 fp1 fp2) (D1 : Draws prog w A.in1.in1 i1 fp1 n1 P1 St1) (D2 : Draws prog w A.in1.in1 i2 fp2 n2 P2 St2) (hn : n = min n1 n2) (hz : n ≤ sizeLine) (a : LzIn z TI TO i1 i2 L fp1 fp2) (res : Value) (c₀ : Nat)
    (hst : ZSt z TI TO i1 i2 L St1 St2 0 s.heap) (hzz : IsZip s.heap z TI TO .none) (hS : s.heap.get? L = some { cls := .type "list", data := .seq #[] c₀ })
    (hR : ∀ h' tk acc c as, (∀ b o, b ≠ L → b ≠ z → b ≠ TO → b ≠ i1 → b ≠ i2 → s.heap.get? b = some o → h'.get? b = some o) → h'.get? L = some { cls := .type "list", dict := none, data := .seq acc c, slots := #[] } → as.length = n → LzG P1 P2 L h' as →
      acc.toList = as.map Value.ref → R (.ok (.ret res)) { s with heap := h', toks := tk }) :
    wpAny (model prog w) A.in1 (Builtin.List.listExtendWith (.ref L) (.ref z) res)
      (fun fin s' => match fin with | .done f => R (.ok f) s' | .again c' => c'.quiet = true ∧ codeAny (model prog w) A c' R s') (fun e s' => R (.error e) s') s := by
  have hT : s.TypeIs (.ref z) "zip" := ⟨_, hzz, rfl⟩
  have key : ∀ (h : Heap) (c₁ tk : Nat), (∀ b o, b ≠ L → s.heap.get? b = some o → h.get? b = some o) → h.get? L = some { cls := .type "list", data := .seq #[] c₁ } →
      codeAny (model prog w) A (.builtin "list.extend.loop" ⟨[.ref L, .ref z, res], []⟩) R { s with heap := h, toks := tk } := by
    intro h c₁ tk hk hS₁
    exact lz_loop (s := s) (h₁ := s.heap) S D1 D2 hn hz a res hR n 0 h tk c₁ #[] [] (Nat.sub_zero _) (Nat.zero_le _) (hst.keep S D1 D2 hk a.apart) (fun b o e0 _ _ _ _ e => hk b o e0 e) hS₁ rfl rfl ⟨nofun, fun j a hj => by simp at hj⟩
  unfold Builtin.List.listExtendWith
  refine wpAny_bind (wpAny_typeOf hT ?_)
  have h1 : Builtin.List.listSameRef (.ref L) (.ref z) = false := by simp [Builtin.List.listSameRef, Nat.ne_of_gt a.z]
  have h2 : (Value.type "zip" == Value.type "list") = false := by decide
  have h3 : (Value.type "zip" == Value.type "tuple") = false := by decide
  simp only [h1, h2, h3, Bool.or_false, Bool.false_eq_true, if_false]
  refine wpAny_bind (wpAny_pyIter_zip hzz ?_)
  refine wpAny_bind (wpAny_holding ?_)
  unfold Builtin.List.listLengthHint
  refine wpAny_bind (wpAny_specialOf hT zip_no_len ?_)
  show wpAny _ A.in1 (specialOf (Value.ref z) (Str.ofString "__length_hint__") >>= _) _ _ _
  refine wpAny_bind (wpAny_specialOf hT zip_no_hint ?_)
  refine wpAny_pure ?_
  refine wpAny_ite_split (fun _ => ?_) (fun _ => wpAny_pure ⟨plainId_quiet PySem.F.plain_extend_loop _, key _ c₀ _ (fun b o _ e => e) hS⟩)
  refine wpAny_bind (wpAny_rule ?_)
  refine wpAny_bind ?_
  show wpAny _ _ (updateSeq L (·.push .none) >>= fun _ => updateSeq L (·.pop)) _ _ _
  refine wpAny_bind (wpAny_updateSeq hS rfl ?_)
  have hS₂ := Heap.get?_update_self (Obj.mapSeq (·.push Value.none)) hS rfl
  refine wpAny_updateSeq (hz := by seq_fits) hS₂ rfl ?_
  have hS₃ := Heap.get?_update_self (Obj.mapSeq (·.pop)) hS₂ rfl
  refine wpAny_pure ⟨plainId_quiet PySem.F.plain_extend_loop _, key _ _ _ (fun b o hb e => ?_) hS₃⟩
  exact (Heap.get?_update_other _ _ (Ne.symm hb)).trans ((Heap.get?_update_other _ _ (Ne.symm hb)).trans e)
theorem lz_init (S : ZipSep2 z TI TO i1 i2 fp1 fp2) (D1 : Draws prog w A.in1.in1 i1 fp1 n1 P1 St1) (D2 : Draws prog w A.in1.in1 i2 fp2 n2 P2 St2) (hn : n = min n1 n2) (hz : n ≤ sizeLine) (a : LzIn z TI TO i1 i2 L fp1 fp2)
    (hst : ZSt z TI TO i1 i2 L St1 St2 0 s.heap) (hzz : IsZip s.heap z TI TO .none) (hS : s.heap.get? L = some { cls := .type "list", data := .seq #[] })
    (hR : ∀ h' tk acc c as, (∀ b o, b ≠ L → b ≠ z → b ≠ TO → b ≠ i1 → b ≠ i2 → s.heap.get? b = some o → h'.get? b = some o) → h'.get? L = some { cls := .type "list", dict := none, data := .seq acc c, slots := #[] } → as.length = n → LzG P1 P2 L h' as →
      acc.toList = as.map Value.ref → R (.ok (.ret .none)) { s with heap := h', toks := tk }) :
    wpAny (model prog w) A.in1 (Builtin.«list.__init__» ⟨[.ref L, .ref z], []⟩)
      (fun fin s' => match fin with | .done f => R (.ok f) s' | .again c' => c'.quiet = true ∧ codeAny (model prog w) A c' R s') (fun e s' => R (.error e) s') s := by
  show wpAny _ _ (do let old ← Builtin.List.listItems (.ref L); Builtin.List.listUpdate (.ref L) (fun _ => #[]); letGo old.toList.reverse; Builtin.List.listExtendWith (.ref L) (.ref z) .none) _ _ s
  refine wpAny_bind ?_
  unfold Builtin.List.listItems
  refine wpAny_bind (wpAny_seqItems hS rfl (wpAny_pure ?_))
  show wpAny _ _ (updateSeq L (fun _ => #[]) >>= fun _ => letGo (#[] : Array Value).toList.reverse >>= fun _ => Builtin.List.listExtendWith (.ref L) (.ref z) .none) _ _ s
  refine wpAny_bind (wpAny_updateSeq hS rfl ?_)
  have hS₂ := Heap.get?_update_self (Obj.mapSeq (fun _ => (#[] : Array Value))) hS rfl
  have oth : ∀ b o, b ≠ L → s.heap.get? b = some o → (s.heap.update L (Obj.mapSeq (fun _ => (#[] : Array Value)))).get? b = some o :=
    fun b o hb e => (Heap.get?_update_other _ _ (Ne.symm hb)).trans e
  refine wpAny_bind (wpAny_letGo ?_)
  refine lz_extend S D1 D2 hn hz a .none _ (hst.keep S D1 D2 oth a.apart) (oth _ _ (Nat.ne_of_lt a.z) hzz) hS₂ (fun h' tk acc c as hk hS' hl hG hacc => ?_)
  exact hR h' tk acc c as (fun b o hb e1 e2 e3 e4 e => hk b o hb e1 e2 e3 e4 (oth b o hb e)) hS' hl hG hacc
/-- list of a zip object that stands fresh -/
theorem lz_call {Q : Value → Shared → Prop} (S : ZipSep2 z TI TO i1 i2 fp1 fp2) (D1 : Draws prog w A.in1.in1.in1 i1 fp1 n1 P1 St1) (D2 : Draws prog w A.in1.in1.in1 i2 fp2 n2 P2 St2) (hn : n = min n1 n2) (hz : n ≤ sizeLine) (a : LzIn z TI TO i1 i2 s.heap.objs.size fp1 fp2)
    (hst : ZSt z TI TO i1 i2 s.heap.objs.size St1 St2 0 s.heap) (hzz : IsZip s.heap z TI TO .none)
    (hQ : ∀ h' tk acc c as, (∀ b o, b ≠ z → b ≠ TO → b ≠ i1 → b ≠ i2 → s.heap.get? b = some o → h'.get? b = some o) → h'.get? s.heap.objs.size = some { cls := .type "list", dict := none, data := .seq acc c, slots := #[] } → as.length = n → LzG P1 P2 s.heap.objs.size h' as →
      acc.toList = as.map Value.ref → Q (.ref s.heap.objs.size) { s with heap := h', toks := tk }) :
    wpAny (model prog w) A (call (.type "list") [.ref z]) Q E s := by
  refine callType_codes (Q₁ := fun obj s₁ => obj = .ref s.heap.objs.size ∧ s₁ = { s with heap := s.heap.push { cls := .type "list", data := .seq #[] } }) PySem.F.called_list (PySem.F.typeCall_list_1 _) PySem.F.entry_list_init
    (code_list_new _ ⟨rfl, rfl⟩) fun obj s₁ h₁ => ?_
  obtain ⟨rfl, rfl⟩ := h₁
  have hS : (s.heap.push { cls := .type "list", data := .seq #[] }).get? s.heap.objs.size = some { cls := .type "list", data := .seq #[] } := Heap.get?_push_size _ rfl
  refine ⟨⟨_, hS, rfl⟩, PySem.F.args_list_init_2 _ _, lz_init (A := A.in1) S D1 D2 hn hz a (hst.keep S D1 D2 (fun c o _ e => Heap.get?_push_of_some _ e) a.apart) (Heap.get?_push_of_some _ hzz) hS (fun h' tk acc c as hk hS' hl hG hacc => ?_)⟩
  exact ⟨rfl, hQ h' tk acc c as (fun b o e1 e2 e3 e4 e => hk b o (Nat.ne_of_lt (Heap.lt_size e)) e1 e2 e3 e4 (Heap.get?_push_of_some _ e)) hS' hl hG hacc⟩
end
end DL
set_option maxHeartbeats 1000000
/-! D23: dict(list(zip(a, b))), list(range(..)). -/
namespace DL
open PySem PySem.Spec PyProof.Rows L2
section
variable {P : Program} {w : World} {K : PySem.W.Frag} {H H' : Hp}
/-- a table: its entries, its keys and values -/
structure TabOk (P : Program) (w : World) (K : PySem.W.Frag) (H : Hp) (xs : List (List Key × Addr × Value)) (ks : List (List Key)) (ds : List D) : Prop where
  keys : ks = xs.map (·.1)
  nod : ks.Nodup
  tup : ∀ x ∈ xs, TupOk K H x.2.1 (x.1.map kV)
  vals : ∃ vs, Vals vs (xs.map (·.2.2)) ∧ RepI P w K H ds vs
theorem TabOk.store {xs : List (List Key × Addr × Value)} {ks : List (List Key)} {ds : List D} {k : List Key} {ka : Addr} {d : D} {v : V} {u : Value} (t : TabOk P w K H xs ks ds) (tk : TupOk K H ka (k.map kV)) (rd : Rep P w K H d v []) (rv : RelV v u) :
    TabOk P w K H (storedH xs k ka u) (if memT k ks then ks else ks ++ [k]) (if memT k ks then putT ks ds k d else ds ++ [d]) := by
  obtain ⟨rfl, hn, ht, vs, hv, r⟩ := t
  by_cases hm : memT k (xs.map (·.1)) = true
  · rw [if_pos hm, if_pos hm]
    have e : storedH xs k ka u = xs.map (putAt k u) := by
      unfold storedH
      rw [if_pos (by rw [← memT_at]; exact hm)]
    rw [e]
    refine ⟨put_keys.symm, hn, fun y hy => ?_, put_rep rv rd hn hv r hm⟩
    obtain ⟨x, hx, e1, e2⟩ := put_addr hy
    rw [e1, e2]
    exact ht x hx
  · rw [if_neg hm, if_neg hm]
    have e : storedH xs k ka u = xs ++ [(k, ka, u)] := by
      unfold storedH
      rw [if_neg (by rw [← memT_at]; exact hm)]
    rw [e]
    have hnk : k ∉ xs.map (·.1) := fun q => hm (by
      unfold memT
      rw [List.any_eq_true]
      exact ⟨k, q, decide_eq_true rfl⟩)
    refine ⟨by simp, List.nodup_append.mpr ⟨hn, by simp, fun p hp q hq e => hnk (by rw [List.mem_singleton.mp hq] at e; rw [← e]; exact hp)⟩, fun y hy => ?_, vs ++ [v], by rw [List.map_append]; exact Vals.snoc hv rv, RepI.append r (.cons rd .nil)⟩
    rcases List.mem_append.mp hy with hy | hy
    · exact ht y hy
    · rw [List.mem_singleton.mp hy]
      exact tk
abbrev RowOk (P : Program) (w : World) (K : PySem.W.Frag) (H : Hp) (p : List Key × D) (q : List Key × Addr × Value) : Prop := p.1 = q.1 ∧ TupOk K H q.2.1 (q.1.map kV) ∧ ∃ v, RelV v q.2.2 ∧ Rep P w K H p.2 v []
theorem TabOk.build {r : List (List Key × D)} {ps : List (List Key × Addr × Value)} (h : Paired (RowOk P w K H) r ps) : ∀ {xs : List (List Key × Addr × Value)} {ks : List (List Key)} {ds : List D}, TabOk P w K H xs ks ds → ∃ ks' ds', buildT r ks ds = .dT ks' ds' ∧ TabOk P w K H (storedAllH xs ps) ks' ds' := by
  induction h with
  | nil => exact fun t => ⟨_, _, rfl, t⟩
  | @cons p q r ps hpq _ ih =>
    intro xs ks ds t
    obtain ⟨k, d⟩ := p
    obtain ⟨e1, tk, v, rv, rd⟩ := hpq
    simp only at e1 rd
    subst e1
    have t' := t.store tk rd rv
    rw [buildT]
    by_cases hm : memT q.1 ks = true
    · rw [if_pos hm] at t' ⊢
      rw [if_pos hm] at t'
      exact ih t'
    · rw [if_neg hm] at t' ⊢
      rw [if_neg hm] at t'
      exact ih t'
theorem TabOk.stay {xs : List (List Key × Addr × Value)} {ks : List (List Key)} {ds : List D} (t : TabOk P w K H xs ks ds) (s : Stays H H') : TabOk P w K H' xs ks ds :=
  ⟨t.keys, t.nod, fun x hx => (t.tup x hx).stay s, let ⟨vs, q1, q2⟩ := t.vals; ⟨vs, q1, Paired.mapP q2 fun _ _ r => r.stay s nofun⟩⟩
theorem keyOf_rep' {d : D} {v : V} {F : List Addr} {k : List Key} (r : Rep P w K H d v F) (e : keyOf d = some k) : ∃ a, v = .ref a ∧ TupOk K H a (k.map kV) := by
  cases r with
  | tup h1 _ h3 =>
    have := keysOf_rep h3 e
    subst this
    exact ⟨_, rfl, h1⟩
  | _ => cases e
/-- the rows of two sequences that run along -/
theorem zip_rows : ∀ {l m : List D} {vs us : List V} {i1 i2 : List Value} {r : List (List Key × D)}, zipKV l m = some r → RepI P w K H l vs → RepI P w K H m us → Vals vs i1 → Vals us i2 →
    ∃ ps : List (List Key × Addr × Value), Paired (RowOk P w K H) r ps ∧ ps.length = min i1.length i2.length ∧ ∀ (j : Nat) p, ps[j]? = some p → i1[j]? = some (Value.ref p.2.1) ∧ i2[j]? = some p.2.2
  | [], m, _, _, _, _, r, h, r1, r2, v1, v2 => by
    cases r1; cases v1
    have : r = [] := by cases m <;> (rw [zipKV] at h; cases h; rfl; try (intros; simp_all))
    subst this
    exact ⟨[], .nil, by simp, fun j p h => by simp at h⟩
  | a :: l, [], _, _, _, _, r, h, r1, r2, v1, v2 => by
    cases r2; cases v2
    have : r = [] := by rw [zipKV] at h; cases h; rfl; intros; simp_all
    subst this
    exact ⟨[], .nil, by simp, fun j p h => by simp at h⟩
  | a :: l, b :: m, _, _, _, _, r, h, .cons q1 r1, .cons q2 r2, .cons w1 v1, .cons w2 v2 => by
    rw [zipKV] at h
    split at h
    · rename_i k r' h1 h2
      cases h
      obtain ⟨ps, p1, p2, p3⟩ := zip_rows h2 r1 r2 v1 v2
      obtain ⟨ka, rfl, tk⟩ := keyOf_rep' q1 h1
      cases w1
      refine ⟨(k, ka, _) :: ps, .cons ⟨rfl, tk, _, w2, q2⟩ p1, by simp only [List.length_cons, p2]; omega, fun j p hj => ?_⟩
      cases j with
      | zero => cases hj; exact ⟨rfl, rfl⟩
      | succ j => exact p3 j p hj
    · cases h
end
section
variable {X : Cx} {cf : Cf} {x y : Expr} {e e' : E} {pos p p2 p3 q2 q3 : Pos}
/-- what zip walks: a list or a tuple -/
theorem seq_draw {pins : List (Addr × Obj)} {σ : L2.St} {H : Hp} {s : Shared} {a : Addr} {vs : List V} (I : Inv X pins σ H s) (h : SqL X.K H a vs ∨ SqT X.K H a vs) : ∃ (its : List Value) (o : Obj) (Hq : Heap → Prop), Vals vs its ∧ a < s.heap.objs.size ∧ Begins (.ref a) o Hq ∧ Hq s.heap ∧
    ∀ (A : Around), A.handled = none → ∀ it, a ≠ it → ∃ St, Draws X.prog X.w A it [it, a] its.toArray.size (fun i v => its.toArray[i]? = some v) St ∧ ∀ h', h'.get? it = some o → Hq h' → St 0 h' := by
  rcases h with h | h
  · obtain ⟨its, r, pl, _⟩ := I.list h
    refine ⟨its, _, _, r, pl.lt, begins_list a its.toArray, pl.isList, fun A hh it hne => ⟨_, Draws.list hh it a hne its.toArray, fun h' g q => ⟨⟨_, g, rfl, rfl⟩, q⟩⟩⟩
  · obtain ⟨its, r, pl, _⟩ := I.tuple h
    have pl' : s.heap.IsTuple a its.toArray := pl
    refine ⟨its, _, _, r, pl.lt, begins_tuple a its.toArray, pl', fun A hh it hne => ⟨_, Draws.tuple hh it a hne its.toArray, fun h' g q => ⟨⟨_, g, rfl, rfl⟩, q⟩⟩⟩
theorem mem_right {α β : Type} {R : α → β → Prop} {l : List α} {m : List β} (h : Paired R l m) : ∀ b ∈ m, ∃ a ∈ l, R a b := by
  induction h with
  | nil => exact nofun
  | cons r t ih =>
    intro b hb
    rcases List.mem_cons.mp hb with rfl | hb
    · exact ⟨_, List.mem_cons_self, r⟩
    · obtain ⟨a, ha, q⟩ := ih b hb
      exact ⟨a, List.mem_cons_of_mem _ ha, q⟩
theorem nmem2 {c p q : Nat} (h1 : c ≠ p) (h2 : c ≠ q) : (c : Addr) ∉ ([p, q] : List Addr) := fun h => by
  rcases List.mem_cons.mp h with h | h
  · exact h1 h
  · exact h2 (List.mem_singleton.mp h)
theorem zsep {n a b : Nat} (ha : a < n) (hb : b < n) : ZipSep2 (n + 4) (n + 2) (n + 3) n (n + 1) [n, a] [n + 1, b] where
  TIz := Nat.ne_of_lt (by omega)
  TOz := Nat.ne_of_lt (by omega)
  TITO := Nat.ne_of_lt (by omega)
  TIi1 := Nat.ne_of_gt (by omega)
  mem1 := List.mem_cons_self
  zf1 := nmem2 (by omega) (by omega)
  Tf1 := nmem2 (by omega) (by omega)
  TIi2 := Nat.ne_of_gt (by omega)
  mem2 := List.mem_cons_self
  zf2 := nmem2 (by omega) (by omega)
  Tf2 := nmem2 (by omega) (by omega)
  sep1_2 := nmem2 (by omega) (by omega)
  sep2_1 := nmem2 (by omega) (by omega)
theorem lzin {n a b L : Nat} (hL : L = n + 5) (ha : a < n) (hb : b < n) : LzIn (n + 4) (n + 2) (n + 3) n (n + 1) L [n, a] [n + 1, b] where
  z := show (n + 4 : Nat) < L by omega
  o := show (n + 3 : Nat) < L by omega
  i1 := show (n : Nat) < L by omega
  i2 := show (n + 1 : Nat) < L by omega
  ti := show (n + 2 : Nat) < L by omega
  f1 := nmem2 (by omega) (by omega)
  f2 := nmem2 (by omega) (by omega)
theorem se_dictZip (hu : X.A.in1.in1.units < cLine) (hc : X.calm = true) (B1 : Blt X "dict" (.type "dict")) (B2 : Blt X "list" (.type "list")) (B3 : Blt X "zip" (.type "zip")) (h1 : SO X cf x e) (h2 : SO X cf y e')
    (hs : starEach [x, y] X.env = (false, eval x X.env) :: starEach [y] X.env := by rfl) (hs2 : starEach [y] X.env = (false, eval y X.env) :: starEach [] X.env := by rfl) (hpl : (backTo q3 (starEach [y] X.env)).any (·.1) = false := by rfl)
    (na : starEach [.Call (.Name "list" p2) [.Call (.Name "zip" p3) [x, y] [] q3] [] q2] X.env = (false, eval (.Call (.Name "list" p2) [.Call (.Name "zip" p3) [x, y] [] q3] [] q2) X.env) :: starEach [] X.env := by rfl)
    (nb : starEach [.Call (.Name "zip" p3) [x, y] [] q3] X.env = (false, eval (.Call (.Name "zip" p3) [x, y] [] q3) X.env) :: starEach [] X.env := by rfl) :
    SE X cf (.Call (.Name "dict" p) [.Call (.Name "list" p2) [.Call (.Name "zip" p3) [x, y] [] q3] [] q2] [] pos) (.prim .dictZip [e, e']) := by
  refine se_p2 ⟨fun pins s σ H Q I h => ?_⟩
  have hh := I.ok.hd hc
  refine Call_ (ld_blt I B1.gl B1.mg B1.bt (PyProof.Rows.callWith_type1 (args_cons (Call_ (ld_blt I B2.gl B2.mg B2.bt (PyProof.Rows.callWith_type1 (args_cons (Call_ (ld_blt I B3.gl B3.mg B3.bt (PyProof.Rows.callWith_type1
    (thn ((pa_cons h1 (pa_cons h2 pa_nil hs2) hs).run q3 pins s σ H (fun vs H2 => ∃ v u, vs = [v, u] ∧ PrimQ X .dictZip [v, u] H2 Q) I (tO_mono _ _ (fun v H1 q => tO_mono _ _ (fun u H2 q2 => ⟨v, u, rfl, q2⟩) q) h)) fun us s1 ⟨vs, H2, I2, rvs, v, u, ev, pq⟩ => ?_) hs hpl) B3.n0 B3.nd)) nb) nb) B2.n0 B2.nd)) na) na) B1.n0 B1.nd)
  subst ev
  obtain ⟨u1, u2, rfl, rr1, rr2⟩ := vals2 rvs
  obtain ⟨a0, b0, d, F, G, ra, rb, hd, hq⟩ := pq2 pq
  change dictZipD a0 b0 = some d at hd
  unfold dictZipD at hd
  split at hd
  · rename_i l m hl hm
    split at hd
    · rename_i him
      obtain ⟨r, hz, rfl⟩ := Option.map_eq_some_iff.mp hd
      obtain ⟨a, vs, _, rfl, rl, hzl, _, k1⟩ := Rep.seq ra hl
      obtain ⟨b, us, _, rfl, rm, hzm, _, k2⟩ := Rep.seq rb hm
      cases rr1; cases rr2
      obtain ⟨its1, o1, Hq1, v1, lt1, Bg1, hq1, mk1⟩ := seq_draw I2 (sq_or k1)
      obtain ⟨its2, o2, Hq2, v2, lt2, Bg2, hq2, mk2⟩ := seq_draw I2 (sq_or k2)
      rw [Bool.and_eq_true] at him
      obtain ⟨ps, rows, plen, pat⟩ := zip_rows hz (rl.toImm him.1) (rm.toImm him.2) v1 v2
      have z1l : its1.length ≤ sizeLine := by rw [← v1.length, ← rl.length]; exact hzl
      refine zip_begins2 Bg1 Bg2 hq1 hq2 fun h' hzz hTI hTO g1 g2 hsz hk => args_nil ?_
      generalize hn0 : s1.heap.objs.size = n0 at *
      have z4 : a ≠ n0 := Nat.ne_of_lt lt1
      have z5 : b ≠ n0 + 1 := Nat.ne_of_lt (Nat.lt_succ_of_lt lt2)
      obtain ⟨St1, D1, b1⟩ := mk1 X.A.in1.in1.in1 hh n0 z4
      obtain ⟨St2, D2, b2⟩ := mk2 X.A.in1.in1.in1 hh (n0 + 1) z5
      have SS : ZipSep2 (n0 + 4) (n0 + 2) (n0 + 3) n0 (n0 + 1) [n0, a] [n0 + 1, b] := zsep lt1 lt2
      have st1 : St1 0 h' := b1 h' g1 (Bg1.keeps _ _ hq1 hk)
      have st2 : St2 0 h' := b2 h' g2 (Bg2.keeps _ _ hq2 hk)
      have hZ : ZSt (n0 + 4) (n0 + 2) (n0 + 3) n0 (n0 + 1) h'.objs.size St1 St2 0 h' := ⟨hTI, st1, st2, .inl ⟨hzz, _, _, hTO⟩⟩
      have hLz : LzIn (n0 + 4) (n0 + 2) (n0 + 3) n0 (n0 + 1) h'.objs.size [n0, a] [n0 + 1, b] := lzin hsz lt1 lt2
      refine lz_call (s := { s1 with heap := h' }) SS D1 D2 (n := ps.length) (by rw [plen]; simp) (by rw [plen]; omega) hLz hZ hzz fun h2 tk acc c as hk2 hL hal hG hacc => args_nil ?_
      dsimp only at hk2 hL hG ⊢
      have hk12 : ∀ c o, s1.heap.get? c = some o → h2.get? c = some o := fun c o e => by
        have hc' : c < n0 := by rw [← hn0]; exact Heap.lt_size e
        exact hk2 c o (Nat.ne_of_lt (Nat.lt_of_lt_of_le hc' (Nat.le_add_right _ _))) (Nat.ne_of_lt (Nat.lt_of_lt_of_le hc' (Nat.le_add_right _ _))) (Nat.ne_of_lt hc') (Nat.ne_of_lt (Nat.lt_of_lt_of_le hc' (Nat.le_add_right _ _))) (hk c o e)
      have I3 : Inv X pins σ H2 { s1 with heap := h2, toks := tk } := I2.kept hk12
      generalize hLL : h'.objs.size = L at *
      let psV : List (Value × Value) := ps.map fun p => (Value.ref p.2.1, p.2.2)
      have hpv : psV.length = ps.length := List.length_map _
      let Ts : Nat → Addr := fun j => as.getD j 0
      have psat : ∀ {j : Nat} {k v : Value}, psV[j]? = some (k, v) → ∃ p, ps[j]? = some p ∧ k = .ref p.2.1 ∧ v = p.2.2 := fun {j k v} e => by
        rw [List.getElem?_map] at e
        obtain ⟨p, q1, q2⟩ := Option.map_eq_some_iff.mp e
        cases q2
        exact ⟨p, q1, rfl, rfl⟩
      have ok : PlainSeq "list" h2 L acc ∧ PairItems h2 acc Ts psV := by
        refine ⟨⟨_, c, hL, rfl, rfl, rfl⟩, by rw [hpv, ← Array.length_toList, hacc, List.length_map, hal], fun j k v e => ?_⟩
        obtain ⟨p, q1, rfl, rfl⟩ := psat e
        have hj : j < as.length := by rw [hal]; exact (List.getElem?_eq_some_iff.mp q1).1
        have haj : as[j]? = some as[j] := List.getElem?_eq_getElem hj
        have hT : Ts j = as[j] := by show as.getD j 0 = _; rw [List.getD_eq_getElem?_getD, haj]; rfl
        refine ⟨by rw [← Array.getElem?_toList, hacc, List.getElem?_map, haj, hT]; rfl, ?_⟩
        obtain ⟨x1, x2, w1, w2, w3⟩ := hG.pairs j _ haj
        obtain ⟨w4, w5⟩ := pat j p q1
        rw [List.getElem?_toArray] at w1 w2
        rw [w4] at w1
        rw [w5] at w2
        cases w1; cases w2
        rw [hT]
        exact .inl ⟨_, w3, rfl, _, rfl⟩
      have isk : ∀ q ∈ ps, (tupleKind (mixKind X.prog X.w)).is h2 q.1 q.2.1 := fun q hq' => by
        obtain ⟨pr, _, hr⟩ := mem_right rows q hq'
        exact key_is I3 hr.2.1
      refine call_dict_pairsH (s := { s1 with heap := h2, toks := tk }) (knd := tupleKind (mixKind X.prog X.w)) (ps := ps) (PairArg.list L acc Ts psV) hh hu ok ⟨hpv.symm, fun i key v e => ?_⟩ (fun h3 kk q hq' => ?_) (by rw [hpv, plen]; omega) fun h3 tk3 hm hk3 => ?_
      · obtain ⟨p, q1, rfl, rfl⟩ := psat e
        exact ⟨p.1, p.2.1, q1, rfl⟩
      · exact tupleKind_stays.stays (fun b o vs n e _ => kk b o (Nat.ne_of_lt (Heap.lt_size e)) nofun e) (isk q hq')
      · have I4 := I3.laid (a := h2.objs.size) (h' := h3) (t' := tk3) (o := .ext (RawT X.prog X.w h2.objs.size (storedAllH [] ps))) (fun b o e => hk3 b o nofun e) (Nat.le_refl _) (raw_ok hm)
        have hn : H2 h2.objs.size = none := I3.hok.fresh (Nat.le_refl _)
        obtain ⟨ks', ds', eb, tb⟩ := TabOk.build rows (xs := []) (ks := []) (ds := []) ⟨rfl, List.nodup_nil, nofun, [], .nil, .nil⟩
        rw [eb] at hq
        have sm := same_new (o := .ext (RawT X.prog X.w h2.objs.size (storedAllH [] ps))) hn
        have tb' := tb.stay (Same.stays sm)
        obtain ⟨vs', w1, w2⟩ := tb'.vals
        have hlen : (storedAllH [] ps).length ≤ sizeLine := by
          have := storedAllH_length ps ([] : List (List Key × Addr × Value))
          simp only [List.length_nil] at this
          omega
        exact ⟨.ref h2.objs.size, _, I4, rfl, hq _ _ [h2.objs.size] sm (.dT (F := []) upd_same tb'.keys tb'.nod (beq_eq_false_iff_ne.mpr (Ne.symm (Nat.ne_of_lt I3.big))) tb'.tup w1 hlen (RepL.ofI w2)) (fun z hz => by rw [List.mem_singleton.mp hz]; exact hn) (by simp)⟩
    · cases hd
  · cases hd
/-! ### list(range(..)) -/
theorem paired_map {α β γ : Type} {R : β → γ → Prop} {f : α → β} {g : α → γ} (h : ∀ a, R (f a) (g a)) : ∀ l : List α, Paired R (l.map f) (l.map g)
  | [] => .nil
  | a :: l => .cons (h a) (paired_map h l)
theorem rgV_rep {P : Program} {w : World} {K : PySem.W.Frag} {H : Hp} (a b : Int) : RepI P w K H ((List.range (b - a).toNat).map fun i : Nat => D.int (a + (i : Int))) (rgV a b) := paired_map (R := fun (d : D) (v : V) => Rep P w K H d v []) (f := fun i : Nat => D.int (a + (i : Int))) (g := fun i : Nat => V.int (a + (i : Nat))) (fun i => Rep.int _) _
theorem rangeD_len {a b : Int} {l : List D} (h : rangeD a b = some l) : RgOk a b ∧ l = (List.range (b - a).toNat).map fun i : Nat => D.int (a + (i : Int)) := by
  have h2 := h
  unfold rangeD at h2
  obtain ⟨h1, h3⟩ := ite_some h2
  simp only [Bool.and_eq_true, decide_eq_true_eq] at h1
  exact ⟨⟨h1.1.1.1.2, h1.1.1.2, h1.1.2, h1.2, by have := h1.1.1.1.1; omega⟩, h3.symm⟩
theorem list_new {a b : Int} {l : List D} {H : Hp} {Q : VK} (h : rangeD a b = some l) (hq : NewQ X H (.lst l) Q) : RgOk a b ∧ ∀ q, H q = none → Q (.ref q) (upd H q (.lst (rgV a b))) := by
  obtain ⟨h1, rfl⟩ := rangeD_len h
  refine ⟨h1, hq.lst (rgV_rep a b) ?_⟩
  rw [List.length_map, List.length_range, sizeLine_eq]
  have := h1.2.2.2.2
  omega
theorem se_rangeL1 (hc : X.calm = true) (B1 : Blt X "list" (.type "list")) (B2 : Blt X "range" (.type "range")) (h1 : SO X cf x e) (hs : starEach [x] X.env = (false, eval x X.env) :: starEach [] X.env := by rfl) (na : starEach [.Call (.Name "range" p2) [x] [] q2] X.env = (false, eval (.Call (.Name "range" p2) [x] [] q2) X.env) :: starEach [] X.env := by rfl) :
    SE X cf (.Call (.Name "list" p) [.Call (.Name "range" p2) [x] [] q2] [] pos) (.prim (.rangeL 1) [e]) := se_p1 (f := PQ1 X (.rangeL 1)) (PE.wk (pe_listRg hc B1.gl B1.mg (prg_1 B2.gl B2.mg h1 hs) na) fun σ H Q h => tO_mono _ _ (fun v H1 q => by
    obtain ⟨a, d, F, r, hd, hq⟩ := pq1 q
    change rangeL1 a = some d at hd
    unfold rangeL1 at hd
    split at hd
    · obtain ⟨l, h3, rfl⟩ := Option.map_eq_some_iff.mp hd
      cases r
      exact ⟨_, rfl, list_new h3 hq⟩
    · cases hd) h)
theorem se_rangeL2 (hc : X.calm = true) (B1 : Blt X "list" (.type "list")) (B2 : Blt X "range" (.type "range")) (h1 : SO X cf x e) (h2 : SO X cf y e') (hs : starEach [x, y] X.env = (false, eval x X.env) :: starEach [y] X.env := by rfl) (hs2 : starEach [y] X.env = (false, eval y X.env) :: starEach [] X.env := by rfl) (hp : (backTo q2 (starEach [y] X.env)).any (·.1) = false := by rfl) (na : starEach [.Call (.Name "range" p2) [x, y] [] q2] X.env = (false, eval (.Call (.Name "range" p2) [x, y] [] q2) X.env) :: starEach [] X.env := by rfl) :
    SE X cf (.Call (.Name "list" p) [.Call (.Name "range" p2) [x, y] [] q2] [] pos) (.prim (.rangeL 2) [e, e']) := se_p2 (PE.wk (pe_listRg hc B1.gl B1.mg (prg_2 B2.gl B2.mg h1 h2 hs hs2 hp) na) fun σ H Q h => tO_mono _ _ (fun v H1 q => tO_mono _ _ (fun u H2 q2 => by
    obtain ⟨a, b, d, F, G, r, r', hd, hq⟩ := pq2 q2
    change rangeL2 a b = some d at hd
    unfold rangeL2 at hd
    split at hd
    · obtain ⟨l, h3, rfl⟩ := Option.map_eq_some_iff.mp hd
      cases r; cases r'
      exact ⟨_, _, rfl, rfl, list_new h3 hq⟩
    · cases hd) q) h)
end
end DL
set_option maxHeartbeats 1000000
/-! D24: max(d.values()). -/
namespace DL
open PySem PySem.Spec PyProof.Rows L2
theorem foldl_max : ∀ {m : List Int} {i : Int}, (m.foldl max i ∈ i :: m) ∧ ∀ j ∈ i :: m, j ≤ m.foldl max i
  | [], i => ⟨by simp, by simp⟩
  | x :: m, i => by
    obtain ⟨h1, h2⟩ := foldl_max (m := m) (i := max i x)
    rw [List.foldl_cons]
    refine ⟨?_, fun j hj => ?_⟩
    · rcases List.mem_cons.mp h1 with h | h
      · rw [h]
        by_cases q : i ≤ x
        · rw [Int.max_eq_right q]; simp
        · rw [Int.max_eq_left (by omega)]; simp
      · simp [h]
    · have hm := h2 (max i x) List.mem_cons_self
      rcases List.mem_cons.mp hj with rfl | hj
      · omega
      · rcases List.mem_cons.mp hj with rfl | hj
        · omega
        · exact h2 j (List.mem_cons_of_mem _ hj)
section
variable {X : Cx} {cf : Cf} {x : Expr} {e : E} {pos p apos mpos : Pos}
theorem se_maxVals (hc : X.calm = true) (B : Blt X "max" (.builtin "max")) (h1 : SO X cf x e) (hbase : attributeBase x "values" X.env (eval x X.env) = eval x X.env := by rfl) (hline : (apos.endLine == mpos.line) = true := by rfl)
    (hse : starEach [Expr.Call (.Attribute x "values" apos) [] [] mpos] X.env = [(false, eval (Expr.Call (.Attribute x "values" apos) [] [] mpos) X.env)] := by rfl) :
    SE X cf (.Call (.Name "max" p) [.Call (.Attribute x "values" apos) [] [] mpos] [] pos) (.prim .maxVals [e]) := by
  refine se_p1 (f := PQ1 X .maxVals) ⟨fun pins s σ H Q I h => ?_⟩
  refine wpAny_Call_Name_kw (ld_blt I B.gl B.mg B.bt ?_ B.n0 B.nd)
  rw [hse]
  refine PySem.callWith_builtin1 (wpAny_Call_method0_late hbase hline (thn (h1.run pins s σ H _ I h) fun v s1 ⟨x, H1, I1, r1, pq⟩ => ?_))
  obtain ⟨a0, d, F, r, hd, hq⟩ := pq1 pq
  change maxValsD a0 = some d at hd
  unfold maxValsD at hd
  split at hd
  · rename_i ks dvs
    split at hd
    · rename_i i0 m0 hai
      cases hd
      cases r with
      | @dT a xs vs _ F' _ t1 t0 t2 hsys t4 t5 t6 t7 =>
        obtain rfl : v = Value.ref a := r1
        have evs := allInt_rep t7 hai
        generalize his : i0 :: m0 = is at *
        obtain ⟨⟨ob, es, ep, ho, ex, hdat, hes⟩, _⟩ := I1.hok a _ t1
        have raw : s1.heap.DictRaw a es ep := ⟨ob, ho, ex, hdat⟩
        refine ⟨"dict", "dict.values", F.plainAttrs_dict, F.slot_dict_values, F.type_dict_values, ⟨ob, ho, ex.1⟩, fun b e => ?_, Calls.callWith_builtin rfl (PySem.evalArgs_none ?_)⟩
        · cases e
          exact ⟨ob, ho, ex.2.1⟩
        refine call_meetsIn F.slot_dict_values ⟨ob, ho, ex.1⟩ F.entry_dict_values (F.args_dict_values_1 _) (meets_dict_values_raw a hsys) ⟨⟨es, ep, raw⟩, ?_⟩
        have k1 : ∀ b u, s1.heap.get? b = some u → (s1.heap.push { cls := .type "dict_values", data := .fields #[.ref a] }).get? b = some u := fun b u e => Heap.get?_push_of_some _ e
        have raw1 : (s1.heap.push { cls := .type "dict_values", data := .fields #[.ref a] }).DictRaw a es ep := raw.at fun o e => k1 a o e
        have hes' : es.size = xs.length := by rw [← Array.length_toList, hes, List.length_map]
        have hlv : es.size = is.length := by
          have e1 := t5.length
          rw [evs, List.length_map, List.length_map] at e1
          rw [hes', e1]
        have hlen : 0 < es.size := by rw [hlv, ← his]; exact Nat.succ_pos _
        have hval : ∀ (i : Nat) (v : Value), (∃ hi : i < es.size, v = es[i].val) → ∃ t, v = Value.int (is.getD i 0) t := fun i v ⟨hi, hv⟩ => by
          have e1 : es[i]? = (xs.map (entryOfKey (tupleKind (mixKind X.prog X.w))))[i]? := by rw [← hes, Array.getElem?_toList]
          rw [Array.getElem?_eq_getElem hi, List.getElem?_map] at e1
          obtain ⟨y, q1, q2⟩ := Option.map_eq_some_iff.mp e1.symm
          have e2 : (xs.map (·.2.2))[i]? = some y.2.2 := by rw [List.getElem?_map, q1]; rfl
          have hil : i < is.length := by omega
          have e3 : vs[i]? = some (V.int is[i]) := by rw [evs, List.getElem?_map, List.getElem?_eq_getElem hil]; rfl
          obtain ⟨u, w1, w2⟩ := t5.get e3
          rw [e2] at w1
          cases w1
          obtain ⟨t, e4⟩ := w2
          refine ⟨t, ?_⟩
          rw [hv, ← q2]
          show y.2.2 = _
          rw [e4, List.getD_eq_getElem?_getD, List.getElem?_eq_getElem hil] <;> rfl
        refine call_max_walk (wpAny_pyIter_values_raw (v := s1.heap.objs.size) (d := a) ⟨_, Heap.get?_push_size _ rfl, rfl, rfl⟩ raw1 ?_)
        have hlt : a < s1.heap.objs.size := Heap.lt_size ho
        have hsz : (s1.heap.push { cls := .type "dict_values", data := .fields #[.ref a] }).objs.size = s1.heap.objs.size + 1 := Heap.size_push _ _
        refine ⟨_, _, _, _, _, _, _, rfl, Walks.rawValues (A := X.A.in1) (I.ok.hd hc) (s1.heap.push { cls := .type "dict_values", data := .fields #[.ref a] }).objs.size a (by rw [hsz]; exact Nat.ne_of_lt (Nat.lt_succ_of_lt hlt)) es ep,
          ⟨⟨_, Heap.get?_push_size _ rfl, rfl, rfl⟩, raw1.push _⟩, fun b hb => ?_, hlen, CmpOf.ints_gt (fun i => is.getD i 0) hval, fun v h' tk hP hk => ?_⟩
        · show b < ((s1.heap.push _).push _).objs.size
          rw [Heap.size_push, Heap.size_push]
          rw [hsz] at hb
          rcases List.mem_cons.mp hb with e | hb
          · rw [e]
            exact Nat.lt_succ_self _
          · have e : b = a := List.mem_singleton.mp hb
            rw [e]
            exact Nat.lt_succ_of_lt (Nat.lt_succ_of_lt hlt)
        · obtain ⟨t, rfl⟩ := hval _ v hP
          obtain ⟨b1, b2⟩ := argBest_gt (fun i => is.getD i 0) (es.size - 1)
          have hb : argBest (fun i j => decide (is.getD i 0 > is.getD j 0)) (es.size - 1) < is.length := by omega
          have hmem : is.getD (argBest (fun i j => decide (is.getD i 0 > is.getD j 0)) (es.size - 1)) 0 ∈ is := by
            rw [List.getD_eq_getElem?_getD, List.getElem?_eq_getElem hb]
            exact List.getElem_mem hb
          have hge : ∀ j ∈ is, j ≤ is.getD (argBest (fun i j => decide (is.getD i 0 > is.getD j 0)) (es.size - 1)) 0 := fun j hj => by
            obtain ⟨i, hi, e⟩ := List.mem_iff_getElem.mp hj
            have e2 : is.getD i 0 = j := by rw [List.getD_eq_getElem?_getD, List.getElem?_eq_getElem hi, ← e] <;> rfl
            rw [← e2]
            exact b2 i (by omega)
          obtain ⟨f1, f2⟩ := foldl_max (m := m0) (i := i0)
          rw [his] at f1 f2
          have heq : is.getD (argBest (fun i j => decide (is.getD i 0 > is.getD j 0)) (es.size - 1)) 0 = m0.foldl max i0 := Int.le_antisymm (f2 _ hmem) (hge _ f1)
          refine ⟨.int _, H1, I1.kept (t' := tk) fun b u e => hk b u (fun hmem => ?_) (Heap.get?_push_of_some _ (k1 b u e)), ⟨t, rfl⟩, ?_⟩
          · have e1 : b = (s1.heap.push { cls := .type "dict_values", data := .fields #[.ref a] }).objs.size := List.mem_singleton.mp hmem
            have e2 := Heap.lt_size e
            rw [hsz] at e1
            rw [e1] at e2
            exact absurd e2 (Nat.not_lt.mpr (Nat.le_succ _))
          · show Q (.int (is.getD _ 0)) H1
            rw [heq]
            exact hq.int
    · cases hd
  · cases hd
end
end DL
set_option maxHeartbeats 1000000
/-! D25: the rules in short, as the printer names them. -/
namespace DL
open PySem PySem.Spec PyProof.Rows L2
theorem u65 {k : Nat} {A : Around} (r : Room k A) : A.units + 65 < cLine := by have := r.un; omega
theorem u64 {A : Around} (r : A.units + 65 < cLine) : A.units + 64 < cLine := by omega
theorem u1 {A : Around} (r : A.units + 65 < cLine) : A.units + 1 < cLine := by omega
theorem u0 {A : Around} (r : A.units + 65 < cLine) : A.units < cLine := by omega
theorem u2 {A : Around} (r : A.units + 65 < cLine) : A.in1.in1.units < cLine := by show A.units + 1 + 1 < cLine; omega
theorem bo_len : bootBuiltins "len" = some (.builtin "len") := by decide +kernel
theorem bo_abs : bootBuiltins "abs" = some (.builtin "abs") := by decide +kernel
theorem bo_sum : bootBuiltins "sum" = some (.builtin "sum") := by decide +kernel
theorem bo_all : bootBuiltins "all" = some (.builtin "all") := by decide +kernel
theorem bo_any : bootBuiltins "any" = some (.builtin "any") := by decide +kernel
theorem bo_min : bootBuiltins "min" = some (.builtin "min") := by decide +kernel
theorem bo_max : bootBuiltins "max" = some (.builtin "max") := by decide +kernel
theorem bo_sorted : bootBuiltins "sorted" = some (.builtin "sorted") := by decide +kernel
theorem bo_isinstance : bootBuiltins "isinstance" = some (.builtin "isinstance") := by decide +kernel
theorem bo_int : bootBuiltins "int" = some (.type "int") := by decide +kernel
theorem bo_bool : bootBuiltins "bool" = some (.type "bool") := by decide +kernel
theorem bo_str : bootBuiltins "str" = some (.type "str") := by decide +kernel
theorem bo_tuple : bootBuiltins "tuple" = some (.type "tuple") := by decide +kernel
theorem bo_list : bootBuiltins "list" = some (.type "list") := by decide +kernel
theorem bo_dict : bootBuiltins "dict" = some (.type "dict") := by decide +kernel
theorem bo_zip : bootBuiltins "zip" = some (.type "zip") := by decide +kernel
theorem bo_set : bootBuiltins "set" = some (.type "set") := by decide +kernel
theorem bo_range : bootBuiltins "range" = some (.type "range") := by decide +kernel
theorem bo_enumerate : bootBuiltins "enumerate" = some (.type "enumerate") := by decide +kernel
section
variable {X : Cx} {cf : Cf} {n : Str} {pos p : Pos} {x y z a b c : Expr} {e e' e1 e2 e3 : E} {xs : List Expr} {es : List E}
theorem v (i : Nat) (hN : X.N[i]? = some n := by rfl) (hv : Vis X.env.scope n := by first | exact Or.inl rfl | exact Or.inr (Or.inl rfl) | exact Or.inr (Or.inr rfl)) (hd : (n == ("__debug__" : Str)) = false := by decide) (hcd : (n == ("__classdict__" : Str)) = false := by decide) : SO X cf (.Name n pos) (.var i) := so_var hN hv hd hcd
theorem tv (i : Nat) (hN : X.N[i]? = some n := by rfl) (hv : Vis X.env.scope n := by first | exact Or.inl rfl | exact Or.inr (Or.inl rfl) | exact Or.inr (Or.inr rfl)) (hd : (n == ("__debug__" : Str)) = false := by decide) (hcd : (n == ("__classdict__" : Str)) = false := by decide) : SE X cf (.Name n pos) (.var i) := se_var hN hv hd hcd
theorem bt {u : Value} (hm : X.mg n = none) (hb : bootBuiltins n = some u) (hg : Gl X n := by rfl) (n0 : n ≠ "__name__" := by decide) (nd : (n == ("__debug__" : Str)) = false := by decide) : Blt X n u := ⟨hg, hm, hb, n0, nd⟩
theorem cn {i : Int} (hm : ∃ t, X.mg n = some (.int i t)) (hg : Gl X n := by rfl) (hd : (n == ("__debug__" : Str)) = false := by decide) : SE X cf (.Name n pos) (.con n (.int i)) := let ⟨_, h⟩ := hm; se_conI hg h hd
/-- any expression as an operand -/
theorem o (h : SE X cf x e) (he : ∀ r ρ, opOf e r ρ = (match r with | some (d, ρ1) => some (.val d, ρ1) | none => none) := by intros; rfl) : SO X cf x e := so_of h he
theorem call {i m : Nat} {nm : Str} (C : Cal X.prog X.w X.K X.mg X.base X.A cf i nm m) (ha : SOs X cf (x :: xs) es) (hg : Gl X nm := by rfl) (hl : es.length = m := by rfl) (hdb : (nm == ("__debug__" : Str)) = false := by decide)
    (he : starEach (x :: xs) X.env = (false, eval x X.env) :: starEach xs X.env := by rfl) (hpl : (backTo pos (starEach xs X.env)).any (·.1) = false := by rfl) : SE X cf (.Call (.Name nm p) (x :: xs) [] pos) (.call i es) := se_call C hg ha hl hdb he hpl
theorem app (i : Nat) {q0 apos : Pos} (ha : SE X cf x e) (hN : X.N[i]? = some n := by rfl) (hv : Vis X.env.scope n := by first | exact Or.inl rfl | exact Or.inr (Or.inl rfl) | exact Or.inr (Or.inr rfl))
    (hbase : attributeBase (.Name n q0) "append" X.env (eval (.Name n q0) X.env) = eval (.Name n q0) X.env := by rfl)
    (hfew : ((backTo pos (starEach [x] X.env)).all (fun x => !x.1) && (backToKw pos (keywordEach [] X.env)).all (fun x => x.1.isSome)
      && decide ([x].length + ([] : List Keyword).length + (if ([] : List Keyword).isEmpty then 0 else 1) < 30)) = true := by rfl)
    (hline : (apos.endLine == pos.line) = true := by rfl) (hs : starEach [x] X.env = (false, eval x X.env) :: starEach [] X.env := by rfl) (hd : (n == ("__debug__" : Str)) = false := by decide) (hcd : (n == ("__classdict__" : Str)) = false := by decide) :
    SE X cf (.Call (.Attribute (.Name n q0) "append" apos) [x] [] pos) (.meth .append i [e]) := se_append hN hv ha hbase hfew hline hs hd hcd
theorem ext (i : Nat) {q0 apos : Pos} (ha : SE X cf x e) (hN : X.N[i]? = some n := by rfl) (hv : Vis X.env.scope n := by first | exact Or.inl rfl | exact Or.inr (Or.inl rfl) | exact Or.inr (Or.inr rfl))
    (hbase : attributeBase (.Name n q0) "extend" X.env (eval (.Name n q0) X.env) = eval (.Name n q0) X.env := by rfl)
    (hfew : ((backTo pos (starEach [x] X.env)).all (fun x => !x.1) && (backToKw pos (keywordEach [] X.env)).all (fun x => x.1.isSome)
      && decide ([x].length + ([] : List Keyword).length + (if ([] : List Keyword).isEmpty then 0 else 1) < 30)) = true := by rfl)
    (hline : (apos.endLine == pos.line) = true := by rfl) (hs : starEach [x] X.env = (false, eval x X.env) :: starEach [] X.env := by rfl) (hd : (n == ("__debug__" : Str)) = false := by decide) (hcd : (n == ("__classdict__" : Str)) = false := by decide) :
    SE X cf (.Call (.Attribute (.Name n q0) "extend" apos) [x] [] pos) (.meth .extend i [e]) := se_extend hN hv ha hbase hfew hline hs hd hcd
theorem pop (i : Nat) {q0 apos : Pos} (ha : SE X cf x e) (hN : X.N[i]? = some n := by rfl) (hv : Vis X.env.scope n := by first | exact Or.inl rfl | exact Or.inr (Or.inl rfl) | exact Or.inr (Or.inr rfl))
    (hbase : attributeBase (.Name n q0) "pop" X.env (eval (.Name n q0) X.env) = eval (.Name n q0) X.env := by rfl)
    (hfew : ((backTo pos (starEach [x] X.env)).all (fun x => !x.1) && (backToKw pos (keywordEach [] X.env)).all (fun x => x.1.isSome)
      && decide ([x].length + ([] : List Keyword).length + (if ([] : List Keyword).isEmpty then 0 else 1) < 30)) = true := by rfl)
    (hline : (apos.endLine == pos.line) = true := by rfl) (hs : starEach [x] X.env = (false, eval x X.env) :: starEach [] X.env := by rfl) (hd : (n == ("__debug__" : Str)) = false := by decide) (hcd : (n == ("__classdict__" : Str)) = false := by decide) :
    SE X cf (.Call (.Attribute (.Name n q0) "pop" apos) [x] [] pos) (.meth .popAt i [e]) := se_popAt hN hv ha hbase hfew hline hs hd hcd
theorem set {i : Nat} {q0 tpos : Pos} (hu : X.A.units + 65 < cLine) (h2 : SE X cf x e1) (h1 : SE X cf y e) (hN : X.N[i]? = some n := by rfl) (hv : Vis X.env.scope n := by first | exact Or.inl rfl | exact Or.inr (Or.inl rfl) | exact Or.inr (Or.inr rfl))
    (ha : ∀ v, assign (.Subscript (.Name n q0) x tpos) X.env v = (do
      let ov ← holding [v] (eval (.Name n q0) X.env)
      let iv ← holding [v, ov] (eval x X.env)
      standAt tpos
      holding [v, ov, iv] (setItem ov iv v)
      release [v, ov, iv] []) := by intro _; rfl)
    (hs : swapsWithSole [.Subscript (.Name n q0) x tpos] y pos.line X.env = pure false := by rfl) (hw : swappedStores [.Subscript (.Name n q0) x tpos] y X.env = pure none := by rfl) (hq : (assignEach [.Subscript (.Name n q0) x tpos] X.env).map (·.2) = [assign (.Subscript (.Name n q0) x tpos) X.env] := by rfl)
    (hd : (n == ("__debug__" : Str)) = false := by decide) (hcd : (n == ("__classdict__" : Str)) = false := by decide) : SS X cf (.Assign [.Subscript (.Name n q0) x tpos] y pos) (.setix i e1 e) := ss_setix (u1 hu) hN hv h2 h1 ha hs hw hq hd hcd
theorem nm (i : Nat) (hN : X.N.Nodup) (hi : X.N[i]? = some n := by rfl) (hx : Loc X.env.scope n := by first | exact Or.inl rfl | exact Or.inr rfl) (hf : X.fn n = true ∨ X.env.scope.names.lookup n = some .local := by first | exact .inl rfl | exact .inr rfl) : SG X (.Name n pos) (.nm i) := sg_nm hN hi hx hf
end
end DL
set_option maxHeartbeats 1000000
/-! D26: the ends: no fuel, the law's own promise. -/
namespace DL
open PySem PySem.Spec PyProof.Rows L2
section
variable {P : Program} {w : World} {K : PySem.W.Frag} {mg : Str → Option Value} {base : Heap} {f : Addr} {fd : FuncData} {ps : List Str} {n : Nat}
theorem fn_zero {F : DL.Env → Option (D × DL.Env)} {CX : CXT} (hl : n = ps.length) (hF : ∀ ρ, F ρ = none := by intro _; rfl) : FnOk P w K mg base CX 0 f fd ps (spD P w K n F) := by
  refine ⟨fun vs H Q E h => h.1.trans hl, fun A outer s H args us vs Q E hr e0 hb hv h => ?_⟩
  obtain ⟨_, ρ, Φ, d, ρ', _, h2, _⟩ := h
  rw [hF] at h2
  cases h2
theorem ints_rep {H : Hp} : ∀ ns : List Int, RepL P w K H (ns.map D.int) (ns.map V.int) []
  | [] => .nil
  | n :: ns => RepL.cons (F := []) (.int n) (ints_rep ns)
theorem sp_law {cf : DL.Env → Option (D × DL.Env)} {H : Hp} {a : Addr} {ns : List Int} (hp : ∀ ns : List Int, ns.length ≤ 63 → ∃ fin, cf [some (.frz (ns.map D.int))] = some (.bl true, fin)) (hl : ns.length ≤ 63) (ho : Only H) (hS : SqL K H a (ns.map V.int)) :
    spD P w K 1 cf [.ref a] H (fun v _ => v = .bl true) fun _ _ _ => False := by
  obtain ⟨fin, h⟩ := hp ns hl
  have ok : LstOk K H a (ns.map V.int) := by
    rcases hS with (h | ⟨o, h⟩) | h
    · rcases ho a with z | ⟨o, xs, z⟩
      · rw [h] at z; cases z
      · rw [h] at z; cases z
    · exact .inl ⟨o, h⟩
    · exact .inr h
  have r : Rep P w K H (.frz (ns.map D.int)) (.ref a) [] := .frz ok (by rw [List.length_map, sizeLine_eq]; omega) (ints_rep ns)
  have e := EnvRep.cons (EnvRep.nil (P := P) (w := w) (K := K) (H := H) (Φ := fun _ => [])) r List.nodup_nil nofun
  refine ⟨rfl, _, _, _, fin, e, h, fun v H' Φ' G p q => ?_⟩
  have := q.rep
  cases this
  rfl
end
end DL
set_option maxHeartbeats 1000000
/-! P1: the language's equations as rules for simp. -/
namespace DL
open PySem L2
section
variable {cf : Cf} {ρ ρ' : Env} {e e' e1 e2 e3 : E} {es : List E}
@[simp] theorem ev_int {i : Int} : evE cf (.int i) ρ = some (.int i, ρ) := by rw [evE]
@[simp] theorem ev_bl {i : Bool} : evE cf (.bl i) ρ = some (.bl i, ρ) := by rw [evE]
@[simp] theorem ev_non : evE cf .non ρ = some (.non, ρ) := by rw [evE]
@[simp] theorem ev_str {i : Str} : evE cf (.str i) ρ = some (.str i, ρ) := by rw [evE]
@[simp] theorem ev_con {n : Str} {d : D} : evE cf (.con n d) ρ = if d.imm then some (d, ρ) else none := by rw [evE]
@[simp] theorem ev_var {i : Nat} : evE cf (.var i) ρ = take i ρ := by rw [evE]
@[simp] theorem ev_prim {p : Prim} : evE cf (.prim p es) ρ = (evOps cf es ρ).bind fun x => (opds x.2 x.1).bind fun ds => (primD p ds).map fun d => (d, x.2) := by
  rw [evE]
  cases evOps cf es ρ with
  | none => rfl
  | some x =>
    obtain ⟨os, ρ1⟩ := x
    simp only [Option.bind_some]
    cases opds ρ1 os with
    | none => rfl
    | some ds =>
      simp only [Option.bind_some]
      cases primD p ds <;> rfl
@[simp] theorem ev_call {f : Nat} : evE cf (.call f es) ρ = (evOps cf es ρ).bind fun x => (opds x.2 x.1).bind fun ds => if decide ((lent x.1 ds).Nodup) then (cf f (ds.map some)).map fun y => (y.1, giveBack x.1 ds y.2 (ewipe x.2 (lent x.1 ds))) else none := by
  rw [evE]
  cases evOps cf es ρ with
  | none => rfl
  | some x =>
    obtain ⟨os, ρ1⟩ := x
    simp only [Option.bind_some]
    cases opds ρ1 os with
    | none => rfl
    | some ds =>
      simp only [Option.bind_some]
      split
      · cases cf f (ds.map some) <;> rfl
      · rfl
def boolK (g : Bool → Env → Option (D × Env)) : D × Env → Option (D × Env)
  | (.bl b, ρ) => g b ρ
  | _ => none
@[simp] theorem boolK_bl {g : Bool → Env → Option (D × Env)} {b : Bool} : boolK g (.bl b, ρ) = g b ρ := rfl
@[simp] theorem ev_and : evE cf (.andE e e') ρ = (evE cf e ρ).bind (boolK fun b ρ1 => if b then (evE cf e' ρ1).bind (boolK fun c ρ2 => some (.bl c, ρ2)) else some (.bl false, ρ1)) := by
  rw [evE]
  cases evE cf e ρ with
  | none => rfl
  | some x =>
    obtain ⟨d, ρ1⟩ := x
    cases d <;> first | rfl | skip
    rename_i b
    cases b
    · rfl
    · simp only [Option.bind_some, boolK_bl, if_true]
      cases evE cf e' ρ1 with
      | none => rfl
      | some y =>
        obtain ⟨d, ρ2⟩ := y
        cases d <;> rfl
@[simp] theorem ev_or : evE cf (.orE e e') ρ = (evE cf e ρ).bind (boolK fun b ρ1 => if b then some (.bl true, ρ1) else (evE cf e' ρ1).bind (boolK fun c ρ2 => some (.bl c, ρ2))) := by
  rw [evE]
  cases evE cf e ρ with
  | none => rfl
  | some x =>
    obtain ⟨d, ρ1⟩ := x
    cases d <;> first | rfl | skip
    rename_i b
    cases b
    · simp only [Option.bind_some, boolK_bl, if_false]
      cases evE cf e' ρ1 with
      | none => rfl
      | some y =>
        obtain ⟨d, ρ2⟩ := y
        cases d <;> rfl
    · rfl
@[simp] theorem ev_not : evE cf (.notE e) ρ = (evE cf e ρ).bind (boolK fun b ρ1 => some (.bl (!b), ρ1)) := by
  rw [evE]
  cases evE cf e ρ with
  | none => rfl
  | some x =>
    obtain ⟨d, ρ1⟩ := x
    cases d <;> rfl
@[simp] theorem ev_ife : evE cf (.ife e e1 e2) ρ = (evE cf e ρ).bind (boolK fun b ρ1 => if b then evE cf e1 ρ1 else evE cf e2 ρ1) := by
  rw [evE]
  cases evE cf e ρ with
  | none => rfl
  | some x =>
    obtain ⟨d, ρ1⟩ := x
    cases d <;> first | rfl | skip
    rename_i b
    cases b <;> rfl
@[simp] theorem ev_chain {p q : Cm} : evE cf (.chain p q e1 e2 e3) ρ = (evE cf e1 ρ).bind fun x => (evE cf e2 x.2).bind fun y => if x.1.imm && y.1.imm then (cmpD p x.1 y.1).bind fun b => if b then (evE cf e3 y.2).bind fun z => if z.1.imm then (cmpD q y.1 z.1).map fun r => (.bl r, z.2) else none else some (.bl false, y.2) else none := by
  rw [evE]
  cases evE cf e1 ρ with
  | none => rfl
  | some x =>
    obtain ⟨x, ρ1⟩ := x
    simp only [Option.bind_some]
    cases evE cf e2 ρ1 with
    | none => rfl
    | some y =>
      obtain ⟨y, ρ2⟩ := y
      simp only [Option.bind_some]
      split
      · cases cmpD p x y with
        | none => rfl
        | some b =>
          cases b
          · rfl
          · simp only [Option.bind_some, if_true]
            cases evE cf e3 ρ2 with
            | none => rfl
            | some z =>
              obtain ⟨z, ρ3⟩ := z
              simp only [Option.bind_some]
              split
              · cases cmpD q y z <;> rfl
              · rfl
      · rfl
@[simp] theorem ev_disp {t : Bool} {st : List Bool} : evE cf (.disp t st es) ρ = (evDisp cf st es ρ).bind fun x => if decide (x.1.length ≤ sizeLine) then some (if t then .tup x.1 else .lst x.1, x.2) else none := by
  rw [evE]
  cases evDisp cf st es ρ with
  | none => rfl
  | some x => obtain ⟨ds, ρ1⟩ := x; rfl
@[simp] theorem ev_comp {own : List Nat} {t : Tg} {it : It} {cs : List E} : evE cf (.comp own t it cs e) ρ = (evIt cf it ρ).bind fun x => (compL x.1.2 own t (fun r => evCs cf cs r) (fun r => evE cf e r) x.1.1 (ewipe x.2 own) []).map fun y => (.lst y.1, erest x.2 y.2 own) := by
  rw [evE]
  cases evIt cf it ρ with
  | none => rfl
  | some x =>
    obtain ⟨⟨ds, ws⟩, ρ1⟩ := x
    simp only [Option.bind_some]
    cases compL ws own t (fun r => evCs cf cs r) (fun r => evE cf e r) ds (ewipe ρ1 own) [] <;> rfl
@[simp] theorem ev_meth {m : Meth} {i : Nat} : evE cf (.meth m i es) ρ = if isLst (eget ρ i) then (evTk cf es ρ).bind fun x => (eget x.2 i).bind fun r => (methD m r x.1).map fun y => (y.1, eset x.2 i (some y.2)) else none := by
  rw [evE]
  split
  · cases evTk cf es ρ with
    | none => rfl
    | some x =>
      obtain ⟨ds, ρ1⟩ := x
      simp only [Option.bind_some]
      cases eget ρ1 i with
      | none => rfl
      | some r =>
        simp only [Option.bind_some]
        cases methD m r ds <;> rfl
  · rfl
@[simp] theorem ev_dnew : evE cf .dnew ρ = some (.dT [] [], ρ) := by rw [evE]
@[simp] theorem ev_done : evE cf (.done e e') ρ = (evE cf e ρ).bind fun x => (evE cf e' x.2).bind fun y => (keyOf x.1).bind fun k => if y.1.imm then some (.dT [k] [y.1], y.2) else none := by
  rw [evE]
  cases evE cf e ρ with
  | none => rfl
  | some x =>
    obtain ⟨kd, ρ1⟩ := x
    simp only [Option.bind_some]
    cases evE cf e' ρ1 with
    | none => rfl
    | some y =>
      obtain ⟨vd, ρ2⟩ := y
      simp only [Option.bind_some]
      cases keyOf kd <;> rfl
@[simp] theorem ops_nil : evOps cf [] ρ = some ([], ρ) := by rw [evOps]
@[simp] theorem ops_cons : evOps cf (e :: es) ρ = (opOf e (evE cf e ρ) ρ).bind fun x => (evOps cf es x.2).map fun y => (x.1 :: y.1, y.2) := by
  rw [evOps]
  cases opOf e (evE cf e ρ) ρ with
  | none => rfl
  | some x =>
    obtain ⟨o, ρ1⟩ := x
    simp only [Option.bind_some]
    cases evOps cf es ρ1 <;> rfl
@[simp] theorem op_var {i : Nat} {r : Option (D × Env)} : opOf (.var i) r ρ = if (eget ρ i).isSome then some (.ref i, ρ) else none := rfl
theorem op_val (h : ∀ r ρ, opOf e r ρ = (match r with | some (d, ρ1) => some (.val d, ρ1) | none => none)) {r : Option (D × Env)} : opOf e r ρ = r.map fun x => (.val x.1, x.2) := by
  rw [h]
  cases r <;> rfl
@[simp] theorem op_int {i : Int} {r : Option (D × Env)} : opOf (.int i) r ρ = r.map fun x => (.val x.1, x.2) := op_val (by intros; rfl)
@[simp] theorem op_bl {i : Bool} {r : Option (D × Env)} : opOf (.bl i) r ρ = r.map fun x => (.val x.1, x.2) := op_val (by intros; rfl)
@[simp] theorem op_non {r : Option (D × Env)} : opOf .non r ρ = r.map fun x => (.val x.1, x.2) := op_val (by intros; rfl)
@[simp] theorem op_str {i : Str} {r : Option (D × Env)} : opOf (.str i) r ρ = r.map fun x => (.val x.1, x.2) := op_val (by intros; rfl)
@[simp] theorem op_con {n : Str} {d : D} {r : Option (D × Env)} : opOf (.con n d) r ρ = r.map fun x => (.val x.1, x.2) := op_val (by intros; rfl)
@[simp] theorem op_prim {p : Prim} {r : Option (D × Env)} : opOf (.prim p es) r ρ = r.map fun x => (.val x.1, x.2) := op_val (by intros; rfl)
@[simp] theorem op_call {f : Nat} {r : Option (D × Env)} : opOf (.call f es) r ρ = r.map fun x => (.val x.1, x.2) := op_val (by intros; rfl)
@[simp] theorem op_meth {m : Meth} {i : Nat} {r : Option (D × Env)} : opOf (.meth m i es) r ρ = r.map fun x => (.val x.1, x.2) := op_val (by intros; rfl)
@[simp] theorem op_and {r : Option (D × Env)} : opOf (.andE e e') r ρ = r.map fun x => (.val x.1, x.2) := op_val (by intros; rfl)
@[simp] theorem op_or {r : Option (D × Env)} : opOf (.orE e e') r ρ = r.map fun x => (.val x.1, x.2) := op_val (by intros; rfl)
@[simp] theorem op_not {r : Option (D × Env)} : opOf (.notE e) r ρ = r.map fun x => (.val x.1, x.2) := op_val (by intros; rfl)
@[simp] theorem op_chain {p q : Cm} {r : Option (D × Env)} : opOf (.chain p q e1 e2 e3) r ρ = r.map fun x => (.val x.1, x.2) := op_val (by intros; rfl)
@[simp] theorem op_ife {r : Option (D × Env)} : opOf (.ife e e1 e2) r ρ = r.map fun x => (.val x.1, x.2) := op_val (by intros; rfl)
@[simp] theorem op_disp {t : Bool} {st : List Bool} {r : Option (D × Env)} : opOf (.disp t st es) r ρ = r.map fun x => (.val x.1, x.2) := op_val (by intros; rfl)
@[simp] theorem op_comp {own : List Nat} {t : Tg} {it : It} {cs : List E} {r : Option (D × Env)} : opOf (.comp own t it cs e) r ρ = r.map fun x => (.val x.1, x.2) := op_val (by intros; rfl)
@[simp] theorem op_dnew {r : Option (D × Env)} : opOf .dnew r ρ = r.map fun x => (.val x.1, x.2) := op_val (by intros; rfl)
@[simp] theorem op_done {r : Option (D × Env)} : opOf (.done e e') r ρ = r.map fun x => (.val x.1, x.2) := op_val (by intros; rfl)
@[simp] theorem opds_nil' : opds ρ [] = some [] := rfl
@[simp] theorem opds_cons' {o : Opd} {os : List Opd} : opds ρ (o :: os) = (opdD ρ o).bind fun d => (opds ρ os).map fun ds => d :: ds := by
  rw [opds]
  cases opdD ρ o with
  | none => rfl
  | some d => cases opds ρ os <;> rfl
@[simp] theorem opd_val {d : D} : opdD ρ (.val d) = some d := rfl
@[simp] theorem opd_ref {i : Nat} : opdD ρ (.ref i) = eget ρ i := rfl
@[simp] theorem tk_nil : evTk cf [] ρ = some ([], ρ) := by rw [evTk]
@[simp] theorem tk_cons : evTk cf (e :: es) ρ = (evE cf e ρ).bind fun x => (evTk cf es x.2).map fun y => (x.1 :: y.1, y.2) := by
  rw [evTk]
  cases evE cf e ρ with
  | none => rfl
  | some x =>
    obtain ⟨o, ρ1⟩ := x
    simp only [Option.bind_some]
    cases evTk cf es ρ1 <;> rfl
@[simp] theorem dp_nil : evDisp cf [] [] ρ = some ([], ρ) := by rw [evDisp] <;> (intros; simp_all)
@[simp] theorem dp_cons {st : List Bool} : evDisp cf (false :: st) (e :: es) ρ = (evE cf e ρ).bind fun x => (evDisp cf st es x.2).map fun y => (x.1 :: y.1, y.2) := by
  rw [evDisp]
  cases evE cf e ρ with
  | none => rfl
  | some x =>
    obtain ⟨o, ρ1⟩ := x
    simp only [Option.bind_some]
    cases evDisp cf st es ρ1 <;> rfl
@[simp] theorem dp_star {st : List Bool} : evDisp cf (true :: st) (e :: es) ρ = (evE cf e ρ).bind fun x => x.1.seq?.bind fun l => if D.imms l then (evDisp cf st es x.2).map fun y => (l ++ y.1, y.2) else none := by
  rw [evDisp]
  cases evE cf e ρ with
  | none => rfl
  | some x =>
    obtain ⟨o, ρ1⟩ := x
    simp only [Option.bind_some]
    cases o.seq? with
    | none => rfl
    | some l =>
      simp only [Option.bind_some]
      split
      · cases evDisp cf st es ρ1 <;> rfl
      · rfl
def boolC : D × Env → Option (Bool × Env)
  | (.bl b, ρ) => some (b, ρ)
  | _ => none
@[simp] theorem boolC_bl {b : Bool} : boolC (.bl b, ρ) = some (b, ρ) := rfl
@[simp] theorem cs_nil : evCs cf [] ρ = some (true, ρ) := by rw [evCs]
@[simp] theorem cs_one : evCs cf [e] ρ = (evE cf e ρ).bind boolC := by
  rw [evCs]
  cases evE cf e ρ with
  | none => rfl
  | some x =>
    obtain ⟨d, ρ1⟩ := x
    cases d <;> first | rfl | skip
    rename_i b
    cases b
    · rfl
    · simp only [Option.bind_some, boolC_bl]
      rw [evCs]
@[simp] theorem asBl_eq {r : Option (D × Env)} : asBl r = r.bind boolC := by
  cases r with
  | none => rfl
  | some x =>
    obtain ⟨d, ρ1⟩ := x
    cases d <;> rfl
@[simp] theorem it_seq : evIt cf (.seq e) ρ = (opOf e (evE cf e ρ) ρ).bind fun x => (opdD x.2 x.1).bind fun d => d.seq?.bind fun l => if D.imms l then some ((l, watchOf x.1 d), x.2) else none := by
  rw [evIt]
  cases opOf e (evE cf e ρ) ρ with
  | none => rfl
  | some x =>
    obtain ⟨o, ρ1⟩ := x
    simp only [Option.bind_some]
    cases opdD ρ1 o with
    | none => rfl
    | some d =>
      simp only [Option.bind_some]
      cases d.seq? <;> rfl
@[simp] theorem it_seqT : evIt cf (.seqT e) ρ = (opOf e (evE cf e ρ) ρ).bind fun x => (opdD x.2 x.1).bind fun d => d.seq?.bind fun l => if D.imms l then (if l.all isTupD then some ((l, watchOf x.1 d), x.2) else none) else none := by
  rw [evIt]
  cases opOf e (evE cf e ρ) ρ with
  | none => rfl
  | some x =>
    obtain ⟨o, ρ1⟩ := x
    simp only [Option.bind_some]
    cases opdD ρ1 o with
    | none => rfl
    | some d =>
      simp only [Option.bind_some]
      cases d.seq? <;> rfl
def rngK (ρ : Env) : List D → Option (Wk × Env)
  | [.int b] => (rangeD 0 b).map fun l => ((l, []), ρ)
  | [.int a, .int b] => (rangeD a b).map fun l => ((l, []), ρ)
  | _ => none
@[simp] theorem rngK1 {b : Int} : rngK ρ [.int b] = (rangeD 0 b).map fun l => ((l, []), ρ) := rfl
@[simp] theorem rngK2 {a b : Int} : rngK ρ [.int a, .int b] = (rangeD a b).map fun l => ((l, []), ρ) := rfl
@[simp] theorem it_rng : evIt cf (.rng es) ρ = (evOps cf es ρ).bind fun x => (opds x.2 x.1).bind (rngK x.2) := by
  rw [evIt]
  cases evOps cf es ρ with
  | none => rfl
  | some x =>
    obtain ⟨o, ρ1⟩ := x
    simp only [Option.bind_some]
    cases opds ρ1 o with
    | none => rfl
    | some l =>
      simp only [Option.bind_some]
      unfold rngK
      split <;> first | rfl | (split <;> simp_all)
@[simp] theorem it_zip : evIt cf (.zip e e') ρ = (opOf e (evE cf e ρ) ρ).bind fun x => (opOf e' (evE cf e' x.2) x.2).bind fun y => (opdD y.2 x.1).bind fun d => (opdD y.2 y.1).bind fun d' => d.seq?.bind fun l => d'.seq?.bind fun l' => if D.imms l && D.imms l' && (isTupD d == isTupD d') then some (((l.zip l').map fun (x, y) => .tup [x, y], watchOf x.1 d ++ watchOf y.1 d'), y.2) else none := by
  rw [evIt]
  cases opOf e (evE cf e ρ) ρ with
  | none => rfl
  | some x =>
    obtain ⟨o, ρ1⟩ := x
    simp only [Option.bind_some]
    cases opOf e' (evE cf e' ρ1) ρ1 with
    | none => rfl
    | some y =>
      obtain ⟨o', ρ2⟩ := y
      simp only [Option.bind_some]
      cases opdD ρ2 o with
      | none => rfl
      | some d =>
        cases opdD ρ2 o' with
        | none => rfl
        | some d' =>
          simp only [Option.bind_some]
          cases d.seq? with
          | none => rfl
          | some l => cases d'.seq? <;> rfl
end
end DL
set_option maxHeartbeats 1000000
/-! P2: statements, loops, calls as rules for simp; folds. -/
namespace DL
open PySem L2
section
variable {cf : Cf} {ρ ρ' : Env} {e e' e1 e2 e3 : E} {es : List E} {s : S} {ss ss' : List S} {t : Tg} {it : It}
@[simp] theorem s_asg : evS cf (.asg t e) ρ = (evE cf e ρ).bind fun x => (bindT t x.1 x.2).map fun ρ2 => (.nx, ρ2) := by
  rw [evS]
  cases evE cf e ρ <;> rfl
@[simp] theorem s_par {is : List Nat} : evS cf (.par is es) ρ = (evTk cf es ρ).bind fun x => (bindTs (is.map .nm) x.1 x.2).map fun ρ2 => (.nx, ρ2) := by
  rw [evS]
  cases evTk cf es ρ <;> rfl
@[simp] theorem s_expr : evS cf (.expr e) ρ = (evE cf e ρ).map fun x => (.nx, x.2) := by
  rw [evS]
  cases evE cf e ρ <;> rfl
@[simp] theorem s_ret : evS cf (.ret e) ρ = (evE cf e ρ).map fun x => (.rt x.1, x.2) := by
  rw [evS]
  cases evE cf e ρ <;> rfl
@[simp] theorem s_retN : evS cf .retN ρ = some (.rt .non, ρ) := by rw [evS]
@[simp] theorem s_pass : evS cf .pass ρ = some (.nx, ρ) := by rw [evS]
@[simp] theorem s_brk : evS cf .brk ρ = some (.bk, ρ) := by rw [evS]
@[simp] theorem s_cnt : evS cf .cnt ρ = some (.ct, ρ) := by rw [evS]
@[simp] theorem s_raise : evS cf .raise ρ = none := by rw [evS]
def boolS (g : Bool → Env → Option (Fl × Env)) : D × Env → Option (Fl × Env)
  | (.bl b, ρ) => g b ρ
  | _ => none
@[simp] theorem boolS_bl {g : Bool → Env → Option (Fl × Env)} {b : Bool} : boolS g (.bl b, ρ) = g b ρ := rfl
@[simp] theorem s_ifs : evS cf (.ifs e ss ss') ρ = (evE cf e ρ).bind (boolS fun b ρ1 => if b then evSs cf ss ρ1 else evSs cf ss' ρ1) := by
  rw [evS]
  cases evE cf e ρ with
  | none => rfl
  | some x =>
    obtain ⟨d, ρ1⟩ := x
    cases d <;> first | rfl | skip
    rename_i b
    cases b <;> rfl
@[simp] theorem s_for : evS cf (.for t it ss) ρ = (evIt cf it ρ).bind fun x => forL x.1.2 t (fun r => evSs cf ss r) x.1.1 x.2 := by
  rw [evS]
  cases evIt cf it ρ with
  | none => rfl
  | some x => obtain ⟨⟨ds, ws⟩, ρ1⟩ := x; rfl
@[simp] theorem s_whl : evS cf (.whl e ss) ρ = whlF (fun r => (evE cf e r).bind boolC) (fun r => evSs cf ss r) whFuel ρ := by
  rw [evS]
  simp only [asBl_eq]
def setK (cf : Cf) (ix : E) (i : Nat) : D × Env → Option (Fl × Env) := fun y => if isMut (eget y.2 i) then (evE cf ix y.2).bind fun x => match eget x.2 i with
        | some (.lst l) => (match x.1 with
          | .int n => match ixN l.length n with
            | some j => if y.1.imm && D.imms l then some (.nx, eset x.2 i (some (.lst (l.set j y.1)))) else none
            | none => none
          | _ => none)
        | some (.dT ks vs) => (match keyOf x.1 with
          | some k => if y.1.imm && decide (ks.length < sizeLine) && D.imms vs then (if memT k ks then some (.nx, eset x.2 i (some (.dT ks (putT ks vs k y.1)))) else some (.nx, eset x.2 i (some (.dT (ks ++ [k]) (vs ++ [y.1]))))) else none
          | none => none)
        | _ => none else none
theorem s_setix {i : Nat} {ix : E} : evS cf (.setix i ix e) ρ = (evE cf e ρ).bind (setK cf ix i) := by
  rw [evS]
  cases evE cf e ρ with
  | none => rfl
  | some y =>
    obtain ⟨d, ρ1⟩ := y
    simp only [Option.bind_some, setK]
    split
    · cases evE cf ix ρ1 with
      | none => rfl
      | some x => obtain ⟨x, ρ2⟩ := x; rfl
    · rfl
def seqK (g : Env → Option (Fl × Env)) : Fl × Env → Option (Fl × Env)
  | (.nx, ρ) => g ρ
  | x => some x
@[simp] theorem seqK_nx {g : Env → Option (Fl × Env)} : seqK g (.nx, ρ) = g ρ := rfl
@[simp] theorem seqK_rt {g : Env → Option (Fl × Env)} {d : D} : seqK g (.rt d, ρ) = some (.rt d, ρ) := rfl
@[simp] theorem seqK_bk {g : Env → Option (Fl × Env)} : seqK g (.bk, ρ) = some (.bk, ρ) := rfl
@[simp] theorem seqK_ct {g : Env → Option (Fl × Env)} : seqK g (.ct, ρ) = some (.ct, ρ) := rfl
@[simp] theorem ss_nil' : evSs cf [] ρ = some (.nx, ρ) := by rw [evSs]
@[simp] theorem ss_cons' : evSs cf (s :: ss) ρ = (evS cf s ρ).bind (seqK fun ρ1 => evSs cf ss ρ1) := by
  rw [evSs]
  cases evS cf s ρ with
  | none => rfl
  | some x =>
    obtain ⟨f, ρ1⟩ := x
    cases f <;> rfl
@[simp] theorem bT_nm {i : Nat} {d : D} : bindT (.nm i) d ρ = some (eset ρ i (some d)) := by rw [bindT]
@[simp] theorem bT_tp {ts : List Tg} {ds : List D} : bindT (.tp ts) (.tup ds) ρ = bindTs ts ds ρ := by rw [bindT]
@[simp] theorem bTs_nil : bindTs [] [] ρ = some ρ := by rw [bindTs]
@[simp] theorem bTs_cons {ts : List Tg} {d : D} {ds : List D} : bindTs (t :: ts) (d :: ds) ρ = (bindT t d ρ).bind (bindTs ts ds) := by
  rw [bindTs]
  cases bindT t d ρ <;> rfl
/-! ### environments -/
@[simp] theorem eg0 {o : Option D} : eget (o :: ρ) 0 = o := rfl
@[simp] theorem egS {o : Option D} {i : Nat} : eget (o :: ρ) (i + 1) = eget ρ i := by
  unfold eget
  rw [List.getElem?_cons_succ]
@[simp] theorem es0 {o o' : Option D} : eset (o :: ρ) 0 o' = o' :: ρ := rfl
@[simp] theorem esS {o o' : Option D} {i : Nat} : eset (o :: ρ) (i + 1) o' = o :: eset ρ i o' := rfl
@[simp] theorem ew_nil : ewipe ρ [] = ρ := rfl
@[simp] theorem ew_cons {v : Nat} {vs : List Nat} : ewipe ρ (v :: vs) = eset (ewipe ρ vs) v none := rfl
@[simp] theorem er_nil : erest ρ ρ' [] = ρ' := rfl
@[simp] theorem er_cons {v : Nat} {vs : List Nat} : erest ρ ρ' (v :: vs) = eset (erest ρ ρ' vs) v (eget ρ v) := rfl
theorem take_imm {i : Nat} {d : D} (h : eget ρ i = some d) (hi : d.imm = true) : take i ρ = some (d, ρ) := by unfold take; rw [h]; exact if_pos hi
theorem take_mut {i : Nat} {d : D} (h : eget ρ i = some d) (hi : d.imm = false) : take i ρ = some (d, eset ρ i none) := by unfold take; rw [h]; exact if_neg (by rw [hi]; decide)
@[simp] theorem take_def {i : Nat} : take i ρ = (eget ρ i).bind fun d => if d.imm then some (d, ρ) else some (d, eset ρ i none) := by
  unfold take
  cases eget ρ i <;> rfl
@[simp] theorem imm_non : D.imm .non = true := by rw [D.imm]
@[simp] theorem imm_bl {b : Bool} : D.imm (.bl b) = true := by rw [D.imm]
@[simp] theorem imm_int {b : Int} : D.imm (.int b) = true := by rw [D.imm]
@[simp] theorem imm_str {b : Str} : D.imm (.str b) = true := by rw [D.imm]
@[simp] theorem imm_tup {b : List D} : D.imm (.tup b) = D.imms b := by rw [D.imm]
@[simp] theorem imm_frz {b : List D} : D.imm (.frz b) = D.imms b := by rw [D.imm]
@[simp] theorem imm_lst {b : List D} : D.imm (.lst b) = false := by rw [D.imm]
@[simp] theorem imm_dT {k : List (List Key)} {b : List D} : D.imm (.dT k b) = false := by rw [D.imm]
@[simp] theorem imms_nil : D.imms [] = true := by rw [D.imms]
@[simp] theorem imms_cons {d : D} {ds : List D} : D.imms (d :: ds) = (d.imm && D.imms ds) := by rw [D.imms]
@[simp] theorem imms_app {a b : List D} : D.imms (a ++ b) = (D.imms a && D.imms b) := by
  induction a with
  | nil => simp
  | cons x a ih => simp [ih, Bool.and_assoc]
@[simp] theorem imms_ints {l : List Int} : D.imms (l.map D.int) = true := by
  induction l with
  | nil => simp
  | cons x a ih => simp [ih]
@[simp] theorem lent_nil {ds : List D} : lent [] ds = [] := by cases ds <;> rfl
@[simp] theorem lent_val {d d' : D} {os : List Opd} {ds : List D} : lent (.val d :: os) (d' :: ds) = lent os ds := rfl
@[simp] theorem lent_ref {i : Nat} {d : D} {os : List Opd} {ds : List D} : lent (.ref i :: os) (d :: ds) = if d.imm then lent os ds else i :: lent os ds := rfl
@[simp] theorem give_nil {fin : Env} : giveBack [] [] fin ρ = ρ := by unfold giveBack; rfl
@[simp] theorem give_val {d d' : D} {os : List Opd} {ds : List D} {fin : Env} : giveBack (.val d :: os) (d' :: ds) fin ρ = giveBack os ds fin.tail ρ := rfl
@[simp] theorem give_ref {i : Nat} {d : D} {os : List Opd} {ds : List D} {fin : Env} : giveBack (.ref i :: os) (d :: ds) fin ρ = giveBack os ds fin.tail (if d.imm then ρ else eset ρ i (fin.head?.getD none)) := rfl
/-! ### calls -/
def retK (ρ : Env) : Fl × Env → Option (D × Env)
  | (.rt d, ρ') => some (d, finOf ρ ρ')
  | (.nx, ρ') => some (.non, finOf ρ ρ')
  | _ => none
@[simp] theorem retK_rt {d : D} : retK ρ (.rt d, ρ') = some (d, finOf ρ ρ') := rfl
@[simp] theorem retK_nx : retK ρ (.nx, ρ') = some (.non, finOf ρ ρ') := rfl
theorem callFn_eq {f : Fn} : callFn cf f ρ = if decide (ρ.length = f.par) && pinned f.pins 0 ρ then (evSs cf f.body (ρ ++ List.replicate (f.slots - f.par) none)).bind (retK ρ) else none := by
  unfold callFn
  split
  · cases evSs cf f.body (ρ ++ List.replicate (f.slots - f.par) none) with
    | none => rfl
    | some x =>
      obtain ⟨fl, ρ1⟩ := x
      cases fl <;> rfl
  · rfl
theorem callS {prog : Nat → Option Fn} {k f : Nat} {fn : Fn} (h : prog f = some fn) : callF prog (k + 1) f ρ = callFn (callF prog k) fn ρ := by
  show (match prog f with
    | some fn => callFn (callF prog k) fn ρ
    | none => none) = _
  rw [h]
@[simp] theorem pin_nil {pins : List Nat} {i : Nat} : pinned pins i [] = true := by rw [pinned]
@[simp] theorem pin_cons {pins : List Nat} {i : Nat} {d : D} : pinned pins i (some d :: ρ) = ((d.imm || pins.contains i) && pinned pins (i + 1) ρ) := by rw [pinned]
@[simp] theorem fin_nil : finOf [] ρ' = [] := by unfold finOf; rfl
@[simp] theorem fin_cons {d : D} {f : Option D} {fs : Env} : finOf (some d :: ρ) (f :: fs) = (if d.imm then some d else f) :: finOf ρ fs := by rw [finOf]
@[simp] theorem watch_nil : watch ρ [] = true := by rw [watch]
@[simp] theorem watch_cons {i : Nat} {d : D} {r : List (Nat × D)} : watch ρ ((i, d) :: r) = (decide (eget ρ i = some d) && watch ρ r) := by rw [watch]
@[simp] theorem wof_ref {i : Nat} {d : D} : watchOf (.ref i) d = [(i, d)] := rfl
@[simp] theorem wof_val {d d' : D} : watchOf (.val d') d = [] := rfl
/-! ### folds -/
/-- a loop that runs to its end -/
theorem for_fold {α : Type} {ws : List (Nat × D)} {body : Env → Option (Fl × Env)} (st : α → Env) (step : α → D → α) : ∀ {ds : List D} {a : α}, (∀ a, watch (st a) ws = true) → (∀ a, ∀ d ∈ ds, ∃ ρ1, bindT t d (st a) = some ρ1 ∧ body ρ1 = some (.nx, st (step a d))) →
    forL ws t body ds (st a) = some (.nx, st (ds.foldl step a))
  | [], a, hw, _ => by rw [forL, if_pos (hw a)]; rfl
  | d :: ds, a, hw, h => by
    obtain ⟨ρ1, h1, h2⟩ := h a d List.mem_cons_self
    rw [forL, if_pos (hw a), h1]
    simp only [h2]
    exact for_fold st step hw fun a d hd => h a d (List.mem_cons_of_mem _ hd)
/-- .. where the body needs a property of the state -/
theorem for_inv {α : Type} {ws : List (Nat × D)} {body : Env → Option (Fl × Env)} (st : α → Env) (Pr : List D → α → Prop) : ∀ {ds : List D} {a : α}, Pr ds a → (∀ ds a, Pr ds a → watch (st a) ws = true) → (∀ d ds a, Pr (d :: ds) a → ∃ ρ1 a', bindT t d (st a) = some ρ1 ∧ body ρ1 = some (.nx, st a') ∧ Pr ds a') →
    ∃ a', forL ws t body ds (st a) = some (.nx, st a') ∧ Pr [] a'
  | [], a, h0, hw, _ => ⟨a, by rw [forL, if_pos (hw _ _ h0)], h0⟩
  | d :: ds, a, h0, hw, h => by
    obtain ⟨ρ1, a', h1, h2, h3⟩ := h d ds a h0
    obtain ⟨a2, q1, q2⟩ := for_inv st Pr h3 hw h
    refine ⟨a2, ?_, q2⟩
    rw [forL, if_pos (hw _ _ h0), h1]
    simp only [h2]
    exact q1
/-- a comprehension without ifs that leaves the environment -/
theorem comp_map {ws : List (Nat × D)} {own : List Nat} {elt : Env → Option (D × Env)} {cond : Env → Option (Bool × Env)} (f : D → D) (hw : watch ρ ws = true) : ∀ {ds acc : List D}, (∀ d ∈ ds, ∃ ρ1 ρ3, bindT t d ρ = some ρ1 ∧ cond ρ1 = some (true, ρ1) ∧ elt ρ1 = some (f d, ρ3) ∧ ewipe ρ3 own = ρ) → acc.length + ds.length ≤ sizeLine →
    compL ws own t cond elt ds ρ acc = some (acc ++ ds.map f, ρ)
  | [], acc, _, _ => by rw [compL, if_pos hw]; simp
  | d :: ds, acc, h, hz => by
    obtain ⟨ρ1, ρ3, h1, h2, h3, h4⟩ := h d List.mem_cons_self
    rw [List.length_cons] at hz
    rw [compL, if_pos hw, h1]
    simp only [h2, h3]
    rw [if_pos (decide_eq_true (by omega)), h4, comp_map f hw (fun d hd => h d (List.mem_cons_of_mem _ hd)) (by rw [List.length_append, List.length_singleton]; omega)]
    simp
/-- .. with an if -/
theorem comp_filter {ws : List (Nat × D)} {own : List Nat} {elt : Env → Option (D × Env)} {cond : Env → Option (Bool × Env)} (p : D → Bool) (f : D → D) (hw : watch ρ ws = true) : ∀ {ds acc : List D}, (∀ d ∈ ds, ∃ ρ1 ρ2, bindT t d ρ = some ρ1 ∧ cond ρ1 = some (p d, ρ2) ∧ (p d = false → ewipe ρ2 own = ρ) ∧ (p d = true → ∃ ρ3, elt ρ2 = some (f d, ρ3) ∧ ewipe ρ3 own = ρ)) → acc.length + ds.length ≤ sizeLine →
    compL ws own t cond elt ds ρ acc = some (acc ++ (ds.filter p).map f, ρ)
  | [], acc, _, _ => by rw [compL, if_pos hw]; simp
  | d :: ds, acc, h, hz => by
    obtain ⟨ρ1, ρ2, h1, h2, h3, h4⟩ := h d List.mem_cons_self
    rw [List.length_cons] at hz
    rw [compL, if_pos hw, h1]
    simp only [h2]
    cases hp : p d with
    | true =>
      obtain ⟨ρ3, h5, h6⟩ := h4 hp
      simp only [h5]
      rw [if_pos (decide_eq_true (by omega)), h6, comp_filter p f hw (fun d hd => h d (List.mem_cons_of_mem _ hd)) (by rw [List.length_append, List.length_singleton]; omega)]
      simp [hp]
    | false =>
      simp only
      rw [h3 hp, comp_filter p f hw (fun d hd => h d (List.mem_cons_of_mem _ hd)) (by omega)]
      simp [hp]
/-- a comprehension whose elements change the state: it gives as many values, each by Pv -/
theorem comp_draw {α : Type} {ws : List (Nat × D)} {own : List Nat} {elt : Env → Option (D × Env)} {cond : Env → Option (Bool × Env)} (st : α → Env) (Pr : Nat → α → Prop) (Pv : D → D → Prop) : ∀ {ds acc : List D} {a : α}, Pr ds.length a → (∀ n a, Pr n a → watch (st a) ws = true) →
    (∀ d ∈ ds, ∀ n a, Pr (n + 1) a → ∃ ρ1 v ρ3 a', bindT t d (st a) = some ρ1 ∧ cond ρ1 = some (true, ρ1) ∧ elt ρ1 = some (v, ρ3) ∧ ewipe ρ3 own = st a' ∧ Pr n a' ∧ Pv d v) → acc.length + ds.length ≤ sizeLine →
    ∃ vs a', compL ws own t cond elt ds (st a) acc = some (acc ++ vs, st a') ∧ Pr 0 a' ∧ PySem.Paired Pv ds vs
  | [], acc, a, h0, hw, _, _ => ⟨[], a, by rw [compL, if_pos (hw _ _ h0)]; simp, h0, .nil⟩
  | d :: ds, acc, a, h0, hw, h, hz => by
    rw [List.length_cons] at hz
    obtain ⟨ρ1, v, ρ3, a', h1, h2, h3, h4, h5, h6⟩ := h d List.mem_cons_self _ a h0
    obtain ⟨vs, a2, q1, q2, q3⟩ := comp_draw (acc := acc ++ [v]) st Pr Pv h5 hw (fun d hd => h d (List.mem_cons_of_mem _ hd)) (by rw [List.length_append, List.length_singleton]; omega)
    refine ⟨v :: vs, a2, ?_, q2, .cons h6 q3⟩
    rw [compL, if_pos (hw _ _ h0), h1]
    simp only [h2, h3]
    rw [if_pos (decide_eq_true (by omega)), h4, q1]
    simp
end
end DL
set_option maxHeartbeats 1000000
/-! P3: comprehensions and loops over a row of things that stand for values. -/
namespace DL
open PySem L2
@[simp] theorem seq_tup {l : List D} : (D.tup l).seq? = some l := rfl
@[simp] theorem seq_lst {l : List D} : (D.lst l).seq? = some l := rfl
@[simp] theorem seq_frz {l : List D} : (D.frz l).seq? = some l := rfl
@[simp] theorem pd1 {p : Prim} {a : D} : primD p [a] = prim1 p a := rfl
@[simp] theorem pd2 {p : Prim} {a b : D} : primD p [a, b] = prim2 p a b := rfl
@[simp] theorem pd3 {a : D} {i j : Int} : primD (.slice true true) [a, .int i, .int j] = sliceD a (some i) (some j) := rfl
section
variable {cf : Cf} {ρ ρ' ρ1 : Env} {e c : E} {t : Tg} {it : It} {own : List Nat} {α β : Type}
theorem compM {ws : List (Nat × D)} {elt : Env → Option (D × Env)} {cond : Env → Option (Bool × Env)} (g f : α → D) (hw : watch ρ ws = true) : ∀ {xs : List α} {acc : List D}, (∀ x ∈ xs, ∃ ρ1 ρ3, bindT t (g x) ρ = some ρ1 ∧ cond ρ1 = some (true, ρ1) ∧ elt ρ1 = some (f x, ρ3) ∧ ewipe ρ3 own = ρ) → acc.length + xs.length ≤ sizeLine →
    compL ws own t cond elt (xs.map g) ρ acc = some (acc ++ xs.map f, ρ)
  | [], acc, _, _ => by rw [List.map_nil, compL, if_pos hw]; simp
  | d :: ds, acc, h, hz => by
    obtain ⟨ρ1, ρ3, h1, h2, h3, h4⟩ := h d List.mem_cons_self
    rw [List.length_cons] at hz
    rw [List.map_cons, compL, if_pos hw, h1]
    simp only [h2, h3]
    rw [if_pos (decide_eq_true (by omega)), h4, compM g f hw (fun d hd => h d (List.mem_cons_of_mem _ hd)) (by rw [List.length_append, List.length_singleton]; omega)]
    simp
theorem compF {ws : List (Nat × D)} {elt : Env → Option (D × Env)} {cond : Env → Option (Bool × Env)} (g f : α → D) (p : α → Bool) (hw : watch ρ ws = true) : ∀ {xs : List α} {acc : List D}, (∀ x ∈ xs, ∃ ρ1 ρ2, bindT t (g x) ρ = some ρ1 ∧ cond ρ1 = some (p x, ρ2) ∧ (p x = false → ewipe ρ2 own = ρ) ∧ (p x = true → ∃ ρ3, elt ρ2 = some (f x, ρ3) ∧ ewipe ρ3 own = ρ)) → acc.length + xs.length ≤ sizeLine →
    compL ws own t cond elt (xs.map g) ρ acc = some (acc ++ (xs.filter p).map f, ρ)
  | [], acc, _, _ => by rw [List.map_nil, compL, if_pos hw]; simp
  | d :: ds, acc, h, hz => by
    obtain ⟨ρ1, ρ2, h1, h2, h3, h4⟩ := h d List.mem_cons_self
    rw [List.length_cons] at hz
    rw [List.map_cons, compL, if_pos hw, h1]
    simp only [h2]
    cases hp : p d with
    | true =>
      obtain ⟨ρ3, h5, h6⟩ := h4 hp
      simp only [h5]
      rw [if_pos (decide_eq_true (by omega)), h6, compF g f p hw (fun d hd => h d (List.mem_cons_of_mem _ hd)) (by rw [List.length_append, List.length_singleton]; omega)]
      simp [hp]
    | false =>
      simp only
      rw [h3 hp, compF g f p hw (fun d hd => h d (List.mem_cons_of_mem _ hd)) (by omega)]
      simp [hp]
/-- a comprehension without ifs -/
theorem ev_compM {ws : List (Nat × D)} (xs : List α) (g f : α → D) (hit : evIt cf it ρ = some ((xs.map g, ws), ρ1)) (hw : watch (ewipe ρ1 own) ws = true)
    (h : ∀ x ∈ xs, ∃ ρ2 ρ3, bindT t (g x) (ewipe ρ1 own) = some ρ2 ∧ evE cf e ρ2 = some (f x, ρ3) ∧ ewipe ρ3 own = ewipe ρ1 own) (hz : xs.length ≤ sizeLine) (hr : erest ρ1 (ewipe ρ1 own) own = ρ') :
    evE cf (.comp own t it [] e) ρ = some (.lst (xs.map f), ρ') := by
  rw [ev_comp, hit, Option.bind_some, compM g f hw (fun x hx => ?_) (by simpa using hz), Option.map_some, hr]
  · rfl
  · obtain ⟨ρ2, ρ3, h1, h2, h3⟩ := h x hx
    exact ⟨ρ2, ρ3, h1, cs_nil, h2, h3⟩
theorem ev_compF {ws : List (Nat × D)} (xs : List α) (g f : α → D) (p : α → Bool) (hit : evIt cf it ρ = some ((xs.map g, ws), ρ1)) (hw : watch (ewipe ρ1 own) ws = true)
    (h : ∀ x ∈ xs, ∃ ρ2 ρ3, bindT t (g x) (ewipe ρ1 own) = some ρ2 ∧ evE cf c ρ2 = some (.bl (p x), ρ3) ∧ (p x = false → ewipe ρ3 own = ewipe ρ1 own) ∧ (p x = true → ∃ ρ4, evE cf e ρ3 = some (f x, ρ4) ∧ ewipe ρ4 own = ewipe ρ1 own)) (hz : xs.length ≤ sizeLine) (hr : erest ρ1 (ewipe ρ1 own) own = ρ') :
    evE cf (.comp own t it [c] e) ρ = some (.lst ((xs.filter p).map f), ρ') := by
  rw [ev_comp, hit, Option.bind_some, compF g f p hw (fun x hx => ?_) (by simpa using hz), Option.map_some, hr]
  · rfl
  · obtain ⟨ρ2, ρ3, h1, h2, h3, h4⟩ := h x hx
    refine ⟨ρ2, ρ3, h1, ?_, h3, h4⟩
    rw [cs_one, h2]
    rfl
/-- a loop that runs to its end -/
theorem forM {ws : List (Nat × D)} {body : Env → Option (Fl × Env)} (g : α → D) (st : β → Env) (step : β → α → β) : ∀ {xs : List α} {b : β}, (∀ b, watch (st b) ws = true) → (∀ b, ∀ x ∈ xs, ∃ ρ1, bindT t (g x) (st b) = some ρ1 ∧ body ρ1 = some (.nx, st (step b x))) →
    forL ws t body (xs.map g) (st b) = some (.nx, st (xs.foldl step b))
  | [], b, hw, _ => by rw [List.map_nil, forL, if_pos (hw b)]; rfl
  | d :: ds, b, hw, h => by
    obtain ⟨ρ1, h1, h2⟩ := h b d List.mem_cons_self
    rw [List.map_cons, forL, if_pos (hw b), h1]
    simp only [h2]
    exact forM g st step hw fun b d hd => h b d (List.mem_cons_of_mem _ hd)
/-- .. with a property -/
theorem forI {ws : List (Nat × D)} {body : Env → Option (Fl × Env)} (g : α → D) (st : β → Env) (Pr : List α → β → Prop) : ∀ {xs : List α} {b : β}, Pr xs b → (∀ xs b, Pr xs b → watch (st b) ws = true) → (∀ x xs b, Pr (x :: xs) b → ∃ ρ1 b', bindT t (g x) (st b) = some ρ1 ∧ body ρ1 = some (.nx, st b') ∧ Pr xs b') →
    ∃ b', forL ws t body (xs.map g) (st b) = some (.nx, st b') ∧ Pr [] b'
  | [], b, h0, hw, _ => ⟨b, by rw [List.map_nil, forL, if_pos (hw _ _ h0)], h0⟩
  | d :: ds, b, h0, hw, h => by
    obtain ⟨ρ1, b', h1, h2, h3⟩ := h d ds b h0
    obtain ⟨a2, q1, q2⟩ := forI g st Pr h3 hw h
    refine ⟨a2, ?_, q2⟩
    rw [List.map_cons, forL, if_pos (hw _ _ h0), h1]
    simp only [h2]
    exact q1
end
theorem allBl_map {α : Type} {f : α → Bool} : ∀ l : List α, allBl (l.map fun x => D.bl (f x)) = some (l.map f)
  | [] => rfl
  | x :: l => by
    show (allBl (l.map fun x => D.bl (f x))).map (f x :: ·) = _
    rw [allBl_map l]; rfl
theorem allInt_map {α : Type} {f : α → Int} : ∀ l : List α, allInt (l.map fun x => D.int (f x)) = some (l.map f)
  | [] => rfl
  | x :: l => by
    show (allInt (l.map fun x => D.int (f x))).map (f x :: ·) = _
    rw [allInt_map l]; rfl
theorem rangeD_nat {a b : Nat} (h : b ≤ a + 100000) (ha : a ≤ 100000) (hb : b ≤ 200000) : rangeD (a : Int) (b : Int) = some ((List.range (b - a)).map fun i : Nat => D.int ((a + i : Nat) : Int)) := by
  unfold rangeD
  have e : ((b : Int) - (a : Int)).toNat = b - a := by omega
  rw [if_pos (by simp only [Bool.and_eq_true, decide_eq_true_eq]; omega), e]
  simp
end DL
set_option maxHeartbeats 1000000
/-! P4: tuples of ints. -/
namespace DL
open PySem L2
/-- a tuple of ints -/
abbrev T (l : List Int) : D := .tup (l.map D.int)
def cutI (l : List Int) (lo hi : Option Int) : List Int := (l.drop (HT.sIx l.length 0 lo)).take (HT.sIx l.length l.length hi - HT.sIx l.length 0 lo)
theorem cut_from (l : List Int) (a : Nat) : cutI l (some (a : Int)) none = l.drop a := by
  unfold cutI
  rw [HT.sIx_nat, HT.sIx_none]
  rw [List.take_of_length_le (by rw [List.length_drop]; omega)]
  by_cases h : a ≤ l.length
  · rw [Nat.min_eq_left h]
  · rw [Nat.min_eq_right (by omega), List.drop_of_length_le (Nat.le_refl _), List.drop_of_length_le (by omega)]
theorem cut_to (l : List Int) (a : Nat) : cutI l none (some (a : Int)) = l.take a := by
  unfold cutI
  rw [HT.sIx_nat, HT.sIx_none, List.drop_zero, Nat.sub_zero]
  by_cases h : a ≤ l.length
  · rw [Nat.min_eq_left h]
  · rw [Nat.min_eq_right (by omega), List.take_of_length_le (Nat.le_refl _), List.take_of_length_le (by omega)]
theorem cut_mid (l : List Int) (a b : Nat) : cutI l (some (a : Int)) (some (b : Int)) = (l.drop a).take (b - a) := by
  unfold cutI
  rw [HT.sIx_nat, HT.sIx_nat]
  by_cases h : a ≤ l.length
  · rw [Nat.min_eq_left h]
    by_cases h2 : b ≤ l.length
    · rw [Nat.min_eq_left h2]
    · rw [Nat.min_eq_right (by omega), List.take_of_length_le (by rw [List.length_drop]; omega), List.take_of_length_le (by rw [List.length_drop]; omega)]
  · have e : min a l.length = l.length := Nat.min_eq_right (by omega)
    rw [e, List.drop_of_length_le (Nat.le_refl _), List.drop_of_length_le (by omega)]
    simp
theorem cutI_len (l : List Int) (lo hi : Option Int) : (cutI l lo hi).length ≤ l.length := by
  unfold cutI
  rw [List.length_take, List.length_drop]
  omega
theorem cutD_T (l : List Int) (lo hi : Option Int) : cutD (l.map D.int) lo hi = (cutI l lo hi).map D.int := by
  unfold cutD cutI
  rw [List.length_map, ← List.map_drop, ← List.map_take]
@[simp] theorem slice_T (l : List Int) (lo hi : Option Int) : sliceD (T l) lo hi = some (T (cutI l lo hi)) := by
  unfold sliceD
  simp only [seq_tup, cutD_T, reseq, imms_ints, if_true]
theorem add_T {a b : List Int} (h : a.length + b.length ≤ sizeLine) : binD .add (T a) (T b) = some (T (a ++ b)) := by
  unfold binD
  simp [h]
@[simp] theorem rev_T (l : List Int) : revD (T l) = some (T l.reverse) := by
  unfold revD
  simp
@[simp] theorem len_T (l : List Int) : lenD (T l) = some (.int l.length) := by simp [lenD]
theorem atI_map {l : List Int} {i : Int} : atI (l.map D.int) i = (atI l i).map D.int := by
  unfold atI
  rw [List.length_map]
  cases ixN l.length i with
  | none => rfl
  | some j => simp
theorem ix_T {l : List Int} {i x : Int} (h : atI l i = some x) : ixD (T l) (.int i) = some (.int x) := by
  show immO (atI (l.map D.int) i) = _
  rw [atI_map, h]
  simp [immO]
theorem allInt_T (l : List Int) : allInt (l.map D.int) = some l := by
  have := allInt_map (f := id) l
  simpa using this
theorem idx_T {l : List Int} {i : Int} (h : i ∈ l) : indexD (T l) (.int i) = some (.int (l.idxOf i : Nat)) := by
  unfold indexD
  simp only [allInt_T]
  rw [if_pos (decide_eq_true h)]
theorem idx_L {l : List Int} {i : Int} (h : i ∈ l) : indexD (.lst (l.map D.int)) (.int i) = some (.int (l.idxOf i : Nat)) := by
  unfold indexD
  simp only [allInt_T]
  rw [if_pos (decide_eq_true h)]
/-- a road, from its lesser end -/
def road (a b : Int) : D := if a < b then .tup [.int a, .int b] else .tup [.int b, .int a]
theorem road_alike (a b c d : Int) : alikeD (road a b) (road c d) = true := by
  unfold road
  split <;> split <;> rfl
theorem road_depth (a b : Int) : D.depth (road a b) = 1 := by
  unfold road
  split <;> rfl
@[simp] theorem road_imm (a b : Int) : D.imm (road a b) = true := by
  unfold road
  split <;> simp
/-- pairs of neighbours around -/
def around (l : List Int) : List (Int × Int) := l.zip (l.tail ++ l.take 1)
theorem zip_T {a b : List Int} : ((a.map D.int).zip (b.map D.int)).map (fun x => D.tup [x.1, x.2]) = (a.zip b).map fun p => .tup [.int p.1, .int p.2] := by
  rw [List.zip_map, List.map_map]
  rfl
def ral (l : List Int) : List D := msort l.length ((around l).map fun p => road p.1 p.2)
theorem around_len {l : List Int} (h : 1 ≤ l.length) : (around l).length = l.length := by
  unfold around
  rw [List.length_zip, List.length_append, List.length_tail, List.length_take]
  omega
theorem sorted_ral {l : List Int} (h : 1 ≤ l.length) : sortedD (.lst ((around l).map fun p => road p.1 p.2)) = some (.lst (ral l)) := by
  have hl := around_len h
  unfold ral
  cases ha : around l with
  | nil => rw [ha] at hl; simp at hl; omega
  | cons p ps =>
    rw [ha] at hl
    rw [List.map_cons]
    show (if alikeAll (road p.1 p.2) (ps.map fun p => road p.1 p.2) && !isTup0 (road p.1 p.2) then _ else none) = _
    rw [if_pos]
    · rw [List.length_map, ← hl, List.length_cons]
    · unfold alikeAll
      rw [road_alike, road_depth]
      have : isTup0 (road p.1 p.2) = false := by unfold road; split <;> rfl
      rw [this]
      simp [road_alike]
end DL
set_option maxHeartbeats 1000000
/-! P5: comparisons, tables with tuple keys. -/
namespace DL
open PySem L2
theorem eqv_alike {a b : D} (h : alikeD a b = true) : PyData.eqv a.py b.py = decide (a = b) := by
  rw [(alikeD_lib h).2.1]
  by_cases e : a = b
  · subst e; rw [D.beq_refl]; simp
  · rw [decide_eq_false e]
    cases q : D.beq a b with
    | false => rfl
    | true => exact absurd (D.eq_of_beq q) e
@[simp] theorem cmp_lt {a b : Int} : cmpD .lt (.int a) (.int b) = some (decide (a < b)) := rfl
@[simp] theorem cmp_le {a b : Int} : cmpD .le (.int a) (.int b) = some (decide (a ≤ b)) := rfl
@[simp] theorem cmp_gt {a b : Int} : cmpD .gt (.int a) (.int b) = some (decide (b < a)) := rfl
@[simp] theorem cmp_ge {a b : Int} : cmpD .ge (.int a) (.int b) = some (decide (b ≤ a)) := rfl
@[simp] theorem cmp_eqI {a b : Int} : cmpD .eq (.int a) (.int b) = some (decide (a = b)) := by
  have h := eqv_alike (a := .int a) (b := .int b) rfl
  show (if SeqAt.shaped (D.int a).py && SeqAt.shaped (D.int b).py then some (PyData.eqv (D.int a).py (D.int b).py) else none) = _
  rw [h, if_pos (by rfl)]
  simp
@[simp] theorem cmp_neI {a b : Int} : cmpD .ne (.int a) (.int b) = some (!decide (a = b)) := by
  have h := eqv_alike (a := .int a) (b := .int b) rfl
  show (if SeqAt.shaped (D.int a).py && SeqAt.shaped (D.int b).py then some (!PyData.eqv (D.int a).py (D.int b).py) else none) = _
  rw [h, if_pos (by rfl)]
  simp
@[simp] theorem bin_addI {a b : Int} : binD .add (.int a) (.int b) = some (.int (a + b)) := rfl
@[simp] theorem bin_subI {a b : Int} : binD .sub (.int a) (.int b) = some (.int (a - b)) := rfl
/-! ### tables -/
theorem zipKV_of : ∀ {kd : List D} {ks : List (List Key)} {vs : List D}, kd.map keyOf = ks.map some → kd.length = vs.length → zipKV kd vs = some (ks.zip vs)
  | [], ks, vs, h, hl => by
    cases ks with
    | nil => cases vs with
      | nil => rfl
      | cons _ _ => simp at hl
    | cons _ _ => simp at h
  | d :: kd, ks, vs, h, hl => by
    cases ks with
    | nil => simp at h
    | cons k ks =>
      cases vs with
      | nil => simp at hl
      | cons v vs =>
        simp only [List.map_cons, List.cons.injEq] at h
        rw [zipKV, h.1, zipKV_of h.2 (by simpa using hl)]
        rfl
theorem memT_iff {k : List Key} {ks : List (List Key)} : memT k ks = true ↔ k ∈ ks := by
  unfold memT
  rw [List.any_eq_true]
  constructor
  · rintro ⟨x, hx, e⟩
    rw [← of_decide_eq_true e]; exact hx
  · exact fun h => ⟨k, h, decide_eq_true rfl⟩
theorem buildT_of : ∀ {ks : List (List Key)} {vs : List D} {K : List (List Key)} {V : List D}, (K ++ ks).Nodup → ks.length = vs.length → buildT (ks.zip vs) K V = .dT (K ++ ks) (V ++ vs)
  | [], vs, K, V, _, hl => by
    cases vs with
    | nil => simp [buildT]
    | cons _ _ => simp at hl
  | k :: ks, vs, K, V, hn, hl => by
    cases vs with
    | nil => simp at hl
    | cons v vs =>
      have hk : memT k K = false := by
        cases q : memT k K with
        | false => rfl
        | true =>
          have := memT_iff.mp q
          exact absurd rfl ((List.nodup_append.mp hn).2.2 k this k List.mem_cons_self)
      rw [List.zip_cons_cons, buildT, if_neg (by rw [hk]; decide), buildT_of (by rw [List.append_assoc]; exact hn) (by simpa using hl)]
      simp
/-- a table of lengths, by its roads -/
theorem look_at : ∀ {ks : List (List Key)} {vs : List D} {j : Nat} {k : List Key} {v : D}, ks.Nodup → ks[j]? = some k → vs[j]? = some v → lookT ks vs k = some v
  | [], _, _, _, _, _, h, _ => by simp at h
  | k' :: ks, vs, j, k, v, hn, h, hv => by
    cases vs with
    | nil => simp at hv
    | cons v' vs =>
      rw [lookT]
      cases j with
      | zero =>
        simp at h hv
        rw [if_pos h, hv]
      | succ j =>
        have hne : k' ≠ k := fun e => (List.nodup_cons.mp hn).1 (by rw [e]; exact List.mem_of_getElem? (by simpa using h))
        rw [if_neg hne]
        exact look_at (List.nodup_cons.mp hn).2 (by simpa using h) (by simpa using hv)
theorem ix_look {ks : List (List Key)} {vs : List D} {d v : D} {k : List Key} (hk : keyOf d = some k) (h : lookT ks vs k = some v) (hi : v.imm = true) : ixD (.dT ks vs) d = some v := by
  unfold ixD
  simp only [hk, h, immO, hi, if_true]
/-- a key's place -/
def kix (ks : List (List Key)) (k : List Key) : Nat := ks.findIdx fun x => decide (x = k)
theorem kix_lt {ks : List (List Key)} {k : List Key} (h : memT k ks = true) : kix ks k < ks.length := List.findIdx_lt_length_of_exists (by
  unfold memT at h
  rw [List.any_eq_true] at h
  exact h)
theorem kix_at {ks : List (List Key)} {k : List Key} (h : memT k ks = true) : ks[kix ks k]? = some k := by
  have hl := kix_lt h
  rw [List.getElem?_eq_getElem hl]
  have := List.findIdx_getElem (w := hl)
  exact congrArg some (of_decide_eq_true this)
theorem ral_mem {l : List Int} {r : D} (h : r ∈ ral l) : ∃ p ∈ around l, r = road p.1 p.2 := by
  unfold ral at h
  by_cases hl : 1 ≤ l.length
  · rw [msort_eq (by rw [List.length_map, around_len hl]; exact Nat.le_refl _)] at h
    have := (List.mergeSort_perm _ _).mem_iff.mp h
    obtain ⟨p, hp, rfl⟩ := List.mem_map.mp this
    exact ⟨p, hp, rfl⟩
  · have : l = [] := List.length_eq_zero_iff.mp (by omega)
    subst this
    simp [around, msort] at h
theorem ral_imms (l : List Int) : D.imms (ral l) = true := by
  have : ∀ ds : List D, (∀ d ∈ ds, d.imm = true) → D.imms ds = true := fun ds => by
    induction ds with
    | nil => simp
    | cons d ds ih => intro h; simp [h d List.mem_cons_self, ih fun x hx => h x (List.mem_cons_of_mem _ hx)]
  refine this _ fun d hd => ?_
  obtain ⟨p, _, rfl⟩ := ral_mem hd
  simp
theorem ral_len {l : List Int} (h : 1 ≤ l.length) : (ral l).length = l.length := by
  unfold ral
  rw [msort_eq (by rw [List.length_map, around_len h]; exact Nat.le_refl _), List.length_mergeSort, List.length_map, around_len h]
end DL
set_option maxHeartbeats 1000000
/-! P6: comparisons of plain values: ints, truth values, tuples of these. -/
namespace DL
open PySem L2
mutual
def plD : D → Bool
  | .int _ => true
  | .bl _ => true
  | .tup ds => plDs ds
  | _ => false
def plDs : List D → Bool
  | [] => true
  | d :: ds => plD d && plDs ds
end
mutual
theorem pl_lay : ∀ {d : D}, plD d = true → PyData.canLay0 d.py = true ∧ d.py.depth = D.depth d ∧ d.imm = true
  | .int i, _ => by
    refine ⟨by rw [D.py, PyData.canLay0], by rw [D.py, PyData.depth, D.depth] <;> intros <;> simp_all, by simp⟩
  | .bl i, _ => by
    refine ⟨by rw [D.py, PyData.canLay0], by rw [D.py, PyData.depth, D.depth] <;> intros <;> simp_all, by simp⟩
  | .tup ds, h => by
    rw [plD] at h
    obtain ⟨h1, h2, h3⟩ := pls_lay h
    refine ⟨by rw [D.py, PyData.canLay0]; exact h1, by rw [D.py, PyData.depth, D.depth, h2], by rw [D.imm]; exact h3⟩
  | .non, h | .str _, h | .lst _, h | .frz _, h | .dT _ _, h => by rw [plD] at h <;> simp_all
theorem pls_lay : ∀ {ds : List D}, plDs ds = true → PyData.canLayAll0 (D.pys ds) = true ∧ PyData.depthAll (D.pys ds) = D.depths ds ∧ D.imms ds = true
  | [], _ => ⟨by rw [D.pys, PyData.canLayAll0], by rw [D.pys, PyData.depthAll, D.depths], by simp⟩
  | d :: ds, h => by
    rw [plDs, Bool.and_eq_true] at h
    obtain ⟨h1, h2, h3⟩ := pl_lay h.1
    obtain ⟨g1, g2, g3⟩ := pls_lay h.2
    refine ⟨by rw [D.pys, PyData.canLayAll0, h1, g1]; rfl, by rw [D.pys, PyData.depthAll, D.depths, h2, g2], by rw [D.imms, h3, g3]; rfl⟩
end
theorem plDs_of : ∀ {ds : List D}, (∀ d ∈ ds, plD d = true) → plDs ds = true
  | [], _ => by rw [plDs]
  | d :: ds, h => by rw [plDs, h d List.mem_cons_self, plDs_of fun x hx => h x (List.mem_cons_of_mem _ hx)]; rfl
theorem depths_le {n : Nat} : ∀ {ds : List D}, (∀ d ∈ ds, D.depth d ≤ n) → D.depths ds ≤ n
  | [], _ => by rw [D.depths]; omega
  | d :: ds, h => by
    rw [D.depths]
    have h1 := h d List.mem_cons_self
    have h2 := depths_le fun x hx => h x (List.mem_cons_of_mem _ hx)
    omega
/-- a plain value, not deep -/
def Pl (d : D) : Prop := plD d = true ∧ D.depth d ≤ 60
theorem Pl.shaped {d : D} (h : Pl d) : SeqAt.shaped d.py = true := by
  obtain ⟨h1, h2, _⟩ := pl_lay h.1
  unfold SeqAt.shaped
  rw [h1, h2, decide_eq_true (by have := h.2; omega)]
  rfl
theorem Pl.imm {d : D} (h : Pl d) : d.imm = true := (pl_lay h.1).2.2
theorem shaped_row {ds : List D} (h : ∀ d ∈ ds, Pl d) : SeqAt.shaped (.list (D.pys ds)) = true ∧ SeqAt.shaped (.tuple (D.pys ds)) = true := by
  obtain ⟨h1, h2, _⟩ := pls_lay (plDs_of fun d hd => (h d hd).1)
  have h3 := depths_le fun d hd => (h d hd).2
  unfold SeqAt.shaped
  rw [PyData.canLay0, PyData.canLay0, PyData.depth, PyData.depth, h1, h2, decide_eq_true (by omega)]
  exact ⟨rfl, rfl⟩
theorem pl_int {i : Int} : Pl (.int i) := ⟨rfl, by show 0 ≤ 60; omega⟩
theorem pl_bl {b : Bool} : Pl (.bl b) := ⟨rfl, by show 0 ≤ 60; omega⟩
theorem pl_T {l : List Int} : Pl (T l) := by
  have h : ∀ d ∈ l.map D.int, Pl d := fun d hd => by
    obtain ⟨i, _, rfl⟩ := List.mem_map.mp hd
    exact pl_int
  refine ⟨by rw [plD]; exact plDs_of fun d hd => (h d hd).1, ?_⟩
  have : D.depths (l.map D.int) ≤ 0 := depths_le fun d hd => by
    obtain ⟨i, _, rfl⟩ := List.mem_map.mp hd
    exact Nat.le_refl _
  rw [D.depth]
  omega
theorem pl_tup {ds : List D} {n : Nat} (h : ∀ d ∈ ds, plD d = true ∧ D.depth d ≤ n) (hn : n < 60) : Pl (.tup ds) := by
  refine ⟨by rw [plD]; exact plDs_of fun d hd => (h d hd).1, ?_⟩
  have : D.depths ds ≤ n := depths_le fun d hd => (h d hd).2
  rw [D.depth]
  omega
theorem pl_road {a b : Int} : Pl (road a b) := by
  unfold road
  split
  · exact pl_T (l := [a, b])
  · exact pl_T (l := [b, a])
theorem alike_T : ∀ {a b : List Int}, a.length = b.length → alikeD (T a) (T b) = true := by
  intro a b h
  show alikeDs (a.map D.int) (b.map D.int) = true
  induction a generalizing b with
  | nil => cases b with
    | nil => rfl
    | cons _ _ => simp at h
  | cons x a ih => cases b with
    | nil => simp at h
    | cons y b =>
      show (alikeD (.int x) (.int y) && alikeDs (a.map D.int) (b.map D.int)) = true
      rw [ih (by simpa using h)]
      rfl
theorem cmp_eqP {a b : D} (ha : Pl a) (hb : Pl b) (h : alikeD a b = true) : cmpD .eq a b = some (decide (a = b)) := by
  show (if SeqAt.shaped a.py && SeqAt.shaped b.py then some (PyData.eqv a.py b.py) else none) = _
  rw [ha.shaped, hb.shaped, eqv_alike h]
  rfl
theorem cmp_neP {a b : D} (ha : Pl a) (hb : Pl b) (h : alikeD a b = true) : cmpD .ne a b = some (!decide (a = b)) := by
  show (if SeqAt.shaped a.py && SeqAt.shaped b.py then some (!PyData.eqv a.py b.py) else none) = _
  rw [ha.shaped, hb.shaped, eqv_alike h]
  rfl
theorem T_inj {a b : List Int} : T a = T b ↔ a = b := by
  refine ⟨fun h => ?_, fun h => by rw [h]⟩
  replace h := D.tup.inj h
  induction a generalizing b with
  | nil => cases b with
    | nil => rfl
    | cons _ _ => cases h
  | cons x a ih => cases b with
    | nil => cases h
    | cons y b =>
      have h1 := List.cons.inj h
      rw [D.int.inj h1.1, ih h1.2]
theorem cmp_eqT {a b : List Int} (h : a.length = b.length) : cmpD .eq (T a) (T b) = some (decide (a = b)) := by
  rw [cmp_eqP pl_T pl_T (alike_T h)]
  simp only [T_inj]
theorem cmp_neT {a b : List Int} (h : a.length = b.length) : cmpD .ne (T a) (T b) = some (!decide (a = b)) := by
  rw [cmp_neP pl_T pl_T (alike_T h)]
  simp only [T_inj]
@[simp] theorem cmp_eqB {a b : Bool} : cmpD .eq (.bl a) (.bl b) = some (decide (a = b)) := by
  rw [cmp_eqP pl_bl pl_bl rfl]
  simp
@[simp] theorem cmp_neB {a b : Bool} : cmpD .ne (.bl a) (.bl b) = some (!decide (a = b)) := by
  rw [cmp_neP pl_bl pl_bl rfl]
  simp
theorem any_alike {a : D} : ∀ {ds : List D}, (∀ z ∈ ds, alikeD z a = true) → (ds.any fun z => PyData.eqv z.py a.py) = decide (a ∈ ds)
  | [], _ => by simp
  | z :: ds, h => by
    rw [List.any_cons, eqv_alike (h z List.mem_cons_self), any_alike fun x hx => h x (List.mem_cons_of_mem _ hx)]
    by_cases e : z = a
    · subst e; simp
    · have e' : ¬ a = z := fun q => e q.symm
      simp [e, e']
def isRow : D → Bool
  | .tup _ => true
  | .lst _ => true
  | .frz _ => true
  | _ => false
theorem cmp_inP {a b : D} {ds : List D} (hb : isRow b = true) (hs : b.seq? = some ds) (ha : Pl a) (h : ∀ z ∈ ds, Pl z ∧ alikeD z a = true) : cmpD .inn a b = some (decide (a ∈ ds)) ∧ cmpD .nin a b = some (!decide (a ∈ ds)) := by
  obtain ⟨s1, s2⟩ := shaped_row fun z hz => (h z hz).1
  have e := any_alike fun z hz => (h z hz).2
  have s0 := ha.shaped
  cases b <;> first | (cases hb; done) | skip
  all_goals
    cases hs
    refine ⟨?_, ?_⟩
    · show (if SeqAt.shaped a.py && SeqAt.shaped (D.py _) then some (ds.any fun z => PyData.eqv z.py a.py) else none) = _
      rw [D.py, s0, e]
      first | rw [s1] | rw [s2]
      rfl
    · show (if SeqAt.shaped a.py && SeqAt.shaped (D.py _) then some (!ds.any fun z => PyData.eqv z.py a.py) else none) = _
      rw [D.py, s0, e]
      first | rw [s1] | rw [s2]
      rfl
theorem int_inj {l : List Int} {i : Int} : D.int i ∈ l.map D.int ↔ i ∈ l := by
  rw [List.mem_map]
  exact ⟨fun ⟨x, hx, e⟩ => D.int.inj e ▸ hx, fun h => ⟨i, h, rfl⟩⟩
/-- an int within a row of ints -/
theorem cmp_inI {l : List Int} {i : Int} {b : D} (hb : isRow b = true) (hs : b.seq? = some (l.map D.int)) : cmpD .inn (.int i) b = some (decide (i ∈ l)) ∧ cmpD .nin (.int i) b = some (!decide (i ∈ l)) := by
  have := cmp_inP hb hs (pl_int (i := i)) (fun z hz => by
    obtain ⟨x, _, rfl⟩ := List.mem_map.mp hz
    exact ⟨pl_int, rfl⟩)
  simpa only [int_inj] using this
/-- a tuple of ints within a row of as long ones -/
theorem cmp_inT {q : List (List Int)} {l : List Int} {b : D} (hb : isRow b = true) (hs : b.seq? = some (q.map T)) (h : ∀ z ∈ q, z.length = l.length) : cmpD .inn (T l) b = some (decide (l ∈ q)) ∧ cmpD .nin (T l) b = some (!decide (l ∈ q)) := by
  have := cmp_inP hb hs (pl_T (l := l)) (fun z hz => by
    obtain ⟨x, hx, rfl⟩ := List.mem_map.mp hz
    exact ⟨pl_T, alike_T (h x hx)⟩)
  have e : T l ∈ q.map T ↔ l ∈ q := by
    rw [List.mem_map]
    exact ⟨fun ⟨x, hx, e⟩ => T_inj.mp e ▸ hx, fun h => ⟨l, h, rfl⟩⟩
  simpa only [e] using this
end DL
set_option maxHeartbeats 0
namespace LW
open PySem PySem.Spec PyProof.Rows L2 DL
def ir0 : Fn := ⟨1, 1, [0], [.ret (.andE (.prim (.isinst .int) [.var 0]) (.notE (.prim (.isinst .bool) [.var 0])))]⟩
def ir1 : Fn := ⟨3, 3, [0, 1, 2], [.ret (.andE (.call 0 [.var 0]) (.chain .le .le (.var 1) (.var 0) (.var 2)))]⟩
def ir2 : Fn := ⟨3, 4, [0, 1, 2], [.ret (.andE (.prim (.isinst .tuple) [.var 0]) (.prim .all [.comp [3] (.nm 3) (.seq (.var 0)) [] (.call 1 [.var 3, .var 1, .var 2])]))]⟩
def ir3 : Fn := ⟨1, 4, [0], [.asg (.nm 1) (.disp false [] []), .for (.nm 2) (.rng [.var 0]) [.expr (.meth .extend 1 [.comp [3] (.nm 3) (.rng [.prim (.bin .add) [.var 2, .int 1], .var 0]) [] (.disp true [false, false] [.var 2, .var 3])])], .ret (.var 1)]⟩
def ir4 : Fn := ⟨2, 2, [0, 1], [.ret (.ife (.prim (.cmp .lt) [.var 0, .var 1]) (.disp true [false, false] [.var 0, .var 1]) (.disp true [false, false] [.var 1, .var 0]))]⟩
def ir5 : Fn := ⟨1, 1, [0], [.ret (.call 1 [.var 0, .con "LEAST_MANY" (.int 3), .con "MOST_MANY" (.int 7)])]⟩
def ir6 : Fn := ⟨1, 1, [0], [.ifs (.orE (.notE (.prim (.isinst .tuple) [.var 0])) (.orE (.prim (.cmp .ne) [.prim .len [.var 0], .int 2]) (.notE (.call 5 [.prim .ix [.var 0, .int 0]])))) [.ret (.bl false)] [], .ret (.andE (.call 2 [.prim .ix [.var 0, .int 1], .int 0, .con "MOST_LENGTH" (.int 99)]) (.prim (.cmp .eq) [.prim .len [.prim .ix [.var 0, .int 1]], .prim .len [.call 3 [.prim .ix [.var 0, .int 0]]]]))]⟩
def ir7 : Fn := ⟨2, 2, [0, 1], [.ret (.andE (.call 2 [.var 1, .int 0, .prim (.bin .sub) [.var 0, .int 1]]) (.andE (.prim (.cmp .eq) [.prim .len [.var 1], .var 0]) (.prim (.cmp .eq) [.prim .lenSet [.var 1], .var 0])))]⟩
def ir8 : Fn := ⟨1, 1, [0], [.ifs (.notE (.call 5 [.var 0])) [.raise] []]⟩
def ir9 : Fn := ⟨1, 1, [0], [.ifs (.notE (.call 6 [.var 0])) [.raise] []]⟩
def ir10 : Fn := ⟨2, 2, [0, 1], [.ifs (.notE (.call 7 [.var 0, .var 1])) [.raise] []]⟩
def ir11 : Fn := ⟨1, 1, [0], [.ret (.prim .dictZip [.call 3 [.prim .ix [.var 0, .int 0]], .prim .ix [.var 0, .int 1]])]⟩
def ir12 : Fn := ⟨2, 2, [0, 1], [.ret (.andE (.call 7 [.var 0, .var 1]) (.andE (.prim (.cmp .eq) [.prim .ix [.var 1, .int 0], .int 0]) (.prim (.cmp .lt) [.prim .ix [.var 1, .int 1], .prim .ix [.var 1, .prim .neg [.int 1]]])))]⟩
def ir13 : Fn := ⟨2, 2, [0, 1], [.ifs (.notE (.call 12 [.var 0, .var 1])) [.raise] []]⟩
def ir14 : Fn := ⟨1, 3, [0], [.ret (.prim .sorted [.comp [1, 2] (.tp [.nm 1, .nm 2]) (.zip (.var 0) (.prim (.bin .add) [.prim (.slice true false) [.var 0, .int 1], .prim (.slice false true) [.var 0, .int 1]])) [] (.call 4 [.var 1, .var 2])])]⟩
def ir15 : Fn := ⟨2, 2, [0, 1], [.expr (.call 8 [.var 0]), .expr (.call 13 [.var 0, .var 1]), .ret (.prim .tuple [.call 14 [.var 1]])]⟩
def ir16 : Fn := ⟨2, 3, [0, 1], [.ret (.prim .sum [.comp [2] (.nm 2) (.seq (.call 14 [.var 1])) [] (.prim .ix [.var 0, .var 2])])]⟩
def ir17 : Fn := ⟨2, 2, [0, 1], [.expr (.call 9 [.var 0]), .expr (.call 13 [.prim .ix [.var 0, .int 0], .var 1]), .ret (.call 16 [.call 11 [.var 0], .var 1])]⟩
def ir18 : Fn := ⟨1, 3, [0], [.asg (.nm 1) (.prim .index [.var 0, .int 0]), .asg (.nm 2) (.prim .tuple [.disp false [true, true] [.prim (.slice true false) [.var 0, .var 1], .prim (.slice false true) [.var 0, .var 1]]]), .ret (.ife (.prim (.cmp .lt) [.prim .ix [.var 2, .int 1], .prim .ix [.var 2, .prim .neg [.int 1]]]) (.var 2) (.disp true [false, true] [.int 0, .prim .revTo [.var 2]]))]⟩
def ir19 : Fn := ⟨3, 4, [0, 1, 2], [.expr (.call 8 [.var 0]), .expr (.call 13 [.var 0, .var 1]), .expr (.call 10 [.var 0, .var 2]), .ret (.call 18 [.prim .tuple [.comp [3] (.nm 3) (.seq (.var 1)) [] (.prim .ix [.var 2, .var 3])]])]⟩
def ir20 : Fn := ⟨1, 4, [0], [.asg (.nm 1) (.disp false [] []), .for (.nm 2) (.rng [.int 1, .prim (.bin .sub) [.var 0, .int 1]]) [.expr (.meth .extend 1 [.comp [3] (.nm 3) (.rng [.prim (.bin .add) [.var 2, .int 1], .var 0]) [] (.disp true [false, false] [.var 2, .var 3])])], .ret (.var 1)]⟩
def ir21 : Fn := ⟨1, 1, [0], [.expr (.call 8 [.var 0]), .ret (.prim .tuple [.call 20 [.var 0]])]⟩
def ir22 : Fn := ⟨2, 2, [0, 1], [.ret (.andE (.call 2 [.var 1, .int 1, .prim (.bin .sub) [.var 0, .int 1]]) (.andE (.prim (.cmp .eq) [.prim .len [.var 1], .int 2]) (.prim (.cmp .lt) [.prim .ix [.var 1, .int 0], .prim .ix [.var 1, .int 1]])))]⟩
def ir23 : Fn := ⟨2, 2, [0, 1], [.ifs (.notE (.call 22 [.var 0, .var 1])) [.raise] []]⟩
def ir24 : Fn := ⟨2, 5, [0, 1], [.asg (.tp [.nm 2, .nm 3]) (.var 1), .asg (.nm 4) (.prim (.slice true true) [.var 0, .var 2, .prim (.bin .add) [.var 3, .int 1]]), .ret (.call 18 [.disp true [true, true, true] [.prim (.slice false true) [.var 0, .var 2], .prim .rev [.var 4], .prim (.slice true false) [.var 0, .prim (.bin .add) [.var 3, .int 1]]]])]⟩
def ir25 : Fn := ⟨3, 3, [0, 1, 2], [.expr (.call 8 [.var 0]), .expr (.call 13 [.var 0, .var 1]), .expr (.call 23 [.var 0, .var 2]), .ret (.call 24 [.var 1, .var 2])]⟩
def ir26 : Fn := ⟨3, 4, [0, 1, 2], [.expr (.call 9 [.var 0]), .expr (.call 13 [.prim .ix [.var 0, .int 0], .var 1]), .expr (.call 23 [.prim .ix [.var 0, .int 0], .var 2]), .asg (.nm 3) (.call 11 [.var 0]), .ret (.prim (.bin .sub) [.call 16 [.var 3, .var 1], .call 16 [.var 3, .call 24 [.var 1, .var 2]]])]⟩
def ir27 : Fn := ⟨2, 2, [0, 1], [.expr (.call 9 [.var 0]), .expr (.call 13 [.prim .ix [.var 0, .int 0], .var 1])]⟩
def ir28 : Fn := ⟨3, 4, [0, 1, 2], [.ret (.prim .minL [.comp [3] (.nm 3) (.seq (.call 20 [.var 0])) [] (.disp true [false, false] [.call 16 [.var 1, .call 24 [.var 2, .var 3]], .var 3])])]⟩
def ir29 : Fn := ⟨3, 3, [0, 1, 2], [.ret (.prim (.cmp .ge) [.prim .ix [.call 28 [.var 0, .var 1, .var 2], .int 0], .call 16 [.var 1, .var 2]])]⟩
def ir30 : Fn := ⟨3, 4, [0, 1, 2], [.asg (.nm 3) (.disp false [false] [.var 2]), .whl (.notE (.call 29 [.var 0, .var 1, .prim .ix [.var 3, .prim .neg [.int 1]]])) [.expr (.meth .append 3 [.call 24 [.prim .ix [.var 3, .prim .neg [.int 1]], .prim .ix [.call 28 [.var 0, .var 1, .prim .ix [.var 3, .prim .neg [.int 1]]], .int 1]]])], .ret (.var 3)]⟩
def ir31 : Fn := ⟨2, 2, [0, 1], [.expr (.call 27 [.var 0, .var 1]), .ret (.prim .ix [.call 30 [.prim .ix [.var 0, .int 0], .call 11 [.var 0], .var 1], .prim .neg [.int 1]])]⟩
def ir32 : Fn := ⟨2, 2, [0, 1], [.expr (.call 27 [.var 0, .var 1]), .ret (.prim .tuple [.call 30 [.prim .ix [.var 0, .int 0], .call 11 [.var 0], .var 1]])]⟩
def ir33 : Fn := ⟨3, 10, [0, 1, 2], [.expr (.call 8 [.var 0]), .expr (.call 13 [.var 0, .var 1]), .expr (.call 13 [.var 0, .var 2]), .par [3, 4, 5] [.done (.var 1) (.int 0), .disp false [false] [.var 1], .int 0], .whl (.prim (.cmp .nin) [.var 2, .var 3]) [.par [5, 6] [.prim (.bin .add) [.var 5, .int 1], .disp false [] []], .for (.nm 7) (.seq (.var 4)) [.for (.nm 8) (.seq (.call 20 [.var 0])) [.asg (.nm 9) (.call 24 [.var 7, .var 8]), .ifs (.prim (.cmp .nin) [.var 9, .var 3]) [.setix 3 (.var 9) (.var 5), .expr (.meth .append 6 [.var 9])] []]], .asg (.nm 4) (.var 6)], .ret (.prim .ix [.var 3, .var 2])]⟩
def ir34 : Fn := ⟨2, 5, [0, 1], [.asg (.nm 2) (.ife (.prim (.cmp .lt) [.var 1, .prim .len [.var 0]]) (.prim .ix [.var 0, .var 1]) (.prim (.bin .add) [.prim (.bin .add) [.prim (.bin .mod) [.prim .int [.prim .sum [.prim (.slice false true) [.var 0, .int 1]]], .int 1000231], .prim (.bin .mul) [.int 4721, .var 1]], .int 3347])), .asg (.nm 3) (.prim (.bin .mul) [.prim (.bin .mod) [.prim .int [.prim .abs [.var 2]], .prim (.bin .pow) [.prim (.bin .pow) [.int 10, .int 60], .int 5]], .prim .int [.prim (.cmp .ge) [.prim .abs [.var 2], .prim (.bin .pow) [.int 10, .int 18]]]]), .asg (.nm 4) (.prim (.bin .mod) [.prim .int [.var 2], .int 2305843009213693951]), .ret (.disp false [false, false, false] [.var 3, .prim (.bin .mod) [.prim .int [.prim (.bin .add) [.prim (.bin .add) [.prim (.bin .mul) [.var 4, .int 73483], .prim (.bin .mul) [.prim (.bin .mul) [.int 11027, .var 1], .var 1]], .int 2963]], .int 2305843009213693921], .int 0])]⟩
def ir35 : Fn := ⟨2, 5, [0, 1], [.ifs (.prim (.cmp .gt) [.prim .ix [.var 0, .int 0], .int 0]) [.asg (.nm 2) (.prim (.bin .mod) [.prim .int [.prim .ix [.var 0, .int 0]], .var 1]), .setix 0 (.int 0) (.prim (.bin .fdiv) [.prim .ix [.var 0, .int 0], .var 1]), .ret (.var 2)] [], .setix 0 (.int 2) (.prim (.bin .add) [.prim .ix [.var 0, .int 2], .int 1]), .asg (.nm 3) (.prim .ix [.disp false [false, false, false, false, false] [.int 2147483647, .int 2147483629, .int 2147483587, .int 2147483579, .int 2147483563], .prim (.bin .mod) [.prim .int [.prim .ix [.var 0, .int 2]], .int 5]]), .asg (.nm 4) (.prim (.bin .mod) [.prim .int [.prim (.bin .pow) [.prim .int [.prim (.bin .add) [.prim (.bin .add) [.prim .ix [.var 0, .int 1], .prim (.bin .mul) [.prim (.bin .mul) [.int 97463, .prim .ix [.var 0, .int 2]], .prim .ix [.var 0, .int 2]]], .int 3347]], .int 3]], .var 3]), .asg (.nm 4) (.prim (.bin .mod) [.prim .int [.prim (.bin .mul) [.var 4, .prim (.bin .add) [.prim (.bin .mod) [.prim .int [.var 4], .int 13567], .prim (.bin .mul) [.int 433, .prim .ix [.var 0, .int 2]]]]], .int 2305843009213693907]), .ret (.prim (.bin .mod) [.prim .int [.prim (.bin .fdiv) [.var 4, .int 233]], .var 1])]⟩
def ir36 : Fn := ⟨2, 2, [0, 1], [.ret (.prim .ix [.var 1, .call 35 [.var 0, .prim .len [.var 1]]])]⟩
def ir37 : Fn := ⟨2, 2, [0, 1], [.ret (.prim (.rangeL 1) [.prim .max2 [.int 1, .prim .min2 [.var 1, .prim .len [.var 0]]]])]⟩
def ir38 : Fn := ⟨3, 6, [0, 1, 2], [.par [3, 4] [.prim .list [.var 1], .disp false [] []], .for (.nm 5) (.rng [.var 2]) [.expr (.meth .append 4 [.meth .popAt 3 [.call 35 [.var 0, .prim .len [.var 3]]]])], .ret (.var 4)]⟩
def ir39 : Fn := ⟨1, 4, [0], [.asg (.nm 1) (.disp false [] []), .for (.nm 2) (.rng [.var 0]) [.expr (.meth .extend 1 [.comp [3] (.nm 3) (.rng [.prim (.bin .add) [.var 2, .int 1], .var 0]) [] (.disp true [false, false] [.var 2, .var 3])])], .ret (.var 1)]⟩
def ir40 : Fn := ⟨2, 2, [0, 1], [.ret (.ife (.prim (.cmp .lt) [.var 0, .var 1]) (.disp true [false, false] [.var 0, .var 1]) (.disp true [false, false] [.var 1, .var 0]))]⟩
def ir41 : Fn := ⟨1, 1, [0], [.ret (.prim .dictZip [.call 39 [.prim .ix [.var 0, .int 0]], .prim .ix [.var 0, .int 1]])]⟩
def ir42 : Fn := ⟨1, 6, [0], [.asg (.nm 1) (.disp false [false] [.disp true [false] [.int 0]]), .for (.nm 2) (.rng [.prim (.bin .sub) [.var 0, .int 1]]) [.asg (.nm 3) (.disp false [] []), .for (.nm 4) (.seq (.var 1)) [.expr (.meth .extend 3 [.comp [5] (.nm 5) (.rng [.int 1, .var 0]) [.prim (.cmp .nin) [.var 5, .var 4]] (.prim (.bin .add) [.var 4, .disp true [false] [.var 5]])])], .asg (.nm 1) (.var 3)], .ret (.comp [4] (.nm 4) (.seq (.var 1)) [.prim (.cmp .lt) [.prim .ix [.var 4, .int 1], .prim .ix [.var 4, .prim .neg [.int 1]]]] (.var 4))]⟩
def ir43 : Fn := ⟨1, 3, [0], [.ret (.comp [1, 2] (.tp [.nm 1, .nm 2]) (.zip (.var 0) (.prim (.bin .add) [.prim (.slice true false) [.var 0, .int 1], .prim (.slice false true) [.var 0, .int 1]])) [] (.call 40 [.var 1, .var 2]))]⟩
def ir44 : Fn := ⟨2, 4, [0, 1], [.asg (.nm 2) (.call 41 [.var 0]), .ret (.prim .sum [.comp [3] (.nm 3) (.seq (.call 43 [.var 1])) [] (.prim .ix [.var 2, .var 3])])]⟩
def ir45 : Fn := ⟨1, 3, [0], [.asg (.nm 1) (.prim .index [.prim .list [.var 0], .int 0]), .asg (.nm 2) (.prim (.bin .add) [.prim .tuple [.prim (.slice true false) [.var 0, .var 1]], .prim .tuple [.prim (.slice false true) [.var 0, .var 1]]]), .ret (.ife (.prim (.cmp .lt) [.prim .ix [.var 2, .int 1], .prim .ix [.var 2, .prim .neg [.int 1]]]) (.var 2) (.prim (.bin .add) [.disp true [false] [.int 0], .prim .revTo [.var 2]]))]⟩
def ir46 : Fn := ⟨1, 1, [0], [.ret (.andE (.prim (.isinst .int) [.var 0]) (.notE (.prim (.isinst .bool) [.var 0])))]⟩
def ir47 : Fn := ⟨1, 4, [0], [.asg (.nm 1) (.disp false [] []), .for (.nm 2) (.rng [.int 1, .prim (.bin .sub) [.var 0, .int 1]]) [.expr (.meth .extend 1 [.comp [3] (.nm 3) (.rng [.prim (.bin .add) [.var 2, .int 1], .var 0]) [] (.disp true [false, false] [.var 2, .var 3])])], .ret (.var 1)]⟩
def ir48 : Fn := ⟨2, 5, [0, 1], [.asg (.tp [.nm 2, .nm 3]) (.var 1), .asg (.nm 4) (.prim (.slice true true) [.var 0, .var 2, .prim (.bin .add) [.var 3, .int 1]]), .ret (.call 45 [.prim (.bin .add) [.prim (.bin .add) [.prim (.slice false true) [.var 0, .var 2], .prim .rev [.var 4]], .prim (.slice true false) [.var 0, .prim (.bin .add) [.var 3, .int 1]]]])]⟩
def ir49 : Fn := ⟨2, 12, [0, 1], [.asg (.nm 2) (.call 35 [.var 0, .int 5]), .ifs (.prim (.cmp .eq) [.var 2, .int 0]) [.asg (.nm 3) (.comp [8] (.nm 8) (.rng [.var 1]) [] (.disp true [false, false] [.prim .int [.call 35 [.var 0, .int 9]], .prim .int [.call 35 [.var 0, .int 9]]])), .asg (.nm 4) (.comp [9, 10] (.tp [.nm 9, .nm 10]) (.seqT (.call 39 [.var 1])) [] (.prim (.bin .add) [.prim .abs [.prim (.bin .sub) [.prim .ix [.prim .ix [.var 3, .var 9], .int 0], .prim .ix [.prim .ix [.var 3, .var 10], .int 0]]], .prim .abs [.prim (.bin .sub) [.prim .ix [.prim .ix [.var 3, .var 9], .int 1], .prim .ix [.prim .ix [.var 3, .var 10], .int 1]]]])), .ret (.disp true [false, false] [.var 1, .prim .tuple [.var 4]])] [], .ifs (.prim (.cmp .eq) [.var 2, .int 1]) [.asg (.tp [.nm 5, .nm 6]) (.disp true [false, false] [.prim .int [.prim (.bin .add) [.int 10, .call 35 [.var 0, .int 40]]], .comp [8] (.nm 8) (.rng [.var 1]) [.prim (.cmp .eq) [.call 35 [.var 0, .int 2], .int 0]] (.var 8)]), .asg (.nm 4) (.comp [9, 10] (.tp [.nm 9, .nm 10]) (.seqT (.call 39 [.var 1])) [] (.prim (.bin .add) [.prim .int [.call 35 [.var 0, .int 4]], .ife (.prim (.cmp .eq) [.prim (.cmp .inn) [.var 9, .var 6], .prim (.cmp .inn) [.var 10, .var 6]]) (.int 0) (.var 5)])), .ret (.disp true [false, false] [.var 1, .prim .tuple [.var 4]])] [], .asg (.nm 7) (.call 36 [.var 0, .disp false [false, false, false, false] [.int 2, .int 4, .int 10, .int 100]]), .ret (.disp true [false, false] [.var 1, .prim .tuple [.comp [11] (.nm 11) (.seq (.call 39 [.var 1])) [] (.prim .int [.call 35 [.var 0, .var 7]])]])]⟩
def ir50 : Fn := ⟨2, 2, [0, 1], [.ret (.call 45 [.call 38 [.var 0, .prim (.rangeL 1) [.var 1], .var 1]])]⟩
def ir51 : Fn := ⟨2, 9, [0, 1], [.par [2, 3] [.done (.var 0) (.int 0), .disp false [false] [.var 0]], .for (.nm 4) (.rng [.var 1]) [.asg (.nm 5) (.disp false [] []), .for (.nm 6) (.seq (.var 3)) [.for (.nm 7) (.seq (.call 47 [.prim .len [.var 0]])) [.asg (.nm 8) (.call 48 [.var 6, .var 7]), .ifs (.prim (.cmp .nin) [.var 8, .var 2]) [.setix 2 (.var 8) (.prim (.bin .add) [.var 4, .int 1]), .expr (.meth .append 5 [.var 8])] []]], .asg (.nm 3) (.var 5)], .ret (.var 2)]⟩
def ir52 : Fn := ⟨2, 14, [0, 1], [.asg (.nm 2) (.call 50 [.var 0, .var 1]), .asg (.nm 3) (.call 51 [.var 2, .var 1]), .ifs (.orE (.prim (.cmp .ne) [.prim .len [.var 3], .prim .len [.call 42 [.var 1]]]) (.prim (.cmp .gt) [.prim .maxVals [.var 3], .prim (.bin .sub) [.var 1, .int 2]])) [.ret (.bl false)] [], .for (.nm 4) (.rng [.int 3]) [.asg (.tp [.nm 5, .nm 6]) (.disp true [false, false] [.call 50 [.var 0, .var 1], .call 50 [.var 0, .var 1]]), .asg (.nm 7) (.call 33 [.var 1, .var 2, .var 5]), .ifs (.orE (.notE (.call 46 [.var 7])) (.orE (.prim (.cmp .ne) [.var 7, .prim .ix [.var 3, .var 5]]) (.prim (.cmp .ne) [.call 33 [.var 1, .var 5, .var 2], .var 7]))) [.ret (.bl false)] [], .ifs (.prim (.cmp .gt) [.var 7, .prim (.bin .add) [.call 33 [.var 1, .var 2, .var 6], .call 33 [.var 1, .var 6, .var 5]]]) [.ret (.bl false)] [], .asg (.nm 8) (.prim .len [.comp [12] (.nm 12) (.seq (.call 15 [.var 1, .var 2])) [.prim (.cmp .nin) [.var 12, .call 15 [.var 1, .var 5]]] (.var 12)]), .ifs (.orE (.prim (.cmp .lt) [.var 7, .prim (.bin .fdiv) [.prim (.bin .add) [.var 8, .int 1], .int 2]]) (.prim (.cmp .ne) [.prim (.cmp .eq) [.var 7, .int 0], .prim (.cmp .eq) [.var 2, .var 5]])) [.ret (.bl false)] [], .asg (.nm 9) (.comp [11] (.nm 11) (.seq (.call 21 [.var 1])) [] (.call 25 [.var 1, .var 2, .var 11])), .ifs (.prim (.cmp .ne) [.prim (.cmp .le) [.var 7, .int 1], .orE (.prim (.cmp .inn) [.var 5, .var 9]) (.prim (.cmp .eq) [.var 5, .var 2])]) [.ret (.bl false)] [], .asg (.nm 10) (.prim .tuple [.comp [13] (.nm 13) (.seq (.call 38 [.var 0, .prim (.rangeL 1) [.var 1], .var 1])) [] (.prim .int [.var 13])]), .ifs (.prim (.cmp .ne) [.call 33 [.var 1, .call 19 [.var 1, .var 2, .var 10], .call 19 [.var 1, .var 5, .var 10]], .var 7]) [.ret (.bl false)] []], .ret (.bl true)]⟩
def ir53 : Fn := ⟨2, 13, [0, 1], [.par [2, 3] [.prim .ix [.var 1, .int 0], .call 50 [.var 0, .prim .ix [.var 1, .int 0]]], .par [4, 5, 6] [.var 3, .int 0, .prim .int [.prim (.bin .add) [.int 1, .call 35 [.var 0, .int 6]]]], .for (.nm 7) (.rng [.var 6]) [.asg (.nm 8) (.call 36 [.var 0, .call 21 [.var 2]]), .asg (.nm 5) (.prim (.bin .add) [.var 5, .call 26 [.var 1, .var 3, .var 8]]), .asg (.nm 3) (.call 25 [.var 2, .var 3, .var 8])], .ifs (.prim (.cmp .ne) [.var 5, .prim (.bin .sub) [.call 17 [.var 1, .var 4], .call 17 [.var 1, .var 3]]]) [.ret (.bl false)] [], .ifs (.andE (.prim (.cmp .lt) [.var 2, .int 7]) (.prim (.cmp .gt) [.call 33 [.var 2, .var 4, .var 3], .var 6])) [.ret (.bl false)] [], .asg (.nm 9) (.call 32 [.var 1, .var 4]), .ifs (.orE (.prim (.cmp .ne) [.prim .ix [.var 9, .prim .neg [.int 1]], .call 31 [.var 1, .var 4]]) (.andE (.prim (.cmp .lt) [.var 2, .int 7]) (.prim (.cmp .gt) [.call 33 [.var 2, .var 4, .prim .ix [.var 9, .prim .neg [.int 1]]], .prim (.bin .sub) [.prim .len [.var 9], .int 1]]))) [.ret (.bl false)] [], .for (.tp [.nm 10, .nm 11]) (.zip (.var 9) (.prim (.slice true false) [.var 9, .int 1])) [.asg (.nm 12) (.comp [8] (.nm 8) (.seq (.call 21 [.var 2])) [] (.call 26 [.var 1, .var 10, .var 8])), .ifs (.orE (.prim (.cmp .ne) [.prim .maxL [.var 12], .prim (.bin .sub) [.call 44 [.var 1, .var 10], .call 44 [.var 1, .var 11]]]) (.prim (.cmp .le) [.prim .maxL [.var 12], .int 0])) [.ret (.bl false)] []], .ret (.prim (.cmp .le) [.prim .maxL [.comp [8] (.nm 8) (.seq (.call 21 [.var 2])) [] (.call 26 [.var 1, .prim .ix [.var 9, .prim .neg [.int 1]], .var 8])], .int 0])]⟩
def ir54 : Fn := ⟨1, 2, [0], [.for (.nm 1) (.seq (.disp true [false, false] [.prim .int [.prim (.bin .add) [.int 3, .call 35 [.var 0, .int 4]]], .prim .int [.prim (.bin .add) [.int 4, .call 35 [.var 0, .int 3]]]])) [.ifs (.orE (.notE (.call 52 [.var 0, .var 1])) (.notE (.call 53 [.var 0, .call 49 [.var 0, .var 1]]))) [.ret (.bl false)] []], .ret (.call 53 [.var 0, .call 49 [.var 0, .int 7]])]⟩
def ir55 : Fn := ⟨1, 2, [0], [.ret (.prim .all [.comp [1] (.nm 1) (.seq (.call 37 [.var 0, .int 2])) [] (.call 54 [.call 34 [.var 0, .var 1]])])]⟩
def prog : Nat → Option Fn
  | 0 => some ir0
  | 1 => some ir1
  | 2 => some ir2
  | 3 => some ir3
  | 4 => some ir4
  | 5 => some ir5
  | 6 => some ir6
  | 7 => some ir7
  | 8 => some ir8
  | 9 => some ir9
  | 10 => some ir10
  | 11 => some ir11
  | 12 => some ir12
  | 13 => some ir13
  | 14 => some ir14
  | 15 => some ir15
  | 16 => some ir16
  | 17 => some ir17
  | 18 => some ir18
  | 19 => some ir19
  | 20 => some ir20
  | 21 => some ir21
  | 22 => some ir22
  | 23 => some ir23
  | 24 => some ir24
  | 25 => some ir25
  | 26 => some ir26
  | 27 => some ir27
  | 28 => some ir28
  | 29 => some ir29
  | 30 => some ir30
  | 31 => some ir31
  | 32 => some ir32
  | 33 => some ir33
  | 34 => some ir34
  | 35 => some ir35
  | 36 => some ir36
  | 37 => some ir37
  | 38 => some ir38
  | 39 => some ir39
  | 40 => some ir40
  | 41 => some ir41
  | 42 => some ir42
  | 43 => some ir43
  | 44 => some ir44
  | 45 => some ir45
  | 46 => some ir46
  | 47 => some ir47
  | 48 => some ir48
  | 49 => some ir49
  | 50 => some ir50
  | 51 => some ir51
  | 52 => some ir52
  | 53 => some ir53
  | 54 => some ir54
  | 55 => some ir55
  | _ => none
end LW
set_option maxHeartbeats 1000000
/-! Q34: what the defs of k34 compute. -/
namespace LW
open PySem L2 DL
theorem f0_int (k : Nat) (i : Int) : callF prog (k + 1) 0 [some (.int i)] = some (.bl true, [some (.int i)]) := by
  rw [callS (fn := ir0) rfl, callFn_eq]
  simp [ir0, prim1, isKd]
theorem f1_int (k : Nat) (i a b : Int) : callF prog (k + 2) 1 [some (.int i), some (.int a), some (.int b)] = some (.bl (decide (a ≤ i) && decide (i ≤ b)), [some (.int i), some (.int a), some (.int b)]) := by
  rw [callS (fn := ir1) rfl, callFn_eq]
  simp [ir1, f0_int, cmpD]
  by_cases h : a ≤ i <;> simp [h]
theorem f2_ints (k : Nat) (l : List Int) (a b : Int) (hz : l.length ≤ sizeLine) : callF prog (k + 3) 2 [some (T l), some (.int a), some (.int b)] = some (.bl (l.all fun i => decide (a ≤ i) && decide (i ≤ b)), [some (T l), some (.int a), some (.int b)]) := by
  rw [callS (fn := ir2) rfl, callFn_eq]
  have hc : evE (callF prog (k + 2)) (.comp [3] (.nm 3) (.seq (.var 0)) [] (.call 1 [.var 3, .var 1, .var 2])) [some (T l), some (.int a), some (.int b), none] = some (.lst (l.map fun i => .bl (decide (a ≤ i) && decide (i ≤ b))), [some (T l), some (.int a), some (.int b), none]) :=
    ev_compM (ρ1 := [some (T l), some (.int a), some (.int b), none]) (ws := [(0, T l)]) l D.int _ (by simp) (by simp) (fun x hx => ⟨[some (T l), some (.int a), some (.int b), some (.int x)], [some (T l), some (.int a), some (.int b), some (.int x)], by simp, by simp [f1_int], by simp⟩) hz (by simp)
  simp [ir2, prim1, isKd, -ev_comp, hc, allD, allBl_map, List.all_map]
theorem f5_int (k : Nat) (i : Int) : callF prog (k + 3) 5 [some (.int i)] = some (.bl (decide (3 ≤ i) && decide (i ≤ 7)), [some (.int i)]) := by
  rw [callS (fn := ir5) rfl, callFn_eq]
  simp [ir5, f1_int]
/-- all pairs of places below m, in order -/
def prs (lo m : Nat) : List D := ((List.range m).flatMap fun i => if lo ≤ i then ((List.range m).filter fun j => decide (i < j)).map fun j => .tup [.int (i : Nat), .int (j : Nat)] else [])
theorem f3 (k : Nat) : ∀ m : Nat, m ∈ [3, 4, 5, 6, 7] → callF prog (k + 1) 3 [some (.int m)] = some (.lst (prs 0 m), [some (.int m)])
  | 3, _ => by rfl
  | 4, _ => by rfl
  | 5, _ => by rfl
  | 6, _ => by rfl
  | 7, _ => by rfl
  | 0, h | 1, h | 2, h | _ + 8, h => by simp at h
theorem f20 (k : Nat) : ∀ m : Nat, m ∈ [3, 4, 5, 6, 7] → callF prog (k + 1) 20 [some (.int m)] = some (.lst (prs 1 m), [some (.int m)])
  | 3, _ => by rfl
  | 4, _ => by rfl
  | 5, _ => by rfl
  | 6, _ => by rfl
  | 7, _ => by rfl
  | 0, h | 1, h | 2, h | _ + 8, h => by simp at h
theorem f4 (k : Nat) (a b : Int) : callF prog (k + 1) 4 [some (.int a), some (.int b)] = some (road a b, [some (.int a), some (.int b)]) := by
  rw [callS (fn := ir4) rfl, callFn_eq]
  simp [ir4, prim2, cmpD, road]
  by_cases h : a < b <;> simp [h, sizeLine_eq]
theorem f14 (k : Nat) (l : List Int) (h : 1 ≤ l.length) (hz : l.length ≤ 1000) : callF prog (k + 2) 14 [some (T l)] = some (.lst (ral l), [some (T l)]) := by
  have z := sizeLine_eq
  rw [callS (fn := ir14) rfl, callFn_eq]
  have hit : evIt (callF prog (k + 1)) (.zip (.var 0) (.prim (.bin .add) [.prim (.slice true false) [.var 0, .int 1], .prim (.slice false true) [.var 0, .int 1]])) [some (T l), none, none] = some (((around l).map fun p => .tup [.int p.1, .int p.2], [(0, T l)]), [some (T l), none, none]) := by
    have e1 : cutI l (some 1) none = l.drop 1 := cut_from l 1
    have e2 : cutI l none (some 1) = l.take 1 := cut_to l 1
    have e3 : binD .add (T l.tail) (T (l.take 1)) = some (T (l.tail ++ l.take 1)) := add_T (by rw [List.length_tail, List.length_take]; omega)
    have e4 : D.imms (l.tail.map D.int ++ (l.take 1).map D.int) = true := by rw [← List.map_append]; exact imms_ints
    simp [prim2, e1, e2, e3, isTupD]
    rw [← List.map_tail, ← List.map_take]
    refine ⟨⟨imms_ints, imms_ints⟩, ?_⟩
    rw [← List.map_append, zip_T]
    rfl
  have hc : evE (callF prog (k + 1)) (.comp [1, 2] (.tp [.nm 1, .nm 2]) (.zip (.var 0) (.prim (.bin .add) [.prim (.slice true false) [.var 0, .int 1], .prim (.slice false true) [.var 0, .int 1]])) [] (.call 4 [.var 1, .var 2])) [some (T l), none, none] = some (.lst ((around l).map fun p => road p.1 p.2), [some (T l), none, none]) :=
    ev_compM (around l) (fun p => .tup [.int p.1, .int p.2]) _ hit (by simp) (fun x hx => ⟨[some (T l), some (.int x.1), some (.int x.2)], [some (T l), some (.int x.1), some (.int x.2)], by simp, by simp [f4], by simp⟩) (by rw [around_len h]; omega) (by simp)
  simp [ir14, prim1, -ev_comp, hc, sorted_ral h]
/-- an order of m places -/
def okO (m : Int) (l : List Int) : Bool := decide (∀ x ∈ l, 0 ≤ x ∧ x ≤ m - 1) && (decide ((l.length : Int) = m) && decide (((dedupI l).length : Int) = m))
theorem f7 (k : Nat) (m : Int) (l : List Int) (hz : l.length ≤ 1000) : callF prog (k + 4) 7 [some (.int m), some (T l)] = some (.bl (okO m l), [some (.int m), some (T l)]) := by
  have z := sizeLine_eq
  have hs : lenSetD (T l) = some (.int (dedupI l).length) := by
    unfold lenSetD
    simp only [allInt_T]
    rw [if_pos (decide_eq_true (by omega))]
  rw [callS (fn := ir7) rfl, callFn_eq]
  simp [ir7, prim1, prim2, f2_ints k l 0 (m - 1) (by omega), hs, okO, lenD]
  by_cases h1 : ∀ x ∈ l, 0 ≤ x ∧ x ≤ m - 1
  · rw [if_pos h1, decide_eq_true h1]
    by_cases h2 : (l.length : Int) = m <;> simp [h2]
  · rw [if_neg h1, decide_eq_false h1]
    simp
/-- a round of m places -/
def okR (m : Int) (l : List Int) : Bool := okO m l && (decide (atI l 0 = some 0) && (match atI l 1, atI l (-1) with | some a, some b => decide (a < b) | _, _ => false))
theorem f12 (k : Nat) (m : Int) (l : List Int) (hz : l.length ≤ 1000) (h : okR m l = true) : callF prog (k + 5) 12 [some (.int m), some (T l)] = some (.bl true, [some (.int m), some (T l)]) := by
  unfold okR at h
  rw [Bool.and_eq_true, Bool.and_eq_true] at h
  obtain ⟨h1, h2, h3⟩ := h
  have h2 := of_decide_eq_true h2
  split at h3
  · rename_i a b e1 e2
    have h3 := of_decide_eq_true h3
    rw [callS (fn := ir12) rfl, callFn_eq]
    simp [ir12, prim1, prim2, f7 k m l hz, h1, ix_T h2, ix_T e1, negD, ix_T e2, h3]
  · cases h3
theorem f13 (k : Nat) (m : Int) (l : List Int) (hz : l.length ≤ 1000) (h : okR m l = true) : callF prog (k + 6) 13 [some (.int m), some (T l)] = some (.non, [some (.int m), some (T l)]) := by
  rw [callS (fn := ir13) rfl, callFn_eq]
  simp [ir13, f12 k m l hz h]
theorem f8 (k : Nat) (m : Int) (h : 3 ≤ m ∧ m ≤ 7) : callF prog (k + 4) 8 [some (.int m)] = some (.non, [some (.int m)]) := by
  rw [callS (fn := ir8) rfl, callFn_eq]
  simp [ir8, f5_int, h]
theorem f10 (k : Nat) (m : Int) (l : List Int) (hz : l.length ≤ 1000) (h : okO m l = true) : callF prog (k + 5) 10 [some (.int m), some (T l)] = some (.non, [some (.int m), some (T l)]) := by
  rw [callS (fn := ir10) rfl, callFn_eq]
  simp [ir10, f7 k m l hz, h]
theorem f22 (k : Nat) (m a b : Int) (h : 1 ≤ a ∧ a < b ∧ b ≤ m - 1) : callF prog (k + 4) 22 [some (.int m), some (T [a, b])] = some (.bl true, [some (.int m), some (T [a, b])]) := by
  have e0 : atI [a, b] 0 = some a := by rfl
  have e1 : atI [a, b] 1 = some b := by rfl
  have e2 := f2_ints k [a, b] 1 (m - 1) (by rw [sizeLine_eq]; simp)
  have e3 : (1 ≤ a ∧ a ≤ m - 1) ∧ (1 ≤ b ∧ b ≤ m - 1) := by omega
  have e4 := ix_T e0
  have e5 := ix_T e1
  rw [callS (fn := ir22) rfl, callFn_eq]
  simp only [T, List.map_cons, List.map_nil] at e2 e4 e5 ⊢
  simp [ir22, prim1, prim2, e2, e3, e4, e5, h.2.1, lenD]
theorem f23 (k : Nat) (m a b : Int) (h : 1 ≤ a ∧ a < b ∧ b ≤ m - 1) : callF prog (k + 5) 23 [some (.int m), some (T [a, b])] = some (.non, [some (.int m), some (T [a, b])]) := by
  have e := f22 k m a b h
  rw [callS (fn := ir23) rfl, callFn_eq]
  simp only [T, List.map_cons, List.map_nil] at e ⊢
  simp [ir23, e]
/-! ### tables, lengths -/
def pks (m : Nat) : List (List Key) := (prs 0 m).filterMap DL.keyOf
theorem pks_ok : ∀ m : Nat, m ∈ [3, 4, 5, 6, 7] → (prs 0 m).map DL.keyOf = (pks m).map some ∧ (pks m).Nodup ∧ (prs 0 m).length = (pks m).length ∧ D.imms (prs 0 m) = true ∧ (pks m).length ≤ 100
  | 3, _ => by decide +kernel
  | 4, _ => by decide +kernel
  | 5, _ => by decide +kernel
  | 6, _ => by decide +kernel
  | 7, _ => by decide +kernel
  | 0, h | 1, h | 2, h | _ + 8, h => by simp at h
theorem m_le {m : Nat} (h : m ∈ [3, 4, 5, 6, 7]) : (3 : Int) ≤ m ∧ (m : Int) ≤ 7 := by
  simp at h
  omega
abbrev tab (m : Nat) (vs : List Int) : D := .tup [.int m, T vs]
abbrev kn (m : Nat) (vs : List Int) : D := .dT (pks m) (vs.map D.int)
structure TabV (m : Nat) (vs : List Int) : Prop where
  mm : m ∈ [3, 4, 5, 6, 7]
  len : vs.length = (pks m).length
  val : ∀ v ∈ vs, 0 ≤ v ∧ v ≤ 99
section
variable {m : Nat} {vs : List Int}
theorem tab0 : ixD (tab m vs) (.int 0) = some (.int m) := by rfl
theorem tab1 : ixD (tab m vs) (.int 1) = some (T vs) := by
  show immO (some (T vs)) = _
  simp [immO]
theorem f6 (k : Nat) (h : TabV m vs) : callF prog (k + 4) 6 [some (tab m vs)] = some (.bl true, [some (tab m vs)]) := by
  have z := sizeLine_eq
  obtain ⟨q1, q2, q3, q4, q5⟩ := pks_ok m h.mm
  have e1 := tab0 (m := m) (vs := vs)
  have e2 := tab1 (m := m) (vs := vs)
  have e3 := f5_int k m
  have e4 := f2_ints k vs 0 99 (by have := h.len; omega)
  have e5 := f3 (k + 2) m h.mm
  have e6 : (vs.all fun i => decide (0 ≤ i) && decide (i ≤ 99)) = true := List.all_eq_true.mpr fun v hv => by simp [h.val v hv]
  have e7 : vs.length = (prs 0 m).length := by rw [h.len, q3]
  rw [e6] at e4
  rw [callS (fn := ir6) rfl, callFn_eq]
  simp only [tab, T] at e1 e2 e4 ⊢
  simp [ir6, prim1, prim2, isKd, e1, e2, e3, m_le h.mm, e4, e5, lenD, e7]
theorem f9 (k : Nat) (h : TabV m vs) : callF prog (k + 5) 9 [some (tab m vs)] = some (.non, [some (tab m vs)]) := by
  have e := f6 k h
  rw [callS (fn := ir9) rfl, callFn_eq]
  simp only [tab, T] at e ⊢
  simp [ir9, e]
theorem f11 (k : Nat) (h : TabV m vs) : callF prog (k + 2) 11 [some (tab m vs)] = some (kn m vs, [some (tab m vs)]) := by
  obtain ⟨q1, q2, q3, q4, q5⟩ := pks_ok m h.mm
  have e1 := tab0 (m := m) (vs := vs)
  have e2 := tab1 (m := m) (vs := vs)
  have e5 := f3 k m h.mm
  have e6 : dictZipD (.lst (prs 0 m)) (T vs) = some (kn m vs) := by
    unfold dictZipD
    simp only [seq_lst, seq_tup, q4, imms_ints, Bool.and_self, if_true]
    rw [zipKV_of q1 (by rw [List.length_map, h.len, q3]), Option.map_some, buildT_of (by simpa using q2) (by rw [List.length_map, h.len])]
    rfl
  rw [callS (fn := ir11) rfl, callFn_eq]
  simp only [tab, T, kn] at e1 e2 e6 ⊢
  simp [ir11, prim1, prim2, e1, e2, e5, e6]
/-- a road's length -/
def val (m : Nat) (vs : List Int) (r : D) : Int := match DL.keyOf r with
  | some k => vs.getD (kix (pks m) k) 0
  | none => 0
def okK (m : Nat) (l : List Int) : Bool := (ral l).all fun r => match DL.keyOf r with
  | some k => memT k (pks m)
  | none => false
/-- a round's length -/
def len (m : Nat) (vs : List Int) (l : List Int) : Int := ((ral l).map (val m vs)).sum
theorem f16 (k : Nat) (h : TabV m vs) (l : List Int) (h1 : 1 ≤ l.length) (hz : l.length ≤ 1000) (hk : okK m l = true) : callF prog (k + 3) 16 [some (kn m vs), some (T l)] = some (.int (len m vs l), [some (kn m vs), some (T l)]) := by
  have z := sizeLine_eq
  obtain ⟨q1, q2, q3, q4, q5⟩ := pks_ok m h.mm
  have hix : ∀ r ∈ ral l, ixD (kn m vs) r = some (.int (val m vs r)) := fun r hr => by
    have hq := List.all_eq_true.mp hk r hr
    unfold val
    cases e : DL.keyOf r with
    | none => rw [e] at hq; cases hq
    | some key =>
      rw [e] at hq
      have hj := kix_lt hq
      refine ix_look e (look_at (j := kix (pks m) key) q2 (kix_at hq) ?_) (by simp)
      have hj' : kix (pks m) key < vs.length := by rw [h.len]; exact hj
      rw [List.getElem?_map, List.getElem?_eq_getElem hj', Option.map_some]
      show _ = some (D.int (vs.getD (kix (pks m) key) 0))
      rw [List.getD_eq_getElem?_getD, List.getElem?_eq_getElem hj']
      rfl
  rw [callS (fn := ir16) rfl, callFn_eq]
  have hc : evE (callF prog (k + 2)) (.comp [2] (.nm 2) (.seq (.call 14 [.var 1])) [] (.prim .ix [.var 0, .var 2])) [some (kn m vs), some (T l), none] = some (.lst ((ral l).map fun r => .int (val m vs r)), [some (kn m vs), some (T l), none]) :=
    ev_compM (ρ1 := [some (kn m vs), some (T l), none]) (ws := []) (ral l) id _ (by simp [f14 k l h1 hz, ral_imms]) (by simp) (fun x hx => ⟨[some (kn m vs), some (T l), some x], [some (kn m vs), some (T l), some x], by simp, by simp [prim2, hix x hx], by simp⟩) (by rw [ral_len h1]; omega) (by simp)
  simp [ir16, prim1, -ev_comp, hc, sumD, allInt_map, len]
/-! ### the other way round, exchanges -/
def rot (l : List Int) : List Int := l.drop (l.idxOf 0) ++ l.take (l.idxOf 0)
def rb (l : List Int) : List Int := match atI (rot l) 1, atI (rot l) (-1) with
  | some a, some b => if a < b then rot l else 0 :: (rot l).tail.reverse
  | _, _ => []
theorem rot_len (l : List Int) : (rot l).length = l.length := by
  unfold rot
  rw [List.length_append, List.length_drop, List.length_take]
  omega
theorem f18 (k : Nat) (l : List Int) (h0 : (0 : Int) ∈ l) (h2 : ∃ a, atI (rot l) 1 = some a) (h3 : ∃ b, atI (rot l) (-1) = some b) (hz : l.length ≤ 1000) : callF prog (k + 1) 18 [some (T l)] = some (T (rb l), [some (T l)]) := by
  have z := sizeLine_eq
  obtain ⟨a, h2⟩ := h2
  obtain ⟨b, h3⟩ := h3
  have hl := rot_len l
  have e1 := idx_T h0
  have e2 : cutI l (some ((l.idxOf 0 : Nat) : Int)) none = l.drop (l.idxOf 0) := cut_from l _
  have e3 : cutI l none (some ((l.idxOf 0 : Nat) : Int)) = l.take (l.idxOf 0) := cut_to l _
  have e4 : tupleD (.lst ((rot l).map D.int)) = some (T (rot l)) := by simp [tupleD]
  have e5 := ix_T h2
  have e6 := ix_T h3
  have e7 : revToD (T (rot l)) = some (T (rot l).tail.reverse) := by
    cases hr : rot l with
    | nil => rw [hr] at h2; cases h2
    | cons x r =>
      show (if D.imms (r.map D.int) then some (D.tup (r.map D.int).reverse) else none) = _
      rw [if_pos imms_ints, ← List.map_reverse]
      rfl
  rw [callS (fn := ir18) rfl, callFn_eq]
  have e8 : (l.drop (l.idxOf 0)).map D.int ++ (l.take (l.idxOf 0)).map D.int = (rot l).map D.int := by rw [← List.map_append]; rfl
  unfold rb
  rw [h2, h3]
  have e9 : D.imms (l.map D.int) = true := imms_ints
  have e10 : (l.drop (l.idxOf 0)).length + (l.take (l.idxOf 0)).length ≤ sizeLine := by rw [List.length_drop, List.length_take]; omega
  have e11 : D.imms ((rot l).tail.reverse.map D.int) = true := imms_ints
  have e12 : ((rot l).tail.reverse).length ≤ l.length := by rw [List.length_reverse, List.length_tail]; omega
  simp only [T] at e1 e4 e5 e6 e7 ⊢
  simp [ir18, prim1, prim2, e1]
  rw [e2, e3, if_pos e10, e8]
  simp only [Option.bind_some, opds_cons', opd_val, opds_nil', Option.map_some, pd1, prim1, e4]
  have e13 : ((rot l).tail.reverse).length + 1 ≤ sizeLine := by rw [List.length_reverse, List.length_tail]; omega
  by_cases hab : a < b
  · simp [prim1, prim2, e5, e6, negD, hab]
  · simp [prim1, prim2, e5, e6, negD, hab, e7]
    have e14 : D.imms (List.map D.int (rot l)).tail.reverse = true := by rw [← List.map_tail, ← List.map_reverse]; exact imms_ints
    have e15 : (D.int 0 :: (List.map D.int (rot l)).tail.reverse).length ≤ sizeLine := by rw [List.length_cons, List.length_reverse, List.length_tail, List.length_map]; omega
    rw [if_pos e14]
    simp only [Option.bind_some, Function.comp, if_pos e15, Option.map_some, seqK_rt, retK_rt, fin_cons, fin_nil, imm_tup, imms_ints, if_true]
/-- what an exchange makes of a round, ahead of round_by -/
def tnX (l : List Int) (a b : Nat) : List Int := l.take a ++ (((l.drop a).take (b + 1 - a)).reverse ++ l.drop (b + 1))
def tn (l : List Int) (a b : Nat) : List Int := rb (tnX l a b)
def okB (l : List Int) : Bool := l.contains 0 && ((atI (rot l) 1).isSome && (atI (rot l) (-1)).isSome)
theorem f18' (k : Nat) (l : List Int) (h : okB l = true) (hz : l.length ≤ 1000) : callF prog (k + 1) 18 [some (T l)] = some (T (rb l), [some (T l)]) := by
  unfold okB at h
  rw [Bool.and_eq_true, Bool.and_eq_true] at h
  exact f18 k l (by simpa using h.1) (Option.isSome_iff_exists.mp h.2.1) (Option.isSome_iff_exists.mp h.2.2) hz
theorem tnX_len (l : List Int) (a b : Nat) : (tnX l a b).length ≤ 2 * l.length + l.length := by
  unfold tnX
  simp only [List.length_append, List.length_reverse, List.length_take, List.length_drop]
  omega
theorem f24 (k : Nat) (l : List Int) (a b : Nat) (h : okB (tnX l a b) = true) (hz : l.length ≤ 300) : callF prog (k + 2) 24 [some (T l), some (T [(a : Int), (b : Int)])] = some (T (tn l a b), [some (T l), some (T [(a : Int), (b : Int)])]) := by
  have z := sizeLine_eq
  have hlx := tnX_len l a b
  have e0 := f18' k (tnX l a b) h (by omega)
  have e1 : cutI l (some (a : Int)) (some ((b : Int) + 1)) = (l.drop a).take (b + 1 - a) := cut_mid l a (b + 1)
  have e2 : cutI l none (some (a : Int)) = l.take a := cut_to l a
  have e3 : cutI l (some ((b : Int) + 1)) none = l.drop (b + 1) := cut_from l (b + 1)
  have e4 : (l.take a).map D.int ++ ((((l.drop a).take (b + 1 - a)).reverse).map D.int ++ (l.drop (b + 1)).map D.int) = (tnX l a b).map D.int := by unfold tnX; rw [List.map_append, List.map_append]
  rw [callS (fn := ir24) rfl, callFn_eq]
  simp only [T, List.map_cons, List.map_nil] at e0 ⊢
  simp [ir24, prim1, prim2, e1, e2, e3]
  have q1 : D.imms (List.take a (List.map D.int l)) = true := by rw [← List.map_take]; exact imms_ints
  have q2 : D.imms (List.take (b + 1 - a) (List.drop a (List.map D.int l))).reverse = true := by rw [← List.map_drop, ← List.map_take, ← List.map_reverse]; exact imms_ints
  have q3 : D.imms (List.drop (b + 1) (List.map D.int l)) = true := by rw [← List.map_drop]; exact imms_ints
  have q4 : List.take a (List.map D.int l) ++ ((List.take (b + 1 - a) (List.drop a (List.map D.int l))).reverse ++ List.drop (b + 1) (List.map D.int l)) = (tnX l a b).map D.int := by
    unfold tnX
    rw [List.map_append, List.map_append, List.map_reverse, List.map_take, List.map_drop, List.map_take, List.map_drop]
  rw [if_pos q1, if_pos q2, if_pos q3]
  simp only [Option.map_some, q4, Option.bind_some, Function.comp]
  rw [if_pos (by rw [List.length_map]; omega)]
  simp [e0, tn]
end
end LW
set_option maxHeartbeats 4000000
/-! F34: finite facts about rounds. -/
namespace LW
open PySem L2 DL
def rows (m : Nat) : Nat → List (List Int)
  | 0 => [[0]]
  | n + 1 => (rows m n).flatMap fun r => (((List.range m).map fun i : Nat => (i : Int)).filter fun p => !r.contains p).map fun p => r ++ [p]
/-- the rounds of m places -/
def rnds (m : Nat) : List (List Int) := (rows m (m - 1)).filter fun l => match atI l 1, atI l (-1) with
  | some a, some b => decide (a < b)
  | _, _ => false
def exs (m : Nat) : List (Nat × Nat) := (List.range m).flatMap fun a => if 1 ≤ a then ((List.range m).filter fun b => decide (a < b)).map fun b => (a, b) else []
theorem t6 : ((rnds 6).all fun l => okR 6 l && okK 6 l && decide (l.length = 6)) = true := by decide +kernel
theorem u6 : ((rnds 6).all fun l => (exs 6).all fun e => okB (tnX l e.1 e.2) && (rnds 6).contains (tn l e.1 e.2)) = true := by decide +kernel
end LW
set_option maxHeartbeats 2000000
/-! R34: rounds, exchanges, gains. -/
namespace LW
open PySem L2 DL
abbrev Ex (e : Nat × Nat) : D := T [(e.1 : Int), (e.2 : Int)]
theorem prs1 : ∀ m : Nat, m ∈ [3, 4, 5, 6, 7] → prs 1 m = (exs m).map Ex
  | 3, _ => by decide +kernel
  | 4, _ => by decide +kernel
  | 5, _ => by decide +kernel
  | 6, _ => by decide +kernel
  | 7, _ => by decide +kernel
  | 0, h | 1, h | 2, h | _ + 8, h => by simp at h
theorem exs_ok : ∀ m : Nat, m ∈ [3, 4, 5, 6, 7] → (∀ e ∈ exs m, 1 ≤ e.1 ∧ e.1 < e.2 ∧ e.2 ≤ m - 1) ∧ (exs m).length ≤ 100 ∧ exs m ≠ []
  | 3, _ => by decide +kernel
  | 4, _ => by decide +kernel
  | 5, _ => by decide +kernel
  | 6, _ => by decide +kernel
  | 7, _ => by decide +kernel
  | 0, h | 1, h | 2, h | _ + 8, h => by simp at h
/-- what is known of all rounds of m places -/
structure RndOk (m : Nat) (R : List (List Int)) : Prop where
  ok : ∀ l ∈ R, okR m l = true
  key : ∀ l ∈ R, okK m l = true
  len : ∀ l ∈ R, l.length = m
  tnB : ∀ l ∈ R, ∀ e ∈ exs m, okB (tnX l e.1 e.2) = true
  tnR : ∀ l ∈ R, ∀ e ∈ exs m, tn l e.1 e.2 ∈ R
section
variable {m : Nat} {vs : List Int} {R : List (List Int)} {l : List Int} {e : Nat × Nat}
theorem imms_Ex (es : List (Nat × Nat)) : D.imms (es.map Ex) = true := by
  induction es with
  | nil => simp
  | cons e es ih => simp [ih]
theorem f21 (k : Nat) (hm : m ∈ [3, 4, 5, 6, 7]) : callF prog (k + 5) 21 [some (.int m)] = some (.tup ((exs m).map Ex), [some (.int m)]) := by
  have e8 := f8 k m (m_le hm)
  have e20 := f20 (k + 3) m hm
  rw [prs1 m hm] at e20
  rw [callS (fn := ir21) rfl, callFn_eq]
  simp [ir21, e8, e20, prim1, tupleD, imms_Ex]
theorem f24e (k : Nat) (hm : m ∈ [3, 4, 5, 6, 7]) (Ro : RndOk m R) (hl : l ∈ R) (he : e ∈ exs m) : callF prog (k + 2) 24 [some (T l), some (Ex e)] = some (T (tn l e.1 e.2), [some (T l), some (Ex e)]) := by
  have hm' := m_le hm
  exact f24 k l e.1 e.2 (Ro.tnB l hl e he) (by rw [Ro.len l hl]; omega)
theorem f16r (k : Nat) (h : TabV m vs) (Ro : RndOk m R) (hl : l ∈ R) : callF prog (k + 3) 16 [some (kn m vs), some (T l)] = some (.int (len m vs l), [some (kn m vs), some (T l)]) := by
  have hm' := m_le h.mm
  have := Ro.len l hl
  exact f16 k h l (by omega) (by omega) (Ro.key l hl)
theorem f13r (k : Nat) (hm : m ∈ [3, 4, 5, 6, 7]) (Ro : RndOk m R) (hl : l ∈ R) : callF prog (k + 6) 13 [some (.int m), some (T l)] = some (.non, [some (.int m), some (T l)]) := by
  have hm' := m_le hm
  have := Ro.len l hl
  exact f13 k m l (by omega) (Ro.ok l hl)
theorem f17 (k : Nat) (h : TabV m vs) (Ro : RndOk m R) (hl : l ∈ R) : callF prog (k + 7) 17 [some (tab m vs), some (T l)] = some (.int (len m vs l), [some (tab m vs), some (T l)]) := by
  have e9 := f9 (k + 1) h
  have e13 := f13r k h.mm Ro hl
  have e11 := f11 (k + 4) h
  have e16 := f16r (k + 3) h Ro hl
  have e0 := tab0 (m := m) (vs := vs)
  rw [callS (fn := ir17) rfl, callFn_eq]
  simp only [tab, T, kn] at e0 e9 e11 e13 e16 ⊢
  simp [ir17, prim2, e0, e9, e11, e13, e16]
theorem f23e (k : Nat) (hm : m ∈ [3, 4, 5, 6, 7]) (he : e ∈ exs m) : callF prog (k + 5) 23 [some (.int m), some (Ex e)] = some (.non, [some (.int m), some (Ex e)]) := by
  have := (exs_ok m hm).1 e he
  have hm' := m_le hm
  exact f23 k m e.1 e.2 (by omega)
theorem f25 (k : Nat) (hm : m ∈ [3, 4, 5, 6, 7]) (Ro : RndOk m R) (hl : l ∈ R) (he : e ∈ exs m) : callF prog (k + 7) 25 [some (.int m), some (T l), some (Ex e)] = some (T (tn l e.1 e.2), [some (.int m), some (T l), some (Ex e)]) := by
  have e8 := f8 (k + 2) m (m_le hm)
  have e13 := f13r k hm Ro hl
  have e23 := f23e (k + 1) hm he
  have e24 := f24e (k + 4) hm Ro hl he
  rw [callS (fn := ir25) rfl, callFn_eq]
  simp only [Ex, T, List.map_cons, List.map_nil] at e23 e24 e13 ⊢
  simp [ir25, e8, e13, e23, e24]
theorem f26 (k : Nat) (h : TabV m vs) (Ro : RndOk m R) (hl : l ∈ R) (he : e ∈ exs m) : callF prog (k + 7) 26 [some (tab m vs), some (T l), some (Ex e)] = some (.int (len m vs l - len m vs (tn l e.1 e.2)), [some (tab m vs), some (T l), some (Ex e)]) := by
  have e9 := f9 (k + 1) h
  have e13 := f13r k h.mm Ro hl
  have e23 := f23e (k + 1) h.mm he
  have e24 := f24e (k + 4) h.mm Ro hl he
  have e11 := f11 (k + 4) h
  have e16 := f16r (k + 3) h Ro hl
  have e16' := f16r (k + 3) h Ro (Ro.tnR l hl e he)
  have e0 := tab0 (m := m) (vs := vs)
  rw [callS (fn := ir26) rfl, callFn_eq]
  simp only [tab, T, kn, Ex, List.map_cons, List.map_nil] at e0 e9 e11 e13 e16 e16' e23 e24 ⊢
  simp [ir26, prim2, e0, e9, e11, e13, e16, e16', e23, e24]
end
end LW
set_option maxHeartbeats 2000000
/-! S34: best exchanges, mending. -/
namespace LW
open PySem L2 DL
/-- a length with its exchange -/
abbrev LE (x : Int × (Nat × Nat)) : D := .tup [.int x.1, Ex x.2]
theorem LE_lt {x y : Int × (Nat × Nat)} : (ltD (LE x) (LE y) = true → x.1 ≤ y.1) ∧ (ltD (LE x) (LE y) = false → y.1 ≤ x.1) := by
  show (ltDs [.int x.1, Ex x.2] [.int y.1, Ex y.2] = true → _) ∧ (ltDs [.int x.1, Ex x.2] [.int y.1, Ex y.2] = false → _)
  have e : ltDs [D.int x.1, Ex x.2] [D.int y.1, Ex y.2] = if D.beq (.int x.1) (.int y.1) then ltDs [Ex x.2] [Ex y.2] else ltD (.int x.1) (.int y.1) := by rw [ltDs]
  rw [e]
  have eb : D.beq (.int x.1) (.int y.1) = decide (x.1 = y.1) := by rw [D.beq]
  rw [eb]
  by_cases h : x.1 = y.1
  · exact ⟨fun _ => by omega, fun _ => by omega⟩
  · rw [if_neg (by simp [h])]
    have el : ltD (.int x.1) (.int y.1) = decide (x.1 < y.1) := by rw [ltD]
    rw [el]
    exact ⟨fun q => by have := of_decide_eq_true q; omega, fun q => by have := of_decide_eq_false q; omega⟩
theorem minPairs : ∀ {xs : List (Int × (Nat × Nat))} {x0 : Int × (Nat × Nat)}, ∃ y ∈ x0 :: xs, minD (LE x0) (xs.map LE) = LE y ∧ ∀ z ∈ x0 :: xs, y.1 ≤ z.1
  | [], x0 => ⟨x0, List.mem_cons_self, rfl, fun z hz => by rw [List.mem_singleton.mp hz]; exact Int.le_refl _⟩
  | x1 :: xs, x0 => by
    have e : minD (LE x0) ((x1 :: xs).map LE) = minD (if ltD (LE x1) (LE x0) then LE x1 else LE x0) (xs.map LE) := rfl
    rw [e]
    obtain ⟨q1, q2⟩ := LE_lt (x := x1) (y := x0)
    cases h : ltD (LE x1) (LE x0) with
    | true =>
      obtain ⟨y, h1, h2, h3⟩ := minPairs (xs := xs) (x0 := x1)
      refine ⟨y, List.mem_cons_of_mem _ h1, h2, fun z hz => ?_⟩
      rcases List.mem_cons.mp hz with rfl | hz
      · exact Int.le_trans (h3 x1 List.mem_cons_self) (q1 h)
      · exact h3 z hz
    | false =>
      obtain ⟨y, h1, h2, h3⟩ := minPairs (xs := xs) (x0 := x0)
      refine ⟨y, ?_, h2, fun z hz => ?_⟩
      · rcases List.mem_cons.mp h1 with rfl | h1
        · exact List.mem_cons_self
        · exact List.mem_cons_of_mem _ (List.mem_cons_of_mem _ h1)
      · rcases List.mem_cons.mp hz with rfl | hz
        · exact h3 _ List.mem_cons_self
        · rcases List.mem_cons.mp hz with rfl | hz
          · exact Int.le_trans (h3 x0 List.mem_cons_self) (q2 h)
          · exact h3 z (List.mem_cons_of_mem _ hz)
theorem LE_alike (x y : Int × (Nat × Nat)) : alikeD (LE x) (LE y) = true := rfl
section
variable {m : Nat} {vs : List Int} {R : List (List Int)} {l : List Int} {e : Nat × Nat}
/-- the best exchange: its length, it -/
def best (m : Nat) (vs : List Int) (l : List Int) : D := match (exs m).map fun e => LE (len m vs (tn l e.1 e.2), e) with
  | [] => .non
  | d :: ds => minD d ds
theorem best_is (hm : m ∈ [3, 4, 5, 6, 7]) : ∃ e ∈ exs m, best m vs l = LE (len m vs (tn l e.1 e.2), e) ∧ ∀ e' ∈ exs m, len m vs (tn l e.1 e.2) ≤ len m vs (tn l e'.1 e'.2) := by
  have hne := (exs_ok m hm).2.2
  unfold best
  cases he : exs m with
  | nil => exact absurd he hne
  | cons e0 es =>
    obtain ⟨y, h1, h2, h3⟩ := minPairs (xs := es.map fun e => (len m vs (tn l e.1 e.2), e)) (x0 := (len m vs (tn l e0.1 e0.2), e0))
    have h1 : y ∈ (e0 :: es).map fun e => (len m vs (tn l e.1 e.2), e) := h1
    have h3 : ∀ z ∈ (e0 :: es).map (fun e => (len m vs (tn l e.1 e.2), e)), y.1 ≤ z.1 := h3
    obtain ⟨e, he1, rfl⟩ := List.mem_map.mp h1
    refine ⟨e, he1, ?_, fun e' he' => h3 _ (List.mem_map.mpr ⟨e', he', rfl⟩)⟩
    rw [List.map_map] at h2
    exact h2
theorem f28 (k : Nat) (h : TabV m vs) (Ro : RndOk m R) (hl : l ∈ R) : callF prog (k + 4) 28 [some (.int m), some (kn m vs), some (T l)] = some (best m vs l, [some (.int m), some (kn m vs), some (T l)]) := by
  have z := sizeLine_eq
  have e20 := f20 (k + 2) m h.mm
  rw [prs1 m h.mm] at e20
  have hlen := (exs_ok m h.mm).2.1
  have hne := (exs_ok m h.mm).2.2
  have hc : evE (callF prog (k + 3)) (.comp [3] (.nm 3) (.seq (.call 20 [.var 0])) [] (.disp true [false, false] [.call 16 [.var 1, .call 24 [.var 2, .var 3]], .var 3])) [some (.int m), some (kn m vs), some (T l), none] = some (.lst ((exs m).map fun e => LE (len m vs (tn l e.1 e.2), e)), [some (.int m), some (kn m vs), some (T l), none]) :=
    ev_compM (ρ1 := [some (.int m), some (kn m vs), some (T l), none]) (ws := []) (exs m) Ex _ (by simp [e20, imms_Ex]) (by simp)
      (fun x hx => ⟨[some (.int m), some (kn m vs), some (T l), some (Ex x)], [some (.int m), some (kn m vs), some (T l), some (Ex x)], by simp, by
        have e24 := f24e (k + 1) h.mm Ro hl hx
        have e16 := f16r k h Ro (Ro.tnR l hl x hx)
        simp only [T, kn, Ex, List.map_cons, List.map_nil] at e24 e16 ⊢
        simp [e24, e16, z], by simp⟩) (by omega) (by simp)
  have hmin : minLD (.lst ((exs m).map fun e => LE (len m vs (tn l e.1 e.2), e))) = some (best m vs l) := by
    unfold best
    cases he : exs m with
    | nil => exact absurd he hne
    | cons e0 es =>
      simp only [List.map_cons]
      show (if alikeAll _ _ then _ else none) = _
      rw [if_pos]
      unfold alikeAll
      rw [Bool.and_eq_true, Bool.and_eq_true]
      exact ⟨⟨rfl, List.all_eq_true.mpr fun d hd => by obtain ⟨e, _, rfl⟩ := List.mem_map.mp hd; rfl⟩, decide_eq_true (show 2 ≤ 60 by decide)⟩
  rw [callS (fn := ir28) rfl, callFn_eq]
  simp [ir28, prim1, -ev_comp, hc, hmin]
theorem f29 (k : Nat) (h : TabV m vs) (Ro : RndOk m R) (hl : l ∈ R) (v : Int) (e : Nat × Nat) (hb : best m vs l = LE (v, e)) : callF prog (k + 5) 29 [some (.int m), some (kn m vs), some (T l)] = some (.bl (decide (len m vs l ≤ v)), [some (.int m), some (kn m vs), some (T l)]) := by
  have e28 := f28 k h Ro hl
  rw [hb] at e28
  have e16 := f16r (k + 1) h Ro hl
  have e0 : ixD (LE (v, e)) (.int 0) = some (.int v) := by rfl
  rw [callS (fn := ir29) rfl, callFn_eq]
  simp only [kn, T, LE, Ex, List.map_cons, List.map_nil] at e28 e16 e0 ⊢
  simp [ir29, prim2, e28, e16, e0]
/-- each is an exchange of the one before that gains the most, and gains -/
def StepOk (m : Nat) (vs : List Int) (a b : List Int) : Prop := ∃ e ∈ exs m, b = tn a e.1 e.2 ∧ len m vs b < len m vs a ∧ ∀ e' ∈ exs m, len m vs b ≤ len m vs (tn a e'.1 e'.2)
inductive Mend (m : Nat) (vs : List Int) : List Int → List (List Int) → Prop
  | done {a : List Int} : (∀ e ∈ exs m, len m vs a ≤ len m vs (tn a e.1 e.2)) → Mend m vs a []
  | step {a b : List Int} {r : List (List Int)} : StepOk m vs a b → Mend m vs b r → Mend m vs a (b :: r)
theorem atI_last {α : Type} {xs : List α} {x : α} : atI (xs ++ [x]) (-1) = some x := by
  unfold atI ixN
  rw [if_neg (by decide), if_pos (by rw [List.length_append, List.length_singleton]; omega)]
  have : ((-1 : Int) + ((xs ++ [x]).length : Nat)).toNat = xs.length := by rw [List.length_append, List.length_singleton]; omega
  rw [Option.bind_some, this]
  simp
theorem ix_last {xs : List D} {x : D} (h : x.imm = true) : ixD (.lst (xs ++ [x])) (.int (-1)) = some x := by
  show immO (atI (xs ++ [x]) (-1)) = _
  rw [atI_last]
  simp [immO, h]
/-- the mending loop -/
theorem mend_loop {l0 : List Int} (h : TabV m vs) (Ro : RndOk m R) (hpos : ∀ l ∈ R, 0 ≤ len m vs l) : ∀ (n : Nat) (l : List Int) (pre : List D) (fuel : Nat), l ∈ R → len m vs l ≤ n → n < fuel → pre.length + n + 1 < 100000 →
    ∃ r, Mend m vs l r ∧ (∀ x ∈ r, x ∈ R) ∧ r.length ≤ n ∧ ∀ k, whlF (fun r => (evE (callF prog (k + 5)) (.notE (.call 29 [.var 0, .var 1, .prim .ix [.var 3, .prim .neg [.int 1]]])) r).bind boolC)
      (fun r => evSs (callF prog (k + 5)) [.expr (.meth .append 3 [.call 24 [.prim .ix [.var 3, .prim .neg [.int 1]], .prim .ix [.call 28 [.var 0, .var 1, .prim .ix [.var 3, .prim .neg [.int 1]]], .int 1]]])] r) fuel
      [some (.int m), some (kn m vs), some (T l0), some (.lst (pre ++ [T l]))] = some (.nx, [some (.int m), some (kn m vs), some (T l0), some (.lst (pre ++ [T l] ++ r.map T))]) := by
  intro n
  induction n with
  | zero =>
    intro l pre fuel hl hn hf hp
    obtain ⟨e, he, hb, hmin⟩ := best_is (vs := vs) (l := l) h.mm
    have e29 := fun k => f29 k h Ro hl _ e hb
    have h0 := hpos _ (Ro.tnR l hl e he)
    have hle : len m vs l ≤ len m vs (tn l e.1 e.2) := by omega
    obtain ⟨f, rfl⟩ : ∃ f, fuel = f + 1 := ⟨fuel - 1, by omega⟩
    refine ⟨[], .done fun e' he' => Int.le_trans hle (hmin e' he'), nofun, Nat.le_refl _, fun k => ?_⟩
    have e29 := e29 k
    have ei := ix_last (xs := pre) (x := T l) (by simp)
    simp only [T, kn] at e29 ei ⊢
    rw [whlF]
    simp [prim1, prim2, negD, ei, e29, hle]
  | succ n ih =>
    intro l pre fuel hl hn hf hp
    obtain ⟨e, he, hb, hmin⟩ := best_is (vs := vs) (l := l) h.mm
    have e29 := fun k => f29 k h Ro hl _ e hb
    have e28 := fun k => f28 (k + 1) h Ro hl
    rw [hb] at e28
    have e24 := fun k => f24e (k + 3) h.mm Ro hl he
    have h0 := hpos _ (Ro.tnR l hl e he)
    obtain ⟨f, rfl⟩ : ∃ f, fuel = f + 1 := ⟨fuel - 1, by omega⟩
    have ei := ix_last (xs := pre) (x := T l) (by simp)
    by_cases hle : len m vs l ≤ len m vs (tn l e.1 e.2)
    · refine ⟨[], .done fun e' he' => Int.le_trans hle (hmin e' he'), nofun, Nat.zero_le _, fun k => ?_⟩
      have e29 := e29 k
      simp only [T, kn] at e29 ei ⊢
      rw [whlF]
      simp [prim1, prim2, negD, ei, e29, hle]
    · obtain ⟨r, q1, q2, q3, q4⟩ := ih (tn l e.1 e.2) (pre ++ [T l]) f (Ro.tnR l hl e he) (by omega) (by omega) (by rw [List.length_append, List.length_singleton]; omega)
      refine ⟨tn l e.1 e.2 :: r, .step ⟨e, he, rfl, by omega, hmin⟩ q1, fun x hx => ?_, by rw [List.length_cons]; omega, fun k => ?_⟩
      · rcases List.mem_cons.mp hx with rfl | hx
        · exact Ro.tnR l hl e he
        · exact q2 x hx
      · have e29 := e29 k
        have e28 := e28 k
        have e24 := e24 k
        have q4 := q4 k
        have e1 : ixD (LE (len m vs (tn l e.1 e.2), e)) (.int 1) = some (Ex e) := by rfl
        have e2 : pre.length + 1 < sizeLine := by rw [sizeLine_eq]; omega
        have hc : (evE (callF prog (k + 5)) (.notE (.call 29 [.var 0, .var 1, .prim .ix [.var 3, .prim .neg [.int 1]]])) [some (.int m), some (kn m vs), some (T l0), some (.lst (pre ++ [T l]))]).bind boolC = some (true, [some (.int m), some (kn m vs), some (T l0), some (.lst (pre ++ [T l]))]) := by
          simp only [T, kn] at e29 ei ⊢
          simp [prim1, prim2, negD, ei, e29, hle]
        have hb : evSs (callF prog (k + 5)) [.expr (.meth .append 3 [.call 24 [.prim .ix [.var 3, .prim .neg [.int 1]], .prim .ix [.call 28 [.var 0, .var 1, .prim .ix [.var 3, .prim .neg [.int 1]]], .int 1]]])] [some (.int m), some (kn m vs), some (T l0), some (.lst (pre ++ [T l]))] = some (.nx, [some (.int m), some (kn m vs), some (T l0), some (.lst (pre ++ [T l] ++ [T (tn l e.1 e.2)]))]) := by
          simp only [T, kn, LE, Ex, List.map_cons, List.map_nil] at e28 e24 ei e1 ⊢
          simp [prim1, prim2, negD, ei, methD, e28, e1, e24, e2, isLst]
        rw [whlF, hc]
        simp only []
        rw [hb]
        simp only [List.map_cons, List.append_assoc, List.singleton_append] at q4 ⊢
        exact q4
end
end LW
set_option maxHeartbeats 2000000
/-! M34: mending. -/
namespace LW
open PySem L2 DL
section
variable {m : Nat} {vs : List Int} {R : List (List Int)} {l : List Int} {e : Nat × Nat}
theorem f27 (k : Nat) (h : TabV m vs) (Ro : RndOk m R) (hl : l ∈ R) : callF prog (k + 7) 27 [some (tab m vs), some (T l)] = some (.non, [some (tab m vs), some (T l)]) := by
  have e9 := f9 (k + 1) h
  have e13 := f13r k h.mm Ro hl
  have e0 := tab0 (m := m) (vs := vs)
  rw [callS (fn := ir27) rfl, callFn_eq]
  simp only [tab, T, kn] at e0 e9 e13 ⊢
  simp [ir27, prim2, e0, e9, e13]
theorem f30 (h : TabV m vs) (Ro : RndOk m R) (hpos : ∀ l ∈ R, 0 ≤ len m vs l ∧ len m vs l ≤ 5000) (hl : l ∈ R) : ∃ r, Mend m vs l r ∧ (∀ x ∈ r, x ∈ R) ∧ r.length ≤ 5000 ∧ ∀ k, callF prog (k + 6) 30 [some (.int m), some (kn m vs), some (T l)] = some (.lst ((l :: r).map T), [some (.int m), some (kn m vs), some (T l)]) := by
  obtain ⟨r, r1, r2, r3, r4⟩ := mend_loop (l0 := l) h Ro (fun l hl => (hpos l hl).1) 5000 l [] whFuel hl (hpos l hl).2 (by decide) (by decide)
  refine ⟨r, r1, r2, r3, fun k => ?_⟩
  have r4 := r4 k
  have hi : ∀ q : List (List Int), D.imms (q.map T) = true := fun q => by
    induction q with
    | nil => simp
    | cons a q ih => simp [ih]
  have z := sizeLine_eq
  have hh := hi r
  have hw : evS (callF prog (k + 5)) (.whl (.notE (.call 29 [.var 0, .var 1, .prim .ix [.var 3, .prim .neg [.int 1]]])) [.expr (.meth .append 3 [.call 24 [.prim .ix [.var 3, .prim .neg [.int 1]], .prim .ix [.call 28 [.var 0, .var 1, .prim .ix [.var 3, .prim .neg [.int 1]]], .int 1]]])]) [some (.int m), some (kn m vs), some (T l), some (.lst [T l])] = some (.nx, [some (.int m), some (kn m vs), some (T l), some (.lst (T l :: r.map T))]) := by
    rw [s_whl]; exact r4
  rw [callS (fn := ir30) rfl, callFn_eq]
  simp only [T, kn] at hw hh ⊢
  simp [ir30, -s_whl, hw, z, hh]
theorem T_imms (q : List (List Int)) : D.imms (q.map T) = true := by
    induction q with
    | nil => simp
    | cons a q ih => simp [ih]
/-- what the mending steps from a round are, told by the program -/
def mends (m : Nat) (vs : List Int) (l : List Int) (r : List (List Int)) : Prop := ∀ k, callF prog (k + 6) 30 [some (.int m), some (kn m vs), some (T l)] = some (.lst ((l :: r).map T), [some (.int m), some (kn m vs), some (T l)])
theorem f32 (k : Nat) (h : TabV m vs) (Ro : RndOk m R) (hl : l ∈ R) {r : List (List Int)} (hr : mends m vs l r) : callF prog (k + 8) 32 [some (tab m vs), some (T l)] = some (.tup ((l :: r).map T), [some (tab m vs), some (T l)]) := by
  have r4 := hr (k + 1)
  have e27 := f27 k h Ro hl
  have e0 := tab0 (m := m) (vs := vs)
  have e11 := f11 (k + 5) h
  have hh := T_imms r
  rw [callS (fn := ir32) rfl, callFn_eq]
  simp only [tab, T, kn] at e0 e27 e11 r4 hh ⊢
  simp [ir32, prim1, prim2, tupleD, e0, e27, e11, r4, hh]
theorem f31 (k : Nat) (h : TabV m vs) (Ro : RndOk m R) (hl : l ∈ R) {r : List (List Int)} (hr : mends m vs l r) : callF prog (k + 8) 31 [some (tab m vs), some (T l)] = some (T ((l :: r).getLast (by simp)), [some (tab m vs), some (T l)]) := by
  have r4 := hr (k + 1)
  have e27 := f27 k h Ro hl
  have e0 := tab0 (m := m) (vs := vs)
  have e11 := f11 (k + 5) h
  have hx : ixD (.lst ((l :: r).map T)) (.int (-1)) = some (T ((l :: r).getLast (by simp))) := by
    rw [show (l :: r).map T = ((l :: r).dropLast ++ [(l :: r).getLast (by simp)]).map T by rw [ List.dropLast_concat_getLast (l := l :: r) (by simp)], List.map_append]
    exact ix_last (by simp)
  rw [callS (fn := ir31) rfl, callFn_eq]
  generalize (l :: r).getLast _ = t at hx ⊢
  simp only [tab, T, kn, List.map_cons] at e0 e27 e11 r4 hx ⊢
  simp [ir31, prim1, prim2, negD, e0, e27, e11, r4, hx]
end
end LW
set_option maxHeartbeats 2000000
/-! L34: the law's own small defs. -/
namespace LW
open PySem L2 DL
section
variable {m : Nat} {vs : List Int} {R : List (List Int)} {l : List Int} {e : Nat × Nat}
theorem f15 (k : Nat) (hm : m ∈ [3, 4, 5, 6, 7]) (Ro : RndOk m R) (hl : l ∈ R) : callF prog (k + 7) 15 [some (.int m), some (T l)] = some (.tup (ral l), [some (.int m), some (T l)]) := by
  have hm' := m_le hm
  have h2 := Ro.len l hl
  have e8 := f8 (k + 2) m (m_le hm)
  have e13 := f13r k hm Ro hl
  have e14 := f14 (k + 4) l (by omega) (by omega)
  have hi := ral_imms l
  rw [callS (fn := ir15) rfl, callFn_eq]
  simp only [T] at e13 e14 ⊢
  simp [ir15, prim1, tupleD, e8, e13, e14, hi]
theorem f39 (k : Nat) : ∀ m : Nat, m ∈ [3, 4, 5, 6, 7] → callF prog (k + 1) 39 [some (.int m)] = some (.lst (prs 0 m), [some (.int m)])
  | 3, _ => by rfl
  | 4, _ => by rfl
  | 5, _ => by rfl
  | 6, _ => by rfl
  | 7, _ => by rfl
  | 0, h | 1, h | 2, h | _ + 8, h => by simp at h
theorem f47 (k : Nat) : ∀ m : Nat, m ∈ [3, 4, 5, 6, 7] → callF prog (k + 1) 47 [some (.int m)] = some (.lst (prs 1 m), [some (.int m)])
  | 3, _ => by rfl
  | 4, _ => by rfl
  | 5, _ => by rfl
  | 6, _ => by rfl
  | 7, _ => by rfl
  | 0, h | 1, h | 2, h | _ + 8, h => by simp at h
theorem f40 (k : Nat) (a b : Int) : callF prog (k + 1) 40 [some (.int a), some (.int b)] = some (road a b, [some (.int a), some (.int b)]) := by
  rw [callS (fn := ir40) rfl, callFn_eq]
  simp [ir40, prim2, cmpD, road]
  by_cases h : a < b <;> simp [h, sizeLine_eq]
theorem f41 (k : Nat) (h : TabV m vs) : callF prog (k + 2) 41 [some (tab m vs)] = some (kn m vs, [some (tab m vs)]) := by
  obtain ⟨q1, q2, q3, q4, q5⟩ := pks_ok m h.mm
  have e1 := tab0 (m := m) (vs := vs)
  have e2 := tab1 (m := m) (vs := vs)
  have e5 := f39 k m h.mm
  have e6 : dictZipD (.lst (prs 0 m)) (T vs) = some (kn m vs) := by
    unfold dictZipD
    simp only [seq_lst, seq_tup, q4, imms_ints, Bool.and_self, if_true]
    rw [zipKV_of q1 (by rw [List.length_map, h.len, q3]), Option.map_some, buildT_of (by simpa using q2) (by rw [List.length_map, h.len])]
    rfl
  rw [callS (fn := ir41) rfl, callFn_eq]
  simp only [tab, T, kn] at e1 e2 e6 ⊢
  simp [ir41, prim1, prim2, e1, e2, e5, e6]
theorem f43 (k : Nat) (l : List Int) (h : 1 ≤ l.length) (hz : l.length ≤ 1000) : callF prog (k + 2) 43 [some (T l)] = some (.lst ((around l).map fun p => road p.1 p.2), [some (T l)]) := by
  have z := sizeLine_eq
  rw [callS (fn := ir43) rfl, callFn_eq]
  have hit : evIt (callF prog (k + 1)) (.zip (.var 0) (.prim (.bin .add) [.prim (.slice true false) [.var 0, .int 1], .prim (.slice false true) [.var 0, .int 1]])) [some (T l), none, none] = some (((around l).map fun p => .tup [.int p.1, .int p.2], [(0, T l)]), [some (T l), none, none]) := by
    have e1 : cutI l (some 1) none = l.drop 1 := cut_from l 1
    have e2 : cutI l none (some 1) = l.take 1 := cut_to l 1
    have e3 : binD .add (T l.tail) (T (l.take 1)) = some (T (l.tail ++ l.take 1)) := add_T (by rw [List.length_tail, List.length_take]; omega)
    have e4 : D.imms (l.tail.map D.int ++ (l.take 1).map D.int) = true := by rw [← List.map_append]; exact imms_ints
    simp [prim2, e1, e2, e3, isTupD]
    rw [← List.map_tail, ← List.map_take]
    refine ⟨⟨imms_ints, imms_ints⟩, ?_⟩
    rw [← List.map_append, zip_T]
    rfl
  have hc : evE (callF prog (k + 1)) (.comp [1, 2] (.tp [.nm 1, .nm 2]) (.zip (.var 0) (.prim (.bin .add) [.prim (.slice true false) [.var 0, .int 1], .prim (.slice false true) [.var 0, .int 1]])) [] (.call 40 [.var 1, .var 2])) [some (T l), none, none] = some (.lst ((around l).map fun p => road p.1 p.2), [some (T l), none, none]) :=
    ev_compM (around l) (fun p => .tup [.int p.1, .int p.2]) _ hit (by simp) (fun x hx => ⟨[some (T l), some (.int x.1), some (.int x.2)], [some (T l), some (.int x.1), some (.int x.2)], by simp, by simp [f40], by simp⟩) (by rw [around_len h]; omega) (by simp)
  simp [ir43, prim1, -ev_comp, hc]
theorem ix_val (h : TabV m vs) (hk : okK m l = true) {r : D} (hr : r ∈ ral l) : ixD (kn m vs) r = some (.int (val m vs r)) := by
  obtain ⟨q1, q2, q3, q4, q5⟩ := pks_ok m h.mm
  have hq := List.all_eq_true.mp hk r hr
  unfold val
  cases e : DL.keyOf r with
  | none => rw [e] at hq; cases hq
  | some key =>
    rw [e] at hq
    have hj := kix_lt hq
    refine ix_look e (look_at (j := kix (pks m) key) q2 (kix_at hq) ?_) (by simp)
    have hj' : kix (pks m) key < vs.length := by rw [h.len]; exact hj
    rw [List.getElem?_map, List.getElem?_eq_getElem hj', Option.map_some]
    show _ = some (D.int (vs.getD (kix (pks m) key) 0))
    rw [List.getD_eq_getElem?_getD, List.getElem?_eq_getElem hj']
    rfl
theorem perm_sumI {a b : List Int} (h : a.Perm b) : a.sum = b.sum := by
  induction h with
  | nil => rfl
  | cons x _ ih => rw [List.sum_cons, List.sum_cons, ih]
  | swap x y l => rw [List.sum_cons, List.sum_cons, List.sum_cons, List.sum_cons]; omega
  | trans _ _ h1 h2 => exact h1.trans h2
theorem ral_perm (h : 1 ≤ l.length) : (ral l).Perm ((around l).map fun p => road p.1 p.2) := by
  unfold ral
  rw [msort_eq (by rw [List.length_map, around_len h]; exact Nat.le_refl _)]
  exact List.mergeSort_perm _ _
theorem len_around (h : 1 ≤ l.length) : len m vs l = ((around l).map fun p => val m vs (road p.1 p.2)).sum := by
  unfold len
  rw [perm_sumI ((ral_perm h).map (val m vs)), List.map_map]
  rfl
theorem f44 (k : Nat) (h : TabV m vs) (Ro : RndOk m R) (hl : l ∈ R) : callF prog (k + 3) 44 [some (tab m vs), some (T l)] = some (.int (len m vs l), [some (tab m vs), some (T l)]) := by
  have z := sizeLine_eq
  have hm' := m_le h.mm
  have h2 := Ro.len l hl
  have hk := Ro.key l hl
  have e41 := f41 k h
  have e43 := f43 k l (by omega) (by omega)
  have hc : evE (callF prog (k + 2)) (.comp [3] (.nm 3) (.seq (.call 43 [.var 1])) [] (.prim .ix [.var 2, .var 3])) [some (tab m vs), some (T l), some (kn m vs), none] = some (.lst ((around l).map fun p => .int (val m vs (road p.1 p.2))), [some (tab m vs), some (T l), some (kn m vs), none]) :=
    ev_compM (ρ1 := [some (tab m vs), some (T l), some (kn m vs), none]) (ws := []) (around l) (fun p => road p.1 p.2) _ (by
        have hi : D.imms ((around l).map fun p => road p.1 p.2) = true := by
          generalize around l = a
          induction a with
          | nil => simp
          | cons a q ih => simp [ih]
        simp [e43, hi]) (by simp) (fun x hx => ⟨[some (tab m vs), some (T l), some (kn m vs), some (road x.1 x.2)], [some (tab m vs), some (T l), some (kn m vs), some (road x.1 x.2)], by simp, by
          have hr : road x.1 x.2 ∈ ral l := (ral_perm (by omega)).mem_iff.mpr (List.mem_map.mpr ⟨x, hx, rfl⟩)
          have := ix_val h hk hr
          simp [prim2, this], by simp⟩) (by rw [around_len (by omega)]; omega) (by simp)
  rw [callS (fn := ir44) rfl, callFn_eq]
  have hs : sumD (.lst ((around l).map fun p => .int (val m vs (road p.1 p.2)))) = some (.int (len m vs l)) := by
    rw [len_around (by omega)]
    simp [sumD, allInt_map]
  simp only [tab, T, kn] at e41 hc hs ⊢
  simp [ir44, prim1, -ev_comp, e41, hc, hs]
theorem f46i (k : Nat) (i : Int) : callF prog (k + 1) 46 [some (.int i)] = some (.bl true, [some (.int i)]) := by rfl
theorem f45g (k : Nat) (X : D) (l : List Int) (A B : D) (hi : X.imm = true ∨ True) (h1 : listD X = some (.lst (l.map D.int))) (hA : sliceD X (some ((l.idxOf 0 : Nat) : Int)) none = some A) (hB : sliceD X none (some ((l.idxOf 0 : Nat) : Int)) = some B) (hA' : tupleD A = some (T (l.drop (l.idxOf 0)))) (hB' : tupleD B = some (T (l.take (l.idxOf 0)))) (ho : okB l = true) (hz : l.length ≤ 1000) : callF prog (k + 1) 45 [some X] = some (T (rb l), [some X]) := by
  have z := sizeLine_eq
  unfold okB at ho
  rw [Bool.and_eq_true, Bool.and_eq_true] at ho
  have h0 : (0 : Int) ∈ l := by simpa using ho.1
  obtain ⟨a, h2⟩ := Option.isSome_iff_exists.mp ho.2.1
  obtain ⟨b, h3⟩ := Option.isSome_iff_exists.mp ho.2.2
  have hl := rot_len l
  have e1 := idx_L h0
  have e5 := ix_T h2
  have e6 := ix_T h3
  have e7 : revToD (T (rot l)) = some (T (rot l).tail.reverse) := by
    cases hr : rot l with
    | nil => rw [hr] at h2; cases h2
    | cons x r =>
      show (if D.imms (r.map D.int) then some (D.tup (r.map D.int).reverse) else none) = _
      rw [if_pos imms_ints, ← List.map_reverse]
      rfl
  have e10 : (l.drop (l.idxOf 0)).length + (l.take (l.idxOf 0)).length ≤ sizeLine := by rw [List.length_drop, List.length_take]; omega
  have e8 : binD .add (T (l.drop (l.idxOf 0))) (T (l.take (l.idxOf 0))) = some (T (rot l)) := add_T e10
  have e9 : binD .add (T [0]) (T (rot l).tail.reverse) = some (T ([0] ++ (rot l).tail.reverse)) := add_T (by rw [List.length_singleton, List.length_reverse, List.length_tail]; omega)
  rw [callS (fn := ir45) rfl, callFn_eq]
  have hr : rb l = if a < b then rot l else [0] ++ (rot l).tail.reverse := by
    unfold rb
    rw [h2, h3]
    rfl
  rw [hr]
  have it : ∀ q : List Int, D.imm (T q) = true := fun q => by simp
  have i1 := it (rot l)
  have i2 := it ([0] ++ (rot l).tail.reverse)
  have i3 := it (l.drop (l.idxOf 0))
  have i4 := it (l.take (l.idxOf 0))
  have i5 := it (rot l).tail.reverse
  clear it
  have e9 : binD .add (.tup [.int 0]) (T (rot l).tail.reverse) = some (T ([0] ++ (rot l).tail.reverse)) := e9
  have hfin : T (if a < b then rot l else [0] ++ (rot l).tail.reverse) = if a < b then T (rot l) else T ([0] ++ (rot l).tail.reverse) := by split <;> rfl
  rw [hfin]
  clear hr hl hfin h2 h3
  generalize T (rot l) = tq at *
  generalize T ([0] ++ (rot l).tail.reverse) = tr at *
  generalize T (rot l).tail.reverse = ts at *
  generalize T (l.drop (l.idxOf 0)) = ta at *
  generalize T (l.take (l.idxOf 0)) = tb at *
  generalize D.lst (l.map D.int) = tl at *
  by_cases hab : a < b <;> simp [ir45, prim1, prim2, negD, h1, e1, hA, hB, hA', hB', e8, e5, e6, e7, e9, hab, i1, i2, i3, i4, i5, z]
theorem f45T (k : Nat) (l : List Int) (ho : okB l = true) (hz : l.length ≤ 1000) : callF prog (k + 1) 45 [some (T l)] = some (T (rb l), [some (T l)]) := by
  refine f45g k (T l) l (T (l.drop (l.idxOf 0))) (T (l.take (l.idxOf 0))) (.inr trivial) ?_ ?_ ?_ ?_ ?_ ho hz
  · show (if D.imms (l.map D.int) then _ else _) = _
    rw [if_pos imms_ints]
  · rw [slice_T, cut_from]
  · rw [slice_T, cut_to]
  · show (if D.imms ((l.drop (l.idxOf 0)).map D.int) then _ else _) = _
    rw [if_pos imms_ints]
  · show (if D.imms ((l.take (l.idxOf 0)).map D.int) then _ else _) = _
    rw [if_pos imms_ints]
theorem slice_L (l : List Int) (lo hi : Option Int) : sliceD (.lst (l.map D.int)) lo hi = some (.lst ((cutI l lo hi).map D.int)) := by
  simp [sliceD, cutD_T, reseq, imms_ints]
theorem f45L (k : Nat) (l : List Int) (ho : okB l = true) (hz : l.length ≤ 1000) : callF prog (k + 1) 45 [some (.lst (l.map D.int))] = some (T (rb l), [some (.lst (l.map D.int))]) := by
  refine f45g k (.lst (l.map D.int)) l (.lst ((l.drop (l.idxOf 0)).map D.int)) (.lst ((l.take (l.idxOf 0)).map D.int)) (.inr trivial) ?_ ?_ ?_ ?_ ?_ ho hz
  · show (if D.imms (l.map D.int) then _ else _) = _
    rw [if_pos imms_ints]
  · rw [slice_L, cut_from]
  · rw [slice_L, cut_to]
  · show (if D.imms ((l.drop (l.idxOf 0)).map D.int) then _ else _) = _
    rw [if_pos imms_ints]
  · show (if D.imms ((l.take (l.idxOf 0)).map D.int) then _ else _) = _
    rw [if_pos imms_ints]
theorem f48 (k : Nat) (l : List Int) (a b : Nat) (h : okB (tnX l a b) = true) (hz : l.length ≤ 300) : callF prog (k + 2) 48 [some (T l), some (T [(a : Int), (b : Int)])] = some (T (tn l a b), [some (T l), some (T [(a : Int), (b : Int)])]) := by
  have z := sizeLine_eq
  have hlx := tnX_len l a b
  have e0 := f45T k (tnX l a b) h (by omega)
  have e1 : cutI l (some (a : Int)) (some ((b : Int) + 1)) = (l.drop a).take (b + 1 - a) := cut_mid l a (b + 1)
  have e2 : cutI l none (some (a : Int)) = l.take a := cut_to l a
  have e3 : cutI l (some ((b : Int) + 1)) none = l.drop (b + 1) := cut_from l (b + 1)
  have l1 : (l.take a).length + (((l.drop a).take (b + 1 - a)).reverse).length ≤ sizeLine := by
    simp only [List.length_reverse, List.length_take, List.length_drop]; omega
  have l2 : (l.take a ++ ((l.drop a).take (b + 1 - a)).reverse).length + (l.drop (b + 1)).length ≤ sizeLine := by
    simp only [List.length_append, List.length_reverse, List.length_take, List.length_drop]; omega
  have e4 : binD .add (T (l.take a)) (T ((l.drop a).take (b + 1 - a)).reverse) = some (T (l.take a ++ ((l.drop a).take (b + 1 - a)).reverse)) := add_T l1
  have e5 : binD .add (T (l.take a ++ ((l.drop a).take (b + 1 - a)).reverse)) (T (l.drop (b + 1))) = some (T (tnX l a b)) := by
    rw [add_T l2, List.append_assoc]; rfl
  have s1 := slice_T l (some (a : Int)) (some ((b : Int) + 1))
  have s2 := slice_T l none (some (a : Int))
  have s3 := slice_T l (some ((b : Int) + 1)) none
  have s4 := rev_T ((l.drop a).take (b + 1 - a))
  rw [e1] at s1
  rw [e2] at s2
  rw [e3] at s3
  have hs : (T [(a : Int), (b : Int)]) = .tup [.int a, .int b] := rfl
  have it : ∀ q : List Int, D.imm (T q) = true := fun q => by simp
  have i1 := it l
  have i2 := it (tn l a b)
  have i3 := it ((l.drop a).take (b + 1 - a))
  have i4 := it (tnX l a b)
  have e0 : callF prog (k + 1) 45 [some (T (tnX l a b))] = some (T (rb (tnX l a b)), [some (T (tnX l a b))]) := e0
  rw [callS (fn := ir48) rfl, callFn_eq, hs]
  unfold tn at i2 ⊢
  clear it hlx e1 e2 e3 l1 l2 hs
  generalize T (rb (tnX l a b)) = w1 at *
  generalize T (tnX l a b) = w2 at *
  generalize T (l.take a ++ ((l.drop a).take (b + 1 - a)).reverse) = w3 at *
  generalize T ((l.drop a).take (b + 1 - a)).reverse = w4 at *
  generalize T ((l.drop a).take (b + 1 - a)) = w5 at *
  generalize T (l.take a) = w6 at *
  generalize T (l.drop (b + 1)) = w7 at *
  generalize T l = w8 at *
  simp [ir48, prim1, prim2, e0, e4, e5, s1, s2, s3, s4, i1, i2, i3, i4]
theorem f48e (k : Nat) (hm : m ∈ [3, 4, 5, 6, 7]) (Ro : RndOk m R) (hl : l ∈ R) (he : e ∈ exs m) : callF prog (k + 2) 48 [some (T l), some (Ex e)] = some (T (tn l e.1 e.2), [some (T l), some (Ex e)]) := by
  have hm' := m_le hm
  exact f48 k l e.1 e.2 (Ro.tnB l hl e he) (by rw [Ro.len l hl]; omega)
end
end LW
set_option maxHeartbeats 2000000
/-! V34: what is drawn. -/
namespace LW
open PySem L2 DL
abbrev pot (own mix c : Int) : D := .lst [.int own, .int mix, .int c]
structure PotI (own mix c : Int) (n : Nat) : Prop where
  own0 : 0 ≤ own
  mix0 : 0 ≤ mix
  mix1 : mix < 2305843009213693952
  c0 : 0 ≤ c
  cn : c ≤ n
def PotOk (p : D) (n : Nat) : Prop := ∃ own mix c, p = pot own mix c ∧ PotI own mix c n
theorem bin_modI {i j : Int} (h : 0 < j) : binD .mod (.int i) (.int j) = some (.int (i % j)) := by
  show (if decide (0 < j) = true then _ else _) = _
  rw [if_pos (decide_eq_true h)]
theorem bin_fdivI {i j : Int} (h : 0 < j ∧ j < 1073741824) : binD .fdiv (.int i) (.int j) = some (.int (i / j)) := by
  show (if (decide (0 < j) && decide (j < 1073741824)) = true then _ else _) = _
  rw [if_pos (by rw [decide_eq_true h.1, decide_eq_true h.2]; rfl)]
theorem intB_of {i : Int} (h : -18446744073709551616 < i ∧ i < 18446744073709551616) : intB i = true := by
  unfold intB
  rw [Bool.and_eq_true]
  exact ⟨decide_eq_true (by have : (2 : Int) ^ 64 = 18446744073709551616 := by decide
                            omega), decide_eq_true (by have : (2 : Int) ^ 64 = 18446744073709551616 := by decide
                                                       omega)⟩
theorem bin_mulI {i j : Int} (h : intB i = true ∨ intB j = true) : binD .mul (.int i) (.int j) = some (.int (i * j)) := by
  show (if (intB i || intB j) = true then _ else _) = _
  rw [if_pos (by rw [Bool.or_eq_true]; exact h)]
theorem prime5 (c : Int) : ∃ q : Int, 0 < q ∧ q < 2147483648 ∧ ixD (.lst [.int 2147483647, .int 2147483629, .int 2147483587, .int 2147483579, .int 2147483563]) (.int (c % 5)) = some (.int q) := by
  have h : c % 5 = 0 ∨ c % 5 = 1 ∨ c % 5 = 2 ∨ c % 5 = 3 ∨ c % 5 = 4 := by omega
  rcases h with h | h | h | h | h <;> rw [h]
  · exact ⟨2147483647, by decide, by decide, rfl⟩
  · exact ⟨2147483629, by decide, by decide, rfl⟩
  · exact ⟨2147483587, by decide, by decide, rfl⟩
  · exact ⟨2147483579, by decide, by decide, rfl⟩
  · exact ⟨2147483563, by decide, by decide, rfl⟩
theorem f35 (k : Nat) {p : D} {n : Nat} {u : Int} (h : PotOk p n) (hn : n < 1099511627776) (hu : 0 < u ∧ u < 1073741824) : ∃ i p', callF prog (k + 1) 35 [some p, some (.int u)] = some (.int i, [some p', some (.int u)]) ∧ 0 ≤ i ∧ i < u ∧ PotOk p' (n + 1) := by
  obtain ⟨own, mix, c, rfl, h⟩ := h
  obtain ⟨h1, h2, h3, h4, h5⟩ := h
  by_cases ho : 0 < own
  · refine ⟨own % u, pot (own / u) mix c, ?_, Int.emod_nonneg _ (by omega), Int.emod_lt_of_pos _ hu.1, own / u, mix, c, rfl, Int.ediv_nonneg h1 (by omega), h2, h3, h4, by omega⟩
    have e0 : ixD (pot own mix c) (.int 0) = some (.int own) := by rfl
    rw [callS (fn := ir35) rfl, callFn_eq]
    have i0 : ixN 3 0 = some 0 := by rfl
    have i2 : ixN 3 2 = some 2 := by rfl
    simp [ir35, prim1, prim2, e0, ho, hu, binD, intD, setK, isMut, s_setix, i0, i2]
  · obtain ⟨q, q1, q2, q3⟩ := prime5 (c + 1)
    have hc : 0 ≤ c + 1 ∧ c + 1 ≤ 1099511627776 := by omega
    generalize hC : c + 1 = C at *
    have b1 : binD .mul (.int 97463) (.int C) = some (.int (97463 * C)) := bin_mulI (.inr (intB_of (by omega)))
    have b2 : binD .mul (.int (97463 * C)) (.int C) = some (.int (97463 * C * C)) := bin_mulI (.inr (intB_of (by omega)))
    have hX : 0 ≤ 97463 * C * C ∧ 97463 * C * C ≤ 97463 * 1099511627776 * 1099511627776 := ⟨Int.mul_nonneg (by omega) (by omega), Int.mul_le_mul (by omega) (by omega) (by omega) (by decide)⟩
    generalize 97463 * C * C = X at *
    have b3 : binD .pow (.int (mix + X + 3347)) (.int 3) = some (.int ((mix + X + 3347) ^ 3)) := by
      show (if (decide ((0 : Int) ≤ 3) && decide ((3 : Int) ≤ 1000) && decide ((mix + X + 3347).natAbs < 2 ^ 256)) = true then _ else _) = _
      have : (2 : Nat) ^ 200 ≤ 2 ^ 256 := by decide
      have : (2 : Nat) ^ 200 = 1606938044258990275541962092341162602522202993782792835301376 := by decide
      rw [if_pos (by rw [Bool.and_eq_true, Bool.and_eq_true]; exact ⟨⟨by decide, by decide⟩, decide_eq_true (by omega)⟩)]
      rfl
    generalize (mix + X + 3347) ^ 3 = Y at *
    have b4 := bin_modI (i := Y) q1
    have y1 := Int.emod_nonneg Y (b := q) (by omega)
    have y2 := Int.emod_lt_of_pos Y q1
    generalize Y % q = B at *
    have b5 := bin_modI (i := B) (j := 13567) (by decide)
    have y3 := Int.emod_nonneg B (b := 13567) (by decide)
    generalize B % 13567 = B' at *
    have b6 : binD .mul (.int 433) (.int C) = some (.int (433 * C)) := bin_mulI (.inr (intB_of (by omega)))
    have b7 : binD .mul (.int B) (.int (B' + 433 * C)) = some (.int (B * (B' + 433 * C))) := bin_mulI (.inl (intB_of (by omega)))
    generalize B * (B' + 433 * C) = Z at *
    have b8 := bin_modI (i := Z) (j := 2305843009213693907) (by decide)
    have b9 := bin_fdivI (i := Z % 2305843009213693907) (j := 233) (by decide)
    have b10 := bin_modI (i := Z % 2305843009213693907 / 233) hu.1
    have b11 := bin_modI (i := C) (j := 5) (by decide)
    refine ⟨Z % 2305843009213693907 / 233 % u, pot own mix C, ?_, Int.emod_nonneg _ (by omega), Int.emod_lt_of_pos _ hu.1, own, mix, C, rfl, h1, h2, h3, by omega, by omega⟩
    have e0 : ixD (pot own mix c) (.int 0) = some (.int own) := by rfl
    have e2 : ixD (pot own mix c) (.int 2) = some (.int c) := by rfl
    have e3 : ixD (pot own mix C) (.int 1) = some (.int mix) := by rfl
    have e4 : ixD (pot own mix C) (.int 2) = some (.int C) := by rfl
    have i2 : ixN 3 2 = some 2 := by rfl
    have z := sizeLine_eq
    rw [callS (fn := ir35) rfl, callFn_eq]
    simp [ir35, prim1, prim2, e0, ho, intD, setK, isMut, s_setix, i2, e2, hC, e3, e4, b1, b2, b3, b4, b5, b6, b7, b8, b9, b10, b11, q3, z]
theorem pop_at {l : List D} {i : Int} (h : 0 ≤ i ∧ i < (l.length : Int)) (hz : l.length ≤ 1000) : ∃ v, l[i.toNat]? = some v ∧ methD .popAt (.lst l) [.int i] = some (v, .lst (l.eraseIdx i.toNat)) := by
  have hi : i.toNat < l.length := by omega
  refine ⟨l[i.toNat], List.getElem?_eq_getElem hi, ?_⟩
  have e : seqIndex? i l.length = some i.toNat := by
    unfold seqIndex?
    simp only [if_neg (show ¬ i < 0 by omega)]
    rw [if_pos (by rw [Bool.and_eq_true]; exact ⟨decide_eq_true h.1, decide_eq_true h.2⟩)]
  have w : (2 : Int) ^ 63 = 9223372036854775808 := by decide
  show (if (decide (-(2 ^ 63) ≤ i) && decide (i < 2 ^ 63)) = true then _ else _) = _
  rw [if_pos (by rw [Bool.and_eq_true]; exact ⟨decide_eq_true (by omega), decide_eq_true (by omega)⟩), e]
  simp only [List.getElem?_eq_getElem hi]
theorem eraseIdx_map' : ∀ (l : List Int) (i : Nat), (l.map D.int).eraseIdx i = (l.eraseIdx i).map D.int
  | [], _ => rfl
  | a :: l, 0 => rfl
  | a :: l, i + 1 => by simp only [List.map_cons, List.eraseIdx_cons_succ, eraseIdx_map' l i]
theorem append_D {l : List D} {d : D} (h : l.length < sizeLine) : methD .append (.lst l) [d] = some (.non, .lst (l ++ [d])) := by
  show (if decide (l.length < sizeLine) = true then _ else _) = _
  rw [if_pos (decide_eq_true h)]
theorem pot_imm {p : D} {n : Nat} (h : PotOk p n) : p.imm = false := by
  obtain ⟨a, b, c, rfl, _⟩ := h
  rfl
theorem perm_erase {α : Type} : ∀ (l : List α) (i : Nat) (h : i < l.length), (l[i] :: l.eraseIdx i).Perm l
  | a :: l, 0, _ => by simp
  | a :: l, i + 1, h => by
    have ih := perm_erase l i (by simpa using h)
    simp only [List.getElem_cons_succ, List.eraseIdx_cons_succ]
    exact (List.Perm.swap _ _ _).trans (ih.cons a)
structure SomB where
  p : D
  left : List Int
  found : List Int
  v5 : Option D
theorem f38 (k : Nat) {p : D} {n : Nat} (h : PotOk p n) (l : List Int) (hn : n + l.length < 1099511627776) (hz : l.length ≤ 1000) : ∃ (q : List Int) (p' : D), callF prog (k + 2) 38 [some p, some (.lst (l.map D.int)), some (.int l.length)] = some (.lst (q.map D.int), [some p', some (.lst (l.map D.int)), some (.int l.length)]) ∧ q.Perm l ∧ PotOk p' (n + l.length) := by
  have z := sizeLine_eq
  have hr : rangeD 0 (l.length : Int) = some ((List.range l.length).map fun i : Nat => D.int (i : Int)) := by
    have := rangeD_nat (a := 0) (b := l.length) (by omega) (by omega) (by omega)
    simpa using this
  obtain ⟨b', hb1, hb2⟩ := forI (ws := []) (t := .nm 5) (body := fun r => evSs (callF prog (k + 1)) [.expr (.meth .append 4 [.meth .popAt 3 [.call 35 [.var 0, .prim .len [.var 3]]]])] r)
    (fun i : Nat => D.int (i : Int)) (fun b : SomB => [some b.p, some (.lst (l.map D.int)), some (.int l.length), some (.lst (b.left.map D.int)), some (.lst (b.found.map D.int)), b.v5])
    (fun xs b => b.left.length = xs.length ∧ xs.length ≤ l.length ∧ (b.found ++ b.left).Perm l ∧ PotOk b.p (n + (l.length - xs.length)))
    (xs := List.range l.length) (b := ⟨p, l, [], none⟩) ⟨by simp, by simp, by simp, by simpa using h⟩ (fun _ _ _ => by simp) (fun x xs b hb => by
      obtain ⟨g1, g2, g3, g4⟩ := hb
      rw [List.length_cons] at g1 g2 g4
      have hl : b.left.length ≤ 1000 := by omega
      obtain ⟨i, p', c1, c2, c3, c4⟩ := f35 k (u := (b.left.length : Int)) g4 (by omega) (by omega)
      obtain ⟨v, d1, d2⟩ := pop_at (l := b.left.map D.int) (i := i) (by rw [List.length_map]; exact ⟨c2, c3⟩) (by rw [List.length_map]; omega)
      have hi : i.toNat < b.left.length := by omega
      rw [List.getElem?_map, List.getElem?_eq_getElem hi, Option.map_some] at d1
      cases d1
      have hp : (b.left[i.toNat] :: b.left.eraseIdx i.toNat).Perm b.left := perm_erase b.left i.toNat hi
      have hfl : b.found.length + b.left.length = l.length := by rw [← List.length_append]; exact g3.length_eq
      refine ⟨_, ⟨p', b.left.eraseIdx i.toNat, b.found ++ [b.left[i.toNat]], some (.int (x : Int))⟩, by simp; rfl, ?_, ?_, by omega, ?_, ?_⟩
      · have e1 : lenD (.lst (b.left.map D.int)) = some (.int b.left.length) := by simp [lenD]
        have e2 : b.found.length < sizeLine := by omega
        have e3 : (b.left.map D.int).eraseIdx i.toNat = (b.left.eraseIdx i.toNat).map D.int := eraseIdx_map' b.left i.toNat
        rw [e3] at d2
        have e4 := pot_imm g4
        have e5 := append_D (l := b.found.map D.int) (d := D.int b.left[i.toNat]) (by rw [List.length_map]; exact e2)
        simp [prim1, e1, c1, d2, e5, e4, isLst]
      · rw [List.length_eraseIdx_of_lt hi]; omega
      · rw [List.append_assoc, List.singleton_append]
        exact (List.Perm.append_left _ hp).trans g3
      · have : n + (l.length - (xs.length + 1)) + 1 = n + (l.length - xs.length) := by omega
        rw [← this]; exact c4)
  obtain ⟨g1, g2, g3, g4⟩ := hb2
  have hl0 : b'.left = [] := List.length_eq_zero_iff.mp g1
  rw [hl0, List.append_nil] at g3
  refine ⟨b'.found, b'.p, ?_, g3, by simpa using g4⟩
  have hL : listD (.lst (l.map D.int)) = some (.lst (l.map D.int)) := by
    show (if D.imms (l.map D.int) then _ else _) = _
    rw [if_pos imms_ints]
  simp only [List.map_nil] at hb1
  have hit : evIt (callF prog (k + 1)) (.rng [.var 2]) [some p, some (.lst (l.map D.int)), some (.int l.length), some (.lst (l.map D.int)), some (.lst []), none] = some (((List.range l.length).map fun i : Nat => D.int (i : Int), []), [some p, some (.lst (l.map D.int)), some (.int l.length), some (.lst (l.map D.int)), some (.lst []), none]) := by
    simp [hr]
  have hw : evS (callF prog (k + 1)) (.for (.nm 5) (.rng [.var 2]) [.expr (.meth .append 4 [.meth .popAt 3 [.call 35 [.var 0, .prim .len [.var 3]]]])]) [some p, some (.lst (l.map D.int)), some (.int l.length), some (.lst (l.map D.int)), some (.lst []), none] = some (.nx, [some b'.p, some (.lst (l.map D.int)), some (.int l.length), some (.lst (b'.left.map D.int)), some (.lst (b'.found.map D.int)), b'.v5]) := by
    rw [s_for, hit]
    exact hb1
  rw [callS (fn := ir38) rfl, callFn_eq]
  simp [ir38, prim1, hL, -s_for, hw, pot_imm h]
/-- all the places -/
def pls (m : Nat) : List Int := (List.range m).map fun i : Nat => (i : Int)
theorem rows_mem {m : Nat} : ∀ (n : Nat) (l : List Int), l.length = n + 1 → l.Nodup → (∀ x ∈ l, x ∈ pls m) → l.head? = some 0 → l ∈ rows m n
  | 0, l, h1, _, _, h4 => by
    match l, h1, h4 with
    | [a], _, h4 =>
      rw [List.head?_cons, Option.some.injEq] at h4
      subst h4
      exact List.mem_singleton.mpr rfl
  | n + 1, l, h1, h2, h3, h4 => by
    have hne : l ≠ [] := by intro h; rw [h] at h1; simp at h1
    have hd := List.dropLast_concat_getLast hne
    generalize l.dropLast = r at hd
    generalize l.getLast hne = p at hd
    subst hd
    have h1' : r.length = n + 1 := by rw [List.length_append, List.length_singleton] at h1; omega
    rw [List.nodup_append] at h2
    have ih := rows_mem (m := m) n r h1' h2.1 (fun x hx => h3 x (List.mem_append.mpr (.inl hx))) (by
      cases r with
      | nil => simp at h1'
      | cons a r => simpa using h4)
    rw [rows]
    refine List.mem_flatMap.mpr ⟨r, ih, List.mem_map.mpr ⟨p, List.mem_filter.mpr ⟨h3 p (List.mem_append.mpr (.inr (List.mem_singleton.mpr rfl))), ?_⟩, rfl⟩⟩
    have : p ∉ r := fun hp => h2.2.2 p hp p (List.mem_singleton.mpr rfl) rfl
    simpa using this
end LW
set_option maxHeartbeats 2000000
/-! W34: drawn rounds. -/
namespace LW
open PySem L2 DL
theorem pls_nodup (m : Nat) : (pls m).Nodup := by
  unfold pls
  exact List.Pairwise.map _ (fun a b h hh => h (by omega)) List.nodup_range
theorem pls_len (m : Nat) : (pls m).length = m := by simp [pls]
theorem rot_perm (q : List Int) : (rot q).Perm q := by
  unfold rot
  refine List.perm_append_comm.trans ?_
  rw [List.take_append_drop]
theorem rot_head {q : List Int} (h : (0 : Int) ∈ q) : (rot q).head? = some 0 := by
  have hi := List.idxOf_lt_length_of_mem h
  unfold rot
  rw [List.drop_eq_getElem_cons hi, List.getElem_idxOf hi]
  rfl
theorem shape {r : List Int} (h : r.head? = some 0) (hl : 3 ≤ r.length) : ∃ a mid b, r = 0 :: a :: (mid ++ [b]) := by
  match r, h, hl with
  | x :: a :: c :: t, h, _ =>
    rw [List.head?_cons, Option.some.injEq] at h
    subst h
    refine ⟨a, (c :: t).dropLast, (c :: t).getLast (by simp), ?_⟩
    rw [List.dropLast_concat_getLast]
theorem shape_at (a b : Int) (mid : List Int) : atI (0 :: a :: (mid ++ [b])) 1 = some a ∧ atI (0 :: a :: (mid ++ [b])) (-1) = some b := by
  refine ⟨?_, atI_last (xs := 0 :: a :: mid)⟩
  unfold atI ixN
  rw [if_pos (by decide), if_pos (by simp only [List.length_cons]; omega)]
  rfl
theorem rnds_of {m : Nat} {a b : Int} {mid : List Int} (hp : (0 :: a :: (mid ++ [b])).Perm (pls m)) (hab : a < b) : (0 :: a :: (mid ++ [b])) ∈ rnds m := by
  have hl := hp.length_eq
  rw [pls_len] at hl
  have hl' := hl
  simp only [List.length_cons] at hl'
  unfold rnds
  refine List.mem_filter.mpr ⟨rows_mem (m - 1) _ (by omega) (hp.nodup_iff.mpr (pls_nodup m)) (fun x hx => hp.mem_iff.mp hx) rfl, ?_⟩
  rw [(shape_at a b mid).1, (shape_at a b mid).2]
  exact decide_eq_true hab
theorem rb_mem {m : Nat} {q : List Int} (hq : q.Perm (pls m)) (hm : 3 ≤ m) : okB q = true ∧ rb q ∈ rnds m := by
  have h0 : (0 : Int) ∈ q := hq.mem_iff.mpr (List.mem_map.mpr ⟨0, List.mem_range.mpr (by omega), rfl⟩)
  have hr := (rot_perm q).trans hq
  have hl := hr.length_eq
  rw [pls_len] at hl
  obtain ⟨a, mid, b, e⟩ := shape (rot_head h0) (by omega)
  have hs := shape_at a b mid
  rw [e] at hr hl
  have hn : (0 :: a :: (mid ++ [b])).Nodup := hr.nodup_iff.mpr (pls_nodup m)
  have hab : a ≠ b := by
    intro h
    subst h
    simp at hn
  refine ⟨?_, ?_⟩
  · unfold okB
    rw [e, hs.1, hs.2]
    simp [h0]
  · unfold rb
    rw [e, hs.1, hs.2]
    simp only []
    by_cases h : a < b
    · rw [if_pos h]
      exact rnds_of hr h
    · rw [if_neg h]
      have e2 : (0 :: (0 :: a :: (mid ++ [b])).tail.reverse) = 0 :: b :: (mid.reverse ++ [a]) := by simp
      rw [e2]
      refine rnds_of (List.Perm.trans ?_ hr) (by omega)
      rw [← e2]
      exact (List.reverse_perm _).cons 0
theorem tnX_perm (l : List Int) (a b : Nat) (h : a ≤ b + 1) : (tnX l a b).Perm l := by
  unfold tnX
  have e : l = l.take a ++ ((l.drop a).take (b + 1 - a) ++ l.drop (b + 1)) := by
    have : l.drop (b + 1) = (l.drop a).drop (b + 1 - a) := by rw [List.drop_drop]; congr 1; omega
    rw [this, List.take_append_drop, List.take_append_drop]
  conv => rhs; rw [e]
  exact List.Perm.append_left _ (List.Perm.append_right _ (List.reverse_perm _))
/-- the rows are rows -/
theorem rows_of {m : Nat} : ∀ (n : Nat) (l : List Int), n + 1 ≤ m → l ∈ rows m n → l.length = n + 1 ∧ l.Nodup ∧ (∀ x ∈ l, x ∈ pls m) ∧ l.head? = some 0
  | 0, l, hm, h => by
    cases List.mem_singleton.mp h
    refine ⟨rfl, by simp, ?_, rfl⟩
    intro x hx
    cases List.mem_singleton.mp hx
    exact List.mem_map.mpr ⟨0, List.mem_range.mpr (by omega), rfl⟩
  | n + 1, l, hm, h => by
    rw [rows] at h
    obtain ⟨r, hr, h⟩ := List.mem_flatMap.mp h
    obtain ⟨p, hp, rfl⟩ := List.mem_map.mp h
    obtain ⟨hp1, hp2⟩ := List.mem_filter.mp hp
    obtain ⟨g1, g2, g3, g4⟩ := rows_of n r (by omega) hr
    have hpr : p ∉ r := by simpa using hp2
    refine ⟨by rw [List.length_append, List.length_singleton, g1], ?_, ?_, ?_⟩
    · rw [List.nodup_append]
      refine ⟨g2, by simp, fun a ha b hb => ?_⟩
      cases List.mem_singleton.mp hb
      intro h; subst h; exact hpr ha
    · intro x hx
      rcases List.mem_append.mp hx with hx | hx
      · exact g3 x hx
      · cases List.mem_singleton.mp hx
        exact hp1
    · cases r with
      | nil => simp at g1
      | cons a r => simpa using g4
theorem perm_of_nodup {α : Type} [DecidableEq α] : ∀ {l k : List α}, l.Nodup → l.length = k.length → (∀ x ∈ l, x ∈ k) → l.Perm k
  | [], k, _, h2, _ => by
    have : k = [] := List.length_eq_zero_iff.mp (by simpa using h2.symm)
    subst this
    exact .refl _
  | a :: l, k, h1, h2, h3 => by
    have ha := h3 a List.mem_cons_self
    rw [List.nodup_cons] at h1
    have hk := List.perm_cons_erase ha
    have hle : l.length = (k.erase a).length := by rw [List.length_erase_of_mem ha, ← h2]; simp
    refine ((perm_of_nodup (k := k.erase a) h1.2 hle fun x hx => ?_).cons a).trans hk.symm
    have hne : x ≠ a := by intro h; subst h; exact h1.1 hx
    exact (List.mem_erase_of_ne hne).mpr (h3 x (List.mem_cons_of_mem _ hx))
theorem rnds_perm {m : Nat} {l : List Int} (hm : 3 ≤ m) (h : l ∈ rnds m) : l.Perm (pls m) ∧ l.head? = some 0 := by
  obtain ⟨h1, h2⟩ := List.mem_filter.mp h
  obtain ⟨g1, g2, g3, g4⟩ := rows_of (m - 1) l (by omega) h1
  exact ⟨perm_of_nodup g2 (by rw [pls_len]; omega) g3, g4⟩
theorem tn_rnds {m : Nat} {l : List Int} (hm : 3 ≤ m) (h : l ∈ rnds m) (a b : Nat) (hab : a ≤ b + 1) : okB (tnX l a b) = true ∧ tn l a b ∈ rnds m :=
  rb_mem ((tnX_perm l a b hab).trans (rnds_perm hm h).1) hm
end LW
set_option maxHeartbeats 8000000
/-! K34: all rounds are rounds. -/
namespace LW
open PySem L2 DL
theorem t3 : ((rnds 3).all fun l => okR (3 : Nat) l && okK 3 l) = true := by decide +kernel
theorem t4 : ((rnds 4).all fun l => okR (4 : Nat) l && okK 4 l) = true := by decide +kernel
theorem t5 : ((rnds 5).all fun l => okR (5 : Nat) l && okK 5 l) = true := by decide +kernel
theorem t6' : ((rnds 6).all fun l => okR (6 : Nat) l && okK 6 l) = true := by decide +kernel
theorem t7 : ((rnds 7).all fun l => okR (7 : Nat) l && okK 7 l) = true := by decide +kernel
theorem tm : ∀ m : Nat, m ∈ [3, 4, 5, 6, 7] → ((rnds m).all fun l => okR m l && okK m l) = true
  | 3, _ => t3
  | 4, _ => t4
  | 5, _ => t5
  | 6, _ => t6'
  | 7, _ => t7
  | 0, h | 1, h | 2, h | _ + 8, h => by simp at h
theorem rnd_ok (m : Nat) (hm : m ∈ [3, 4, 5, 6, 7]) : RndOk m (rnds m) := by
  have h := fun l hl => List.all_eq_true.mp (tm m hm) l hl
  have h3 := m_le hm
  refine ⟨fun l hl => ?_, fun l hl => ?_, fun l hl => ?_, fun l hl e he => ?_, fun l hl e he => ?_⟩
  · have := h l hl
    rw [Bool.and_eq_true] at this
    exact this.1
  · have := h l hl
    rw [Bool.and_eq_true] at this
    exact this.2
  · have := (rnds_perm (by omega) hl).1.length_eq
    rw [this, pls_len]
  · have := (exs_ok m hm).1 e he
    exact (tn_rnds (by omega) hl e.1 e.2 (by omega)).1
  · have := (exs_ok m hm).1 e he
    exact (tn_rnds (by omega) hl e.1 e.2 (by omega)).2
end LW
set_option maxHeartbeats 2000000
/-! X34: draws of rounds, tables, pots. -/
namespace LW
open PySem L2 DL
section
variable {m : Nat} {vs : List Int} {l : List Int} {p : D} {n : Nat}
theorem val_le (h : TabV m vs) (r : D) : 0 ≤ val m vs r ∧ val m vs r ≤ 99 := by
  unfold val
  split
  · rename_i k _
    rw [List.getD_eq_getElem?_getD]
    cases e : vs[kix (pks m) k]? with
    | none => simp
    | some v => exact h.val v (List.mem_of_getElem? e)
  · omega
theorem sum_le : ∀ {l : List Int}, (∀ x ∈ l, 0 ≤ x ∧ x ≤ 99) → 0 ≤ l.sum ∧ l.sum ≤ 99 * l.length
  | [], _ => by simp
  | a :: l, h => by
    have h1 := h a List.mem_cons_self
    have h2 := sum_le fun x hx => h x (List.mem_cons_of_mem a hx)
    rw [List.sum_cons, List.length_cons]
    omega
theorem len_le (h : TabV m vs) (hl : l ∈ rnds m) : 0 ≤ len m vs l ∧ len m vs l ≤ 5000 := by
  have hm := m_le h.mm
  have h1 := (rnd_ok m h.mm).len l hl
  have := sum_le (l := (ral l).map (val m vs)) fun x hx => by
    obtain ⟨r, _, rfl⟩ := List.mem_map.mp hx
    exact val_le h r
  rw [List.length_map, ral_len (by omega), h1] at this
  unfold len
  omega
theorem rangeL_pls (hm : m ≤ 100) : rangeD 0 (m : Int) = some ((pls m).map D.int) := by
  have := rangeD_nat (a := 0) (b := m) (by omega) (by omega) (by omega)
  unfold pls
  rw [List.map_map]
  simp at this
  rw [this]
  rfl
theorem f50 (k : Nat) (h : PotOk p n) (hm : m ∈ [3, 4, 5, 6, 7]) (hn : n < 1099511000000) : ∃ q p', callF prog (k + 3) 50 [some p, some (.int m)] = some (T q, [some p', some (.int m)]) ∧ q ∈ rnds m ∧ PotOk p' (n + m) := by
  have h3 := m_le hm
  obtain ⟨q, p', e, hq, hp⟩ := f38 k h (pls m) (by rw [pls_len]; omega) (by rw [pls_len]; omega)
  rw [pls_len] at e hp
  obtain ⟨r1, r2⟩ := rb_mem hq (by omega)
  have hql := hq.length_eq
  rw [pls_len] at hql
  refine ⟨rb q, p', ?_, r2, hp⟩
  have e45 := f45L (k + 1) q r1 (by omega)
  have er := rangeL_pls (m := m) (by omega)
  have er1 : rangeL1 (D.int m) = some (.lst ((pls m).map D.int)) := by
    show (rangeD 0 (m : Int)).map D.lst = _
    rw [er]; rfl
  have i1 := pot_imm h
  have i2 := pot_imm hp
  rw [callS (fn := ir50) rfl, callFn_eq]
  simp [ir50, prim1, er1, e, e45, i1, i2]
theorem ix_at {xs : List D} {i : Int} (h : 0 ≤ i ∧ i < (xs.length : Int)) (hi : D.imms xs = true) : ∃ x ∈ xs, x.imm = true ∧ ixD (.lst xs) (.int i) = some x ∧ ixD (.tup xs) (.int i) = some x := by
  have hl : i.toNat < xs.length := by omega
  have hx : xs[i.toNat] ∈ xs := List.getElem_mem hl
  have hm : (xs[i.toNat]).imm = true := by
    have : ∀ (ys : List D), D.imms ys = true → ∀ y ∈ ys, y.imm = true := fun ys => by
      induction ys with
      | nil => intro _ _ h; cases h
      | cons a ys ih =>
        intro h y hy
        rw [imms_cons, Bool.and_eq_true] at h
        rcases List.mem_cons.mp hy with rfl | hy
        · exact h.1
        · exact ih h.2 y hy
    exact this xs hi _ hx
  have ha : atI xs i = some xs[i.toNat] := by
    unfold atI ixN
    rw [if_pos h.1, if_pos (by omega)]
    simp [hl]
  refine ⟨xs[i.toNat], hx, hm, ?_, ?_⟩
  · show immO (atI xs i) = _
    rw [ha]; simp [immO, hm]
  · show immO (atI xs i) = _
    rw [ha]; simp [immO, hm]
theorem f36T (k : Nat) (h : PotOk p n) {xs : List D} (hi : D.imms xs = true) (h1 : 1 ≤ xs.length) (h2 : xs.length ≤ 1000) (hn : n < 1099511000000) : ∃ x p', callF prog (k + 2) 36 [some p, some (.tup xs)] = some (x, [some p', some (.tup xs)]) ∧ x ∈ xs ∧ x.imm = true ∧ PotOk p' (n + 1) := by
  obtain ⟨i, p', c1, c2, c3, c4⟩ := f35 k (u := (xs.length : Int)) h (by omega) (by omega)
  obtain ⟨x, d1, d2, d3, d4⟩ := ix_at ⟨c2, c3⟩ hi
  refine ⟨x, p', ?_, d1, d2, c4⟩
  have i1 := pot_imm h
  have i2 := pot_imm c4
  have e1 : lenD (.tup xs) = some (.int xs.length) := by simp [lenD]
  rw [callS (fn := ir36) rfl, callFn_eq]
  simp [ir36, prim1, prim2, e1, c1, d2, d3, d4, i1, i2, hi]
theorem f36L (k : Nat) (h : PotOk p n) {xs : List D} (hi : D.imms xs = true) (h1 : 1 ≤ xs.length) (h2 : xs.length ≤ 1000) (hn : n < 1099511000000) : ∃ x p', callF prog (k + 2) 36 [some p, some (.lst xs)] = some (x, [some p', some (.lst xs)]) ∧ x ∈ xs ∧ x.imm = true ∧ PotOk p' (n + 1) := by
  obtain ⟨i, p', c1, c2, c3, c4⟩ := f35 k (u := (xs.length : Int)) h (by omega) (by omega)
  obtain ⟨x, d1, d2, d3, d4⟩ := ix_at ⟨c2, c3⟩ hi
  refine ⟨x, p', ?_, d1, d2, c4⟩
  have i1 := pot_imm h
  have i2 := pot_imm c4
  have e1 : lenD (.lst xs) = some (.int xs.length) := by simp [lenD]
  rw [callS (fn := ir36) rfl, callFn_eq]
  simp [ir36, prim1, prim2, e1, c1, d2, d3, d4, i1, i2, hi]
end
end LW
set_option maxHeartbeats 2000000
/-! Y34: pots. -/
namespace LW
open PySem L2 DL
section
variable {m : Nat} {vs : List Int} {l : List Int} {p : D} {n : Nat}
theorem sum_frz (q : List Int) : sumD (.lst (q.map D.int)) = some (.int q.sum) := by
  have := allInt_T q
  simp [sumD, this]
theorem cell_at (k : Nat) (ns : List Int) (pl : Nat) (hz : ns.length ≤ 1000) (hp : pl ≤ 10) : ∃ c : Int, evE (callF prog k) (.ife (.prim (.cmp .lt) [.var 1, .prim .len [.var 0]]) (.prim .ix [.var 0, .var 1]) (.prim (.bin .add) [.prim (.bin .add) [.prim (.bin .mod) [.prim .int [.prim .sum [.prim (.slice false true) [.var 0, .int 1]]], .int 1000231], .prim (.bin .mul) [.int 4721, .var 1]], .int 3347])) [some (.frz (ns.map D.int)), some (.int pl), none, none, none] = some (.int c, [some (.frz (ns.map D.int)), some (.int pl), none, none, none]) := by
  have e1 : lenD (.frz (ns.map D.int)) = some (.int ns.length) := by simp [lenD]
  by_cases h : pl < ns.length
  · have e2 : ixD (.frz (ns.map D.int)) (.int (pl : Int)) = some (.int ns[pl]) := by
      have ha : atI (ns.map D.int) (pl : Int) = some (D.int ns[pl]) := by
        unfold atI ixN
        rw [if_pos (by omega), if_pos (by rw [List.length_map]; omega)]
        simp [h]
      show immO (atI _ _) = _
      rw [ha]; simp [immO]
    refine ⟨ns[pl], ?_⟩
    have h' : (pl : Int) < (ns.length : Int) := by omega
    simp [prim1, prim2, e1, e2, h]
  · have e2 : sliceD (.frz (ns.map D.int)) none (some 1) = some (.lst ((ns.take 1).map D.int)) := by
      have := cut_to ns 1
      have this : cutI ns none (some 1) = ns.take 1 := this
      rw [← this]
      simp [sliceD, cutD_T, reseq, imms_ints]
    have e3 := sum_frz (ns.take 1)
    refine ⟨(ns.take 1).sum % 1000231 + 4721 * pl + 3347, ?_⟩
    have b1 := bin_modI (i := (ns.take 1).sum) (j := 1000231) (by decide)
    have b2 : binD .mul (.int 4721) (.int (pl : Int)) = some (.int (4721 * pl)) := bin_mulI (.inr (intB_of (by omega)))
    generalize ns.take 1 = q at *
    simp [prim1, prim2, e1, h, e2, e3, intD, b1, b2]
theorem s4g {cf : Cf} {a0 a2 : Option D} {PL q S X X2 S2 M K1 K2 K3 K4 : Int} (b6 : binD .mul (.int S) (.int K1) = some (.int S2)) (b7 : binD .mul (.int K2) (.int PL) = some (.int X)) (b8 : binD .mul (.int X) (.int PL) = some (.int X2)) (b9 : binD .mod (.int (S2 + X2 + K3)) (.int K4) = some (.int M)) :
    evS cf (.ret (.disp false [false, false, false] [.var 3, .prim (.bin .mod) [.prim .int [.prim (.bin .add) [.prim (.bin .add) [.prim (.bin .mul) [.var 4, .int K1], .prim (.bin .mul) [.prim (.bin .mul) [.int K2, .var 1], .var 1]], .int K3]], .int K4], .int 0])) [a0, some (.int PL), a2, some (.int q), some (.int S)] = some (.rt (pot q M 0), [a0, some (.int PL), a2, some (.int q), some (.int S)]) := by
  have z := sizeLine_eq
  have i1 : ∀ x : Int, intD (.int x) = some (.int x) := fun _ => rfl
  simp [prim1, prim2, i1, b6, b7, b8, b9, z]
theorem s3g {cf : Cf} {a0 a1 a3 a4 : Option D} {c S K : Int} (b5 : binD .mod (.int c) (.int K) = some (.int S)) : evS cf (.asg (.nm 4) (.prim (.bin .mod) [.prim .int [.var 2], .int K])) [a0, a1, some (.int c), a3, a4] = some (.nx, [a0, a1, some (.int c), a3, some (.int S)]) := by
  have i1 : intD (.int c) = some (.int c) := rfl
  simp [prim1, prim2, i1, b5]
theorem f34a (k : Nat) (ns : List Int) (pl : Nat) (hz : ns.length ≤ 1000) (hp : pl ≤ 10) (TT P EE : Int) (b1 : binD .pow (.int 10) (.int 60) = some (.int TT)) (b2 : binD .pow (.int TT) (.int 5) = some (.int P)) (b3 : binD .pow (.int 10) (.int 18) = some (.int EE)) (hP : 0 < P) : ∃ p', callF prog (k + 1) 34 [some (.frz (ns.map D.int)), some (.int pl)] = some (p', [some (.frz (ns.map D.int)), some (.int pl)]) ∧ PotOk p' 0 := by
  have z := sizeLine_eq
  obtain ⟨c, hc⟩ := cell_at k ns pl hz hp
  have ha : absD (.int c) = some (.int (if c < 0 then -c else c)) := rfl
  generalize (if c < 0 then -c else c) = A at *
  have hPL : 0 ≤ (pl : Int) ∧ (pl : Int) ≤ 10 := by omega
  generalize (pl : Int) = PL at *
  have b4 := bin_modI (i := A) hP
  have y1 := Int.emod_nonneg A (b := P) (by omega)
  generalize A % P = Q at *
  have b5 := bin_modI (i := c) (j := 2305843009213693951) (by decide)
  generalize c % 2305843009213693951 = S at *
  have b6 : binD .mul (.int S) (.int 73483) = some (.int (S * 73483)) := bin_mulI (.inr (intB_of (by omega)))
  have b7 : binD .mul (.int 11027) (.int PL) = some (.int (11027 * PL)) := bin_mulI (.inr (intB_of (by omega)))
  generalize 11027 * PL = X at *
  have b8 : binD .mul (.int X) (.int PL) = some (.int (X * PL)) := bin_mulI (.inr (intB_of (by omega)))
  generalize X * PL = X2 at *
  generalize S * 73483 = S2 at *
  have b9 := bin_modI (i := S2 + X2 + 2963) (j := 2305843009213693921) (by decide)
  have y3 := Int.emod_nonneg (S2 + X2 + 2963) (b := 2305843009213693921) (by decide)
  have y4 := Int.emod_lt_of_pos (S2 + X2 + 2963) (b := 2305843009213693921) (by decide)
  generalize hM : (S2 + X2 + 2963) % 2305843009213693921 = M at *
  have b10 : binD .mul (.int Q) (.int 1) = some (.int (Q * 1)) := bin_mulI (.inr (intB_of (by omega)))
  have b11 : binD .mul (.int Q) (.int 0) = some (.int (Q * 0)) := bin_mulI (.inr (intB_of (by omega)))
  have p1 : PotOk (pot (Q * 1) M 0) 0 := ⟨Q * 1, M, 0, rfl, by omega, by omega, by omega, by omega, by omega⟩
  have p0 : PotOk (pot (Q * 0) M 0) 0 := ⟨Q * 0, M, 0, rfl, by omega, by omega, by omega, by omega, by omega⟩
  generalize Q * 1 = Q1 at *
  generalize Q * 0 = Q0 at *
  have hsm : ∃ g q, intD (.bl (decide (EE ≤ A))) = some (.int g) ∧ binD .mul (.int Q) (.int g) = some (.int q) ∧ PotOk (pot q M 0) 0 := by
    by_cases hg : EE ≤ A
    · exact ⟨1, Q1, by rw [decide_eq_true hg]; rfl, b10, p1⟩
    · exact ⟨0, Q0, by rw [decide_eq_false hg]; rfl, b11, p0⟩
  obtain ⟨g, q, g1, g2, g3⟩ := hsm
  have s2 : evS (callF prog k) (.asg (.nm 3) (.prim (.bin .mul) [.prim (.bin .mod) [.prim .int [.prim .abs [.var 2]], .prim (.bin .pow) [.prim (.bin .pow) [.int 10, .int 60], .int 5]], .prim .int [.prim (.cmp .ge) [.prim .abs [.var 2], .prim (.bin .pow) [.int 10, .int 18]]]])) [some (.frz (ns.map D.int)), some (.int PL), some (.int c), none, none] = some (.nx, [some (.frz (ns.map D.int)), some (.int PL), some (.int c), some (.int q), none]) := by
    have i1 : intD (.int A) = some (.int A) := rfl
    simp [prim1, prim2, ha, i1, b1, b2, b3, b4, g1, g2]
  have s1 : evS (callF prog k) (.asg (.nm 2) (.ife (.prim (.cmp .lt) [.var 1, .prim .len [.var 0]]) (.prim .ix [.var 0, .var 1]) (.prim (.bin .add) [.prim (.bin .add) [.prim (.bin .mod) [.prim .int [.prim .sum [.prim (.slice false true) [.var 0, .int 1]]], .int 1000231], .prim (.bin .mul) [.int 4721, .var 1]], .int 3347]))) [some (.frz (ns.map D.int)), some (.int PL), none, none, none] = some (.nx, [some (.frz (ns.map D.int)), some (.int PL), some (.int c), none, none]) := by
    simp only [s_asg, hc]
    rfl
  have hb : evSs (callF prog k) ir34.body [some (.frz (ns.map D.int)), some (.int PL), none, none, none] = some (.rt (pot q M 0), [some (.frz (ns.map D.int)), some (.int PL), some (.int c), some (.int q), some (.int S)]) := by
    unfold ir34
    rw [ss_cons', s1, Option.bind_some, seqK_nx, ss_cons', s2, Option.bind_some, seqK_nx, ss_cons', s3g b5, Option.bind_some, seqK_nx, ss_cons', s4g b6 b7 b8 b9, Option.bind_some, seqK_rt]
  refine ⟨pot q M 0, ?_, g3⟩
  rw [callS (fn := ir34) rfl, callFn_eq]
  have e0 : [some (D.frz (ns.map D.int)), some (.int PL)] ++ List.replicate (ir34.slots - ir34.par) none = [some (D.frz (ns.map D.int)), some (.int PL), none, none, none] := rfl
  rw [e0, hb]
  have hp : pinned ir34.pins 0 [some (D.frz (ns.map D.int)), some (.int PL)] = true := by simp
  rw [hp]
  simp [ir34]
end
end LW
set_option maxHeartbeats 1000000
/-! GA34: places called otherwise. -/
namespace LW
open PySem L2 DL
theorem rot_at {p s : List Int} (h : (0 : Int) ∉ p) : rot (p ++ 0 :: s) = 0 :: (s ++ p) := by
  have hi : (p ++ 0 :: s).idxOf 0 = p.length := by
    induction p with
    | nil => simp
    | cons a p ih =>
      rw [List.mem_cons, not_or] at h
      rw [List.cons_append, List.idxOf_cons, ih h.2]
      have : (a == (0 : Int)) = false := by simpa using fun e => h.1 e.symm
      rw [this]
      simp
  unfold rot
  rw [hi, List.drop_left, List.take_left]
  rfl
theorem split0 {q : List Int} (h : (0 : Int) ∈ q) (hn : q.Nodup) : ∃ p s, q = p ++ 0 :: s ∧ (0 : Int) ∉ p ∧ (0 : Int) ∉ s := by
  obtain ⟨p, s, rfl⟩ := List.append_of_mem h
  refine ⟨p, s, rfl, fun hp => ?_, fun hs => ?_⟩
  · exact (List.nodup_append.mp hn).2.2 0 hp 0 List.mem_cons_self rfl
  · exact (List.nodup_cons.mp (List.nodup_append.mp hn).2.1).1 hs
theorem rot_app1 {p s b : List Int} (h : (0 : Int) ∉ p) (hb : (0 : Int) ∉ b) : rot ((p ++ 0 :: s) ++ b) = rot (b ++ (p ++ 0 :: s)) := by
  have h2 : (0 : Int) ∉ b ++ p := by rw [List.mem_append]; exact fun q => q.elim hb h
  rw [List.append_assoc, List.cons_append, rot_at h, ← List.append_assoc, rot_at h2, List.append_assoc]
theorem rot_app {a b : List Int} (hn : (a ++ b).Nodup) (h0 : (0 : Int) ∈ a ++ b) : rot (a ++ b) = rot (b ++ a) := by
  have hn' := List.nodup_append.mp hn
  rcases List.mem_append.mp h0 with h | h
  · have hb : (0 : Int) ∉ b := fun q => hn'.2.2 0 h 0 q rfl
    obtain ⟨p, s, rfl, h1, _⟩ := split0 h hn'.1
    exact rot_app1 h1 hb
  · have ha : (0 : Int) ∉ a := fun q => hn'.2.2 0 q 0 h rfl
    obtain ⟨p, s, rfl, h1, _⟩ := split0 h hn'.2.1
    exact (rot_app1 h1 ha).symm
theorem rb_rot {q q' : List Int} (h : rot q = rot q') : rb q = rb q' := by
  unfold rb
  rw [h]
theorem pls0 {m : Nat} {q : List Int} (hq : q.Perm (pls m)) (hm : 3 ≤ m) : (0 : Int) ∈ q ∧ q.Nodup ∧ q.length = m := by
  have := hq.length_eq
  rw [pls_len] at this
  exact ⟨hq.mem_iff.mpr (List.mem_map.mpr ⟨0, List.mem_range.mpr (by omega), rfl⟩), hq.nodup_iff.mpr (pls_nodup m), this⟩
theorem rb_rev {m : Nat} {q : List Int} (hq : q.Perm (pls m)) (hm : 3 ≤ m) : rb q.reverse = rb q := by
  obtain ⟨h0, hn, hl⟩ := pls0 hq hm
  obtain ⟨p, s, rfl, h1, h2⟩ := split0 h0 hn
  have e1 := rot_at (s := s) h1
  have e2 := rot_at (p := s.reverse) (s := p.reverse) (by simpa using h2)
  have e3 : (p ++ 0 :: s).reverse = s.reverse ++ 0 :: p.reverse := by simp
  have hr : (0 :: (s ++ p)).Perm (pls m) := by rw [← e1]; exact (rot_perm _).trans hq
  obtain ⟨_, hn', hl'⟩ := pls0 hr hm
  obtain ⟨a, mid, b, e⟩ := shape (r := 0 :: (s ++ p)) rfl (by omega)
  rw [e] at e1
  have e4 : p.reverse ++ s.reverse = b :: (mid.reverse ++ [a]) := by
    have e := (List.cons.inj e).2
    rw [← List.reverse_append, e]
    simp
  rw [e4] at e2
  have q1 := shape_at a b mid
  have q2 := shape_at b a mid.reverse
  have hab : a ≠ b := by
    intro h
    subst h
    rw [e] at hn'
    simp at hn'
  unfold rb
  rw [e3, e2, e1, q1.1, q1.2, q2.1, q2.2]
  simp only
  by_cases h : a < b
  · rw [if_pos h, if_neg (by omega)]
    simp
  · rw [if_neg h, if_pos (by omega)]
    simp
theorem rb_map {m : Nat} {q : List Int} {f : Int → Int} (hq : q.Perm (pls m)) (hf : (q.map f).Perm (pls m)) (hm : 3 ≤ m) : rb ((rb q).map f) = rb (q.map f) := by
  obtain ⟨h0, hn, hl⟩ := pls0 hq hm
  obtain ⟨g0, gn, gl⟩ := pls0 hf hm
  obtain ⟨p, s, rfl, h1, h2⟩ := split0 h0 hn
  have e1 := rot_at (s := s) h1
  have hr : (0 :: (s ++ p)).Perm (pls m) := by rw [← e1]; exact (rot_perm _).trans hq
  obtain ⟨_, hn', hl'⟩ := pls0 hr hm
  have k1 : rb ((0 :: (s ++ p)).map f) = rb ((p ++ 0 :: s).map f) := by
    refine rb_rot ?_
    have : (0 :: (s ++ p)).map f = (f 0 :: s.map f) ++ p.map f := by simp
    rw [this, List.map_append, List.map_cons]
    rw [List.map_append, List.map_cons] at gn g0
    exact (rot_app gn g0).symm
  have k2 : rb ((0 :: (s ++ p).reverse).map f) = rb ((0 :: (s ++ p)).map f) := by
    have hp : ((0 :: (s ++ p)).map f).Perm (pls m) := by
      refine List.Perm.trans (List.Perm.map f ?_) hf
      rw [← e1]; exact rot_perm _
    rw [← rb_rev hp hm]
    refine rb_rot ?_
    have : (0 :: (s ++ p).reverse).map f = [f 0] ++ ((s ++ p).map f).reverse := by simp
    rw [this]
    have : ((0 :: (s ++ p)).map f).reverse = ((s ++ p).map f).reverse ++ [f 0] := by simp
    rw [this]
    obtain ⟨i0, i1, i2⟩ := pls0 hp hm
    refine rot_app ?_ ?_
    · have : (f 0 :: (s ++ p).map f).Nodup := by simpa using i1
      rw [List.singleton_append, List.nodup_cons]
      rw [List.nodup_cons] at this
      exact ⟨by rw [List.mem_reverse]; exact this.1, (List.reverse_perm _).nodup_iff.mpr this.2⟩
    · have : (0 : Int) ∈ f 0 :: (s ++ p).map f := by simpa using i0
      rw [List.singleton_append]
      rw [List.mem_cons] at this ⊢
      rw [List.mem_reverse]
      exact this
  obtain ⟨a, mid, b, e⟩ := shape (r := 0 :: (s ++ p)) rfl (by omega)
  have q1 := shape_at a b mid
  have hb : rb (p ++ 0 :: s) = if a < b then 0 :: (s ++ p) else 0 :: (s ++ p).reverse := by
    unfold rb
    rw [e1]
    rw [← e] at q1
    rw [q1.1, q1.2]
    rfl
  rw [hb]
  split
  · exact k1
  · exact k2.trans k1
theorem rb_self {m : Nat} {l : List Int} (hm : 3 ≤ m) (h : l ∈ rnds m) : rb l = l := by
  obtain ⟨h1, h2⟩ := rnds_perm hm h
  obtain ⟨h3, h4⟩ := List.mem_filter.mp h
  have hl := (pls0 h1 hm).2.2
  have hr : rot l = l := by
    cases l with
    | nil => simp at h2
    | cons a t =>
      rw [List.head?_cons, Option.some.injEq] at h2
      subst h2
      have := rot_at (p := []) (s := t) (by simp)
      simpa using this
  have h5 : ∃ a b, atI l 1 = some a ∧ atI l (-1) = some b ∧ a < b := by
    clear hr
    split at h4
    · rename_i a b e1 e2
      exact ⟨a, b, e1, e2, of_decide_eq_true h4⟩
    · cases h4
  obtain ⟨a, b, e1, e2, h⟩ := h5
  unfold rb
  rw [hr, e1, e2]
  exact if_pos h
/-- places called otherwise -/
def act (o : List Int) (l : List Int) : List Int := rb (l.map fun x => o.getD x.toNat 0)
theorem pls_get {m : Nat} {o : List Int} (h : o.length = m) : (pls m).map (fun x => o.getD x.toNat 0) = o := by
  subst h
  unfold pls
  rw [List.map_map]
  apply List.ext_getElem
  · simp
  · intro i h1 h2
    simp at h1 h2 ⊢
    simp [h2]
theorem act_perm {m : Nat} {o l : List Int} (ho : o.Perm (pls m)) (hl : l.Perm (pls m)) : (l.map fun x => o.getD x.toNat 0).Perm (pls m) := by
  have h := ho.length_eq
  rw [pls_len] at h
  have := hl.map fun x => o.getD x.toNat 0
  rw [pls_get h] at this
  exact this.trans ho
theorem act_mem {m : Nat} {o l : List Int} (hm : 3 ≤ m) (ho : o.Perm (pls m)) (hl : l ∈ rnds m) : act o l ∈ rnds m := (rb_mem (act_perm ho (rnds_perm hm hl).1) hm).2
theorem get_sw {pre l : List Int} {x y : Int} (n : Nat) : (pre ++ y :: x :: l).getD n 0 = (pre ++ x :: y :: l).getD (if n = pre.length then pre.length + 1 else if n = pre.length + 1 then pre.length else n) 0 := by
  simp only [List.getD_eq_getElem?_getD]
  by_cases h1 : n = pre.length
  · subst h1
    rw [if_pos rfl]
    simp
  · rw [if_neg h1]
    by_cases h2 : n = pre.length + 1
    · subst h2
      rw [if_pos rfl]
      simp
    · rw [if_neg h2]
      by_cases h3 : n < pre.length
      · rw [List.getElem?_append_left h3, List.getElem?_append_left h3]
      · rw [List.getElem?_append_right (by omega), List.getElem?_append_right (by omega)]
        obtain ⟨j, hj⟩ : ∃ j, n - pre.length = j + 2 := ⟨n - pre.length - 2, by omega⟩
        rw [hj]
        simp
end LW
set_option maxHeartbeats 8000000
/-! GT34: tables of rounds: neighbours, how far. -/
namespace LW
open PySem L2 DL
def RN : Nat → List (List Int)
  | 3 => [[0, 1, 2]]
  | 4 => [[0, 1, 2, 3], [0, 1, 3, 2], [0, 2, 1, 3]]
  | 5 => [[0, 1, 2, 3, 4], [0, 1, 2, 4, 3], [0, 1, 3, 2, 4], [0, 1, 3, 4, 2], [0, 1, 4, 2, 3], [0, 1, 4, 3, 2], [0, 2, 1, 3, 4], [0, 2, 1, 4, 3], [0, 2, 3, 1, 4], [0, 2, 4, 1, 3], [0, 3, 1, 2, 4], [0, 3, 2, 1, 4]]
  | 6 => [[0, 1, 2, 3, 4, 5], [0, 1, 2, 3, 5, 4], [0, 1, 2, 4, 3, 5], [0, 1, 2, 4, 5, 3], [0, 1, 2, 5, 3, 4], [0, 1, 2, 5, 4, 3], [0, 1, 3, 2, 4, 5], [0, 1, 3, 2, 5, 4], [0, 1, 3, 4, 2, 5], [0, 1, 3, 4, 5, 2], [0, 1, 3, 5, 2, 4], [0, 1, 3, 5, 4, 2], [0, 1, 4, 2, 3, 5], [0, 1, 4, 2, 5, 3], [0, 1, 4, 3, 2, 5], [0, 1, 4, 3, 5, 2], [0, 1, 4, 5, 2, 3], [0, 1, 4, 5, 3, 2], [0, 1, 5, 2, 3, 4], [0, 1, 5, 2, 4, 3], [0, 1, 5, 3, 2, 4], [0, 1, 5, 3, 4, 2], [0, 1, 5, 4, 2, 3], [0, 1, 5, 4, 3, 2], [0, 2, 1, 3, 4, 5], [0, 2, 1, 3, 5, 4], [0, 2, 1, 4, 3, 5], [0, 2, 1, 4, 5, 3], [0, 2, 1, 5, 3, 4], [0, 2, 1, 5, 4, 3], [0, 2, 3, 1, 4, 5], [0, 2, 3, 1, 5, 4], [0, 2, 3, 4, 1, 5], [0, 2, 3, 5, 1, 4], [0, 2, 4, 1, 3, 5], [0, 2, 4, 1, 5, 3], [0, 2, 4, 3, 1, 5], [0, 2, 4, 5, 1, 3], [0, 2, 5, 1, 3, 4], [0, 2, 5, 1, 4, 3], [0, 2, 5, 3, 1, 4], [0, 2, 5, 4, 1, 3], [0, 3, 1, 2, 4, 5], [0, 3, 1, 2, 5, 4], [0, 3, 1, 4, 2, 5], [0, 3, 1, 5, 2, 4], [0, 3, 2, 1, 4, 5], [0, 3, 2, 1, 5, 4], [0, 3, 2, 4, 1, 5], [0, 3, 2, 5, 1, 4], [0, 3, 4, 1, 2, 5], [0, 3, 4, 2, 1, 5], [0, 3, 5, 1, 2, 4], [0, 3, 5, 2, 1, 4], [0, 4, 1, 2, 3, 5], [0, 4, 1, 3, 2, 5], [0, 4, 2, 1, 3, 5], [0, 4, 2, 3, 1, 5], [0, 4, 3, 1, 2, 5], [0, 4, 3, 2, 1, 5]]
  | _ => []
def NB : Nat → List (List Nat)
  | 3 => [[0]]
  | 4 => [[2, 0, 1], [2, 1, 0], [0, 2, 1]]
  | 5 => [[6, 11, 0, 2, 5, 1], [7, 10, 1, 4, 3, 0], [10, 8, 2, 0, 4, 3], [9, 6, 3, 5, 1, 2], [11, 9, 4, 1, 2, 5], [8, 7, 5, 3, 0, 4], [0, 10, 6, 8, 3, 7], [1, 11, 7, 9, 5, 6], [11, 2, 8, 6, 9, 5], [10, 4, 9, 7, 8, 3], [2, 6, 10, 11, 1, 9], [8, 0, 11, 10, 7, 4]]
  | 6 => [[24, 46, 59, 0, 6, 14, 23, 2, 5, 1], [25, 47, 54, 1, 7, 20, 17, 4, 3, 0], [26, 56, 51, 2, 12, 8, 21, 0, 4, 3], [27, 52, 42, 3, 13, 22, 11, 5, 1, 2], [28, 58, 53, 4, 18, 10, 15, 1, 2, 5], [29, 50, 43, 5, 19, 16, 9, 3, 0, 4], [42, 30, 57, 6, 0, 12, 22, 8, 11, 7], [43, 31, 55, 7, 1, 18, 16, 10, 9, 6], [44, 58, 36, 8, 14, 2, 19, 6, 10, 9], [41, 38, 24, 9, 15, 23, 5, 11, 7, 8], [45, 56, 40, 10, 20, 4, 13, 7, 8, 11], [37, 34, 25, 11, 21, 17, 3, 9, 6, 10], [54, 34, 48, 12, 2, 6, 20, 14, 17, 13], [53, 35, 44, 13, 3, 19, 10, 16, 15, 12], [55, 50, 32, 14, 8, 0, 18, 12, 16, 15], [40, 39, 26, 15, 9, 21, 4, 17, 13, 14], [49, 46, 41, 16, 22, 5, 7, 13, 14, 17], [33, 30, 27, 17, 23, 11, 1, 15, 12, 16], [59, 38, 49, 18, 4, 7, 14, 20, 23, 19], [51, 39, 45, 19, 5, 13, 8, 22, 21, 18], [57, 52, 33, 20, 10, 1, 12, 18, 22, 21], [36, 35, 28, 21, 11, 15, 2, 23, 19, 20], [48, 47, 37, 22, 16, 3, 6, 19, 20, 23], [32, 31, 29, 23, 17, 9, 0, 21, 18, 22], [0, 42, 58, 24, 30, 36, 9, 26, 29, 25], [1, 43, 56, 25, 31, 40, 11, 28, 27, 24], [2, 54, 50, 26, 34, 32, 15, 24, 28, 27], [3, 53, 46, 27, 35, 41, 17, 29, 25, 26], [4, 59, 52, 28, 38, 33, 21, 25, 26, 29], [5, 51, 47, 29, 39, 37, 23, 27, 24, 28], [46, 6, 55, 30, 24, 34, 41, 32, 17, 31], [47, 7, 57, 31, 25, 38, 37, 33, 23, 30], [48, 59, 14, 32, 36, 26, 39, 30, 33, 23], [49, 54, 20, 33, 40, 28, 35, 31, 32, 17], [56, 12, 44, 34, 26, 30, 40, 36, 11, 35], [52, 13, 48, 35, 27, 39, 33, 37, 21, 34], [57, 51, 8, 36, 32, 24, 38, 34, 37, 21], [45, 42, 22, 37, 41, 29, 31, 35, 36, 11], [58, 18, 45, 38, 28, 31, 36, 40, 9, 39], [50, 19, 49, 39, 29, 35, 32, 41, 15, 38], [55, 53, 10, 40, 33, 25, 34, 38, 41, 15], [44, 43, 16, 41, 37, 27, 30, 39, 40, 9], [6, 24, 56, 42, 46, 51, 3, 44, 37, 43], [7, 25, 58, 43, 47, 53, 5, 45, 41, 42], [8, 55, 34, 44, 50, 48, 13, 42, 45, 41], [10, 57, 38, 45, 52, 49, 19, 43, 44, 37], [30, 0, 54, 46, 42, 50, 27, 48, 16, 47], [31, 1, 59, 47, 43, 52, 29, 49, 22, 46], [32, 57, 12, 48, 51, 44, 35, 46, 49, 22], [33, 55, 18, 49, 53, 45, 39, 47, 48, 16], [58, 14, 26, 50, 44, 46, 53, 51, 5, 39], [59, 36, 2, 51, 48, 42, 52, 50, 29, 19], [56, 20, 28, 52, 45, 47, 51, 53, 3, 35], [54, 40, 4, 53, 49, 43, 50, 52, 27, 13], [12, 26, 46, 54, 56, 59, 1, 55, 33, 53], [14, 44, 30, 55, 58, 57, 7, 54, 49, 40], [34, 2, 42, 56, 54, 58, 25, 57, 10, 52], [36, 48, 6, 57, 59, 55, 31, 56, 45, 20], [50, 8, 24, 58, 55, 56, 43, 59, 4, 38], [51, 32, 0, 59, 57, 54, 47, 58, 28, 18]]
  | _ => []
def DB : Nat → List Nat
  | 3 => [0]
  | 4 => [20, 17, 5]
  | 5 => [7247508, 10185057, 10086729, 15111702, 6730902, 12149097, 10046313, 6690486, 6592158, 9529707, 4628118, 1665513]
  | 6 => [553946723806491011826711839995762324, 885833877863072163109053238426167649, 882253041985085246424062182984116553, 1323583042006798270731014422959662614, 823763389762722686375891077344965782, 913734885752316442261094529631691113, 865485806349318304026828347504413609, 884880622789014706767285612243720886, 803501519417025728238458632966281886, 1244851902527627969899673134318053034, 1213273140278755783246250000597477803, 1303246227432334429330237758431992426, 968904170272264228529867473007058586, 1322223823166089572340515035883940459, 890065255734563249454182371588418281, 1244445938760976727850941373424777642, 1327522261308243486261066150055667386, 1327523852472228376459850455603456678, 559036983474968209488098273564191210, 892961819929097150558288571701765806, 948440550096455518312897689587461798, 970934079066287845427315292993415834, 976125934808405700111990100423514986, 976146317897294917466252361799740073, 803177056860811259622859529698847401, 880966434956429876853138219793623718, 906595736454845128574919969773124250, 1323521874164511814465304712240167530, 555122874562255568963715394444196266, 913730984151841754763228836074878634, 884960401907073238056802126845878266, 865470258149570202349427042472914938, 559138629256452557955895647236976622, 968910250118182612963687014868172539, 1213267035763999564181416952394870703, 1302813458526645067922656466113134511, 865783729094194614826703980860141550, 1303240734667874851633587759327390655, 803399848966703545139647752952003327, 912436415486852084588262351043230463, 1217084966884502114480608751386279675, 1244770351596452296279701162222332863, 880954941265924104112433192158010218, 802994175819239181984111498501973690, 1217159592968728270952253116281105327, 865686731076138711341048540952177343, 885826103266848234322053013115481001, 553824354588947519846374216044620470, 948454008338395218518832343762792366, 889964356116032658470661238123641595, 823755694083981577112273723594569390, 555111301951877606833245853478480542, 882130988445873845970989041593612907, 906412539742185106487150624004618667, 546624456716231865442532447698792102, 779410428825002163330291931747610362, 771576982237360531307236863657291418, 505898569130313280906665851316248554, 381199939197567547972842748587387370, 117362453479239443660305983516617449]
  | _ => []
def SB : Nat → List (List Nat)
  | 3 => [[0], [0]]
  | 4 => [[1, 0, 2], [2, 1, 0], [1, 0, 2]]
  | 5 => [[5, 3, 4, 1, 2, 0, 7, 6, 11, 10, 9, 8], [6, 7, 8, 5, 9, 3, 0, 1, 2, 4, 11, 10], [2, 3, 0, 1, 5, 4, 10, 9, 11, 7, 6, 8], [1, 0, 4, 5, 2, 3, 7, 6, 9, 8, 11, 10]]
  | 6 => [[23, 17, 21, 11, 15, 9, 22, 16, 19, 5, 13, 3, 20, 10, 18, 4, 7, 1, 14, 8, 12, 2, 6, 0, 29, 27, 28, 25, 26, 24, 47, 46, 59, 54, 52, 56, 51, 42, 50, 58, 53, 43, 37, 41, 45, 44, 31, 30, 57, 55, 38, 36, 34, 40, 33, 49, 35, 48, 39, 32], [24, 25, 26, 27, 28, 29, 30, 31, 32, 23, 33, 17, 34, 35, 36, 21, 37, 11, 38, 39, 40, 15, 41, 9, 0, 1, 2, 3, 4, 5, 6, 7, 8, 10, 12, 13, 14, 16, 18, 19, 20, 22, 46, 47, 48, 49, 42, 43, 44, 45, 51, 50, 53, 52, 56, 57, 54, 55, 59, 58], [6, 7, 8, 9, 10, 11, 0, 1, 2, 3, 4, 5, 14, 15, 12, 13, 17, 16, 20, 21, 18, 19, 23, 22, 42, 43, 44, 41, 45, 37, 46, 47, 48, 49, 50, 39, 51, 29, 52, 35, 53, 27, 24, 25, 26, 28, 30, 31, 32, 33, 34, 36, 38, 40, 55, 54, 58, 59, 56, 57], [2, 3, 0, 1, 5, 4, 12, 13, 14, 15, 16, 17, 6, 7, 8, 9, 10, 11, 19, 18, 22, 23, 20, 21, 26, 27, 24, 25, 29, 28, 34, 35, 36, 37, 30, 31, 32, 33, 39, 38, 41, 40, 54, 53, 55, 49, 56, 52, 57, 45, 58, 59, 47, 43, 42, 44, 46, 48, 50, 51], [1, 0, 4, 5, 2, 3, 7, 6, 10, 11, 8, 9, 18, 19, 20, 21, 22, 23, 12, 13, 14, 15, 16, 17, 25, 24, 28, 29, 26, 27, 31, 30, 33, 32, 38, 39, 40, 41, 34, 35, 36, 37, 43, 42, 45, 44, 47, 46, 49, 48, 52, 53, 50, 51, 59, 57, 58, 55, 56, 54]]
  | _ => []
def dg (r j : Nat) : Nat := (r >>> (2 * j)) % 4
def sw (i : Nat) (x : Int) : Int := if x = i then i + 1 else if x = i + 1 then i else x
def chk1 (m : Nat) : Bool := decide ((RN m).map (fun l => (exs m).map fun e => tn l e.1 e.2) = (NB m).map fun r => r.map fun j => (RN m).getD j [])
def chk2 (m : Nat) : Bool := (List.range (RN m).length).all fun i => (List.range (RN m).length).all fun j => (decide (dg ((DB m).getD i 0) j = 0) == decide (i = j)) && (decide (dg ((DB m).getD i 0) j + 2 ≤ m) && decide (dg ((DB m).getD i 0) j = dg ((DB m).getD j 0) i))
def chk3 (m : Nat) : Bool := (List.range (RN m).length).all fun i => (List.range (RN m).length).all fun u => ((NB m).getD u []).all (fun j => decide (dg ((DB m).getD i 0) j ≤ dg ((DB m).getD i 0) u + 1)) && (decide (u = i) || ((NB m).getD u []).any fun j => decide (dg ((DB m).getD i 0) j + 1 = dg ((DB m).getD i 0) u))
def chk4 (m : Nat) : Bool := (List.range (RN m).length).all fun u => ((NB m).getD u []).all fun j => decide (j < (RN m).length) && ((NB m).getD j []).contains u
def chk5 (m : Nat) : Bool := (List.range (m - 1)).all fun i => decide ((RN m).map (fun l => rb (l.map (sw i))) = ((SB m).getD i []).map fun j => (RN m).getD j [])
def chk6 (m : Nat) : Bool := (List.range (m - 1)).all fun g => (List.range (RN m).length).all fun i => decide (((SB m).getD g []).getD i 0 < (RN m).length) && (List.range (RN m).length).all fun j => decide (dg ((DB m).getD (((SB m).getD g []).getD i 0) 0) (((SB m).getD g []).getD j 0) = dg ((DB m).getD i 0) j)
def chk7 (m : Nat) : Bool := (RN m).all fun l => (exs m).all fun e => decide (((ral l).filter fun r => !(ral (tn l e.1 e.2)).any fun z => D.beq z r).length ≤ 2)
def chk8 (m : Nat) : Bool := (RN m).all fun l => decide ((ral l).Nodup)

theorem rn3 : rnds 3 = RN 3 := by decide +kernel
theorem nd3' : (RN 3).Nodup := by decide +kernel
theorem c1_3 : chk1 3 = true := by decide +kernel
theorem c2_3 : chk2 3 = true := by decide +kernel
theorem c3_3 : chk3 3 = true := by decide +kernel
theorem c4_3 : chk4 3 = true := by decide +kernel
theorem c5_3 : chk5 3 = true := by decide +kernel
theorem c6_3 : chk6 3 = true := by decide +kernel
theorem c7_3 : chk7 3 = true := by decide +kernel
theorem c8_3 : chk8 3 = true := by decide +kernel
theorem rn4 : rnds 4 = RN 4 := by decide +kernel
theorem nd4' : (RN 4).Nodup := by decide +kernel
theorem c1_4 : chk1 4 = true := by decide +kernel
theorem c2_4 : chk2 4 = true := by decide +kernel
theorem c3_4 : chk3 4 = true := by decide +kernel
theorem c4_4 : chk4 4 = true := by decide +kernel
theorem c5_4 : chk5 4 = true := by decide +kernel
theorem c6_4 : chk6 4 = true := by decide +kernel
theorem c7_4 : chk7 4 = true := by decide +kernel
theorem c8_4 : chk8 4 = true := by decide +kernel
theorem rn5 : rnds 5 = RN 5 := by decide +kernel
theorem nd5' : (RN 5).Nodup := by decide +kernel
theorem c1_5 : chk1 5 = true := by decide +kernel
theorem c2_5 : chk2 5 = true := by decide +kernel
theorem c3_5 : chk3 5 = true := by decide +kernel
theorem c4_5 : chk4 5 = true := by decide +kernel
theorem c5_5 : chk5 5 = true := by decide +kernel
theorem c6_5 : chk6 5 = true := by decide +kernel
theorem c7_5 : chk7 5 = true := by decide +kernel
theorem c8_5 : chk8 5 = true := by decide +kernel
theorem rn6 : rnds 6 = RN 6 := by decide +kernel
theorem nd6' : (RN 6).Nodup := by decide +kernel
theorem c1_6 : chk1 6 = true := by decide +kernel
theorem c2_6 : chk2 6 = true := by decide +kernel
theorem c3_6 : chk3 6 = true := by decide +kernel
theorem c4_6 : chk4 6 = true := by decide +kernel
theorem c5_6 : chk5 6 = true := by decide +kernel
theorem c6_6 : chk6 6 = true := by decide +kernel
theorem c7_6 : chk7 6 = true := by decide +kernel
theorem c8_6 : chk8 6 = true := by decide +kernel
end LW
set_option maxHeartbeats 1000000
/-! GD34: how far rounds lie apart. -/
namespace LW
open PySem L2 DL
/-- how many roads of one round another one lacks -/
def unl (t u : List Int) : Nat := ((ral t).filter fun r => !(ral u).any fun z => D.beq z r).length
structure DstOk (m : Nat) (d : List Int → List Int → Nat) : Prop where
  zero : ∀ t ∈ rnds m, ∀ u ∈ rnds m, (d t u = 0 ↔ t = u)
  diam : ∀ t ∈ rnds m, ∀ u ∈ rnds m, d t u + 2 ≤ m
  sym : ∀ t ∈ rnds m, ∀ u ∈ rnds m, d t u = d u t
  lip : ∀ t ∈ rnds m, ∀ u ∈ rnds m, ∀ e ∈ exs m, d t (tn u e.1 e.2) ≤ d t u + 1
  pred : ∀ t ∈ rnds m, ∀ u ∈ rnds m, u ≠ t → ∃ v ∈ rnds m, ∃ e ∈ exs m, tn v e.1 e.2 = u ∧ d t v + 1 = d t u
  swp : ∀ i, i + 1 < m → ∀ t ∈ rnds m, ∀ u ∈ rnds m, d (rb (t.map (sw i))) (rb (u.map (sw i))) = d t u
  un1 : ∀ l ∈ rnds m, ∀ e ∈ exs m, unl l (tn l e.1 e.2) ≤ 2
  ralN : ∀ l ∈ rnds m, (ral l).Nodup
def dst (m : Nat) (t u : List Int) : Nat := dg ((DB m).getD ((RN m).idxOf t) 0) ((RN m).idxOf u)
section
variable {m : Nat}
theorem at_idx {l : List Int} (h : l ∈ RN m) : (RN m).idxOf l < (RN m).length ∧ (RN m).getD ((RN m).idxOf l) [] = l := by
  have hi := List.idxOf_lt_length_of_mem h
  refine ⟨hi, ?_⟩
  rw [List.getD_eq_getElem?_getD, List.getElem?_eq_getElem hi]
  exact List.getElem_idxOf hi
theorem idx_at (hn : (RN m).Nodup) {i : Nat} (hi : i < (RN m).length) : (RN m).idxOf ((RN m).getD i []) = i ∧ (RN m).getD i [] ∈ RN m := by
  have e : (RN m).getD i [] = (RN m)[i] := by rw [List.getD_eq_getElem?_getD, List.getElem?_eq_getElem hi]; rfl
  rw [e]
  exact ⟨hn.idxOf_getElem i hi, List.getElem_mem hi⟩
theorem map_at {α β γ : Type} {A : List α} {B : List β} {f : α → γ} {g : β → γ} (h : A.map f = B.map g) {u : Nat} (hu : u < A.length) (a0 : α) (b0 : β) : f (A.getD u a0) = g (B.getD u b0) := by
  have hl : A.length = B.length := by simpa using congrArg List.length h
  have h2 := congrArg (fun l => l[u]?) h
  simp only [List.getElem?_map] at h2
  rw [List.getElem?_eq_getElem hu, List.getElem?_eq_getElem (hl ▸ hu)] at h2
  simp only [List.getD_eq_getElem?_getD, List.getElem?_eq_getElem hu, List.getElem?_eq_getElem (hl ▸ hu)]
  exact Option.some.inj h2
theorem nb_at (c1 : chk1 m = true) {u : Nat} (hu : u < (RN m).length) : (exs m).map (fun e => tn ((RN m).getD u []) e.1 e.2) = ((NB m).getD u []).map fun j => (RN m).getD j [] := by
  rw [chk1, decide_eq_true_eq] at c1
  generalize RN m = A at *
  generalize NB m = B at *
  exact map_at c1 hu [] []
theorem all_range {n : Nat} {p : Nat → Bool} (h : (List.range n).all p = true) {i : Nat} (hi : i < n) : p i = true := List.all_eq_true.mp h i (List.mem_range.mpr hi)
theorem dst_ok (hm : 3 ≤ m) (hr : rnds m = RN m) (hn : (RN m).Nodup) (c1 : chk1 m = true) (c2 : chk2 m = true) (c3 : chk3 m = true) (c4 : chk4 m = true) (c5 : chk5 m = true) (c6 : chk6 m = true) (c7 : chk7 m = true) (c8 : chk8 m = true) : DstOk m (dst m) := by
  have k2 : ∀ t ∈ rnds m, ∀ u ∈ rnds m, (dst m t u = 0 ↔ t = u) ∧ dst m t u + 2 ≤ m ∧ dst m t u = dst m u t := by
    intro t ht u hu
    rw [hr] at ht hu
    obtain ⟨i1, i2⟩ := at_idx ht
    obtain ⟨j1, j2⟩ := at_idx hu
    have h := all_range (all_range c2 i1) j1
    rw [Bool.and_eq_true, Bool.and_eq_true] at h
    obtain ⟨h1, h2, h3⟩ := h
    have h1 := beq_iff_eq.mp h1
    rw [decide_eq_decide] at h1
    refine ⟨?_, of_decide_eq_true h2, of_decide_eq_true h3⟩
    refine Iff.trans h1 ⟨fun h => ?_, fun h => by rw [h]⟩
    rw [← i2, ← j2, h]
  have k3 : ∀ t ∈ rnds m, ∀ u ∈ rnds m, (∀ j ∈ (NB m).getD ((RN m).idxOf u) [], dg ((DB m).getD ((RN m).idxOf t) 0) j ≤ dst m t u + 1) ∧ (u = t ∨ ∃ j ∈ (NB m).getD ((RN m).idxOf u) [], dg ((DB m).getD ((RN m).idxOf t) 0) j + 1 = dst m t u) := by
    intro t ht u hu
    rw [hr] at ht hu
    obtain ⟨i1, i2⟩ := at_idx ht
    obtain ⟨j1, j2⟩ := at_idx hu
    have h := all_range (all_range c3 i1) j1
    rw [Bool.and_eq_true, Bool.or_eq_true] at h
    refine ⟨fun j hj => of_decide_eq_true (List.all_eq_true.mp h.1 j hj), h.2.imp (fun h => ?_) fun h => ?_⟩
    · rw [← i2, ← j2, of_decide_eq_true h]
    · obtain ⟨j, hj, h⟩ := List.any_eq_true.mp h
      exact ⟨j, hj, of_decide_eq_true h⟩
  have k4 : ∀ u < (RN m).length, ∀ j ∈ (NB m).getD u [], j < (RN m).length ∧ u ∈ (NB m).getD j [] := by
    intro u hu j hj
    have h := List.all_eq_true.mp (all_range c4 hu) j hj
    rw [Bool.and_eq_true] at h
    exact ⟨of_decide_eq_true h.1, by simpa using h.2⟩
  refine ⟨fun t ht u hu => (k2 t ht u hu).1, fun t ht u hu => (k2 t ht u hu).2.1, fun t ht u hu => (k2 t ht u hu).2.2, ?_, ?_, ?_, ?_, ?_⟩
  · intro t ht u hu e he
    have hu' := hu
    rw [hr] at hu'
    obtain ⟨j1, j2⟩ := at_idx hu'
    have h1 := nb_at c1 j1
    rw [j2] at h1
    have h2 : tn u e.1 e.2 ∈ (exs m).map fun e => tn u e.1 e.2 := List.mem_map.mpr ⟨e, he, rfl⟩
    rw [h1] at h2
    obtain ⟨j, hj, h2⟩ := List.mem_map.mp h2
    have h3 := (k3 t ht u hu).1 j hj
    have h4 := (idx_at hn (k4 _ j1 j hj).1).1
    rw [← h2]
    show dg _ ((RN m).idxOf _) ≤ _
    rw [h4]
    exact h3
  · intro t ht u hu hne
    have hu' := hu
    rw [hr] at hu'
    obtain ⟨j1, j2⟩ := at_idx hu'
    obtain ⟨j, hj, h3⟩ := (k3 t ht u hu).2.resolve_left hne
    obtain ⟨g1, g2⟩ := k4 _ j1 j hj
    obtain ⟨g3, g4⟩ := idx_at hn g1
    have h1 := nb_at c1 g1
    have h2 : (RN m).getD ((RN m).idxOf u) [] ∈ ((NB m).getD j []).map fun j => (RN m).getD j [] := List.mem_map.mpr ⟨_, g2, rfl⟩
    rw [← h1, j2] at h2
    obtain ⟨e, he, h2⟩ := List.mem_map.mp h2
    refine ⟨(RN m).getD j [], by rw [hr]; exact g4, e, he, h2, ?_⟩
    show dg _ ((RN m).idxOf _) + 1 = _
    rw [g3]
    exact h3
  · intro i hi t ht u hu
    have h5 := of_decide_eq_true (all_range c5 (show i < m - 1 by omega))
    have h6 := all_range c6 (show i < m - 1 by omega)
    rw [hr] at ht hu
    obtain ⟨i1, i2⟩ := at_idx ht
    obtain ⟨j1, j2⟩ := at_idx hu
    have q1 := map_at (f := fun l => rb (l.map (sw i))) (g := fun j => (RN m).getD j []) h5 i1 [] 0
    have q2 := map_at (f := fun l => rb (l.map (sw i))) (g := fun j => (RN m).getD j []) h5 j1 [] 0
    simp only [i2] at q1
    simp only [j2] at q2
    have p1 := all_range h6 i1
    rw [Bool.and_eq_true] at p1
    have p2 := all_range h6 j1
    rw [Bool.and_eq_true] at p2
    have p3 := of_decide_eq_true (all_range p1.2 j1)
    have a1 := (idx_at hn (of_decide_eq_true p1.1)).1
    have a2 := (idx_at hn (of_decide_eq_true p2.1)).1
    rw [q1, q2]
    show dg ((DB m).getD ((RN m).idxOf _) 0) ((RN m).idxOf _) = _
    rw [a1, a2]
    exact p3
  · intro l hl e he
    rw [hr] at hl
    exact of_decide_eq_true (List.all_eq_true.mp (List.all_eq_true.mp c7 l hl) e he)
  · intro l hl
    rw [hr] at hl
    exact of_decide_eq_true (List.all_eq_true.mp c8 l hl)
theorem dst_is : ∀ m : Nat, m ∈ [3, 4, 5, 6] → DstOk m (dst m)
  | 3, _ => dst_ok (by decide) rn3 nd3' c1_3 c2_3 c3_3 c4_3 c5_3 c6_3 c7_3 c8_3
  | 4, _ => dst_ok (by decide) rn4 nd4' c1_4 c2_4 c3_4 c4_4 c5_4 c6_4 c7_4 c8_4
  | 5, _ => dst_ok (by decide) rn5 nd5' c1_5 c2_5 c3_5 c4_5 c5_5 c6_5 c7_5 c8_5
  | 6, _ => dst_ok (by decide) rn6 nd6' c1_6 c2_6 c3_6 c4_6 c5_6 c6_6 c7_6 c8_6
  | 0, h | 1, h | 2, h | _ + 7, h => by simp at h
/-! ### what follows -/
variable {d : List Int → List Int → Nat} (O : DstOk m d)
include O
theorem dst_tri {t x : List Int} (ht : t ∈ rnds m) (hx : x ∈ rnds m) : ∀ (n : Nat) {u : List Int}, u ∈ rnds m → d x u = n → d t u ≤ d t x + n
  | 0, u, hu, h => by
    have := (O.zero x hx u hu).mp h
    subst this
    omega
  | n + 1, u, hu, h => by
    have hne : u ≠ x := fun e => by
      have := (O.zero x hx u hu).mpr e.symm
      omega
    obtain ⟨v, hv, e, he, h1, h2⟩ := O.pred x hx u hu hne
    have ih := dst_tri ht hx n hv (by omega)
    have := O.lip t ht v hv e he
    rw [h1] at this
    omega
theorem dst_one {t u : List Int} (ht : t ∈ rnds m) (hu : u ∈ rnds m) : d t u ≤ 1 ↔ ((∃ e ∈ exs m, tn t e.1 e.2 = u) ∨ u = t) := by
  constructor
  · intro h
    by_cases hne : u = t
    · exact .inr hne
    · obtain ⟨v, hv, e, he, h1, h2⟩ := O.pred t ht u hu hne
      have h3 : t = v := (O.zero t ht v hv).mp (by omega)
      subst h3
      exact .inl ⟨e, he, h1⟩
  · rintro (⟨e, he, rfl⟩ | rfl)
    · have := O.lip t ht t ht e he
      rw [(O.zero t ht t ht).mpr rfl] at this
      exact this
    · rw [(O.zero u hu u hu).mpr rfl]
      omega
omit O in
theorem sub_len {α : Type} [DecidableEq α] : ∀ {a b : List α}, a.Nodup → (∀ x ∈ a, x ∈ b) → a.length ≤ b.length
  | [], _, _, _ => Nat.zero_le _
  | x :: a, b, hn, h => by
    rw [List.nodup_cons] at hn
    have hx := h x List.mem_cons_self
    have := sub_len (a := a) (b := b.erase x) hn.2 fun y hy => (List.mem_erase_of_ne (by intro e; subst e; exact hn.1 hy)).mpr (h y (List.mem_cons_of_mem _ hy))
    rw [List.length_erase_of_mem hx] at this
    have h2 : 0 < b.length := List.length_pos_of_mem hx
    rw [List.length_cons]
    omega
omit O in
theorem unl_tri {t v u : List Int} (hn : (ral t).Nodup) : unl t u ≤ unl t v + unl v u := by
  have hb : ∀ (l : List D) (r : D), (l.any fun z => D.beq z r) = true ↔ r ∈ l := fun l r => by
    rw [List.any_eq_true]
    exact ⟨fun ⟨z, hz, e⟩ => D.eq_of_beq e ▸ hz, fun h => ⟨r, h, D.beq_refl r⟩⟩
  have hf : ∀ (a b : List Int) (r : D), r ∈ (ral a).filter (fun r => !(ral b).any fun z => D.beq z r) ↔ r ∈ ral a ∧ r ∉ ral b := fun a b r => by
    rw [List.mem_filter, Bool.not_eq_true', ← Bool.not_eq_true, hb]
  unfold unl
  rw [← List.length_append]
  refine sub_len (List.Nodup.sublist List.filter_sublist hn) fun r h => ?_
  rw [hf] at h
  rw [List.mem_append, hf, hf]
  by_cases hv : r ∈ ral v
  · exact .inr ⟨hv, h.2⟩
  · exact .inl ⟨h.1, hv⟩
theorem dst_unl {t : List Int} (ht : t ∈ rnds m) : ∀ (n : Nat) {u : List Int}, u ∈ rnds m → d t u = n → unl t u ≤ 2 * n
  | 0, u, hu, h => by
    have := (O.zero t ht u hu).mp h
    subst this
    have : unl t t = 0 := by
      unfold unl
      rw [List.length_eq_zero_iff, List.filter_eq_nil_iff]
      intro r hr
      have : ((ral t).any fun z => D.beq z r) = true := List.any_eq_true.mpr ⟨r, hr, D.beq_refl r⟩
      rw [this]
      decide
    omega
  | n + 1, u, hu, h => by
    have hne : u ≠ t := fun e => by
      have := (O.zero t ht u hu).mpr e.symm
      omega
    obtain ⟨v, hv, e, he, h1, h2⟩ := O.pred t ht u hu hne
    have ih := dst_unl ht n hv (by omega)
    have h3 := O.un1 v hv e he
    rw [h1] at h3
    have := unl_tri (v := v) (u := u) (O.ralN t ht)
    omega
omit O in
theorem act_sw (hm : 3 ≤ m) {pre r l : List Int} {x y : Int} (ho : (pre ++ x :: y :: r).Perm (pls m)) (hl : l ∈ rnds m) : act (pre ++ y :: x :: r) l = act (pre ++ x :: y :: r) (rb (l.map (sw pre.length))) ∧ rb (l.map (sw pre.length)) ∈ rnds m := by
  obtain ⟨hp, _⟩ := rnds_perm hm hl
  have ho' : (pre ++ y :: x :: r).Perm (pls m) := (List.Perm.append_left pre (List.Perm.swap x y r)).trans ho
  have hlen := ho.length_eq
  rw [pls_len] at hlen
  have hlen' := hlen
  simp only [List.length_append, List.length_cons] at hlen'
  have hx : ∀ a ∈ l, ∃ n : Nat, a = n ∧ n < m := fun a ha => by
    obtain ⟨n, hn, rfl⟩ := List.mem_map.mp (hp.mem_iff.mp ha)
    exact ⟨n, rfl, List.mem_range.mp hn⟩
  have e1 : (l.map fun a => (pre ++ y :: x :: r).getD a.toNat 0) = (l.map (sw pre.length)).map fun a => (pre ++ x :: y :: r).getD a.toNat 0 := by
    rw [List.map_map]
    refine List.map_congr_left fun a ha => ?_
    obtain ⟨n, rfl, hn⟩ := hx a ha
    show _ = (pre ++ x :: y :: r).getD (sw pre.length (n : Int)).toNat 0
    rw [Int.toNat_natCast, get_sw]
    congr 1
    unfold sw
    repeat' split
    all_goals omega
  have e2 : (l.map (sw pre.length)).Perm (pls m) := by
    have : (l.map (sw pre.length)) = l.map fun a => (((pls m).take pre.length) ++ ((pre.length + 1 : Nat) : Int) :: (pre.length : Int) :: ((pls m).drop (pre.length + 2))).getD a.toNat 0 := by
      refine List.map_congr_left fun a ha => ?_
      obtain ⟨n, rfl, hn⟩ := hx a ha
      have ht : ((pls m).take pre.length).length = pre.length := by rw [List.length_take, pls_len]; omega
      have hs : (pls m).take pre.length ++ (pre.length : Int) :: ((pre.length + 1 : Nat) : Int) :: ((pls m).drop (pre.length + 2)) = pls m := by
        have h1 : (pls m).drop pre.length = (pre.length : Int) :: ((pre.length + 1 : Nat) : Int) :: ((pls m).drop (pre.length + 2)) := by
          rw [List.drop_eq_getElem_cons (by rw [pls_len]; omega), List.drop_eq_getElem_cons (by rw [pls_len]; omega)]
          simp [pls]
        rw [← h1, List.take_append_drop]
      rw [get_sw, hs, ht, Int.toNat_natCast]
      have hg : ∀ j, j < m → (pls m).getD j 0 = j := fun j hj => by
        simp [pls, List.getD_eq_getElem?_getD, hj]
      unfold sw
      by_cases h1 : n = pre.length
      · subst h1
        rw [if_pos rfl, if_pos rfl, hg _ (by omega)]
        omega
      · rw [if_neg h1, if_neg (by omega)]
        by_cases h2 : n = pre.length + 1
        · subst h2
          rw [if_pos rfl, if_pos (by omega), hg _ (by omega)]
        · rw [if_neg h2, if_neg (by omega), hg _ hn]
    rw [this]
    refine act_perm ?_ hp
    have h1 : (pls m).drop pre.length = (pre.length : Int) :: ((pre.length + 1 : Nat) : Int) :: ((pls m).drop (pre.length + 2)) := by
      rw [List.drop_eq_getElem_cons (by rw [pls_len]; omega), List.drop_eq_getElem_cons (by rw [pls_len]; omega)]
      simp [pls]
    have h2 : (pls m).take pre.length ++ (pre.length : Int) :: ((pre.length + 1 : Nat) : Int) :: ((pls m).drop (pre.length + 2)) = pls m := by
      rw [← h1, List.take_append_drop]
    refine List.Perm.trans (List.Perm.append_left _ (List.Perm.swap _ _ _)) ?_
    rw [h2]
  refine ⟨?_, (rb_mem e2 hm).2⟩
  unfold act
  rw [e1]
  refine (rb_map e2 ?_ hm).symm
  rw [← e1]
  exact act_perm ho' hp
theorem dst_act0 (hm : 3 ≤ m) {a b : List Int} (h : a.Perm b) : ∀ pre : List Int, (pre ++ b).Perm (pls m) → (∀ t ∈ rnds m, ∀ u ∈ rnds m, d (act (pre ++ b) t) (act (pre ++ b) u) = d t u) → ∀ t ∈ rnds m, ∀ u ∈ rnds m, d (act (pre ++ a) t) (act (pre ++ a) u) = d t u := by
  induction h with
  | nil => exact fun _ _ h => h
  | cons x _ ih =>
    intro pre hp h
    have := ih (pre ++ [x]) (by simpa using hp) (by simpa using h)
    simpa using this
  | swap x y l =>
    intro pre hp h t ht u hu
    obtain ⟨e1, m1⟩ := act_sw hm hp ht
    obtain ⟨e2, m2⟩ := act_sw hm hp hu
    have hlen := hp.length_eq
    rw [pls_len] at hlen
    simp only [List.length_append, List.length_cons] at hlen
    rw [e1, e2, h _ m1 _ m2]
    exact O.swp pre.length (by omega) t ht u hu
  | trans h1 h2 ih1 ih2 =>
    intro pre hp h
    exact ih1 pre ((List.Perm.append_left pre h2).trans hp) (ih2 pre hp h)
theorem dst_act (hm : 3 ≤ m) {o t u : List Int} (ho : o.Perm (pls m)) (ht : t ∈ rnds m) (hu : u ∈ rnds m) : d (act o t) (act o u) = d t u := by
  have hs : ∀ l ∈ rnds m, act (pls m) l = l := fun l hl => by
    obtain ⟨hp, _⟩ := rnds_perm hm hl
    unfold act
    have : (l.map fun x => (pls m).getD x.toNat 0) = l := by
      refine (List.map_congr_left fun a ha => ?_).trans (List.map_id l)
      obtain ⟨n, hn, rfl⟩ := List.mem_map.mp (hp.mem_iff.mp ha)
      have hn := List.mem_range.mp hn
      simp [pls, List.getD_eq_getElem?_getD, hn]
    rw [this]
    exact rb_self hm hl
  have := dst_act0 O hm ho [] (by simp) (fun t ht u hu => by simp [hs t ht, hs u hu])
  simpa using this t ht u hu
end
end LW
set_option maxHeartbeats 1000000
/-! BF34: going out from a round. -/
namespace LW
open PySem L2 DL
def ky (l : List Int) : List Key := l.map Sum.inl
theorem keys_int : ∀ l : List Int, keysOf (l.map D.int) = some (ky l)
  | [] => rfl
  | a :: l => by
    show (keysOf (l.map D.int)).map (Sum.inl a :: ·) = _
    rw [keys_int l]
    rfl
theorem key_T (l : List Int) : DL.keyOf (T l) = some (ky l) := keys_int l
theorem ky_inj : ∀ {a b : List Int}, ky a = ky b → a = b
  | [], [], _ => rfl
  | [], _ :: _, h => by cases h
  | _ :: _, [], h => by cases h
  | x :: a, y :: b, h => by
    have h1 := (List.cons.inj h).1
    have h2 := ky_inj (a := a) (b := b) (List.cons.inj h).2
    rw [Sum.inl.inj h1, h2]
theorem memT_ky {u : List Int} {ls : List (List Int)} : memT (ky u) (ls.map ky) = decide (u ∈ ls) := by
  by_cases h : u ∈ ls
  · rw [decide_eq_true h]
    exact memT_iff.mpr (List.mem_map.mpr ⟨u, h, rfl⟩)
  · rw [decide_eq_false h, ← Bool.not_eq_true, memT_iff]
    intro q
    obtain ⟨v, hv, e⟩ := List.mem_map.mp q
    exact h (ky_inj e ▸ hv)
theorem look_ky {f : List Int → D} {u : List Int} : ∀ {ls : List (List Int)}, u ∈ ls → lookT (ls.map ky) (ls.map f) (ky u) = some (f u)
  | [], h => by cases h
  | l :: ls, h => by
    rw [List.map_cons, List.map_cons, lookT]
    by_cases e : ky l = ky u
    · rw [if_pos e, ky_inj e]
    · rw [if_neg e]
      rcases List.mem_cons.mp h with rfl | h
      · exact absurd rfl e
      · exact look_ky h
abbrev DV := List Int → List Int → Nat
/-- what is known: each round with how far it is -/
abbrev dd (d : DV) (t : List Int) (ls : List (List Int)) : D := .dT (ls.map ky) (ls.map fun l => .int (d t l : Nat))
section
variable {m : Nat} {d : DV} {t u : List Int} {ls la ed : List (List Int)} {s : Nat}
theorem nin_dd : cmpD .nin (T u) (dd d t ls) = some (!decide (u ∈ ls)) := by
  show (DL.keyOf (T u)).map (fun k => !memT k (ls.map ky)) = _
  rw [key_T, ← memT_ky]
  rfl
theorem ix_dd (h : u ∈ ls) : ixD (dd d t ls) (T u) = some (.int (d t u : Nat)) := ix_look (key_T u) (look_ky (f := fun l => .int (d t l : Nat)) h) (by simp)
structure Lev (m : Nat) (d : DV) (t : List Int) (s : Nat) (ls ed : List (List Int)) : Prop where
  nd : ls.Nodup
  all : ∀ l, l ∈ ls ↔ l ∈ rnds m ∧ d t l ≤ s
  ed : ∀ l, l ∈ ed ↔ l ∈ rnds m ∧ d t l = s
structure Lv (m : Nat) (d : DV) (t : List Int) (s : Nat) (done : List Int → Nat × Nat → Prop) (ls la : List (List Int)) : Prop where
  nd : ls.Nodup
  mem : ∀ l ∈ ls, l ∈ rnds m
  low : ∀ l ∈ rnds m, d t l ≤ s → l ∈ ls
  up : ∀ l ∈ ls, d t l ≤ s + 1
  ln : la.Nodup
  lat : ∀ l, l ∈ la ↔ l ∈ ls ∧ d t l = s + 1
  dn : ∀ v e, done v e → tn v e.1 e.2 ∈ ls
theorem lv_mono {done done' : List Int → Nat × Nat → Prop} (h : Lv m d t s done ls la) (hd : ∀ v e, done' v e → done v e) : Lv m d t s done' ls la :=
  ⟨h.nd, h.mem, h.low, h.up, h.ln, h.lat, fun v e q => h.dn v e (hd v e q)⟩
theorem lv_begin (h : Lev m d t s ls ed) : Lv m d t s (fun _ _ => False) ls [] :=
  ⟨h.nd, fun l hl => ((h.all l).mp hl).1, fun l hl hs => (h.all l).mpr ⟨hl, hs⟩, fun l hl => by have := ((h.all l).mp hl).2; omega, .nil,
    fun l => ⟨fun q => (by cases q), fun q => (by have := ((h.all l).mp q.1).2; omega)⟩, fun _ _ q => q.elim⟩
theorem lv_end (O : DstOk m d) (ht : t ∈ rnds m) (h : Lv m d t s (fun v e => v ∈ ed ∧ e ∈ exs m) ls la) (he : ∀ l, l ∈ ed ↔ l ∈ rnds m ∧ d t l = s) : Lev m d t (s + 1) ls la := by
  have h1 : ∀ l, l ∈ ls ↔ l ∈ rnds m ∧ d t l ≤ s + 1 := fun l => by
    refine ⟨fun q => ⟨h.mem l q, h.up l q⟩, fun ⟨q1, q2⟩ => ?_⟩
    by_cases hs : d t l ≤ s
    · exact h.low l q1 hs
    · have hne : l ≠ t := fun e => by
        have := (O.zero t ht l q1).mpr e.symm
        omega
      obtain ⟨v, hv, e, hee, g1, g2⟩ := O.pred t ht l q1 hne
      rw [← g1]
      exact h.dn v e ⟨(he v).mpr ⟨hv, by omega⟩, hee⟩
  refine ⟨h.nd, h1, fun l => ?_⟩
  rw [h.lat, h1]
  exact ⟨fun q => ⟨q.1.1, q.2⟩, fun q => ⟨⟨q.1, by omega⟩, q.2⟩⟩
theorem lv_step (O : DstOk m d) (ht : t ∈ rnds m) {done : List Int → Nat × Nat → Prop} (h : Lv m d t s done ls la) {v : List Int} {e : Nat × Nat} (hv : v ∈ rnds m) (hs : d t v = s) (he : e ∈ exs m) (hR : tn v e.1 e.2 ∈ rnds m) :
    (tn v e.1 e.2 ∈ ls → Lv m d t s (fun v' e' => done v' e' ∨ (v' = v ∧ e' = e)) ls la) ∧
    (tn v e.1 e.2 ∉ ls → d t (tn v e.1 e.2) = s + 1 ∧ Lv m d t s (fun v' e' => done v' e' ∨ (v' = v ∧ e' = e)) (ls ++ [tn v e.1 e.2]) (la ++ [tn v e.1 e.2])) := by
  refine ⟨fun hin => ⟨h.nd, h.mem, h.low, h.up, h.ln, h.lat, ?_⟩, fun hn => ?_⟩
  · rintro v' e' (q | ⟨rfl, rfl⟩)
    · exact h.dn v' e' q
    · exact hin
  · have hd : d t (tn v e.1 e.2) = s + 1 := by
      have h1 := O.lip t ht v hv e he
      have h2 : ¬ d t (tn v e.1 e.2) ≤ s := fun q => hn (h.low _ hR q)
      omega
    generalize hw : tn v e.1 e.2 = w at *
    have hna : w ∉ la := fun q => hn ((h.lat w).mp q).1
    have hap : ∀ {q : List (List Int)}, q.Nodup → w ∉ q → (q ++ [w]).Nodup := fun {q} q1 q2 => by
      rw [List.nodup_append]
      refine ⟨q1, by simp, fun a ha b hb => ?_⟩
      cases List.mem_singleton.mp hb
      intro h
      subst h
      exact q2 ha
    refine ⟨hd, hap h.nd hn, ?_, fun l hl q => List.mem_append.mpr (.inl (h.low l hl q)), ?_, hap h.ln hna, fun l => ?_, ?_⟩
    · intro l hl
      rcases List.mem_append.mp hl with hl | hl
      · exact h.mem l hl
      · cases List.mem_singleton.mp hl; exact hR
    · intro l hl
      rcases List.mem_append.mp hl with hl | hl
      · exact h.up l hl
      · cases List.mem_singleton.mp hl; omega
    · rw [List.mem_append, List.mem_append, h.lat, List.mem_singleton]
      constructor
      · rintro (q | rfl)
        · exact ⟨.inl q.1, q.2⟩
        · exact ⟨.inr rfl, hd⟩
      · rintro ⟨q | rfl, q2⟩
        · exact .inl ⟨q, q2⟩
        · exact .inr rfl
    · intro v' e' q
      rcases q with q | ⟨q1, q2⟩
      · exact List.mem_append.mpr (.inl (h.dn v' e' q))
      · rw [q1, q2, hw]
        exact List.mem_append.mpr (.inr (List.mem_singleton.mpr rfl))
theorem rnds_le : ∀ m : Nat, m ∈ [3, 4, 5, 6] → (rnds m).length ≤ 1000
  | 3, _ => by rw [rn3]; decide
  | 4, _ => by rw [rn4]; decide
  | 5, _ => by rw [rn5]; decide
  | 6, _ => by rw [rn6]; decide
  | 0, h | 1, h | 2, h | _ + 7, h => by simp at h
end
end LW
set_option maxHeartbeats 1000000
/-! BG34: going out from a round, by the program. -/
namespace LW
open PySem L2 DL
section
variable {m : Nat} {d : DV} {t u v : List Int} {ls la ed : List (List Int)} {s : Nat} {e : Nat × Nat}
theorem dd_mut : isMut (some (dd d t ls)) = true := rfl
theorem T_app (la : List (List Int)) (w : List Int) : la.map T ++ [T w] = (la ++ [w]).map T := by simp
theorem imms_dd : D.imms (ls.map fun l => D.int (d t l : Nat)) = true := by
  induction ls with
  | nil => simp
  | cons a ls ih => simp [ih]
theorem set_dd {cf : Cf} {ρ ρ' : DL.Env} {i : Nat} {ix e : E} {w : List Int} (he : evE cf e ρ = some (.int (d t w : Nat), ρ)) (hi : evE cf ix ρ = some (T w, ρ)) (hd : eget ρ i = some (dd d t ls)) (hn : w ∉ ls) (hz : ls.length < sizeLine) (hs : eset ρ i (some (dd d t (ls ++ [w]))) = ρ') :
    evS cf (.setix i ix e) ρ = some (.nx, ρ') := by
  rw [s_setix, he, Option.bind_some]
  unfold setK
  simp only [hd, dd_mut, if_true, hi, Option.bind_some, key_T, imms_dd, memT_ky, decide_eq_false hn]
  have e : dd d t (ls ++ [w]) = .dT (ls.map ky ++ [ky w]) (ls.map (fun l => D.int (d t l : Nat)) ++ [.int (d t w : Nat)]) := by
    unfold dd
    rw [List.map_append, List.map_append]
    rfl
  rw [← hs, e]
  simp [hz]
/-- the inner loop's body -/
theorem in33 (k : Nat) {a0 a1 a2 a4 o9 : Option D} (hv : callF prog (k + 2) 24 [some (T v), some (Ex e)] = some (T (tn v e.1 e.2), [some (T v), some (Ex e)])) (hz : ls.length < sizeLine) (hz2 : la.length < sizeLine) (hd : tn v e.1 e.2 ∉ ls → d t (tn v e.1 e.2) = s + 1) :
    evSs (callF prog (k + 2)) [.asg (.nm 9) (.call 24 [.var 7, .var 8]), .ifs (.prim (.cmp .nin) [.var 9, .var 3]) [.setix 3 (.var 9) (.var 5), .expr (.meth .append 6 [.var 9])] []] [a0, a1, a2, some (dd d t ls), a4, some (.int ((s + 1 : Nat) : Int)), some (.lst (la.map T)), some (T v), some (Ex e), o9] =
      some (.nx, if tn v e.1 e.2 ∈ ls then [a0, a1, a2, some (dd d t ls), a4, some (.int ((s + 1 : Nat) : Int)), some (.lst (la.map T)), some (T v), some (Ex e), some (T (tn v e.1 e.2))]
        else [a0, a1, a2, some (dd d t (ls ++ [tn v e.1 e.2])), a4, some (.int ((s + 1 : Nat) : Int)), some (.lst ((la ++ [tn v e.1 e.2]).map T)), some (T v), some (Ex e), some (T (tn v e.1 e.2))]) := by
  generalize tn v e.1 e.2 = w at *
  have hnin := nin_dd (d := d) (t := t) (u := w) (ls := ls)
  have iw : (T w).imm = true := by simp
  have iv : (T v).imm = true := by simp
  have ie : (Ex e).imm = true := by simp
  have h1 : evS (callF prog (k + 2)) (.asg (.nm 9) (.call 24 [.var 7, .var 8])) [a0, a1, a2, some (dd d t ls), a4, some (.int ((s + 1 : Nat) : Int)), some (.lst (la.map T)), some (T v), some (Ex e), o9] = some (.nx, [a0, a1, a2, some (dd d t ls), a4, some (.int ((s + 1 : Nat) : Int)), some (.lst (la.map T)), some (T v), some (Ex e), some (T w)]) := by
    generalize T v = tv at *
    generalize T w = tw at *
    generalize Ex e = te at *
    simp [hv, iv, ie, iw]
  rw [ss_cons', h1, Option.bind_some, seqK_nx]
  by_cases hin : w ∈ ls
  · rw [if_pos hin]
    rw [decide_eq_true hin] at hnin
    generalize T w = tw at *
    generalize dd d t ls = td at *
    simp [prim2, hnin]
  · rw [if_neg hin]
    rw [decide_eq_false hin] at hnin
    have h2 := set_dd (cf := callF prog (k + 2)) (ρ := [a0, a1, a2, some (dd d t ls), a4, some (.int ((s + 1 : Nat) : Int)), some (.lst (la.map T)), some (T v), some (Ex e), some (T w)]) (ρ' := [a0, a1, a2, some (dd d t (ls ++ [w])), a4, some (.int ((s + 1 : Nat) : Int)), some (.lst (la.map T)), some (T v), some (Ex e), some (T w)]) (i := 3) (ix := .var 9) (e := .var 5) (d := d) (t := t) (w := w) (ls := ls) (by rw [hd hin]; simp) (by simp) rfl hin hz rfl
    have h3 := append_D (l := la.map T) (d := T w) (by rw [List.length_map]; exact hz2)
    rw [T_app] at h3
    generalize dd d t (ls ++ [w]) = td2 at *
    generalize D.lst ((la ++ [w]).map T) = tl2 at *
    generalize la.map T = tl at *
    generalize dd d t ls = td at *
    generalize T w = tw at *
    generalize ((s + 1 : Nat) : Int) = si at *
    simp [prim2, hnin, h2, h3, iw, isLst]
theorem lv_len {done : List Int → Nat × Nat → Prop} (h : Lv m d t s done ls la) (hm : m ∈ [3, 4, 5, 6]) : ls.length ≤ 1000 ∧ la.length ≤ 1000 := by
  have h1 := sub_len h.nd h.mem
  have h2 := sub_len h.ln fun l hl => ((h.lat l).mp hl).1
  have := rnds_le m hm
  omega
structure BF where
  ls : List (List Int)
  la : List (List Int)
  o7 : Option D
  o8 : Option D
  o9 : Option D
abbrev st33 (a0 a1 a2 a4 : Option D) (d : DV) (t : List Int) (s : Nat) (b : BF) : DL.Env := [a0, a1, a2, some (dd d t b.ls), a4, some (.int ((s + 1 : Nat) : Int)), some (.lst (b.la.map T)), b.o7, b.o8, b.o9]
theorem m_in {m : Nat} (h : m ∈ [3, 4, 5, 6]) : m ∈ [3, 4, 5, 6, 7] := by simp at h ⊢; omega
/-- a level of going out -/
theorem lev33 (k : Nat) (hm : m ∈ [3, 4, 5, 6]) (O : DstOk m d) (ht : t ∈ rnds m) (hL : Lev m d t s ls ed) {a1 a2 o7 o8 o9 : Option D} : ∃ b' : BF, Lev m d t (s + 1) b'.ls b'.la ∧
    evS (callF prog (k + 2)) (.for (.nm 7) (.seq (.var 4)) [.for (.nm 8) (.seq (.call 20 [.var 0])) [.asg (.nm 9) (.call 24 [.var 7, .var 8]), .ifs (.prim (.cmp .nin) [.var 9, .var 3]) [.setix 3 (.var 9) (.var 5), .expr (.meth .append 6 [.var 9])] []]]) (st33 (some (.int m)) a1 a2 (some (.lst (ed.map T))) d t s ⟨ls, [], o7, o8, o9⟩) = some (.nx, st33 (some (.int m)) a1 a2 (some (.lst (ed.map T))) d t s b') := by
  have z := sizeLine_eq
  have hm7 := m_in hm
  have Ro := rnd_ok m hm7
  obtain ⟨b', h1, h2⟩ := forI (ws := [(4, D.lst (ed.map T))]) (t := .nm 7) (body := fun r => evSs (callF prog (k + 2)) [.for (.nm 8) (.seq (.call 20 [.var 0])) [.asg (.nm 9) (.call 24 [.var 7, .var 8]), .ifs (.prim (.cmp .nin) [.var 9, .var 3]) [.setix 3 (.var 9) (.var 5), .expr (.meth .append 6 [.var 9])] []]] r)
    T (st33 (some (.int m)) a1 a2 (some (.lst (ed.map T))) d t s) (fun vs b => Lv m d t s (fun v' e' => (v' ∈ ed ∧ v' ∉ vs) ∧ e' ∈ exs m) b.ls b.la ∧ ∀ v ∈ vs, v ∈ ed)
    (xs := ed) (b := ⟨ls, [], o7, o8, o9⟩) ⟨lv_mono (lv_begin hL) fun v e h => h.1.2 h.1.1, fun v h => h⟩ (fun _ _ _ => by simp) (fun v vs b hb => by
      obtain ⟨g1, g2⟩ := hb
      have hve := (hL.ed v).mp (g2 v List.mem_cons_self)
      have e20 := f20 (k + 1) m hm7
      rw [prs1 m hm7] at e20
      obtain ⟨b2, q1, q2⟩ := forI (ws := []) (t := .nm 8) (body := fun r => evSs (callF prog (k + 2)) [.asg (.nm 9) (.call 24 [.var 7, .var 8]), .ifs (.prim (.cmp .nin) [.var 9, .var 3]) [.setix 3 (.var 9) (.var 5), .expr (.meth .append 6 [.var 9])] []] r)
        Ex (fun b : BF => st33 (some (.int m)) a1 a2 (some (.lst (ed.map T))) d t s ⟨b.ls, b.la, some (T v), b.o8, b.o9⟩) (fun es b => Lv m d t s (fun v' e' => ((v' ∈ ed ∧ v' ∉ v :: vs) ∧ e' ∈ exs m) ∨ (v' = v ∧ e' ∈ exs m ∧ e' ∉ es)) b.ls b.la ∧ ∀ e ∈ es, e ∈ exs m)
        (xs := exs m) (b := b) ⟨lv_mono g1 fun v' e' h => h.elim id fun h => absurd h.2.1 h.2.2, fun e h => h⟩ (fun _ _ _ => by simp) (fun e es b hb => by
          obtain ⟨p1, p2⟩ := hb
          have he := p2 e List.mem_cons_self
          have hR := Ro.tnR v hve.1 e he
          obtain ⟨s1, s2⟩ := lv_step O ht p1 hve.1 hve.2 he hR
          obtain ⟨z1, z2⟩ := lv_len p1 hm
          have hb := in33 (a0 := some (.int m)) (a1 := a1) (a2 := a2) (a4 := some (.lst (ed.map T))) (o9 := b.o9) (la := b.la) k (f24e k hm7 Ro hve.1 he) (by omega) (by omega) (fun h => (s2 h).1)
          have hmo : ∀ {A B}, Lv m d t s (fun v' e' => (((v' ∈ ed ∧ v' ∉ v :: vs) ∧ e' ∈ exs m) ∨ (v' = v ∧ e' ∈ exs m ∧ e' ∉ e :: es)) ∨ (v' = v ∧ e' = e)) A B → Lv m d t s (fun v' e' => ((v' ∈ ed ∧ v' ∉ v :: vs) ∧ e' ∈ exs m) ∨ (v' = v ∧ e' ∈ exs m ∧ e' ∉ es)) A B := fun h => lv_mono h fun v' e' q => by
            rcases q with q | ⟨q1, q2, q3⟩
            · exact .inl (.inl q)
            · by_cases hee : e' = e
              · exact .inr ⟨q1, hee⟩
              · exact .inl (.inr ⟨q1, q2, fun h => (List.mem_cons.mp h).elim hee q3⟩)
          by_cases hin : tn v e.1 e.2 ∈ b.ls
          · rw [if_pos hin] at hb
            exact ⟨_, ⟨b.ls, b.la, some (T v), some (Ex e), some (T (tn v e.1 e.2))⟩, by rw [bT_nm]; rfl, hb, hmo (s1 hin), fun x hx => p2 x (List.mem_cons_of_mem _ hx)⟩
          · rw [if_neg hin] at hb
            exact ⟨_, ⟨b.ls ++ [tn v e.1 e.2], b.la ++ [tn v e.1 e.2], some (T v), some (Ex e), some (T (tn v e.1 e.2))⟩, by rw [bT_nm]; rfl, hb, hmo (s2 hin).2, fun x hx => p2 x (List.mem_cons_of_mem _ hx)⟩)
      have hit : evIt (callF prog (k + 2)) (.seq (.call 20 [.var 0])) (st33 (some (.int m)) a1 a2 (some (.lst (ed.map T))) d t s ⟨b.ls, b.la, some (T v), b.o8, b.o9⟩) = some (((exs m).map Ex, []), st33 (some (.int m)) a1 a2 (some (.lst (ed.map T))) d t s ⟨b.ls, b.la, some (T v), b.o8, b.o9⟩) := by
        simp [e20, imms_Ex]
      refine ⟨_, ⟨b2.ls, b2.la, some (T v), b2.o8, b2.o9⟩, bT_nm, ?_, lv_mono q2.1 fun v' e' h => ?_, fun x hx => g2 x (List.mem_cons_of_mem _ hx)⟩
      · rw [ss_cons', s_for]
        show ((evIt (callF prog (k + 2)) (.seq (.call 20 [.var 0])) (st33 (some (.int m)) a1 a2 (some (.lst (ed.map T))) d t s ⟨b.ls, b.la, some (T v), b.o8, b.o9⟩)).bind _).bind _ = _
        rw [hit, Option.bind_some]
        simp only
        rw [q1]
        simp
      · by_cases hv : v' = v
        · exact .inr ⟨hv, h.2, by simp⟩
        · exact .inl ⟨⟨h.1.1, fun q => (List.mem_cons.mp q).elim hv h.1.2⟩, h.2⟩)
  refine ⟨b', lv_end O ht (lv_mono h2.1 fun v e h => ⟨⟨h.1, by simp⟩, h.2⟩) hL.ed, ?_⟩
  rw [s_for]
  have hit : evIt (callF prog (k + 2)) (.seq (.var 4)) (st33 (some (.int m)) a1 a2 (some (.lst (ed.map T))) d t s ⟨ls, [], o7, o8, o9⟩) = some ((ed.map T, [(4, D.lst (ed.map T))]), st33 (some (.int m)) a1 a2 (some (.lst (ed.map T))) d t s ⟨ls, [], o7, o8, o9⟩) := by
    simp [T_imms]
  rw [hit]
  exact h1
end
end LW
set_option maxHeartbeats 1000000
/-! BH34: going out from a round: the program's def, the law's def. -/
namespace LW
open PySem L2 DL
section
variable {m : Nat} {d : DV} {t u v : List Int} {ls la ed : List (List Int)} {s : Nat} {e : Nat × Nat}
theorem whl33 (hm : m ∈ [3, 4, 5, 6]) (O : DstOk m d) (ht : t ∈ rnds m) (hu : u ∈ rnds m) (k : Nat) : ∀ (n s fuel : Nat) (ls ed : List (List Int)) (o7 o8 o9 : Option D), Lev m d t s ls ed → d t u ≤ s + n → n < fuel →
    ∃ (s' : Nat) (ls' : List (List Int)) (ed' : Option D) (o5 o7' o8' o9' : Option D), u ∈ ls' ∧ whlF (fun r => (evE (callF prog (k + 2)) (.prim (.cmp .nin) [.var 2, .var 3]) r).bind boolC)
      (fun r => evSs (callF prog (k + 2)) [.par [5, 6] [.prim (.bin .add) [.var 5, .int 1], .disp false [] []], .for (.nm 7) (.seq (.var 4)) [.for (.nm 8) (.seq (.call 20 [.var 0])) [.asg (.nm 9) (.call 24 [.var 7, .var 8]), .ifs (.prim (.cmp .nin) [.var 9, .var 3]) [.setix 3 (.var 9) (.var 5), .expr (.meth .append 6 [.var 9])] []]], .asg (.nm 4) (.var 6)] r) fuel
      [some (.int m), some (T t), some (T u), some (dd d t ls), some (.lst (ed.map T)), some (.int (s : Nat)), none, o7, o8, o9] = some (.nx, [some (.int m), some (T t), some (T u), some (dd d t ls'), ed', o5, none, o7', o8', o9']) := by
  intro n
  induction n with
  | zero =>
    intro s fuel ls ed o7 o8 o9 hL hd hf
    obtain ⟨f, rfl⟩ : ∃ f, fuel = f + 1 := ⟨fuel - 1, by omega⟩
    have hin : u ∈ ls := (hL.all u).mpr ⟨hu, by omega⟩
    refine ⟨s, ls, some (.lst (ed.map T)), some (.int (s : Nat)), o7, o8, o9, hin, ?_⟩
    have hnin := nin_dd (d := d) (t := t) (u := u) (ls := ls)
    rw [decide_eq_true hin] at hnin
    rw [whlF]
    generalize T u = tu at *
    generalize dd d t ls = td at *
    simp [prim2, hnin]
  | succ n ih =>
    intro s fuel ls ed o7 o8 o9 hL hd hf
    obtain ⟨f, rfl⟩ : ∃ f, fuel = f + 1 := ⟨fuel - 1, by omega⟩
    have hnin := nin_dd (d := d) (t := t) (u := u) (ls := ls)
    by_cases hin : u ∈ ls
    · refine ⟨s, ls, some (.lst (ed.map T)), some (.int (s : Nat)), o7, o8, o9, hin, ?_⟩
      rw [decide_eq_true hin] at hnin
      rw [whlF]
      generalize T u = tu at *
      generalize dd d t ls = td at *
      simp [prim2, hnin]
    · rw [decide_eq_false hin] at hnin
      obtain ⟨b, hb, hfor⟩ := lev33 k hm O ht hL (a1 := some (T t)) (a2 := some (T u)) (o7 := o7) (o8 := o8) (o9 := o9)
      obtain ⟨s', ls', ed', o5, o7', o8', o9', q1, q2⟩ := ih (s + 1) f b.ls b.la b.o7 b.o8 b.o9 hb (by omega) (by omega)
      refine ⟨s', ls', ed', o5, o7', o8', o9', q1, ?_⟩
      have hc : (evE (callF prog (k + 2)) (.prim (.cmp .nin) [.var 2, .var 3]) [some (.int m), some (T t), some (T u), some (dd d t ls), some (.lst (ed.map T)), some (.int (s : Nat)), none, o7, o8, o9]).bind boolC = some (true, [some (.int m), some (T t), some (T u), some (dd d t ls), some (.lst (ed.map T)), some (.int (s : Nat)), none, o7, o8, o9]) := by
        clear ih hfor q2
        generalize T u = tu at *
        generalize dd d t ls = td at *
        simp [prim2, hnin]
      have hbd : evSs (callF prog (k + 2)) [.par [5, 6] [.prim (.bin .add) [.var 5, .int 1], .disp false [] []], .for (.nm 7) (.seq (.var 4)) [.for (.nm 8) (.seq (.call 20 [.var 0])) [.asg (.nm 9) (.call 24 [.var 7, .var 8]), .ifs (.prim (.cmp .nin) [.var 9, .var 3]) [.setix 3 (.var 9) (.var 5), .expr (.meth .append 6 [.var 9])] []]], .asg (.nm 4) (.var 6)] [some (.int m), some (T t), some (T u), some (dd d t ls), some (.lst (ed.map T)), some (.int (s : Nat)), none, o7, o8, o9] = some (.nx, [some (.int m), some (T t), some (T u), some (dd d t b.ls), some (.lst (b.la.map T)), some (.int ((s + 1 : Nat) : Int)), none, b.o7, b.o8, b.o9]) := by
        have h1 : evS (callF prog (k + 2)) (.par [5, 6] [.prim (.bin .add) [.var 5, .int 1], .disp false [] []]) [some (.int m), some (T t), some (T u), some (dd d t ls), some (.lst (ed.map T)), some (.int (s : Nat)), none, o7, o8, o9] = some (.nx, st33 (some (.int m)) (some (T t)) (some (T u)) (some (.lst (ed.map T))) d t s ⟨ls, [], o7, o8, o9⟩) := by
          simp [prim2]
        rw [ss_cons', h1, Option.bind_some, seqK_nx, ss_cons', hfor, Option.bind_some, seqK_nx]
        simp
      rw [whlF, hc]
      simp only
      rw [hbd]
      exact q2
theorem rnds_u (hm : m ∈ [3, 4, 5, 6]) (hu : u ∈ rnds m) : okR m u = true := (rnd_ok m (m_in hm)).ok u hu
theorem lev0 (O : DstOk m d) (ht : t ∈ rnds m) : Lev m d t 0 [t] [t] := by
  have h : ∀ l, l ∈ [t] ↔ l ∈ rnds m ∧ d t l = 0 := fun l => by
    rw [List.mem_singleton]
    constructor
    · rintro rfl
      exact ⟨ht, (O.zero l ht l ht).mpr rfl⟩
    · rintro ⟨h1, h2⟩
      exact ((O.zero t ht l h1).mp h2).symm
  exact ⟨by simp, fun l => (h l).trans ⟨fun ⟨a, b⟩ => ⟨a, by omega⟩, fun ⟨a, b⟩ => ⟨a, by omega⟩⟩, h⟩
theorem f33 (hm : m ∈ [3, 4, 5, 6]) (O : DstOk m d) (ht : t ∈ rnds m) (hu : u ∈ rnds m) (k : Nat) : callF prog (k + 7) 33 [some (.int m), some (T t), some (T u)] = some (.int (d t u : Nat), [some (.int m), some (T t), some (T u)]) := by
  have hm7 := m_in hm
  have Ro := rnd_ok m hm7
  have e8 := f8 (k + 2) m (m_le hm7)
  have e13 := f13r k hm7 Ro ht
  have e13' := f13r k hm7 Ro hu
  have hd := O.diam t ht u hu
  have hm' := m_le hm7
  obtain ⟨s', ls', ed', o5, o7', o8', o9', q1, q2⟩ := whl33 hm O ht hu (k + 4) 100 0 whFuel [t] [t] none none none (lev0 O ht) (by omega) (by decide)
  have z0 : d t t = 0 := (O.zero t ht t ht).mpr rfl
  have e1 : dd d t [t] = .dT [ky t] [.int 0] := by
    unfold dd
    simp [z0]
  rw [e1] at q2
  have q3 : evS (callF prog (k + 6)) (.whl (.prim (.cmp .nin) [.var 2, .var 3]) [.par [5, 6] [.prim (.bin .add) [.var 5, .int 1], .disp false [] []], .for (.nm 7) (.seq (.var 4)) [.for (.nm 8) (.seq (.call 20 [.var 0])) [.asg (.nm 9) (.call 24 [.var 7, .var 8]), .ifs (.prim (.cmp .nin) [.var 9, .var 3]) [.setix 3 (.var 9) (.var 5), .expr (.meth .append 6 [.var 9])] []]], .asg (.nm 4) (.var 6)])
      [some (.int m), some (T t), some (T u), some (.dT [ky t] [.int 0]), some (.lst [T t]), some (.int 0), none, none, none, none] = some (.nx, [some (.int m), some (T t), some (T u), some (dd d t ls'), ed', o5, none, o7', o8', o9']) := by
    rw [s_whl]
    exact q2
  have ei := ix_dd (d := d) (t := t) (u := u) (ls := ls') q1
  have ek := key_T t
  rw [callS (fn := ir33) rfl, callFn_eq]
  clear q2 e1
  have it : (T t).imm = true := by simp
  have iu : (T u).imm = true := by simp
  have z := sizeLine_eq
  generalize T t = tt at *
  generalize T u = tu at *
  generalize dd d t ls' = td at *
  simp [ir33, -s_whl, prim2, e8, e13, e13', it, iu, ek, z, q3, ei]
/-- the inner loop's body -/
theorem in51 (k : Nat) {a0 a1 a4 o9 : Option D} (hv : callF prog (k + 2) 48 [some (T v), some (Ex e)] = some (T (tn v e.1 e.2), [some (T v), some (Ex e)])) (hz : ls.length < sizeLine) (hz2 : la.length < sizeLine) (hd : tn v e.1 e.2 ∉ ls → d t (tn v e.1 e.2) = s + 1) :
    evSs (callF prog (k + 2)) [.asg (.nm 8) (.call 48 [.var 6, .var 7]), .ifs (.prim (.cmp .nin) [.var 8, .var 2]) [.setix 2 (.var 8) (.prim (.bin .add) [.var 4, .int 1]), .expr (.meth .append 5 [.var 8])] []] [a0, a1, some (dd d t ls), a4, some (.int (s : Nat)), some (.lst (la.map T)), some (T v), some (Ex e), o9] =
      some (.nx, if tn v e.1 e.2 ∈ ls then [a0, a1, some (dd d t ls), a4, some (.int (s : Nat)), some (.lst (la.map T)), some (T v), some (Ex e), some (T (tn v e.1 e.2))]
        else [a0, a1, some (dd d t (ls ++ [tn v e.1 e.2])), a4, some (.int (s : Nat)), some (.lst ((la ++ [tn v e.1 e.2]).map T)), some (T v), some (Ex e), some (T (tn v e.1 e.2))]) := by
  generalize tn v e.1 e.2 = w at *
  have hnin := nin_dd (d := d) (t := t) (u := w) (ls := ls)
  have iw : (T w).imm = true := by simp
  have iv : (T v).imm = true := by simp
  have ie : (Ex e).imm = true := by simp
  have h1 : evS (callF prog (k + 2)) (.asg (.nm 8) (.call 48 [.var 6, .var 7])) [a0, a1, some (dd d t ls), a4, some (.int (s : Nat)), some (.lst (la.map T)), some (T v), some (Ex e), o9] = some (.nx, [a0, a1, some (dd d t ls), a4, some (.int (s : Nat)), some (.lst (la.map T)), some (T v), some (Ex e), some (T w)]) := by
    generalize T v = tv at *
    generalize T w = tw at *
    generalize Ex e = te at *
    simp [hv, iv, ie, iw]
  rw [ss_cons', h1, Option.bind_some, seqK_nx]
  by_cases hin : w ∈ ls
  · rw [if_pos hin]
    rw [decide_eq_true hin] at hnin
    generalize T w = tw at *
    generalize dd d t ls = td at *
    simp [prim2, hnin]
  · rw [if_neg hin]
    rw [decide_eq_false hin] at hnin
    have h2 := set_dd (cf := callF prog (k + 2)) (ρ := [a0, a1, some (dd d t ls), a4, some (.int (s : Nat)), some (.lst (la.map T)), some (T v), some (Ex e), some (T w)]) (ρ' := [a0, a1, some (dd d t (ls ++ [w])), a4, some (.int (s : Nat)), some (.lst (la.map T)), some (T v), some (Ex e), some (T w)]) (i := 2) (ix := .var 8) (e := .prim (.bin .add) [.var 4, .int 1]) (d := d) (t := t) (w := w) (ls := ls) (by rw [hd hin]; simp [prim2]) (by simp) rfl hin hz rfl
    have h3 := append_D (l := la.map T) (d := T w) (by rw [List.length_map]; exact hz2)
    rw [T_app] at h3
    generalize dd d t (ls ++ [w]) = td2 at *
    generalize D.lst ((la ++ [w]).map T) = tl2 at *
    generalize la.map T = tl at *
    generalize dd d t ls = td at *
    generalize T w = tw at *
    generalize ((s : Nat) : Int) = si at *
    simp [prim2, hnin, h2, h3, iw, isLst]
abbrev st51 (a0 a1 a4 : Option D) (d : DV) (t : List Int) (s : Nat) (b : BF) : DL.Env := [a0, a1, some (dd d t b.ls), a4, some (.int (s : Nat)), some (.lst (b.la.map T)), b.o7, b.o8, b.o9]
/-- a level of going out -/
theorem lev51 (k : Nat) (hm : m ∈ [3, 4, 5, 6]) (O : DstOk m d) (ht : t ∈ rnds m) (hL : Lev m d t s ls ed) {a1 o7 o8 o9 : Option D} : ∃ b' : BF, Lev m d t (s + 1) b'.ls b'.la ∧
    evS (callF prog (k + 2)) (.for (.nm 6) (.seq (.var 3)) [.for (.nm 7) (.seq (.call 47 [.prim .len [.var 0]])) [.asg (.nm 8) (.call 48 [.var 6, .var 7]), .ifs (.prim (.cmp .nin) [.var 8, .var 2]) [.setix 2 (.var 8) (.prim (.bin .add) [.var 4, .int 1]), .expr (.meth .append 5 [.var 8])] []]]) (st51 (some (T t)) a1 (some (.lst (ed.map T))) d t s ⟨ls, [], o7, o8, o9⟩) = some (.nx, st51 (some (T t)) a1 (some (.lst (ed.map T))) d t s b') := by
  have z := sizeLine_eq
  have hm7 := m_in hm
  have Ro := rnd_ok m hm7
  obtain ⟨b', h1, h2⟩ := forI (ws := [(3, D.lst (ed.map T))]) (t := .nm 6) (body := fun r => evSs (callF prog (k + 2)) [.for (.nm 7) (.seq (.call 47 [.prim .len [.var 0]])) [.asg (.nm 8) (.call 48 [.var 6, .var 7]), .ifs (.prim (.cmp .nin) [.var 8, .var 2]) [.setix 2 (.var 8) (.prim (.bin .add) [.var 4, .int 1]), .expr (.meth .append 5 [.var 8])] []]] r)
    T (st51 (some (T t)) a1 (some (.lst (ed.map T))) d t s) (fun vs b => Lv m d t s (fun v' e' => (v' ∈ ed ∧ v' ∉ vs) ∧ e' ∈ exs m) b.ls b.la ∧ ∀ v ∈ vs, v ∈ ed)
    (xs := ed) (b := ⟨ls, [], o7, o8, o9⟩) ⟨lv_mono (lv_begin hL) fun v e h => h.1.2 h.1.1, fun v h => h⟩ (fun _ _ _ => by simp) (fun v vs b hb => by
      obtain ⟨g1, g2⟩ := hb
      have hve := (hL.ed v).mp (g2 v List.mem_cons_self)
      have e20 := f47 (k + 1) m hm7
      rw [prs1 m hm7] at e20
      obtain ⟨b2, q1, q2⟩ := forI (ws := []) (t := .nm 7) (body := fun r => evSs (callF prog (k + 2)) [.asg (.nm 8) (.call 48 [.var 6, .var 7]), .ifs (.prim (.cmp .nin) [.var 8, .var 2]) [.setix 2 (.var 8) (.prim (.bin .add) [.var 4, .int 1]), .expr (.meth .append 5 [.var 8])] []] r)
        Ex (fun b : BF => st51 (some (T t)) a1 (some (.lst (ed.map T))) d t s ⟨b.ls, b.la, some (T v), b.o8, b.o9⟩) (fun es b => Lv m d t s (fun v' e' => ((v' ∈ ed ∧ v' ∉ v :: vs) ∧ e' ∈ exs m) ∨ (v' = v ∧ e' ∈ exs m ∧ e' ∉ es)) b.ls b.la ∧ ∀ e ∈ es, e ∈ exs m)
        (xs := exs m) (b := b) ⟨lv_mono g1 fun v' e' h => h.elim id fun h => absurd h.2.1 h.2.2, fun e h => h⟩ (fun _ _ _ => by simp) (fun e es b hb => by
          obtain ⟨p1, p2⟩ := hb
          have he := p2 e List.mem_cons_self
          have hR := Ro.tnR v hve.1 e he
          obtain ⟨s1, s2⟩ := lv_step O ht p1 hve.1 hve.2 he hR
          obtain ⟨z1, z2⟩ := lv_len p1 hm
          have hb := in51 (a0 := some (T t)) (a1 := a1) (a4 := some (.lst (ed.map T))) (o9 := b.o9) (la := b.la) k (f48e k hm7 Ro hve.1 he) (by omega) (by omega) (fun h => (s2 h).1)
          have hmo : ∀ {A B}, Lv m d t s (fun v' e' => (((v' ∈ ed ∧ v' ∉ v :: vs) ∧ e' ∈ exs m) ∨ (v' = v ∧ e' ∈ exs m ∧ e' ∉ e :: es)) ∨ (v' = v ∧ e' = e)) A B → Lv m d t s (fun v' e' => ((v' ∈ ed ∧ v' ∉ v :: vs) ∧ e' ∈ exs m) ∨ (v' = v ∧ e' ∈ exs m ∧ e' ∉ es)) A B := fun h => lv_mono h fun v' e' q => by
            rcases q with q | ⟨q1, q2, q3⟩
            · exact .inl (.inl q)
            · by_cases hee : e' = e
              · exact .inr ⟨q1, hee⟩
              · exact .inl (.inr ⟨q1, q2, fun h => (List.mem_cons.mp h).elim hee q3⟩)
          by_cases hin : tn v e.1 e.2 ∈ b.ls
          · rw [if_pos hin] at hb
            exact ⟨_, ⟨b.ls, b.la, some (T v), some (Ex e), some (T (tn v e.1 e.2))⟩, by rw [bT_nm]; rfl, hb, hmo (s1 hin), fun x hx => p2 x (List.mem_cons_of_mem _ hx)⟩
          · rw [if_neg hin] at hb
            exact ⟨_, ⟨b.ls ++ [tn v e.1 e.2], b.la ++ [tn v e.1 e.2], some (T v), some (Ex e), some (T (tn v e.1 e.2))⟩, by rw [bT_nm]; rfl, hb, hmo (s2 hin).2, fun x hx => p2 x (List.mem_cons_of_mem _ hx)⟩)
      have hit : evIt (callF prog (k + 2)) (.seq (.call 47 [.prim .len [.var 0]])) (st51 (some (T t)) a1 (some (.lst (ed.map T))) d t s ⟨b.ls, b.la, some (T v), b.o8, b.o9⟩) = some (((exs m).map Ex, []), st51 (some (T t)) a1 (some (.lst (ed.map T))) d t s ⟨b.ls, b.la, some (T v), b.o8, b.o9⟩) := by
        have hl := Ro.len t ht
        simp [prim1, hl, e20, imms_Ex]
      refine ⟨_, ⟨b2.ls, b2.la, some (T v), b2.o8, b2.o9⟩, bT_nm, ?_, lv_mono q2.1 fun v' e' h => ?_, fun x hx => g2 x (List.mem_cons_of_mem _ hx)⟩
      · rw [ss_cons', s_for]
        show ((evIt (callF prog (k + 2)) (.seq (.call 47 [.prim .len [.var 0]])) (st51 (some (T t)) a1 (some (.lst (ed.map T))) d t s ⟨b.ls, b.la, some (T v), b.o8, b.o9⟩)).bind _).bind _ = _
        rw [hit, Option.bind_some]
        simp only
        rw [q1]
        simp
      · by_cases hv : v' = v
        · exact .inr ⟨hv, h.2, by simp⟩
        · exact .inl ⟨⟨h.1.1, fun q => (List.mem_cons.mp q).elim hv h.1.2⟩, h.2⟩)
  refine ⟨b', lv_end O ht (lv_mono h2.1 fun v e h => ⟨⟨h.1, by simp⟩, h.2⟩) hL.ed, ?_⟩
  rw [s_for]
  have hit : evIt (callF prog (k + 2)) (.seq (.var 3)) (st51 (some (T t)) a1 (some (.lst (ed.map T))) d t s ⟨ls, [], o7, o8, o9⟩) = some ((ed.map T, [(3, D.lst (ed.map T))]), st51 (some (T t)) a1 (some (.lst (ed.map T))) d t s ⟨ls, [], o7, o8, o9⟩) := by
    simp [T_imms]
  rw [hit]
  exact h1
end
end LW
set_option maxHeartbeats 1000000
/-! BI34: the law's going out; the law's own rounds. -/
namespace LW
open PySem L2 DL
theorem qs_step {cf : Cf} {s : S} {ss : List S} {ρ ρ1 : DL.Env} {r : Option (Fl × DL.Env)} (h : evS cf s ρ = some (.nx, ρ1)) (h2 : evSs cf ss ρ1 = r) : evSs cf (s :: ss) ρ = r := by
  rw [ss_cons', h, Option.bind_some, seqK_nx, h2]
theorem qs_done {cf : Cf} {ρ ρ1 : DL.Env} (h : ρ = ρ1) : evSs cf [] ρ = some (.nx, ρ1) := by rw [ss_nil', h]
theorem qs_ret {cf : Cf} {s : S} {ss : List S} {ρ ρ1 : DL.Env} {d : D} (h : evS cf s ρ = some (.rt d, ρ1)) : evSs cf (s :: ss) ρ = some (.rt d, ρ1) := by
  rw [ss_cons', h, Option.bind_some, seqK_rt]
section
variable {m : Nat} {d : DV} {t u v : List Int} {ls la ed : List (List Int)} {s : Nat} {e : Nat × Nat}
structure B51 where
  ls : List (List Int)
  ed : List (List Int)
  o4 : Option D
  o6 : Option D
  o7 : Option D
  o8 : Option D
theorem f51 (hm : m ∈ [3, 4, 5, 6]) (O : DstOk m d) (ht : t ∈ rnds m) (k : Nat) : ∃ ls, (ls.Nodup ∧ ∀ l, l ∈ ls ↔ l ∈ rnds m) ∧ callF prog (k + 3) 51 [some (T t), some (.int m)] = some (dd d t ls, [some (T t), some (.int m)]) := by
  have z := sizeLine_eq
  have hm7 := m_in hm
  have hm' := m_le hm7
  have hr : rangeD 0 (m : Int) = some ((List.range m).map fun i : Nat => D.int (i : Int)) := by
    have := rangeD_nat (a := 0) (b := m) (by omega) (by omega) (by omega)
    simpa using this
  obtain ⟨b', hb1, hb2⟩ := forI (ws := []) (t := .nm 4) (body := fun r => evSs (callF prog (k + 2)) [.asg (.nm 5) (.disp false [] []), .for (.nm 6) (.seq (.var 3)) [.for (.nm 7) (.seq (.call 47 [.prim .len [.var 0]])) [.asg (.nm 8) (.call 48 [.var 6, .var 7]), .ifs (.prim (.cmp .nin) [.var 8, .var 2]) [.setix 2 (.var 8) (.prim (.bin .add) [.var 4, .int 1]), .expr (.meth .append 5 [.var 8])] []]], .asg (.nm 3) (.var 5)] r)
    (fun i : Nat => D.int (i : Int)) (fun b : B51 => [some (T t), some (.int m), some (dd d t b.ls), some (.lst (b.ed.map T)), b.o4, none, b.o6, b.o7, b.o8])
    (fun xs b => ∃ i, xs = (List.range m).drop i ∧ i ≤ m ∧ Lev m d t i b.ls b.ed)
    (xs := List.range m) (b := ⟨[t], [t], none, none, none, none⟩) ⟨0, by simp, by omega, lev0 O ht⟩ (fun _ _ _ => by simp) (fun x xs b hb => by
      obtain ⟨i, g1, g2, g3⟩ := hb
      have hi : i < m := by
        have := congrArg List.length g1
        simp at this
        omega
      rw [List.drop_eq_getElem_cons (by simpa using hi)] at g1
      obtain ⟨rfl, rfl⟩ := List.cons.inj g1
      simp only [List.getElem_range] at *
      obtain ⟨b2, q1, q2⟩ := lev51 k hm O ht g3 (a1 := some (.int m)) (o7 := b.o6) (o8 := b.o7) (o9 := b.o8)
      refine ⟨_, ⟨b2.ls, b2.la, some (.int (i : Int)), b2.o7, b2.o8, b2.o9⟩, bT_nm, ?_, i + 1, rfl, by omega, q1⟩
      refine qs_step (ρ1 := st51 (some (T t)) (some (.int m)) (some (.lst (b.ed.map T))) d t i ⟨b.ls, [], b.o6, b.o7, b.o8⟩) (by simp) ?_
      refine qs_step q2 ?_
      simp)
  obtain ⟨i, g1, g2, g3⟩ := hb2
  have hi : i = m := by
    have := congrArg List.length g1
    simp at this
    omega
  subst hi
  refine ⟨b'.ls, ⟨g3.nd, fun l => (g3.all l).trans ⟨fun h => h.1, fun h => ⟨h, by have := O.diam t ht l h; omega⟩⟩⟩, ?_⟩
  have z0 : d t t = 0 := (O.zero t ht t ht).mpr rfl
  have e1 : dd d t [t] = .dT [ky t] [.int 0] := by
    unfold dd
    simp [z0]
  simp only [e1] at hb1
  have q3 : evS (callF prog (k + 2)) (.for (.nm 4) (.rng [.var 1]) [.asg (.nm 5) (.disp false [] []), .for (.nm 6) (.seq (.var 3)) [.for (.nm 7) (.seq (.call 47 [.prim .len [.var 0]])) [.asg (.nm 8) (.call 48 [.var 6, .var 7]), .ifs (.prim (.cmp .nin) [.var 8, .var 2]) [.setix 2 (.var 8) (.prim (.bin .add) [.var 4, .int 1]), .expr (.meth .append 5 [.var 8])] []]], .asg (.nm 3) (.var 5)])
      [some (T t), some (.int i), some (.dT [ky t] [.int 0]), some (.lst [T t]), none, none, none, none, none] = some (.nx, [some (T t), some (.int i), some (dd d t b'.ls), some (.lst (b'.ed.map T)), b'.o4, none, b'.o6, b'.o7, b'.o8]) := by
    rw [s_for]
    have hit : evIt (callF prog (k + 2)) (.rng [.var 1]) [some (T t), some (.int i), some (.dT [ky t] [.int 0]), some (.lst [T t]), none, none, none, none, none] = some (((List.range i).map fun i : Nat => D.int (i : Int), []), [some (T t), some (.int i), some (.dT [ky t] [.int 0]), some (.lst [T t]), none, none, none, none, none]) := by
      simp [hr]
    rw [hit]
    exact hb1
  have ek := key_T t
  rw [callS (fn := ir51) rfl, callFn_eq]
  clear hb1 e1
  have it : (T t).imm = true := by simp
  have im : (dd d t b'.ls).imm = false := rfl
  generalize T t = tt at *
  generalize dd d t b'.ls = td at *
  simp [ir51, -s_for, it, ek, z, q3, im]
end
theorem f42_3 (k : Nat) : callF prog (k + 1) 42 [some (.int (3 : Nat))] = some (.lst ((rnds 3).map T), [some (.int (3 : Nat))]) := by kernel_rfl
theorem f42_4 (k : Nat) : callF prog (k + 1) 42 [some (.int (4 : Nat))] = some (.lst ((rnds 4).map T), [some (.int (4 : Nat))]) := by kernel_rfl
theorem f42_5 (k : Nat) : callF prog (k + 1) 42 [some (.int (5 : Nat))] = some (.lst ((rnds 5).map T), [some (.int (5 : Nat))]) := by kernel_rfl
theorem f42_6 (k : Nat) : callF prog (k + 1) 42 [some (.int (6 : Nat))] = some (.lst ((rnds 6).map T), [some (.int (6 : Nat))]) := by kernel_rfl
theorem f42 (k : Nat) : ∀ m : Nat, m ∈ [3, 4, 5, 6] → callF prog (k + 1) 42 [some (.int m)] = some (.lst ((rnds m).map T), [some (.int m)])
  | 3, _ => f42_3 k
  | 4, _ => f42_4 k
  | 5, _ => f42_5 k
  | 6, _ => f42_6 k
  | 0, h | 1, h | 2, h | _ + 7, h => by simp at h
end LW
set_option maxHeartbeats 1000000
/-! BJ34: rows that draw. -/
namespace LW
open PySem L2 DL
theorem pot_mono {p : D} {n n' : Nat} (h : PotOk p n) (hn : n ≤ n') : PotOk p n' := by
  obtain ⟨a, b, c, rfl, g1, g2, g3, g4, g5⟩ := h
  exact ⟨a, b, c, rfl, g1, g2, g3, g4, by omega⟩
section
variable {own : List Nat} {t : Tg} {ws : List (Nat × D)} {elt : DL.Env → Option (D × DL.Env)} {cond : DL.Env → Option (Bool × DL.Env)}
/-- a row whose cells draw c numbers each -/
theorem comp_pot (st : D → DL.Env) (c B : Nat) (Pv : D → D → Prop) : ∀ {ds acc : List D} {p : D} {n0 : Nat}, PotOk p n0 → n0 + c * ds.length ≤ B → (∀ p, watch (st p) ws = true) →
    (∀ d ∈ ds, ∀ p n, n ≤ B → PotOk p n → ∃ ρ1 v ρ3 p', bindT t d (st p) = some ρ1 ∧ cond ρ1 = some (true, ρ1) ∧ elt ρ1 = some (v, ρ3) ∧ ewipe ρ3 own = st p' ∧ PotOk p' (n + c) ∧ Pv d v) → acc.length + ds.length ≤ sizeLine →
    ∃ vs p', compL ws own t cond elt ds (st p) acc = some (acc ++ vs, st p') ∧ PotOk p' (n0 + c * ds.length) ∧ PySem.Paired Pv ds vs
  | [], acc, p, n0, h0, _, hw, _, _ => ⟨[], p, by rw [compL, if_pos (hw p)]; simp, by simpa using h0, .nil⟩
  | d :: ds, acc, p, n0, h0, hB, hw, h, hz => by
    rw [List.length_cons] at hz hB
    have hm : c * (ds.length + 1) = c * ds.length + c := by rw [Nat.mul_add, Nat.mul_one]
    obtain ⟨ρ1, v, ρ3, p', h1, h2, h3, h4, h5, h6⟩ := h d List.mem_cons_self p n0 (by omega) h0
    obtain ⟨vs, p2, q1, q2, q3⟩ := comp_pot (acc := acc ++ [v]) st c B Pv h5 (by omega) hw (fun d hd => h d (List.mem_cons_of_mem _ hd)) (by rw [List.length_append, List.length_singleton]; omega)
    refine ⟨v :: vs, p2, ?_, pot_mono q2 (by rw [List.length_cons]; omega), .cons h6 q3⟩
    rw [compL, if_pos (hw p), h1]
    simp only [h2, h3]
    rw [if_pos (decide_eq_true (by omega)), h4, q1]
    simp
/-- .. whose condition draws -/
theorem comp_potF (st : D → DL.Env) (c B : Nat) (Pv : D → Prop) : ∀ {ds acc : List D} {p : D} {n0 : Nat}, PotOk p n0 → n0 + c * ds.length ≤ B → (∀ p, watch (st p) ws = true) →
    (∀ d ∈ ds, ∀ p n, n ≤ B → PotOk p n → ∃ ρ1 b ρ2 p', bindT t d (st p) = some ρ1 ∧ cond ρ1 = some (b, ρ2) ∧ PotOk p' (n + c) ∧ (b = false → ewipe ρ2 own = st p') ∧ (b = true → ∃ v ρ3, elt ρ2 = some (v, ρ3) ∧ ewipe ρ3 own = st p' ∧ Pv v)) → acc.length + ds.length ≤ sizeLine →
    ∃ vs p', compL ws own t cond elt ds (st p) acc = some (acc ++ vs, st p') ∧ PotOk p' (n0 + c * ds.length) ∧ (∀ v ∈ vs, Pv v) ∧ vs.length ≤ ds.length
  | [], acc, p, n0, h0, _, hw, _, _ => ⟨[], p, by rw [compL, if_pos (hw p)]; simp, by simpa using h0, by simp, by simp⟩
  | d :: ds, acc, p, n0, h0, hB, hw, h, hz => by
    rw [List.length_cons] at hz hB
    have hm : c * (ds.length + 1) = c * ds.length + c := by rw [Nat.mul_add, Nat.mul_one]
    obtain ⟨ρ1, b, ρ2, p', h1, h2, h3, h4, h5⟩ := h d List.mem_cons_self p n0 (by omega) h0
    cases b with
    | true =>
      obtain ⟨v, ρ3, g1, g2, g3⟩ := h5 rfl
      obtain ⟨vs, p2, q1, q2, q3, q4⟩ := comp_potF (acc := acc ++ [v]) st c B Pv h3 (by omega) hw (fun d hd => h d (List.mem_cons_of_mem _ hd)) (by rw [List.length_append, List.length_singleton]; omega)
      refine ⟨v :: vs, p2, ?_, pot_mono q2 (by rw [List.length_cons]; omega), fun x hx => ?_, by rw [List.length_cons, List.length_cons]; omega⟩
      · rw [compL, if_pos (hw p), h1]
        simp only [h2, g1]
        rw [if_pos (decide_eq_true (by omega)), g2, q1]
        simp
      · rcases List.mem_cons.mp hx with rfl | hx
        · exact g3
        · exact q3 x hx
    | false =>
      obtain ⟨vs, p2, q1, q2, q3, q4⟩ := comp_potF (acc := acc) st c B Pv h3 (by omega) hw (fun d hd => h d (List.mem_cons_of_mem _ hd)) (by omega)
      refine ⟨vs, p2, ?_, pot_mono q2 (by rw [List.length_cons]; omega), q3, by rw [List.length_cons]; omega⟩
      rw [compL, if_pos (hw p), h1]
      simp only [h2]
      rw [h4 rfl, q1]
/-- .. as expressions -/
theorem ev_pot {cf : Cf} {e : E} {it : DL.It} {ds : List D} {p : D} {n0 : Nat} (st : D → DL.Env) (c B : Nat) (Pv : D → D → Prop) (hit : evIt cf it (st p) = some ((ds, ws), st p)) (hst : ewipe (st p) own = st p) (h0 : PotOk p n0) (hB : n0 + c * ds.length ≤ B) (hw : ∀ p, watch (st p) ws = true)
    (h : ∀ d ∈ ds, ∀ p n, n ≤ B → PotOk p n → ∃ ρ1 v ρ3 p', bindT t d (st p) = some ρ1 ∧ evE cf e ρ1 = some (v, ρ3) ∧ ewipe ρ3 own = st p' ∧ PotOk p' (n + c) ∧ Pv d v) (hz : ds.length ≤ sizeLine) (hr : ∀ p', erest (st p) (st p') own = st p') :
    ∃ vs p', evE cf (.comp own t it [] e) (st p) = some (.lst vs, st p') ∧ PotOk p' (n0 + c * ds.length) ∧ PySem.Paired Pv ds vs := by
  obtain ⟨vs, p', q1, q2, q3⟩ := comp_pot (own := own) (t := t) (ws := ws) (elt := fun r => evE cf e r) (cond := fun r => evCs cf [] r) st c B Pv (ds := ds) (acc := []) h0 hB hw (fun d hd p n hn hp => by
    obtain ⟨ρ1, v, ρ3, p', g1, g2, g3, g4, g5⟩ := h d hd p n hn hp
    exact ⟨ρ1, v, ρ3, p', g1, cs_nil, g2, g3, g4, g5⟩) (by simpa using hz)
  refine ⟨vs, p', ?_, q2, q3⟩
  rw [ev_comp, hit, Option.bind_some]
  show (compL ws own t (fun r => evCs cf [] r) (fun r => evE cf e r) ds (ewipe (st p) own) []).map _ = _
  rw [hst, q1, Option.map_some]
  simp only [List.nil_append]
  rw [hr]
theorem ev_potF {cf : Cf} {e ce : E} {it : DL.It} {ds : List D} {p : D} {n0 : Nat} (st : D → DL.Env) (c B : Nat) (Pv : D → Prop) (hit : evIt cf it (st p) = some ((ds, ws), st p)) (hst : ewipe (st p) own = st p) (h0 : PotOk p n0) (hB : n0 + c * ds.length ≤ B) (hw : ∀ p, watch (st p) ws = true)
    (h : ∀ d ∈ ds, ∀ p n, n ≤ B → PotOk p n → ∃ ρ1 b ρ2 p', bindT t d (st p) = some ρ1 ∧ evE cf ce ρ1 = some (.bl b, ρ2) ∧ PotOk p' (n + c) ∧ (b = false → ewipe ρ2 own = st p') ∧ (b = true → ∃ v ρ3, evE cf e ρ2 = some (v, ρ3) ∧ ewipe ρ3 own = st p' ∧ Pv v)) (hz : ds.length ≤ sizeLine) (hr : ∀ p', erest (st p) (st p') own = st p') :
    ∃ vs p', evE cf (.comp own t it [ce] e) (st p) = some (.lst vs, st p') ∧ PotOk p' (n0 + c * ds.length) ∧ (∀ v ∈ vs, Pv v) ∧ vs.length ≤ ds.length := by
  obtain ⟨vs, p', q1, q2, q3⟩ := comp_potF (own := own) (t := t) (ws := ws) (elt := fun r => evE cf e r) (cond := fun r => evCs cf [ce] r) st c B Pv (ds := ds) (acc := []) h0 hB hw (fun d hd p n hn hp => by
    obtain ⟨ρ1, b, ρ2, p', g1, g2, g3⟩ := h d hd p n hn hp
    exact ⟨ρ1, b, ρ2, p', g1, by rw [cs_one, g2]; rfl, g3⟩) (by simpa using hz)
  refine ⟨vs, p', ?_, q2, q3⟩
  rw [ev_comp, hit, Option.bind_some]
  show (compL ws own t (fun r => evCs cf [ce] r) (fun r => evE cf e r) ds (ewipe (st p) own) []).map _ = _
  rw [hst, q1, Option.map_some]
  simp only [List.nil_append]
  rw [hr]
end
theorem paired_ints {lo hi : Int} : ∀ {ds vs : List D}, PySem.Paired (fun _ v => ∃ i : Int, v = .int i ∧ lo ≤ i ∧ i ≤ hi) ds vs → ∃ is : List Int, vs = is.map D.int ∧ is.length = ds.length ∧ ∀ i ∈ is, lo ≤ i ∧ i ≤ hi := by
  intro ds vs h
  induction h with
  | nil => exact ⟨[], rfl, rfl, by simp⟩
  | cons h _ ih =>
    obtain ⟨i, rfl, hi⟩ := h
    obtain ⟨is, rfl, g1, g2⟩ := ih
    exact ⟨i :: is, rfl, by simp [g1], fun x hx => (List.mem_cons.mp hx).elim (fun e => e ▸ hi) (g2 x)⟩
theorem all_ints {vs : List D} (h : ∀ v ∈ vs, ∃ i : Int, v = .int i) : ∃ is : List Int, vs = is.map D.int := by
  induction vs with
  | nil => exact ⟨[], rfl⟩
  | cons v vs ih =>
    obtain ⟨i, rfl⟩ := h v List.mem_cons_self
    obtain ⟨is, rfl⟩ := ih fun x hx => h x (List.mem_cons_of_mem _ hx)
    exact ⟨i :: is, rfl⟩
section
variable {m n : Nat} {p : D}
theorem prs_el {d : D} (h : d ∈ prs 0 m) : ∃ i j : Nat, d = .tup [.int (i : Nat), .int (j : Nat)] ∧ i < m ∧ j < m := by
  obtain ⟨i, hi, h⟩ := List.mem_flatMap.mp h
  rw [if_pos (Nat.zero_le _)] at h
  obtain ⟨j, hj, rfl⟩ := List.mem_map.mp h
  exact ⟨i, j, rfl, List.mem_range.mp hi, List.mem_range.mp (List.mem_filter.mp hj).1⟩
/-- draws of tables, the third kind -/
theorem f49c (k : Nat) (h : PotOk p n) (hm : m ∈ [3, 4, 5, 6, 7]) (hn : n < 1000000000) {x : Int} (hx : 0 < x ∧ x ≤ 100) {o2 o3 o4 o5 o6 : Option D} :
    ∃ vs p', TabV m vs ∧ PotOk p' (n + 100) ∧ evS (callF prog (k + 2)) (.ret (.disp true [false, false] [.var 1, .prim .tuple [.comp [11] (.nm 11) (.seq (.call 39 [.var 1])) [] (.prim .int [.call 35 [.var 0, .var 7]])]])) [some p, some (.int m), o2, o3, o4, o5, o6, some (.int x), none, none, none, none] = some (.rt (tab m vs), [some p', some (.int m), o2, o3, o4, o5, o6, some (.int x), none, none, none, none]) := by
  have z := sizeLine_eq
  obtain ⟨q1, q2, q3, q4, q5⟩ := pks_ok m hm
  have e39 := f39 (k + 1) m hm
  obtain ⟨vs, p', g1, g2, g3⟩ := ev_pot (own := [11]) (t := .nm 11) (ws := []) (cf := callF prog (k + 2)) (it := .seq (.call 39 [.var 1])) (ds := prs 0 m) (e := .prim .int [.call 35 [.var 0, .var 7]])
    (fun p => [some p, some (.int m), o2, o3, o4, o5, o6, some (.int x), none, none, none, none]) 1 2000000000 (fun _ v => ∃ i : Int, v = .int i ∧ 0 ≤ i ∧ i ≤ 99) (by simp [e39, q4]) (by simp) h (by omega) (by simp) (fun d hd p n hn hp => by
      obtain ⟨i, p', c1, c2, c3, c4⟩ := f35 (k + 1) (u := x) hp (by omega) (by omega)
      refine ⟨_, .int i, [some p', some (.int m), o2, o3, o4, o5, o6, some (.int x), none, none, none, some d], p', bT_nm, ?_, by simp, c4, i, rfl, c2, by omega⟩
      have i1 := pot_imm hp
      have i2 := pot_imm c4
      simp [prim1, intD, c1, i1, i2]) (by omega) (by simp)
  obtain ⟨is, rfl, w1, w2⟩ := paired_ints g3
  refine ⟨is, p', ⟨hm, by rw [w1, q3], w2⟩, pot_mono g2 (by omega), ?_⟩
  have e2 : tupleD (.lst (is.map D.int)) = some (T is) := by simp [tupleD]
  simp [-ev_comp, g1, prim1, e2, z]
end
end LW
set_option maxHeartbeats 1000000
/-! BK34: drawn tables. -/
namespace LW
open PySem L2 DL
section
variable {m n : Nat} {p : D}
theorem paired_all {P : D → Prop} : ∀ {ds vs : List D}, PySem.Paired (fun _ v => P v) ds vs → vs.length = ds.length ∧ ∀ v ∈ vs, P v := by
  intro ds vs h
  induction h with
  | nil => exact ⟨rfl, by simp⟩
  | cons h _ ih => exact ⟨by simp [ih.1], fun x hx => (List.mem_cons.mp hx).elim (fun e => e ▸ h) (ih.2 x)⟩
theorem range_at (hm : m ∈ [3, 4, 5, 6, 7]) : rangeD 0 (m : Int) = some ((List.range m).map fun i : Nat => D.int (i : Int)) := by
  have hm' := m_le hm
  have := rangeD_nat (a := 0) (b := m) (by omega) (by omega) (by omega)
  simpa using this
theorem prs_tup {l : List D} (h : ∀ d ∈ l, ∃ i j : Nat, d = .tup [.int (i : Nat), .int (j : Nat)] ∧ i < m ∧ j < m) : l.all isTupD = true := List.all_eq_true.mpr fun d hd => by
  obtain ⟨i, j, rfl, _⟩ := h d hd
  rfl
abbrev Pt (v : D) : Prop := ∃ a b : Int, v = .tup [.int a, .int b] ∧ 0 ≤ a ∧ a ≤ 8 ∧ 0 ≤ b ∧ b ≤ 8
theorem pts_imms : ∀ {l : List D}, (∀ v ∈ l, Pt v) → D.imms l = true
  | [], _ => by simp
  | v :: l, h => by
    obtain ⟨a, b, rfl, _⟩ := h v List.mem_cons_self
    have := pts_imms fun x hx => h x (List.mem_cons_of_mem _ hx)
    simp [this]
/-- draws of tables, the first kind -/
theorem f49a (k : Nat) (h : PotOk p n) (hm : m ∈ [3, 4, 5, 6, 7]) (hn : n < 1000000000) {o2 : Option D} :
    ∃ vs p' ρ', TabV m vs ∧ PotOk p' (n + 200) ∧ evSs (callF prog (k + 2)) [.asg (.nm 3) (.comp [8] (.nm 8) (.rng [.var 1]) [] (.disp true [false, false] [.prim .int [.call 35 [.var 0, .int 9]], .prim .int [.call 35 [.var 0, .int 9]]])), .asg (.nm 4) (.comp [9, 10] (.tp [.nm 9, .nm 10]) (.seqT (.call 39 [.var 1])) [] (.prim (.bin .add) [.prim .abs [.prim (.bin .sub) [.prim .ix [.prim .ix [.var 3, .var 9], .int 0], .prim .ix [.prim .ix [.var 3, .var 10], .int 0]]], .prim .abs [.prim (.bin .sub) [.prim .ix [.prim .ix [.var 3, .var 9], .int 1], .prim .ix [.prim .ix [.var 3, .var 10], .int 1]]]])), .ret (.disp true [false, false] [.var 1, .prim .tuple [.var 4]])]
      [some p, some (.int m), o2, none, none, none, none, none, none, none, none, none] = some (.rt (tab m vs), some p' :: some (.int m) :: ρ') := by
  have z := sizeLine_eq
  have hm' := m_le hm
  obtain ⟨q1, q2, q3, q4, q5⟩ := pks_ok m hm
  have e39 := f39 (k + 1) m hm
  have hr := range_at hm
  obtain ⟨ats, p', g1, g2, g3⟩ := ev_pot (own := [8]) (t := .nm 8) (ws := []) (cf := callF prog (k + 2)) (it := .rng [.var 1]) (ds := (List.range m).map fun i : Nat => D.int (i : Int)) (e := .disp true [false, false] [.prim .int [.call 35 [.var 0, .int 9]], .prim .int [.call 35 [.var 0, .int 9]]])
    (fun p => [some p, some (.int m), o2, none, none, none, none, none, none, none, none, none]) 2 2000000000 (fun _ v => Pt v) (by simp [hr]) (by simp) h (by simp; omega) (by simp) (fun d hd p n hn hp => by
      obtain ⟨i, p1, c1, c2, c3, c4⟩ := f35 (k + 1) (u := 9) hp (by omega) (by omega)
      obtain ⟨j, p2, d1, d2, d3, d4⟩ := f35 (k + 1) (u := 9) c4 (by omega) (by omega)
      refine ⟨_, .tup [.int i, .int j], [some p2, some (.int m), o2, none, none, none, none, none, some d, none, none, none], p2, bT_nm, ?_, by simp, d4, i, j, rfl, c2, by omega, d2, by omega⟩
      have i1 := pot_imm hp
      have i2 := pot_imm c4
      have i3 := pot_imm d4
      simp [prim1, intD, c1, d1, i1, i2, i3, z]) (by simp; omega) (by simp)
  obtain ⟨w1, w2⟩ := paired_all g3
  rw [List.length_map, List.length_range] at w1 g2
  have hat : ∀ i : Nat, i < m → ∃ a b : Int, ixD (.lst ats) (.int (i : Int)) = some (.tup [.int a, .int b]) ∧ 0 ≤ a ∧ a ≤ 8 ∧ 0 ≤ b ∧ b ≤ 8 := fun i hi => by
    obtain ⟨x, y1, y2, y3, y4⟩ := ix_at (xs := ats) (i := (i : Int)) (by omega) (pts_imms w2)
    obtain ⟨a, b, rfl, r⟩ := w2 x y1
    exact ⟨a, b, y3, r⟩
  obtain ⟨ls, p2, g4, g5, g6⟩ := ev_pot (own := [9, 10]) (t := .tp [.nm 9, .nm 10]) (ws := []) (cf := callF prog (k + 2)) (it := .seqT (.call 39 [.var 1])) (ds := prs 0 m) (e := .prim (.bin .add) [.prim .abs [.prim (.bin .sub) [.prim .ix [.prim .ix [.var 3, .var 9], .int 0], .prim .ix [.prim .ix [.var 3, .var 10], .int 0]]], .prim .abs [.prim (.bin .sub) [.prim .ix [.prim .ix [.var 3, .var 9], .int 1], .prim .ix [.prim .ix [.var 3, .var 10], .int 1]]]])
    (fun p => [some p, some (.int m), o2, some (.lst ats), none, none, none, none, none, none, none, none]) 0 2000000000 (fun _ v => ∃ i : Int, v = .int i ∧ 0 ≤ i ∧ i ≤ 99) (by simp [e39, q4]; exact List.all_eq_true.mp (prs_tup fun d hd => prs_el hd)) (by simp) g2 (by omega) (by simp) (fun d hd p n hn hp => by
      obtain ⟨i, j, rfl, hi, hj⟩ := prs_el hd
      obtain ⟨a, b, r1, r2⟩ := hat i hi
      obtain ⟨a', b', s1, s2⟩ := hat j hj
      have x0 : ∀ x y : Int, ixD (.tup [.int x, .int y]) (.int 0) = some (.int x) := fun _ _ => rfl
      have x1 : ∀ x y : Int, ixD (.tup [.int x, .int y]) (.int 1) = some (.int y) := fun _ _ => rfl
      refine ⟨[some p, some (.int m), o2, some (.lst ats), none, none, none, none, none, some (.int i), some (.int j), none], .int ((if a - a' < 0 then -(a - a') else a - a') + (if b - b' < 0 then -(b - b') else b - b')), [some p, some (.int m), o2, some (.lst ats), none, none, none, none, none, some (.int i), some (.int j), none], p, by simp, ?_, by simp, hp, _, rfl, by split <;> split <;> omega, by split <;> split <;> omega⟩
      simp [prim1, prim2, r1, s1, x0, x1, absD]) (by omega) (by simp)
  obtain ⟨is, rfl, v1, v2⟩ := paired_ints g6
  refine ⟨is, p2, [o2, some (.lst ats), some (.lst (is.map D.int)), none, none, none, none, none, none, none], ⟨hm, by rw [v1, q3], v2⟩, pot_mono g5 (by omega), ?_⟩
  have e2 : tupleD (.lst (is.map D.int)) = some (T is) := by simp [tupleD]
  refine qs_step (ρ1 := [some p', some (.int m), o2, some (.lst ats), none, none, none, none, none, none, none, none]) (by rw [s_asg, g1]; simp) ?_
  refine qs_step (ρ1 := [some p2, some (.int m), o2, some (.lst ats), some (.lst (is.map D.int)), none, none, none, none, none, none, none]) (by rw [s_asg, g4]; simp) ?_
  exact qs_ret (ρ1 := [some p2, some (.int m), o2, some (.lst ats), some (.lst (is.map D.int)), none, none, none, none, none, none, none]) (by simp [prim1, e2, z])
/-- .. the second kind -/
theorem f49b (k : Nat) (h : PotOk p n) (hm : m ∈ [3, 4, 5, 6, 7]) (hn : n < 1000000000) {o2 : Option D} :
    ∃ vs p' ρ', TabV m vs ∧ PotOk p' (n + 200) ∧ evSs (callF prog (k + 2)) [.asg (.tp [.nm 5, .nm 6]) (.disp true [false, false] [.prim .int [.prim (.bin .add) [.int 10, .call 35 [.var 0, .int 40]]], .comp [8] (.nm 8) (.rng [.var 1]) [.prim (.cmp .eq) [.call 35 [.var 0, .int 2], .int 0]] (.var 8)]), .asg (.nm 4) (.comp [9, 10] (.tp [.nm 9, .nm 10]) (.seqT (.call 39 [.var 1])) [] (.prim (.bin .add) [.prim .int [.call 35 [.var 0, .int 4]], .ife (.prim (.cmp .eq) [.prim (.cmp .inn) [.var 9, .var 6], .prim (.cmp .inn) [.var 10, .var 6]]) (.int 0) (.var 5)])), .ret (.disp true [false, false] [.var 1, .prim .tuple [.var 4]])]
      [some p, some (.int m), o2, none, none, none, none, none, none, none, none, none] = some (.rt (tab m vs), some p' :: some (.int m) :: ρ') := by
  have z := sizeLine_eq
  have hm' := m_le hm
  obtain ⟨q1, q2, q3, q4, q5⟩ := pks_ok m hm
  have e39 := f39 (k + 1) m hm
  have hr := range_at hm
  obtain ⟨i0, p0, c1, c2, c3, c4⟩ := f35 (k + 1) (u := 40) h (by omega) (by omega)
  obtain ⟨lot, p', g1, g2, g3, g3'⟩ := ev_potF (own := [8]) (t := .nm 8) (ws := []) (cf := callF prog (k + 2)) (it := .rng [.var 1]) (ds := (List.range m).map fun i : Nat => D.int (i : Int)) (ce := .prim (.cmp .eq) [.call 35 [.var 0, .int 2], .int 0]) (e := .var 8)
    (fun p => [some p, some (.int m), o2, none, none, none, none, none, none, none, none, none]) 1 2000000000 (fun v => ∃ i : Int, v = .int i) (by simp [hr]) (by simp) c4 (by simp; omega) (by simp) (fun d hd p n hn hp => by
      obtain ⟨x, _, rfl⟩ := List.mem_map.mp hd
      obtain ⟨i, p1, c1, c2, c3, c4⟩ := f35 (k + 1) (u := 2) hp (by omega) (by omega)
      have i1 := pot_imm hp
      have i2 := pot_imm c4
      refine ⟨_, decide (i = 0), [some p1, some (.int m), o2, none, none, none, none, none, some (.int x), none, none, none], p1, bT_nm, by simp [prim2, c1, i1, i2], c4, fun _ => by simp, fun _ => ⟨.int x, [some p1, some (.int m), o2, none, none, none, none, none, some (.int x), none, none, none], by simp, by simp, _, rfl⟩⟩) (by simp; omega) (by simp)
  rw [List.length_map, List.length_range] at g2 g3'
  obtain ⟨is0, rfl⟩ := all_ints g3
  have hin : ∀ x : Int, cmpD .inn (.int x) (.lst (is0.map D.int)) = some (decide (x ∈ is0)) := fun x => (cmp_inI rfl rfl).1
  obtain ⟨ls, p2, g4, g5, g6⟩ := ev_pot (own := [9, 10]) (t := .tp [.nm 9, .nm 10]) (ws := []) (cf := callF prog (k + 2)) (it := .seqT (.call 39 [.var 1])) (ds := prs 0 m) (e := .prim (.bin .add) [.prim .int [.call 35 [.var 0, .int 4]], .ife (.prim (.cmp .eq) [.prim (.cmp .inn) [.var 9, .var 6], .prim (.cmp .inn) [.var 10, .var 6]]) (.int 0) (.var 5)])
    (fun p => [some p, some (.int m), o2, none, none, some (.int (10 + i0)), some (.lst (is0.map D.int)), none, none, none, none, none]) 1 2000000000 (fun _ v => ∃ i : Int, v = .int i ∧ 0 ≤ i ∧ i ≤ 99) (by simp [e39, q4]; exact List.all_eq_true.mp (prs_tup fun d hd => prs_el hd)) (by simp) g2 (by omega) (by simp) (fun d hd p n hn hp => by
      obtain ⟨i, j, rfl, hi, hj⟩ := prs_el hd
      obtain ⟨y, p1, d1, d2, d3, d4⟩ := f35 (k + 1) (u := 4) hp (by omega) (by omega)
      have i1 := pot_imm hp
      have i2 := pot_imm d4
      by_cases hb : decide ((i : Int) ∈ is0) = decide ((j : Int) ∈ is0)
      · refine ⟨[some p, some (.int m), o2, none, none, some (.int (10 + i0)), some (.lst (is0.map D.int)), none, none, some (.int i), some (.int j), none], .int (y + 0), [some p1, some (.int m), o2, none, none, some (.int (10 + i0)), some (.lst (is0.map D.int)), none, none, some (.int i), some (.int j), none], p1, by simp, ?_, by simp, d4, _, rfl, by omega, by omega⟩
        simp [prim1, prim2, d1, i1, i2, intD, hin, hb]
      · refine ⟨[some p, some (.int m), o2, none, none, some (.int (10 + i0)), some (.lst (is0.map D.int)), none, none, some (.int i), some (.int j), none], .int (y + (10 + i0)), [some p1, some (.int m), o2, none, none, some (.int (10 + i0)), some (.lst (is0.map D.int)), none, none, some (.int i), some (.int j), none], p1, by simp, ?_, by simp, d4, _, rfl, by omega, by omega⟩
        have hb' : ¬ ((i : Int) ∈ is0 ↔ (j : Int) ∈ is0) := fun q => hb (by simp [q])
        simp [prim1, prim2, d1, i1, i2, intD, hin, hb'])  (by omega) (by simp)
  obtain ⟨is, rfl, v1, v2⟩ := paired_ints g6
  refine ⟨is, p2, [o2, none, some (.lst (is.map D.int)), some (.int (10 + i0)), some (.lst (is0.map D.int)), none, none, none, none, none], ⟨hm, by rw [v1, q3], v2⟩, pot_mono g5 (by omega), ?_⟩
  have e2 : tupleD (.lst (is.map D.int)) = some (T is) := by simp [tupleD]
  have i1 := pot_imm h
  have i2 := pot_imm c4
  refine qs_step (ρ1 := [some p', some (.int m), o2, none, none, some (.int (10 + i0)), some (.lst (is0.map D.int)), none, none, none, none, none]) (by simp [-ev_comp, prim1, prim2, c1, i1, i2, intD, g1, z]) ?_
  refine qs_step (ρ1 := [some p2, some (.int m), o2, none, some (.lst (is.map D.int)), some (.int (10 + i0)), some (.lst (is0.map D.int)), none, none, none, none, none]) (by rw [s_asg, g4]; simp) ?_
  exact qs_ret (ρ1 := [some p2, some (.int m), o2, none, some (.lst (is.map D.int)), some (.int (10 + i0)), some (.lst (is0.map D.int)), none, none, none, none, none]) (by simp [prim1, e2, z])
end
end LW
set_option maxHeartbeats 1000000
/-! BL34: drawn tables, places called otherwise, cells. -/
namespace LW
open PySem L2 DL
theorem qs_if_t {cf : Cf} {c : E} {a b ss : List S} {ρ ρ' ρ1 : DL.Env} {d : D} (hc : evE cf c ρ = some (.bl true, ρ')) (h : evSs cf a ρ' = some (.rt d, ρ1)) : evSs cf (.ifs c a b :: ss) ρ = some (.rt d, ρ1) := by
  rw [ss_cons', s_ifs, hc, Option.bind_some, boolS_bl, if_pos rfl, h, Option.bind_some, seqK_rt]
theorem qs_if_f {cf : Cf} {c : E} {a ss : List S} {ρ ρ' : DL.Env} {r : Option (Fl × DL.Env)} (hc : evE cf c ρ = some (.bl false, ρ')) (h : evSs cf ss ρ' = r) : evSs cf (.ifs c a [] :: ss) ρ = r := by
  rw [ss_cons', s_ifs, hc, Option.bind_some, boolS_bl, if_neg (by decide), ss_nil', Option.bind_some, seqK_nx, h]
section
variable {m n : Nat} {p : D}
theorem f49 (k : Nat) (h : PotOk p n) (hm : m ∈ [3, 4, 5, 6, 7]) (hn : n < 900000000) : ∃ vs p', TabV m vs ∧ PotOk p' (n + 300) ∧ callF prog (k + 3) 49 [some p, some (.int m)] = some (tab m vs, [some p', some (.int m)]) := by
  have z := sizeLine_eq
  obtain ⟨i, p1, c1, c2, c3, c4⟩ := f35 (k + 1) (u := 5) h (by omega) (by omega)
  have i1 := pot_imm h
  have i2 := pot_imm c4
  have s1 : evS (callF prog (k + 2)) (.asg (.nm 2) (.call 35 [.var 0, .int 5])) [some p, some (.int m), none, none, none, none, none, none, none, none, none, none] = some (.nx, [some p1, some (.int m), some (.int i), none, none, none, none, none, none, none, none, none]) := by
    simp [c1, i1, i2]
  have fin : ∀ {vs : List Int} {p' : D} {ρ' : DL.Env} {n' : Nat}, PotOk p' n' → finOf [some p, some (.int m)] (some p' :: some (.int m) :: ρ') = [some p', some (.int m)] := fun hp => by
    simp [i1]
  by_cases h0 : i = 0
  · obtain ⟨vs, p', ρ', q1, q2, q3⟩ := f49a k c4 hm (by omega) (o2 := some (.int i))
    refine ⟨vs, p', q1, pot_mono q2 (by omega), ?_⟩
    rw [callS (fn := ir49) rfl, callFn_eq]
    have hb : evSs (callF prog (k + 2)) ir49.body [some p, some (.int m), none, none, none, none, none, none, none, none, none, none] = some (.rt (tab m vs), some p' :: some (.int m) :: ρ') := by
      unfold ir49
      refine qs_step s1 (qs_if_t ?_ q3)
      simp [prim2, h0]
    have e0 : [some p, some (D.int m)] ++ List.replicate (ir49.slots - ir49.par) none = [some p, some (.int m), none, none, none, none, none, none, none, none, none, none] := rfl
    have hp : pinned ir49.pins 0 [some p, some (.int m)] = true := by simp [ir49]
    rw [e0, hb, hp]
    simp [ir49, i1]
  · by_cases h1 : i = 1
    · obtain ⟨vs, p', ρ', q1, q2, q3⟩ := f49b k c4 hm (by omega) (o2 := some (.int i))
      refine ⟨vs, p', q1, pot_mono q2 (by omega), ?_⟩
      rw [callS (fn := ir49) rfl, callFn_eq]
      have hb : evSs (callF prog (k + 2)) ir49.body [some p, some (.int m), none, none, none, none, none, none, none, none, none, none] = some (.rt (tab m vs), some p' :: some (.int m) :: ρ') := by
        unfold ir49
        refine qs_step s1 (qs_if_f (ρ' := [some p1, some (.int m), some (.int i), none, none, none, none, none, none, none, none, none]) ?_ (qs_if_t ?_ q3))
        · simp [prim2, h0]
        · simp [prim2, h1]
      have e0 : [some p, some (D.int m)] ++ List.replicate (ir49.slots - ir49.par) none = [some p, some (.int m), none, none, none, none, none, none, none, none, none, none] := rfl
      have hp : pinned ir49.pins 0 [some p, some (.int m)] = true := by simp [ir49]
      rw [e0, hb, hp]
      simp [ir49, i1]
    · obtain ⟨x, p2, d1, d2, d3, d4⟩ := f36L k c4 (xs := [.int 2, .int 4, .int 10, .int 100]) (by simp) (by simp) (by simp) (by omega)
      have hx : ∃ y : Int, x = .int y ∧ 0 < y ∧ y ≤ 100 := by
        simp only [List.mem_cons, List.not_mem_nil, or_false] at d2
        rcases d2 with rfl | rfl | rfl | rfl
        · exact ⟨_, rfl, by decide, by decide⟩
        · exact ⟨_, rfl, by decide, by decide⟩
        · exact ⟨_, rfl, by decide, by decide⟩
        · exact ⟨_, rfl, by decide, by decide⟩
      obtain ⟨y, rfl, hy⟩ := hx
      obtain ⟨vs, p', q1, q2, q3⟩ := f49c k d4 hm (by omega) hy (o2 := some (.int i)) (o3 := none) (o4 := none) (o5 := none) (o6 := none)
      refine ⟨vs, p', q1, pot_mono q2 (by omega), ?_⟩
      have i3 := pot_imm d4
      rw [callS (fn := ir49) rfl, callFn_eq]
      have hb : evSs (callF prog (k + 2)) ir49.body [some p, some (.int m), none, none, none, none, none, none, none, none, none, none] = some (.rt (tab m vs), some p' :: some (.int m) :: [some (.int i), none, none, none, none, some (.int y), none, none, none, none]) := by
        unfold ir49
        refine qs_step s1 (qs_if_f (ρ' := [some p1, some (.int m), some (.int i), none, none, none, none, none, none, none, none, none]) ?_ (qs_if_f (ρ' := [some p1, some (.int m), some (.int i), none, none, none, none, none, none, none, none, none]) ?_ (qs_step (ρ1 := [some p2, some (.int m), some (.int i), none, none, none, none, some (.int y), none, none, none, none]) ?_ (qs_ret q3))))
        · simp [prim2, h0]
        · simp [prim2, h1]
        · simp [d1, i2, i3, z]
      have e0 : [some p, some (D.int m)] ++ List.replicate (ir49.slots - ir49.par) none = [some p, some (.int m), none, none, none, none, none, none, none, none, none, none] := rfl
      have hp : pinned ir49.pins 0 [some p, some (.int m)] = true := by simp [ir49]
      rw [e0, hb, hp]
      simp [ir49, i1]
theorem dedup_nodup : ∀ {l : List Int}, l.Nodup → dedupI l = l
  | [], _ => rfl
  | x :: l, h => by
    rw [List.nodup_cons] at h
    rw [dedupI, if_neg h.1, dedup_nodup h.2]
theorem okO_perm {o : List Int} (ho : o.Perm (pls m)) : okO m o = true := by
  have hl := ho.length_eq
  rw [pls_len] at hl
  have hn : o.Nodup := ho.nodup_iff.mpr (pls_nodup m)
  unfold okO
  rw [dedup_nodup hn, hl]
  simp only [Bool.and_eq_true, decide_eq_true_eq, and_self, and_true]
  intro x hx
  obtain ⟨i, hi, rfl⟩ := List.mem_map.mp (ho.mem_iff.mp hx)
  have := List.mem_range.mp hi
  omega
theorem f19 (k : Nat) (hm : m ∈ [3, 4, 5, 6, 7]) {l o : List Int} (hl : l ∈ rnds m) (ho : o.Perm (pls m)) : callF prog (k + 7) 19 [some (.int m), some (T l), some (T o)] = some (T (act o l), [some (.int m), some (T l), some (T o)]) := by
  have z := sizeLine_eq
  have hm' := m_le hm
  have hol := ho.length_eq
  rw [pls_len] at hol
  have Ro := rnd_ok m hm
  have hll := Ro.len l hl
  have e8 := f8 (k + 2) m (m_le hm)
  have e13 := f13r k hm Ro hl
  have e10 := f10 (k + 1) m o (by omega) (okO_perm ho)
  have hp := act_perm ho (rnds_perm (by omega) hl).1
  have hpl := hp.length_eq
  rw [pls_len] at hpl
  have e18 := f18' (k + 5) _ (rb_mem hp (by omega)).1 (by omega)
  have hx : ∀ x ∈ l, ixD (T o) (.int x) = some (.int (o.getD x.toNat 0)) := fun x hx => by
    obtain ⟨i, hi, rfl⟩ := List.mem_map.mp ((rnds_perm (by omega) hl).1.mem_iff.mp hx)
    have hi := List.mem_range.mp hi
    refine ix_T ?_
    unfold atI ixN
    rw [if_pos (by omega), if_pos (by omega)]
    have hi' : i < o.length := by omega
    simp [hi']
  have hc : evE (callF prog (k + 6)) (.comp [3] (.nm 3) (.seq (.var 1)) [] (.prim .ix [.var 2, .var 3])) [some (.int m), some (T l), some (T o), none] = some (.lst (l.map fun x => .int (o.getD x.toNat 0)), [some (.int m), some (T l), some (T o), none]) :=
    ev_compM (ρ1 := [some (.int m), some (T l), some (T o), none]) (ws := [(1, T l)]) l D.int _ (by simp) (by simp) (fun x hxl => ⟨[some (.int m), some (T l), some (T o), some (.int x)], [some (.int m), some (T l), some (T o), some (.int x)], by simp, by
      have := hx x hxl
      generalize T o = to at *
      simp [prim2, this], by simp⟩) (by omega) (by simp)
  have ht : tupleD (.lst (l.map fun x => .int (o.getD x.toNat 0))) = some (T (l.map fun x => o.getD x.toNat 0)) := by
    have : (l.map fun x => D.int (o.getD x.toNat 0)) = (l.map fun x => o.getD x.toNat 0).map D.int := by rw [List.map_map]; rfl
    rw [this]
    show (if D.imms ((l.map fun x => o.getD x.toNat 0).map D.int) then _ else _) = _
    rw [if_pos imms_ints]
  have i1 : (T l).imm = true := by simp
  have i2 : (T o).imm = true := by simp
  have i3 : (T (l.map fun x => o.getD x.toNat 0)).imm = true := by simp only [T, imm_tup, imms_ints]
  unfold act
  rw [callS (fn := ir19) rfl, callFn_eq]
  generalize D.lst (l.map fun x => .int (o.getD x.toNat 0)) = tc at *
  generalize T (rb (l.map fun x => o.getD x.toNat 0)) = ta at *
  generalize T (l.map fun x => o.getD x.toNat 0) = tb at *
  generalize T l = tl at *
  generalize T o = to at *
  simp [ir19, -ev_comp, prim1, e8, e13, e10, hc, ht, e18, i1, i2, i3]
theorem bin_powI {i j : Int} (h0 : 0 ≤ j) (h1 : j ≤ 1000) (h2 : i.natAbs < 2 ^ 256) : binD .pow (.int i) (.int j) = some (.int (i ^ j.toNat)) := by
  show (if (decide (0 ≤ j) && decide (j ≤ 1000) && decide (i.natAbs < 2 ^ 256)) = true then _ else _) = _
  rw [if_pos (by rw [decide_eq_true h0, decide_eq_true h1, decide_eq_true h2]; rfl)]
theorem f34 (k : Nat) (ns : List Int) (pl : Nat) (hz : ns.length ≤ 1000) (hp : pl ≤ 10) : ∃ p', callF prog (k + 1) 34 [some (.frz (ns.map D.int)), some (.int pl)] = some (p', [some (.frz (ns.map D.int)), some (.int pl)]) ∧ PotOk p' 0 :=
  f34a k ns pl hz hp _ _ _ (bin_powI (by decide) (by decide) (by decide +kernel)) (bin_powI (by decide) (by decide) (by decide +kernel)) (bin_powI (by decide) (by decide) (by decide +kernel)) (by decide +kernel)
theorem f37 (k : Nat) (ns : List Int) (hz : ns.length ≤ 1000) : ∃ c : Nat, c ≤ 2 ∧ callF prog (k + 1) 37 [some (.frz (ns.map D.int)), some (.int 2)] = some (.lst ((List.range c).map fun i : Nat => D.int (i : Int)), [some (.frz (ns.map D.int)), some (.int 2)]) := by
  have e1 : lenD (.frz (ns.map D.int)) = some (.int ns.length) := by simp [lenD]
  have key : ∃ c : Nat, c ≤ 2 ∧ (min2D (.int 2) (.int ns.length)).bind (max2D (.int 1)) = some (.int c) := by
    simp only [min2D, max2D, Option.bind_some]
    by_cases h1 : (ns.length : Int) < 2
    · rw [if_pos h1]
      by_cases h2 : (ns.length : Int) > 1
      · rw [if_pos h2]
        exact ⟨ns.length, by omega, rfl⟩
      · rw [if_neg h2]
        exact ⟨1, by omega, rfl⟩
    · rw [if_neg h1]
      exact ⟨2, by omega, rfl⟩
  obtain ⟨c, hc, hk⟩ := key
  refine ⟨c, hc, ?_⟩
  have hr : rangeL1 (.int c) = some (.lst ((List.range c).map fun i : Nat => D.int (i : Int))) := by
    have := rangeD_nat (a := 0) (b := c) (by omega) (by omega) (by omega)
    show (rangeD 0 (c : Int)).map D.lst = _
    simp at this
    rw [this]
    rfl
  cases hm : min2D (.int 2) (.int ns.length) with
  | none => rw [hm] at hk; cases hk
  | some y =>
    rw [hm, Option.bind_some] at hk
    rw [callS (fn := ir37) rfl, callFn_eq]
    simp [ir37, prim1, prim2, e1, hm, hk, hr]
end
end LW
set_option maxHeartbeats 1000000
/-! BM34: _law_are_measured. -/
namespace LW
open PySem L2 DL
theorem body52 {cf : Cf} {p p1 p2 p3 tt oo xx td ta oa to : D} {m dv dx dy : Int} {rt ro es : List D} {fl : D → Bool} {nt : D → D} {pl q : List Int} {b1 b2 b3 : Bool} {o4 o5 o6 o7 o8 o9 o10 : Option D}
    (i0 : p.imm = false) (i1 : p1.imm = false) (i2 : p2.imm = false) (i3 : p3.imm = false) (it : tt.imm = true) (io : oo.imm = true) (ix : xx.imm = true) (ito : to.imm = true) (ita : ta.imm = true) (ioa : oa.imm = true)
    (c1 : cf 50 [some p, some (.int m)] = some (oo, [some p1, some (.int m)]))
    (c2 : cf 50 [some p1, some (.int m)] = some (xx, [some p2, some (.int m)]))
    (c3 : cf 33 [some (.int m), some tt, some oo] = some (.int dv, [some (.int m), some tt, some oo]))
    (c4 : cf 46 [some (.int dv)] = some (.bl true, [some (.int dv)]))
    (c5 : ixD td oo = some (.int dv))
    (c6 : cf 33 [some (.int m), some oo, some tt] = some (.int dv, [some (.int m), some oo, some tt]))
    (c7 : cf 33 [some (.int m), some tt, some xx] = some (.int dx, [some (.int m), some tt, some xx]))
    (c8 : cf 33 [some (.int m), some xx, some oo] = some (.int dy, [some (.int m), some xx, some oo]))
    (h8 : dv ≤ dx + dy)
    (c9 : cf 15 [some (.int m), some tt] = some (.tup rt, [some (.int m), some tt]))
    (c10 : cf 15 [some (.int m), some oo] = some (.tup ro, [some (.int m), some oo]))
    (irt : D.imms rt = true) (iro : D.imms ro = true) (hrt : ∀ r ∈ rt, r.imm = true) (zrt : rt.length ≤ 1000)
    (c11 : ∀ r ∈ rt, cmpD .nin r (.tup ro) = some (fl r))
    (h11 : ((rt.filter fl).length : Int) ≤ 2 * dv)
    (e1 : cmpD .eq tt oo = some b1) (h1 : decide (dv = 0) = b1)
    (c12 : cf 21 [some (.int m)] = some (.tup es, [some (.int m)])) (ies : D.imms es = true) (zes : es.length ≤ 1000)
    (c13 : ∀ e ∈ es, cf 25 [some (.int m), some tt, some e] = some (nt e, [some (.int m), some tt, some e]) ∧ e.imm = true)
    (e2 : cmpD .inn oo (.lst (es.map nt)) = some b2) (e3 : cmpD .eq oo tt = some b3) (h2 : decide (dv ≤ 1) = (b2 || b3))
    (c14 : rangeL1 (.int m) = some (.lst (pl.map D.int)))
    (c15 : cf 38 [some p2, some (.lst (pl.map D.int)), some (.int m)] = some (.lst (q.map D.int), [some p3, some (.lst (pl.map D.int)), some (.int m)])) (zq : q.length ≤ 1000)
    (hto : tupleD (.lst (q.map D.int)) = some to)
    (c16 : cf 19 [some (.int m), some tt, some to] = some (ta, [some (.int m), some tt, some to]))
    (c17 : cf 19 [some (.int m), some oo, some to] = some (oa, [some (.int m), some oo, some to]))
    (c18 : cf 33 [some (.int m), some ta, some oa] = some (.int dv, [some (.int m), some ta, some oa])) :
    evSs cf [.asg (.tp [.nm 5, .nm 6]) (.disp true [false, false] [.call 50 [.var 0, .var 1], .call 50 [.var 0, .var 1]]), .asg (.nm 7) (.call 33 [.var 1, .var 2, .var 5]), .ifs (.orE (.notE (.call 46 [.var 7])) (.orE (.prim (.cmp .ne) [.var 7, .prim .ix [.var 3, .var 5]]) (.prim (.cmp .ne) [.call 33 [.var 1, .var 5, .var 2], .var 7]))) [.ret (.bl false)] [], .ifs (.prim (.cmp .gt) [.var 7, .prim (.bin .add) [.call 33 [.var 1, .var 2, .var 6], .call 33 [.var 1, .var 6, .var 5]]]) [.ret (.bl false)] [], .asg (.nm 8) (.prim .len [.comp [12] (.nm 12) (.seq (.call 15 [.var 1, .var 2])) [.prim (.cmp .nin) [.var 12, .call 15 [.var 1, .var 5]]] (.var 12)]), .ifs (.orE (.prim (.cmp .lt) [.var 7, .prim (.bin .fdiv) [.prim (.bin .add) [.var 8, .int 1], .int 2]]) (.prim (.cmp .ne) [.prim (.cmp .eq) [.var 7, .int 0], .prim (.cmp .eq) [.var 2, .var 5]])) [.ret (.bl false)] [], .asg (.nm 9) (.comp [11] (.nm 11) (.seq (.call 21 [.var 1])) [] (.call 25 [.var 1, .var 2, .var 11])), .ifs (.prim (.cmp .ne) [.prim (.cmp .le) [.var 7, .int 1], .orE (.prim (.cmp .inn) [.var 5, .var 9]) (.prim (.cmp .eq) [.var 5, .var 2])]) [.ret (.bl false)] [], .asg (.nm 10) (.prim .tuple [.comp [13] (.nm 13) (.seq (.call 38 [.var 0, .prim (.rangeL 1) [.var 1], .var 1])) [] (.prim .int [.var 13])]), .ifs (.prim (.cmp .ne) [.call 33 [.var 1, .call 19 [.var 1, .var 2, .var 10], .call 19 [.var 1, .var 5, .var 10]], .var 7]) [.ret (.bl false)] []]
      [some p, some (.int m), some tt, some td, o4, o5, o6, o7, o8, o9, o10, none, none, none] = some (.nx, [some p3, some (.int m), some tt, some td, o4, some oo, some xx, some (.int dv), some (.int (rt.filter fl).length), some (.lst (es.map nt)), some to, none, none, none]) := by
  have z := sizeLine_eq
  refine qs_step (ρ1 := [some p1, some (.int m), some tt, some td, o4, some oo, some xx, o7, o8, o9, o10, none, none, none].set 0 (some p2)) (by simp [c1, c2, i0, i1, i2, io, ix, z]) ?_
  refine qs_step (ρ1 := [some p2, some (.int m), some tt, some td, o4, some oo, some xx, some (.int dv), o8, o9, o10, none, none, none]) (by simp [c3, it, io]) ?_
  refine qs_if_f (ρ' := [some p2, some (.int m), some tt, some td, o4, some oo, some xx, some (.int dv), o8, o9, o10, none, none, none]) (by simp [prim2, c4, c5, c6, it, io]) ?_
  refine qs_if_f (ρ' := [some p2, some (.int m), some tt, some td, o4, some oo, some xx, some (.int dv), o8, o9, o10, none, none, none]) (by simp [prim2, c7, c8, it, io, ix, Int.not_lt.mpr h8]) ?_
  have k1 : evE cf (.comp [12] (.nm 12) (.seq (.call 15 [.var 1, .var 2])) [.prim (.cmp .nin) [.var 12, .call 15 [.var 1, .var 5]]] (.var 12)) [some p2, some (.int m), some tt, some td, o4, some oo, some xx, some (.int dv), o8, o9, o10, none, none, none] = some (.lst ((rt.filter fl).map id), [some p2, some (.int m), some tt, some td, o4, some oo, some xx, some (.int dv), o8, o9, o10, none, none, none]) := by
    refine ev_compF (ρ1 := [some p2, some (.int m), some tt, some td, o4, some oo, some xx, some (.int dv), o8, o9, o10, none, none, none]) (ws := []) rt id id fl (by simp [c9, it, irt]) (by simp) (fun r hr => ⟨[some p2, some (.int m), some tt, some td, o4, some oo, some xx, some (.int dv), o8, o9, o10, none, some r, none], [some p2, some (.int m), some tt, some td, o4, some oo, some xx, some (.int dv), o8, o9, o10, none, some r, none], by simp, ?_, fun _ => by simp, fun _ => ⟨[some p2, some (.int m), some tt, some td, o4, some oo, some xx, some (.int dv), o8, o9, o10, none, some r, none], by simp [hrt r hr], by simp⟩⟩) (by omega) (by simp)
    simp [prim2, c10, c11 r hr, io, iro]
  rw [List.map_id] at k1
  refine qs_step (ρ1 := [some p2, some (.int m), some tt, some td, o4, some oo, some xx, some (.int dv), some (.int (rt.filter fl).length), o9, o10, none, none, none]) ?_ ?_
  · have e : lenD (.lst (rt.filter fl)) = some (.int (rt.filter fl).length) := by simp [lenD]
    simp [-ev_comp, k1, prim1, e]
  generalize ((rt.filter fl).length : Int) = nu at *
  refine qs_if_f (ρ' := [some p2, some (.int m), some tt, some td, o4, some oo, some xx, some (.int dv), some (.int nu), o9, o10, none, none, none]) ?_ ?_
  · have e : binD .fdiv (.int (nu + 1)) (.int 2) = some (.int ((nu + 1) / 2)) := bin_fdivI (by decide)
    have e' : ¬ dv < (nu + 1) / 2 := by omega
    simp [prim2, e, e', e1, h1]
  have k2 : evE cf (.comp [11] (.nm 11) (.seq (.call 21 [.var 1])) [] (.call 25 [.var 1, .var 2, .var 11])) [some p2, some (.int m), some tt, some td, o4, some oo, some xx, some (.int dv), some (.int nu), o9, o10, none, none, none] = some (.lst (es.map nt), [some p2, some (.int m), some tt, some td, o4, some oo, some xx, some (.int dv), some (.int nu), o9, o10, none, none, none]) := by
    have := ev_compM (own := [11]) (t := .nm 11) (cf := cf) (it := .seq (.call 21 [.var 1])) (ρ := [some p2, some (.int m), some tt, some td, o4, some oo, some xx, some (.int dv), some (.int nu), o9, o10, none, none, none]) (e := .call 25 [.var 1, .var 2, .var 11]) (ρ1 := [some p2, some (.int m), some tt, some td, o4, some oo, some xx, some (.int dv), some (.int nu), o9, o10, none, none, none]) (ρ' := [some p2, some (.int m), some tt, some td, o4, some oo, some xx, some (.int dv), some (.int nu), o9, o10, none, none, none]) (ws := []) es id nt (by simp [c12, ies]) (by simp) (fun e he => ⟨[some p2, some (.int m), some tt, some td, o4, some oo, some xx, some (.int dv), some (.int nu), o9, o10, some e, none, none], [some p2, some (.int m), some tt, some td, o4, some oo, some xx, some (.int dv), some (.int nu), o9, o10, some e, none, none], by simp, by simp [(c13 e he).1, (c13 e he).2, it], by simp⟩) (by omega) (by simp)
    exact this
  refine qs_step (ρ1 := [some p2, some (.int m), some tt, some td, o4, some oo, some xx, some (.int dv), some (.int nu), some (.lst (es.map nt)), o10, none, none, none]) (by rw [s_asg, k2]; simp) ?_
  refine qs_if_f (ρ' := [some p2, some (.int m), some tt, some td, o4, some oo, some xx, some (.int dv), some (.int nu), some (.lst (es.map nt)), o10, none, none, none]) ?_ ?_
  · cases b2 <;> simp [prim2, e2, e3] <;> simpa using h2
  have k3 : evE cf (.comp [13] (.nm 13) (.seq (.call 38 [.var 0, .prim (.rangeL 1) [.var 1], .var 1])) [] (.prim .int [.var 13])) [some p2, some (.int m), some tt, some td, o4, some oo, some xx, some (.int dv), some (.int nu), some (.lst (es.map nt)), o10, none, none, none] = some (.lst (q.map D.int), [some p3, some (.int m), some tt, some td, o4, some oo, some xx, some (.int dv), some (.int nu), some (.lst (es.map nt)), o10, none, none, none]) :=
    ev_compM (ρ1 := [some p3, some (.int m), some tt, some td, o4, some oo, some xx, some (.int dv), some (.int nu), some (.lst (es.map nt)), o10, none, none, none]) (ws := []) q D.int D.int (by simp [prim1, c14, c15, i2, i3]) (by simp) (fun e he => ⟨[some p3, some (.int m), some tt, some td, o4, some oo, some xx, some (.int dv), some (.int nu), some (.lst (es.map nt)), o10, none, none, some (.int e)], [some p3, some (.int m), some tt, some td, o4, some oo, some xx, some (.int dv), some (.int nu), some (.lst (es.map nt)), o10, none, none, some (.int e)], by simp, by simp [prim1, intD], by simp⟩) (by omega) (by simp)
  refine qs_step (ρ1 := [some p3, some (.int m), some tt, some td, o4, some oo, some xx, some (.int dv), some (.int nu), some (.lst (es.map nt)), some to, none, none, none]) ?_ ?_
  · simp [-ev_comp, k3, prim1, hto]
  refine qs_if_f (ρ' := [some p3, some (.int m), some tt, some td, o4, some oo, some xx, some (.int dv), some (.int nu), some (.lst (es.map nt)), some to, none, none, none]) (by simp [prim2, c16, c17, c18, it, io, ito, ita, ioa]) ?_
  exact qs_done rfl
end LW
set_option maxHeartbeats 1000000
/-! BN34: _law_are_measured, whole. -/
namespace LW
open PySem L2 DL
theorem rnds_nd : ∀ m : Nat, m ∈ [3, 4, 5, 6] → (rnds m).Nodup
  | 3, _ => by rw [rn3]; exact nd3'
  | 4, _ => by rw [rn4]; exact nd4'
  | 5, _ => by rw [rn5]; exact nd5'
  | 6, _ => by rw [rn6]; exact nd6'
  | 0, h | 1, h | 2, h | _ + 7, h => by simp at h
theorem fold_max {b : Int} : ∀ {l : List Int} {a : Int}, a ≤ b → (∀ x ∈ l, x ≤ b) → l.foldl max a ≤ b
  | [], _, h, _ => h
  | x :: l, a, h, hl => fold_max (l := l) (a := max a x) (by have := hl x List.mem_cons_self; omega) fun y hy => hl y (List.mem_cons_of_mem _ hy)
section
variable {m n : Nat} {p : D} {d : DV} {t o x : List Int} {ls : List (List Int)}
theorem max_dd (O : DstOk m d) (ht : t ∈ rnds m) (hls : ∀ l, l ∈ ls ↔ l ∈ rnds m) : ∃ v : Int, maxValsD (dd d t ls) = some (.int v) ∧ v ≤ (m : Int) - 2 := by
  have ha : allInt (ls.map fun l => D.int (d t l : Nat)) = some (ls.map fun l => ((d t l : Nat) : Int)) := allInt_map (f := fun l => ((d t l : Nat) : Int)) ls
  have hb : ∀ v ∈ ls.map (fun l => ((d t l : Nat) : Int)), v ≤ (m : Int) - 2 := fun v hv => by
    obtain ⟨l, hl, rfl⟩ := List.mem_map.mp hv
    have := O.diam t ht l ((hls l).mp hl)
    omega
  cases hl : ls.map (fun l => ((d t l : Nat) : Int)) with
  | nil =>
    have : t ∈ ls := (hls t).mpr ht
    have : ls = [] := List.map_eq_nil_iff.mp hl
    subst this
    simp at *
  | cons a r =>
    rw [hl] at hb ha
    refine ⟨r.foldl max a, ?_, fold_max (hb a List.mem_cons_self) fun y hy => hb y (List.mem_cons_of_mem _ hy)⟩
    unfold maxValsD dd
    simp only [ha]
structure S52 where
  p : D
  o4 : Option D
  o5 : Option D
  o6 : Option D
  o7 : Option D
  o8 : Option D
  o9 : Option D
  o10 : Option D
theorem ral_fl (r : D) (l : List Int) : (!decide (r ∈ ral l)) = !(ral l).any fun z => D.beq z r := by
  congr 1
  rw [Bool.eq_iff_iff, decide_eq_true_eq, List.any_eq_true]
  exact ⟨fun h => ⟨r, h, D.beq_refl r⟩, fun ⟨z, hz, e⟩ => D.eq_of_beq e ▸ hz⟩
/-- one turn -/
theorem turn52 (k : Nat) (hm : m ∈ [3, 4, 5, 6]) (O : DstOk m d) (ht : t ∈ rnds m) (hls : ∀ l, l ∈ ls ↔ l ∈ rnds m) (h : PotOk p n) (hn : n < 900000000) (b : S52) (hb : b.p = p) : ∃ b' : S52, PotOk b'.p (n + 30) ∧ b'.o4 = b.o4 ∧
    evSs (callF prog (k + 7)) [.asg (.tp [.nm 5, .nm 6]) (.disp true [false, false] [.call 50 [.var 0, .var 1], .call 50 [.var 0, .var 1]]), .asg (.nm 7) (.call 33 [.var 1, .var 2, .var 5]), .ifs (.orE (.notE (.call 46 [.var 7])) (.orE (.prim (.cmp .ne) [.var 7, .prim .ix [.var 3, .var 5]]) (.prim (.cmp .ne) [.call 33 [.var 1, .var 5, .var 2], .var 7]))) [.ret (.bl false)] [], .ifs (.prim (.cmp .gt) [.var 7, .prim (.bin .add) [.call 33 [.var 1, .var 2, .var 6], .call 33 [.var 1, .var 6, .var 5]]]) [.ret (.bl false)] [], .asg (.nm 8) (.prim .len [.comp [12] (.nm 12) (.seq (.call 15 [.var 1, .var 2])) [.prim (.cmp .nin) [.var 12, .call 15 [.var 1, .var 5]]] (.var 12)]), .ifs (.orE (.prim (.cmp .lt) [.var 7, .prim (.bin .fdiv) [.prim (.bin .add) [.var 8, .int 1], .int 2]]) (.prim (.cmp .ne) [.prim (.cmp .eq) [.var 7, .int 0], .prim (.cmp .eq) [.var 2, .var 5]])) [.ret (.bl false)] [], .asg (.nm 9) (.comp [11] (.nm 11) (.seq (.call 21 [.var 1])) [] (.call 25 [.var 1, .var 2, .var 11])), .ifs (.prim (.cmp .ne) [.prim (.cmp .le) [.var 7, .int 1], .orE (.prim (.cmp .inn) [.var 5, .var 9]) (.prim (.cmp .eq) [.var 5, .var 2])]) [.ret (.bl false)] [], .asg (.nm 10) (.prim .tuple [.comp [13] (.nm 13) (.seq (.call 38 [.var 0, .prim (.rangeL 1) [.var 1], .var 1])) [] (.prim .int [.var 13])]), .ifs (.prim (.cmp .ne) [.call 33 [.var 1, .call 19 [.var 1, .var 2, .var 10], .call 19 [.var 1, .var 5, .var 10]], .var 7]) [.ret (.bl false)] []]
      [some p, some (.int m), some (T t), some (dd d t ls), b.o4, b.o5, b.o6, b.o7, b.o8, b.o9, b.o10, none, none, none] = some (.nx, [some b'.p, some (.int m), some (T t), some (dd d t ls), b'.o4, b'.o5, b'.o6, b'.o7, b'.o8, b'.o9, b'.o10, none, none, none]) := by
  have hm7 := m_in hm
  have hm' := m_le hm7
  have Ro := rnd_ok m hm7
  obtain ⟨o, p1, c1, ho, hp1⟩ := f50 (k + 4) h hm7 (by omega)
  obtain ⟨x, p2, c2, hx, hp2⟩ := f50 (k + 4) hp1 hm7 (by omega)
  obtain ⟨q, p3, c15, hq, hp3⟩ := f38 (k + 5) hp2 (pls m) (by rw [pls_len]; omega) (by rw [pls_len]; omega)
  rw [pls_len] at c15 hp3
  have lt := Ro.len t ht
  have lo := Ro.len o ho
  have hql := hq.length_eq
  rw [pls_len] at hql
  have c3 := f33 hm O ht ho k
  have c6 := f33 hm O ho ht k
  rw [O.sym o ho t ht] at c6
  have c7 := f33 hm O ht hx k
  have c8 := f33 hm O hx ho k
  have h8 := dst_tri O ht hx (d x o) ho rfl
  have c9 := f15 k hm7 Ro ht
  have c10 := f15 k hm7 Ro ho
  have c16 := f19 k hm7 ht hq
  have c17 := f19 k hm7 ho hq
  have c18 := f33 hm O (act_mem (by omega) hq ht) (act_mem (by omega) hq ho) k
  rw [dst_act O (by omega) hq ht ho] at c18
  have h11 := dst_unl O ht (d t o) ho rfl
  have hone := dst_one O ht ho
  have hzero := O.zero t ht o ho
  have er := rangeL_pls (m := m) (by omega)
  have er1 : rangeL1 (D.int m) = some (.lst ((pls m).map D.int)) := by
    show (rangeD 0 (m : Int)).map D.lst = _
    rw [er]; rfl
  have hnt : ((exs m).map Ex).map (fun dd => match dd with | .tup [.int a, .int b] => T (tn t a.toNat b.toNat) | _ => .non) = ((exs m).map fun e => tn t e.1 e.2).map T := by
    rw [List.map_map, List.map_map]
    rfl
  have hR : ∀ z ∈ (exs m).map (fun e => tn t e.1 e.2), z.length = o.length := fun z hz => by
    obtain ⟨e, he, rfl⟩ := List.mem_map.mp hz
    rw [Ro.len _ (Ro.tnR t ht e he), lo]
  have := body52 (cf := callF prog (k + 7)) (p := p) (p1 := p1) (p2 := p2) (p3 := p3) (tt := T t) (oo := T o) (xx := T x) (td := dd d t ls) (ta := T (act q t)) (oa := T (act q o)) (to := T q) (m := m) (dv := (d t o : Nat)) (dx := (d t x : Nat)) (dy := (d x o : Nat)) (rt := ral t) (ro := ral o) (es := (exs m).map Ex)
    (fl := fun r => !decide (r ∈ ral o)) (nt := fun dd => match dd with | .tup [.int a, .int b] => T (tn t a.toNat b.toNat) | _ => .non) (pl := pls m) (q := q) (b1 := decide (t = o)) (b2 := decide (o ∈ (exs m).map fun e => tn t e.1 e.2)) (b3 := decide (o = t)) (o4 := b.o4) (o5 := b.o5) (o6 := b.o6) (o7 := b.o7) (o8 := b.o8) (o9 := b.o9) (o10 := b.o10)
    (pot_imm h) (pot_imm hp1) (pot_imm hp2) (pot_imm hp3) pl_T.imm pl_T.imm pl_T.imm pl_T.imm pl_T.imm pl_T.imm c1 c2 c3 (f46i (k + 6) _) (ix_dd ((hls o).mpr ho)) c6 c7 c8 (by omega) c9 c10 (ral_imms t) (ral_imms o) (fun r hr => by obtain ⟨pr, _, rfl⟩ := ral_mem hr; exact road_imm _ _) (by rw [ral_len (by omega)]; omega)
    (fun r hr => by
      obtain ⟨pr, _, rfl⟩ := ral_mem hr
      exact (cmp_inP rfl rfl pl_road fun z hz => by
        obtain ⟨pz, _, rfl⟩ := ral_mem hz
        exact ⟨pl_road, road_alike _ _ _ _⟩).2)
    (by
      have : (ral t).filter (fun r => !decide (r ∈ ral o)) = (ral t).filter fun r => !(ral o).any fun z => D.beq z r := List.filter_congr fun r _ => ral_fl r o
      rw [this]
      unfold unl at h11
      omega)
    (cmp_eqT (by omega)) (by
      rw [decide_eq_decide, ← hzero]
      omega)
    (f21 (k + 2) hm7) (imms_Ex _) (by rw [List.length_map]; have := (exs_ok m hm7).2.1; omega)
    (fun e he => by
      obtain ⟨ex, hex, rfl⟩ := List.mem_map.mp he
      exact ⟨f25 k hm7 Ro ht hex, pl_T.imm⟩)
    (by rw [hnt]; exact (cmp_inT rfl rfl hR).1) (cmp_eqT (by omega))
    (by
      rw [← Bool.decide_or, decide_eq_decide, List.mem_map]
      exact Iff.trans (by omega) hone)
    er1 c15 (by omega) (by show (if D.imms (q.map D.int) then _ else _) = _; rw [if_pos imms_ints]) c16 c17 c18
  exact ⟨⟨p3, b.o4, _, _, _, _, _, _⟩, pot_mono hp3 (by omega), rfl, this⟩
theorem f52 (k : Nat) (hm : m ∈ [3, 4, 5, 6]) (h : PotOk p n) (hn : n < 800000000) : ∃ p', callF prog (k + 8) 52 [some p, some (.int m)] = some (.bl true, [some p', some (.int m)]) ∧ PotOk p' (n + 100) := by
  have O := dst_is m hm
  generalize dst m = d at O
  have hm7 := m_in hm
  have hm' := m_le hm7
  have z := sizeLine_eq
  obtain ⟨t, p1, c1, ht, hp1⟩ := f50 (k + 4) h hm7 (by omega)
  obtain ⟨ls, ⟨hn1, hls⟩, c51⟩ := f51 hm O ht (k + 4)
  have c42 := f42 (k + 6) m hm
  obtain ⟨v, hv, hv2⟩ := max_dd O ht hls
  have hlen : ls.length = (rnds m).length := by
    have h1 := sub_len hn1 fun l hl => (hls l).mp hl
    have h2 := sub_len (rnds_nd m hm) fun l hl => (hls l).mpr hl
    omega
  have e1 : lenD (dd d t ls) = some (.int (rnds m).length) := by
    show some (D.int ((ls.map ky).length : Nat)) = _
    rw [List.length_map, hlen]
  have e2 : lenD (.lst ((rnds m).map T)) = some (.int (rnds m).length) := by simp [lenD]
  have hr : rangeD 0 3 = some ((List.range 3).map fun i : Nat => D.int (i : Int)) := by
    have := rangeD_nat (a := 0) (b := 3) (by omega) (by omega) (by omega)
    simpa using this
  obtain ⟨b', hb1, hb2⟩ := forI (ws := []) (t := .nm 4) (body := fun r => evSs (callF prog (k + 7)) [.asg (.tp [.nm 5, .nm 6]) (.disp true [false, false] [.call 50 [.var 0, .var 1], .call 50 [.var 0, .var 1]]), .asg (.nm 7) (.call 33 [.var 1, .var 2, .var 5]), .ifs (.orE (.notE (.call 46 [.var 7])) (.orE (.prim (.cmp .ne) [.var 7, .prim .ix [.var 3, .var 5]]) (.prim (.cmp .ne) [.call 33 [.var 1, .var 5, .var 2], .var 7]))) [.ret (.bl false)] [], .ifs (.prim (.cmp .gt) [.var 7, .prim (.bin .add) [.call 33 [.var 1, .var 2, .var 6], .call 33 [.var 1, .var 6, .var 5]]]) [.ret (.bl false)] [], .asg (.nm 8) (.prim .len [.comp [12] (.nm 12) (.seq (.call 15 [.var 1, .var 2])) [.prim (.cmp .nin) [.var 12, .call 15 [.var 1, .var 5]]] (.var 12)]), .ifs (.orE (.prim (.cmp .lt) [.var 7, .prim (.bin .fdiv) [.prim (.bin .add) [.var 8, .int 1], .int 2]]) (.prim (.cmp .ne) [.prim (.cmp .eq) [.var 7, .int 0], .prim (.cmp .eq) [.var 2, .var 5]])) [.ret (.bl false)] [], .asg (.nm 9) (.comp [11] (.nm 11) (.seq (.call 21 [.var 1])) [] (.call 25 [.var 1, .var 2, .var 11])), .ifs (.prim (.cmp .ne) [.prim (.cmp .le) [.var 7, .int 1], .orE (.prim (.cmp .inn) [.var 5, .var 9]) (.prim (.cmp .eq) [.var 5, .var 2])]) [.ret (.bl false)] [], .asg (.nm 10) (.prim .tuple [.comp [13] (.nm 13) (.seq (.call 38 [.var 0, .prim (.rangeL 1) [.var 1], .var 1])) [] (.prim .int [.var 13])]), .ifs (.prim (.cmp .ne) [.call 33 [.var 1, .call 19 [.var 1, .var 2, .var 10], .call 19 [.var 1, .var 5, .var 10]], .var 7]) [.ret (.bl false)] []] r)
    (fun i : Nat => D.int (i : Int)) (fun b : S52 => [some b.p, some (.int m), some (T t), some (dd d t ls), b.o4, b.o5, b.o6, b.o7, b.o8, b.o9, b.o10, none, none, none])
    (fun xs b => xs.length ≤ 3 ∧ PotOk b.p (n + 10 + 30 * (3 - xs.length))) (xs := List.range 3) (b := ⟨p1, none, none, none, none, none, none, none⟩) ⟨by simp, pot_mono hp1 (by simp; omega)⟩ (fun _ _ _ => by simp) (fun i xs b hb => by
      rw [List.length_cons] at hb
      obtain ⟨b2, q1, q2, q3⟩ := turn52 k hm O ht hls hb.2 (by omega) ⟨b.p, some (.int (i : Nat)), b.o5, b.o6, b.o7, b.o8, b.o9, b.o10⟩ rfl
      exact ⟨_, b2, bT_nm, q3, by omega, pot_mono q1 (by omega)⟩)
  obtain ⟨_, g2⟩ := hb2
  refine ⟨b'.p, ?_, pot_mono g2 (by simp)⟩
  have i0 := pot_imm h
  have i1 := pot_imm hp1
  have i2 := pot_imm g2
  have it : (T t).imm = true := pl_T.imm
  have im : (dd d t ls).imm = false := rfl
  have hb : evSs (callF prog (k + 7)) ir52.body [some p, some (.int m), none, none, none, none, none, none, none, none, none, none, none, none] = some (.rt (.bl true), [some b'.p, some (.int m), some (T t), some (dd d t ls), b'.o4, b'.o5, b'.o6, b'.o7, b'.o8, b'.o9, b'.o10, none, none, none]) := by
    unfold ir52
    refine qs_step (ρ1 := [some p1, some (.int m), some (T t), none, none, none, none, none, none, none, none, none, none, none]) (by simp [c1, i0, i1]) ?_
    refine qs_step (ρ1 := [some p1, some (.int m), some (T t), some (dd d t ls), none, none, none, none, none, none, none, none, none, none]) (by
      generalize T t = tt at *
      generalize dd d t ls = td at *
      simp [c51, it]) ?_
    refine qs_if_f (ρ' := [some p1, some (.int m), some (T t), some (dd d t ls), none, none, none, none, none, none, none, none, none, none]) (by
      generalize T t = tt at *
      generalize dd d t ls = td at *
      generalize D.lst ((rnds m).map T) = tr at *
      simp [prim1, prim2, c42, e1, e2, hv, Int.not_lt.mpr hv2]) ?_
    refine qs_step (ρ1 := [some b'.p, some (.int m), some (T t), some (dd d t ls), b'.o4, b'.o5, b'.o6, b'.o7, b'.o8, b'.o9, b'.o10, none, none, none]) ?_ (qs_ret (by simp))
    rw [s_for]
    have hit : evIt (callF prog (k + 7)) (.rng [.int 3]) [some p1, some (.int m), some (T t), some (dd d t ls), none, none, none, none, none, none, none, none, none, none] = some (((List.range 3).map fun i : Nat => D.int (i : Int), []), [some p1, some (.int m), some (T t), some (dd d t ls), none, none, none, none, none, none, none, none, none, none]) := by
      simp [hr]
    rw [hit]
    exact hb1
  rw [callS (fn := ir52) rfl, callFn_eq]
  have e0 : [some p, some (D.int m)] ++ List.replicate (ir52.slots - ir52.par) none = [some p, some (.int m), none, none, none, none, none, none, none, none, none, none, none, none] := rfl
  have hp : pinned ir52.pins 0 [some p, some (.int m)] = true := by simp [ir52]
  rw [e0, hb, hp]
  simp [ir52, i0]
end
end LW
set_option maxHeartbeats 1000000
/-! BO34: gains along ways. -/
namespace LW
open PySem L2 DL
theorem cutD_from (l : List D) (a : Nat) : cutD l (some (a : Int)) none = l.drop a := by
  unfold cutD
  rw [HT.sIx_nat, HT.sIx_none]
  rw [List.take_of_length_le (by rw [List.length_drop]; omega)]
  by_cases h : a ≤ l.length
  · rw [Nat.min_eq_left h]
  · rw [Nat.min_eq_right (by omega), List.drop_of_length_le (Nat.le_refl _), List.drop_of_length_le (by omega)]
theorem max_go : ∀ {gs : List Int} {a : Int}, ∃ M, M ∈ a :: gs ∧ maxD (.int a) (gs.map D.int) = .int M ∧ ∀ g ∈ a :: gs, g ≤ M
  | [], a => ⟨a, List.mem_cons_self, rfl, fun g hg => by rw [List.mem_singleton.mp hg]; exact Int.le_refl _⟩
  | b :: gs, a => by
    have e : maxD (.int a) ((b :: gs).map D.int) = maxD (if ltD (.int a) (.int b) then .int b else .int a) (gs.map D.int) := rfl
    have el : ltD (.int a) (.int b) = decide (a < b) := by rw [ltD]
    rw [e, el]
    by_cases h : a < b
    · obtain ⟨M, h1, h2, h3⟩ := max_go (gs := gs) (a := b)
      refine ⟨M, List.mem_cons_of_mem _ h1, by rw [if_pos (decide_eq_true h)]; exact h2, fun g hg => ?_⟩
      rcases List.mem_cons.mp hg with rfl | hg
      · have := h3 b List.mem_cons_self; omega
      · exact h3 g hg
    · obtain ⟨M, h1, h2, h3⟩ := max_go (gs := gs) (a := a)
      refine ⟨M, ?_, by rw [if_neg (by rw [decide_eq_false h]; decide)]; exact h2, fun g hg => ?_⟩
      · rcases List.mem_cons.mp h1 with rfl | h1
        · exact List.mem_cons_self
        · exact List.mem_cons_of_mem _ (List.mem_cons_of_mem _ h1)
      · rcases List.mem_cons.mp hg with rfl | hg
        · exact h3 _ List.mem_cons_self
        · rcases List.mem_cons.mp hg with rfl | hg
          · have := h3 a List.mem_cons_self; omega
          · exact h3 g (List.mem_cons_of_mem _ hg)
theorem max_ints {gs : List Int} (h : gs ≠ []) : ∃ M ∈ gs, maxLD (.lst (gs.map D.int)) = some (.int M) ∧ ∀ g ∈ gs, g ≤ M := by
  cases gs with
  | nil => exact absurd rfl h
  | cons a gs =>
    obtain ⟨M, h1, h2, h3⟩ := max_go (gs := gs) (a := a)
    refine ⟨M, h1, ?_, h3⟩
    show (if alikeAll (.int a) (gs.map D.int) then some (maxD (.int a) (gs.map D.int)) else none) = _
    rw [if_pos, h2]
    unfold alikeAll
    rw [Bool.and_eq_true, Bool.and_eq_true]
    exact ⟨⟨rfl, List.all_eq_true.mpr fun d hd => by obtain ⟨i, _, rfl⟩ := List.mem_map.mp hd; rfl⟩, decide_eq_true (show 0 ≤ 60 by decide)⟩
section
variable {m n : Nat} {vs : List Int} {p : D} {d : DV} {t a b : List Int} {r : List (List Int)}
theorem mend_pairs (h : Mend m vs a r) : ∀ q ∈ (a :: r).zip r, StepOk m vs q.1 q.2 := by
  induction h with
  | done _ => intro q hq; simp at hq
  | step h1 _ ih =>
    intro q hq
    rw [List.zip_cons_cons] at hq
    rcases List.mem_cons.mp hq with rfl | hq
    · exact h1
    · exact ih q hq
theorem mend_last (h : Mend m vs a r) : ∀ e ∈ exs m, len m vs ((a :: r).getLast (by simp)) ≤ len m vs (tn ((a :: r).getLast (by simp)) e.1 e.2) := by
  induction h with
  | done h => exact h
  | step _ _ ih =>
    rw [List.getLast_cons (by simp)]
    exact ih
theorem mend_far (O : DstOk m d) (ht : t ∈ rnds m) (h : Mend m vs a r) (ha : a ∈ rnds m) (hr : ∀ x ∈ r, x ∈ rnds m) : d t ((a :: r).getLast (by simp)) ≤ d t a + r.length := by
  induction h with
  | done _ => simp
  | step h1 _ ih =>
    obtain ⟨e, he, rfl, _⟩ := h1
    have := ih (hr _ List.mem_cons_self) fun x hx => hr x (List.mem_cons_of_mem _ hx)
    have hl := O.lip t ht _ ha e he
    rw [List.getLast_cons (by simp), List.length_cons]
    omega
/-- all gains of a round -/
def gains (m : Nat) (vs a : List Int) : List Int := (exs m).map fun e => len m vs a - len m vs (tn a e.1 e.2)
theorem gains_step (hm : m ∈ [3, 4, 5, 6, 7]) (h : StepOk m vs a b) : maxLD (.lst ((gains m vs a).map D.int)) = some (.int (len m vs a - len m vs b)) ∧ 0 < len m vs a - len m vs b := by
  obtain ⟨e, he, rfl, h1, h2⟩ := h
  obtain ⟨M, g1, g2, g3⟩ := max_ints (gs := gains m vs a) (fun h => (exs_ok m hm).2.2 (List.map_eq_nil_iff.mp h))
  have g4 := g3 _ (List.mem_map.mpr ⟨e, he, rfl⟩)
  obtain ⟨e', he', rfl⟩ := List.mem_map.mp g1
  have := h2 e' he'
  refine ⟨?_, by omega⟩
  rw [g2]
  congr 2
  omega
theorem gains_last (hm : m ∈ [3, 4, 5, 6, 7]) (h : ∀ e ∈ exs m, len m vs a ≤ len m vs (tn a e.1 e.2)) : ∃ M, maxLD (.lst ((gains m vs a).map D.int)) = some (.int M) ∧ M ≤ 0 := by
  obtain ⟨M, g1, g2, g3⟩ := max_ints (gs := gains m vs a) (fun h => (exs_ok m hm).2.2 (List.map_eq_nil_iff.mp h))
  obtain ⟨e', he', rfl⟩ := List.mem_map.mp g1
  have := h e' he'
  exact ⟨_, g2, by omega⟩
/-- all gains, told by the program -/
theorem gainsC (k : Nat) (h : TabV m vs) (ha : a ∈ rnds m) {a0 a3 a4 a5 a6 a7 a8 a9 a11 a12 : Option D} : evE (callF prog (k + 7)) (.comp [8] (.nm 8) (.seq (.call 21 [.var 2])) [] (.call 26 [.var 1, .var 10, .var 8])) [a0, some (tab m vs), some (.int m), a3, a4, a5, a6, a7, a8, a9, some (T a), a11, a12] = some (.lst ((gains m vs a).map D.int), [a0, some (tab m vs), some (.int m), a3, a4, a5, a6, a7, a8, a9, some (T a), a11, a12]) := by
  have Ro := rnd_ok m h.mm
  have e21 := f21 (k + 2) h.mm
  have hz := (exs_ok m h.mm).2.1
  have z := sizeLine_eq
  have hg : (gains m vs a).map D.int = (exs m).map fun e => D.int (len m vs a - len m vs (tn a e.1 e.2)) := by
    unfold gains
    rw [List.map_map]
    rfl
  have it : (tab m vs).imm = true := by simp
  rw [hg]
  refine ev_compM (ρ1 := [a0, some (tab m vs), some (.int m), a3, a4, a5, a6, a7, a8, a9, some (T a), a11, a12]) (ws := []) (exs m) Ex _ (by simp [e21, imms_Ex]) (by simp) (fun e he => ⟨[a0, some (tab m vs), some (.int m), a3, a4, a5, a6, a7, some (Ex e), a9, some (T a), a11, a12], [a0, some (tab m vs), some (.int m), a3, a4, a5, a6, a7, some (Ex e), a9, some (T a), a11, a12], by simp, ?_, by simp⟩) (by omega) (by simp)
  have e26 := f26 k h Ro ha he
  have ia : (T a).imm = true := pl_T.imm
  have ie : (Ex e).imm = true := pl_T.imm
  generalize T a = ta at *
  generalize Ex e = te at *
  generalize tab m vs = tt at *
  simp [e26, ia, ie, it]
structure S53 where
  p : D
  here : List Int
  whole : Int
  o7 : Option D
  o8 : Option D
/-- the drawn way -/
theorem way53 (k : Nat) (h : TabV m vs) (hd : m ∈ [3, 4, 5, 6] → DstOk m d) (ht : t ∈ rnds m) (hp : PotOk p n) (hn : n < 800000000) {laps : Nat} (hl : laps ≤ 10) : ∃ b : S53, PotOk b.p (n + 10) ∧ b.here ∈ rnds m ∧ b.whole = len m vs t - len m vs b.here ∧ (m ∈ [3, 4, 5, 6] → d t b.here ≤ laps) ∧
    evS (callF prog (k + 7)) (.for (.nm 7) (.rng [.var 6]) [.asg (.nm 8) (.call 36 [.var 0, .call 21 [.var 2]]), .asg (.nm 5) (.prim (.bin .add) [.var 5, .call 26 [.var 1, .var 3, .var 8]]), .asg (.nm 3) (.call 25 [.var 2, .var 3, .var 8])]) [some p, some (tab m vs), some (.int m), some (T t), some (T t), some (.int 0), some (.int laps), none, none, none, none, none, none] = some (.nx, [some b.p, some (tab m vs), some (.int m), some (T b.here), some (T t), some (.int b.whole), some (.int laps), b.o7, b.o8, none, none, none, none]) := by
  have Ro := rnd_ok m h.mm
  have z := sizeLine_eq
  have hz := (exs_ok m h.mm).2
  have e21 := f21 (k + 2) h.mm
  have it : (tab m vs).imm = true := by simp
  have hr : rangeD 0 (laps : Int) = some ((List.range laps).map fun i : Nat => D.int (i : Int)) := by
    have := rangeD_nat (a := 0) (b := laps) (by omega) (by omega) (by omega)
    simpa using this
  obtain ⟨b', hb1, hb2, hb3, hb4, hb5, hb6⟩ := forI (ws := []) (t := .nm 7) (body := fun r => evSs (callF prog (k + 7)) [.asg (.nm 8) (.call 36 [.var 0, .call 21 [.var 2]]), .asg (.nm 5) (.prim (.bin .add) [.var 5, .call 26 [.var 1, .var 3, .var 8]]), .asg (.nm 3) (.call 25 [.var 2, .var 3, .var 8])] r)
    (fun i : Nat => D.int (i : Int)) (fun b : S53 => [some b.p, some (tab m vs), some (.int m), some (T b.here), some (T t), some (.int b.whole), some (.int laps), b.o7, b.o8, none, none, none, none])
    (fun xs b => xs.length ≤ laps ∧ PotOk b.p (n + (laps - xs.length)) ∧ b.here ∈ rnds m ∧ b.whole = len m vs t - len m vs b.here ∧ (m ∈ [3, 4, 5, 6] → d t b.here + xs.length ≤ laps))
    (xs := List.range laps) (b := ⟨p, t, 0, none, none⟩) ⟨by simp, by simpa using hp, ht, by simp, fun q => by
      rw [((hd q).zero t ht t ht).mpr rfl]
      simp⟩ (fun _ _ _ => by simp) (fun i xs b hb => by
      obtain ⟨g1, g2, g3, g4, g5⟩ := hb
      rw [List.length_cons] at g1 g2 g5
      obtain ⟨x, p', q1, q2, q3, q4⟩ := f36T (k + 5) g2 (xs := (exs m).map Ex) (imms_Ex _) (by rw [List.length_map]; exact List.length_pos_iff.mpr hz.2) (by rw [List.length_map]; omega) (by omega)
      obtain ⟨e, he, rfl⟩ := List.mem_map.mp q2
      have e26 := f26 k h Ro g3 he
      have e25 := f25 k h.mm Ro g3 he
      refine ⟨_, ⟨p', tn b.here e.1 e.2, b.whole + (len m vs b.here - len m vs (tn b.here e.1 e.2)), some (.int (i : Nat)), some (Ex e)⟩, bT_nm, ?_, by omega, pot_mono q4 (by omega), Ro.tnR _ g3 e he, by simp only [g4]; omega, fun q => by
        have := (hd q).lip t ht _ g3 e he
        have := g5 q
        simp only
        omega⟩
      have i1 := pot_imm g2
      have i2 := pot_imm q4
      have ia : (T b.here).imm = true := pl_T.imm
      have ib : (T (tn b.here e.1 e.2)).imm = true := pl_T.imm
      have iE : D.imms ((exs m).map Ex) = true := imms_Ex _
      refine qs_step (ρ1 := [some p', some (tab m vs), some (.int m), some (T b.here), some (T t), some (.int b.whole), some (.int laps), some (.int (i : Nat)), some (Ex e), none, none, none, none]) ?_ (qs_step (ρ1 := [some p', some (tab m vs), some (.int m), some (T b.here), some (T t), some (.int (b.whole + (len m vs b.here - len m vs (tn b.here e.1 e.2)))), some (.int laps), some (.int (i : Nat)), some (Ex e), none, none, none, none]) ?_ (qs_step (ρ1 := [some p', some (tab m vs), some (.int m), some (T (tn b.here e.1 e.2)), some (T t), some (.int (b.whole + (len m vs b.here - len m vs (tn b.here e.1 e.2)))), some (.int laps), some (.int (i : Nat)), some (Ex e), none, none, none, none]) ?_ (qs_done rfl)))
      · generalize Ex e = te at *
        simp [e21, q1, i1, i2, q3, iE]
      · generalize Ex e = te at *
        generalize T b.here = ta at *
        generalize tab m vs = tt at *
        simp [prim2, e26, it, ia, q3]
      · generalize Ex e = te at *
        generalize T b.here = ta at *
        generalize T (tn b.here e.1 e.2) = tb at *
        simp [e25, ia, ib, q3])
  refine ⟨b', pot_mono hb3 (by omega), hb4, hb5, fun q => by simpa using hb6 q, ?_⟩
  rw [s_for]
  have hit : evIt (callF prog (k + 7)) (.rng [.var 6]) [some p, some (tab m vs), some (.int m), some (T t), some (T t), some (.int 0), some (.int laps), none, none, none, none, none, none] = some (((List.range laps).map fun i : Nat => D.int (i : Int), []), [some p, some (tab m vs), some (.int m), some (T t), some (T t), some (.int 0), some (.int laps), none, none, none, none, none, none]) := by
    simp [hr]
  rw [hit]
  exact hb1
end
end LW
set_option maxHeartbeats 1000000
/-! BQ34: gains, whole; the law. -/
namespace LW
open PySem L2 DL
section
variable {m n : Nat} {vs : List Int} {p : D} {d : DV} {t a b : List Int} {r : List (List Int)}
/-- the last row -/
theorem gainsL (k : Nat) (h : TabV m vs) (ha : a ∈ rnds m) {q : D} (hq : ixD q (.int (-1)) = some (T a)) {a0 a3 a4 a5 a6 a7 a8 a10 a11 a12 : Option D} : evE (callF prog (k + 7)) (.comp [8] (.nm 8) (.seq (.call 21 [.var 2])) [] (.call 26 [.var 1, .prim .ix [.var 9, .prim .neg [.int 1]], .var 8])) [a0, some (tab m vs), some (.int m), a3, a4, a5, a6, a7, a8, some q, a10, a11, a12] = some (.lst ((gains m vs a).map D.int), [a0, some (tab m vs), some (.int m), a3, a4, a5, a6, a7, a8, some q, a10, a11, a12]) := by
  have Ro := rnd_ok m h.mm
  have e21 := f21 (k + 2) h.mm
  have hz := (exs_ok m h.mm).2.1
  have z := sizeLine_eq
  have hg : (gains m vs a).map D.int = (exs m).map fun e => D.int (len m vs a - len m vs (tn a e.1 e.2)) := by
    unfold gains
    rw [List.map_map]
    rfl
  have it : (tab m vs).imm = true := by simp
  rw [hg]
  refine ev_compM (ρ1 := [a0, some (tab m vs), some (.int m), a3, a4, a5, a6, a7, a8, some q, a10, a11, a12]) (ws := []) (exs m) Ex _ (by simp [e21, imms_Ex]) (by simp) (fun e he => ⟨[a0, some (tab m vs), some (.int m), a3, a4, a5, a6, a7, some (Ex e), some q, a10, a11, a12], [a0, some (tab m vs), some (.int m), a3, a4, a5, a6, a7, some (Ex e), some q, a10, a11, a12], by simp, ?_, by simp⟩) (by omega) (by simp)
  have e26 := f26 k h Ro ha he
  have ia : (T a).imm = true := pl_T.imm
  have ie : (Ex e).imm = true := pl_T.imm
  generalize T a = ta at *
  generalize Ex e = te at *
  generalize tab m vs = tt at *
  simp [prim1, prim2, negD, hq, e26, ia, ie, it]
/-- each step gains the most -/
theorem steps53 (k : Nat) (h : TabV m vs) (hst : ∀ q ∈ (t :: r).zip r, StepOk m vs q.1 q.2) (hR : ∀ x ∈ t :: r, x ∈ rnds m) (hz : r.length ≤ 5000) {a0 a3 a4 a5 a6 a7 a8 : Option D} : ∃ o10 o11 o12 : Option D,
    evS (callF prog (k + 7)) (.for (.tp [.nm 10, .nm 11]) (.zip (.var 9) (.prim (.slice true false) [.var 9, .int 1])) [.asg (.nm 12) (.comp [8] (.nm 8) (.seq (.call 21 [.var 2])) [] (.call 26 [.var 1, .var 10, .var 8])), .ifs (.orE (.prim (.cmp .ne) [.prim .maxL [.var 12], .prim (.bin .sub) [.call 44 [.var 1, .var 10], .call 44 [.var 1, .var 11]]]) (.prim (.cmp .le) [.prim .maxL [.var 12], .int 0])) [.ret (.bl false)] []]) [a0, some (tab m vs), some (.int m), a3, a4, a5, a6, a7, a8, some (.tup ((t :: r).map T)), none, none, none] = some (.nx, [a0, some (tab m vs), some (.int m), a3, a4, a5, a6, a7, a8, some (.tup ((t :: r).map T)), o10, o11, o12]) := by
  have Ro := rnd_ok m h.mm
  have z := sizeLine_eq
  have it : (tab m vs).imm = true := by simp
  obtain ⟨b', hb1, hb2⟩ := forI (ws := [(9, D.tup ((t :: r).map T))]) (t := .tp [.nm 10, .nm 11]) (body := fun r => evSs (callF prog (k + 7)) [.asg (.nm 12) (.comp [8] (.nm 8) (.seq (.call 21 [.var 2])) [] (.call 26 [.var 1, .var 10, .var 8])), .ifs (.orE (.prim (.cmp .ne) [.prim .maxL [.var 12], .prim (.bin .sub) [.call 44 [.var 1, .var 10], .call 44 [.var 1, .var 11]]]) (.prim (.cmp .le) [.prim .maxL [.var 12], .int 0])) [.ret (.bl false)] []] r)
    (fun q : List Int × List Int => D.tup [T q.1, T q.2]) (fun b : Option D × Option D × Option D => [a0, some (tab m vs), some (.int m), a3, a4, a5, a6, a7, a8, some (.tup ((t :: r).map T)), b.1, b.2.1, b.2.2])
    (fun xs _ => ∀ q ∈ xs, StepOk m vs q.1 q.2 ∧ q.1 ∈ rnds m ∧ q.2 ∈ rnds m)
    (xs := (t :: r).zip r) (b := (none, none, none)) (fun q hq => ⟨hst q hq, hR _ (List.of_mem_zip hq).1, hR _ (List.mem_cons_of_mem _ (List.of_mem_zip hq).2)⟩) (fun _ _ _ => by simp) (fun q xs b hb => by
      obtain ⟨s1, s2, s3⟩ := hb q List.mem_cons_self
      obtain ⟨g1, g2⟩ := gains_step h.mm s1
      have c := gainsC k h s2 (a0 := a0) (a3 := a3) (a4 := a4) (a5 := a5) (a6 := a6) (a7 := a7) (a8 := a8) (a9 := some (.tup ((t :: r).map T))) (a11 := some (T q.2)) (a12 := b.2.2)
      refine ⟨[a0, some (tab m vs), some (.int m), a3, a4, a5, a6, a7, a8, some (.tup ((t :: r).map T)), some (T q.1), some (T q.2), b.2.2], (some (T q.1), some (T q.2), some (.lst ((gains m vs q.1).map D.int))), by simp, ?_, fun x hx => hb x (List.mem_cons_of_mem _ hx)⟩
      refine qs_step (ρ1 := [a0, some (tab m vs), some (.int m), a3, a4, a5, a6, a7, a8, some (.tup ((t :: r).map T)), some (T q.1), some (T q.2), some (.lst ((gains m vs q.1).map D.int))]) (by rw [s_asg, c]; simp) ?_
      have e1 := f44 (k + 4) h Ro s2
      have e2 := f44 (k + 4) h Ro s3
      have i1 : (T q.1).imm = true := pl_T.imm
      have i2 : (T q.2).imm = true := pl_T.imm
      refine qs_if_f (ρ' := [a0, some (tab m vs), some (.int m), a3, a4, a5, a6, a7, a8, some (.tup ((t :: r).map T)), some (T q.1), some (T q.2), some (.lst ((gains m vs q.1).map D.int))]) ?_ (qs_done rfl)
      generalize D.lst ((gains m vs q.1).map D.int) = tg at *
      generalize D.tup ((t :: r).map T) = ts at *
      generalize T q.1 = t1 at *
      generalize T q.2 = t2 at *
      generalize tab m vs = tt at *
      simp [prim1, prim2, g1, e1, e2, i1, i2, it, Int.not_le.mpr g2])
  refine ⟨b'.1, b'.2.1, b'.2.2, ?_⟩
  rw [s_for]
  have hsl : sliceD (.tup ((t :: r).map T)) (some (1 : Int)) none = some (.tup (r.map T)) := by
    unfold sliceD
    have := cutD_from ((t :: r).map T) 1
    have e : cutD ((t :: r).map T) (some (1 : Int)) none = r.map T := this
    simp only [seq_tup, e, reseq, T_imms, if_true]
  have hzip : (((t :: r).map T).zip (r.map T)).map (fun x => D.tup [x.1, x.2]) = ((t :: r).zip r).map fun q => D.tup [T q.1, T q.2] := by
    rw [List.zip_map, List.map_map]
    rfl
  have i1 : D.imms ((t :: r).map T) = true := T_imms _
  have i2 : D.imms (r.map T) = true := T_imms _
  have hit : evIt (callF prog (k + 7)) (.zip (.var 9) (.prim (.slice true false) [.var 9, .int 1])) [a0, some (tab m vs), some (.int m), a3, a4, a5, a6, a7, a8, some (.tup ((t :: r).map T)), none, none, none] = some ((((t :: r).zip r).map fun q => D.tup [T q.1, T q.2], [(9, D.tup ((t :: r).map T))]), [a0, some (tab m vs), some (.int m), a3, a4, a5, a6, a7, a8, some (.tup ((t :: r).map T)), none, none, none]) := by
    rw [← hzip]
    generalize (t :: r).map T = l1 at *
    generalize r.map T = l2 at *
    simp [prim2, hsl, i1, i2, isTupD]
  rw [hit]
  exact hb1
theorem f53 (k : Nat) (h : TabV m vs) (hp : PotOk p n) (hn : n < 700000000) : ∃ p', callF prog (k + 9) 53 [some p, some (tab m vs)] = some (.bl true, [some p', some (tab m vs)]) ∧ PotOk p' (n + 30) := by
  have hm' := m_le h.mm
  have Ro := rnd_ok m h.mm
  have z := sizeLine_eq
  have hd : m ∈ [3, 4, 5, 6] → DstOk m (dst m) := dst_is m
  generalize dst m = d at hd
  have it : (tab m vs).imm = true := by simp
  have e0 := tab0 (m := m) (vs := vs)
  obtain ⟨t, p1, c1, ht, hp1⟩ := f50 (k + 5) hp h.mm (by omega)
  obtain ⟨i, p2, d1, d2, d3, hp2⟩ := f35 (k + 7) (u := 6) hp1 (by omega) (by omega)
  obtain ⟨laps, hlaps⟩ : ∃ laps : Nat, 1 + i = (laps : Int) := ⟨(1 + i).toNat, by omega⟩
  obtain ⟨b, q1, q2, q3, q4, q5⟩ := way53 (k + 1) h hd ht hp2 (by omega) (laps := laps) (by omega)
  have f1 := f17 (k + 1) h Ro ht
  have f2 := f17 (k + 1) h Ro q2
  obtain ⟨r, r1, r2, r3, r4⟩ := f30 h Ro (fun l hl => len_le h hl) ht
  have e32 := f32 k h Ro ht r4
  have e31 := f31 k h Ro ht r4
  have hall : ∀ x ∈ t :: r, x ∈ rnds m := fun x hx => (List.mem_cons.mp hx).elim (fun e => e ▸ ht) (r2 x)
  have hlast : (t :: r).getLast (by simp) ∈ rnds m := hall _ (List.getLast_mem _)
  have hml := mend_last r1
  have hfar := fun q : m ∈ [3, 4, 5, 6] => mend_far (hd q) ht r1 ht r2
  have h33 := fun q : m ∈ [3, 4, 5, 6] => f33 q (hd q) ht q2 (k + 1)
  have h33' := fun q : m ∈ [3, 4, 5, 6] => f33 q (hd q) ht hlast (k + 1)
  have hz0 := fun q : m ∈ [3, 4, 5, 6] => ((hd q).zero t ht t ht).mpr rfl
  obtain ⟨o10, o11, o12, s53⟩ := steps53 (k + 1) h (mend_pairs r1) hall r3 (a0 := some b.p) (a3 := some (T b.here)) (a4 := some (T t)) (a5 := some (.int b.whole)) (a6 := some (.int laps)) (a7 := b.o7) (a8 := b.o8)
  have hix : ixD (.tup ((t :: r).map T)) (.int (-1)) = some (T ((t :: r).getLast (by simp))) := by
    have : (t :: r).map T = ((t :: r).dropLast.map T) ++ [T ((t :: r).getLast (by simp))] := by
      rw [← List.map_singleton, ← List.map_append, List.dropLast_concat_getLast]
    rw [this]
    show immO (atI _ (-1)) = _
    rw [atI_last]
    simp [immO]
  have hcmp := cmp_neT (a := (t :: r).getLast (by simp)) (b := (t :: r).getLast (by simp)) rfl
  obtain ⟨M, m1, m2⟩ := gains_last h.mm hml
  have gl := gainsL (k + 1) h hlast hix (a0 := some b.p) (a3 := some (T b.here)) (a4 := some (T t)) (a5 := some (.int b.whole)) (a6 := some (.int laps)) (a7 := b.o7) (a8 := b.o8) (a10 := o10) (a11 := o11) (a12 := o12)
  have hlen : lenD (.tup ((t :: r).map T)) = some (.int ((r.length : Int) + 1)) := by simp [lenD]
  have i0 := pot_imm hp
  have i1 := pot_imm hp1
  have i2 := pot_imm hp2
  have i3 := pot_imm q1
  have ia : (T t).imm = true := pl_T.imm
  have ib : (T b.here).imm = true := pl_T.imm
  have iT : D.imms ((t :: r).map T) = true := T_imms _
  have hm36 : (m : Int) < 7 → m ∈ [3, 4, 5, 6] := fun q => by
    have := h.mm
    simp at this ⊢
    omega
  generalize hL : (t :: r).getLast (by simp) = lst at *
  clear hL
  have its : (D.tup ((t :: r).map T)).imm = true := by rw [imm_tup]; exact iT
  generalize D.tup ((t :: r).map T) = ts at *
  have il : (T lst).imm = true := pl_T.imm
  refine ⟨b.p, ?_, pot_mono q1 (by omega)⟩
  have hb : evSs (callF prog (k + 8)) ir53.body [some p, some (tab m vs), none, none, none, none, none, none, none, none, none, none, none] = some (.rt (.bl true), [some b.p, some (tab m vs), some (.int m), some (T b.here), some (T t), some (.int b.whole), some (.int laps), b.o7, b.o8, some ts, o10, o11, o12]) := by
    unfold ir53
    refine qs_step (ρ1 := [some p1, some (tab m vs), some (.int m), some (T t), none, none, none, none, none, none, none, none, none]) (by
      generalize T t = tt at *
      generalize tab m vs = tv at *
      simp [prim2, e0, c1, i0, i1, it]) ?_
    refine qs_step (ρ1 := [some p2, some (tab m vs), some (.int m), some (T t), some (T t), some (.int 0), some (.int laps), none, none, none, none, none, none]) (by
      generalize T t = tt at *
      generalize tab m vs = tv at *
      simp [prim1, prim2, d1, i1, i2, it, ia, intD, hlaps]) ?_
    refine qs_step q5 ?_
    refine qs_if_f (ρ' := [some b.p, some (tab m vs), some (.int m), some (T b.here), some (T t), some (.int b.whole), some (.int laps), b.o7, b.o8, none, none, none, none]) (by
      generalize T t = tt at *
      generalize T b.here = tb at *
      generalize tab m vs = tv at *
      simp [prim2, f1, f2, it, ia, ib, q3]) ?_
    refine qs_if_f (ρ' := [some b.p, some (tab m vs), some (.int m), some (T b.here), some (T t), some (.int b.whole), some (.int laps), b.o7, b.o8, none, none, none, none]) (by
      by_cases h7 : (m : Int) < 7
      · have g1 := h33 (hm36 h7)
        have g2 : ¬ (laps : Int) < ((d t b.here : Nat) : Int) := by have := q4 (hm36 h7); omega
        generalize T t = tt at *
        generalize T b.here = tb at *
        simp [prim2, h7, g1, ia, ib, g2]
      · have h7' : ¬ m < 7 := by omega
        simp [prim2, h7]) ?_
    refine qs_step (ρ1 := [some b.p, some (tab m vs), some (.int m), some (T b.here), some (T t), some (.int b.whole), some (.int laps), b.o7, b.o8, some ts, none, none, none]) (by
      generalize T t = tt at *
      generalize tab m vs = tv at *
      simp [e32, it, ia]) ?_
    refine qs_if_f (ρ' := [some b.p, some (tab m vs), some (.int m), some (T b.here), some (T t), some (.int b.whole), some (.int laps), b.o7, b.o8, some ts, none, none, none]) (by
      by_cases h7 : (m : Int) < 7
      · have g1 := h33' (hm36 h7)
        have g2 : ¬ (r.length : Int) < ((d t lst : Nat) : Int) := by
          have := hfar (hm36 h7)
          rw [hz0 (hm36 h7)] at this
          omega
        generalize T t = tt at *
        generalize T lst = tl at *
        generalize tab m vs = tv at *
        simp [prim1, prim2, negD, hix, e31, hcmp, h7, hlen, g1, ia, il, it, its, g2]
      · have h7' : ¬ m < 7 := by omega
        generalize T t = tt at *
        generalize T lst = tl at *
        generalize tab m vs = tv at *
        simp [prim1, prim2, negD, hix, e31, hcmp, h7, ia, il, it, its]) ?_
    refine qs_step s53 ?_
    refine qs_ret ?_
    simp [-ev_comp, prim1, prim2, gl, m1, m2]
  rw [callS (fn := ir53) rfl, callFn_eq]
  have e0' : [some p, some (tab m vs)] ++ List.replicate (ir53.slots - ir53.par) none = [some p, some (tab m vs), none, none, none, none, none, none, none, none, none, none, none] := rfl
  have hpn : pinned ir53.pins 0 [some p, some (tab m vs)] = true := by simp [ir53]
  rw [e0', hb, hpn]
  simp [ir53, i0]
theorem f54 (k : Nat) (hp : PotOk p n) (hn : n < 1000) : ∃ p', callF prog (k + 10) 54 [some p] = some (.bl true, [some p']) := by
  have z := sizeLine_eq
  obtain ⟨i, p1, a1, a2, a3, h1⟩ := f35 (k + 8) (u := 4) hp (by omega) (by omega)
  obtain ⟨j, p2, b1, b2, b3, h2⟩ := f35 (k + 8) (u := 3) h1 (by omega) (by omega)
  obtain ⟨m1, e1⟩ : ∃ m1 : Nat, 3 + i = (m1 : Int) := ⟨(3 + i).toNat, by omega⟩
  obtain ⟨m2, e2⟩ : ∃ m2 : Nat, 4 + j = (m2 : Int) := ⟨(4 + j).toNat, by omega⟩
  have hm1 : m1 ∈ [3, 4, 5, 6] := by simp; omega
  have hm2 : m2 ∈ [3, 4, 5, 6] := by simp; omega
  have turn : ∀ (m : Nat) (p : D) (n : Nat), m ∈ [3, 4, 5, 6] → PotOk p n → n < 3000 → ∃ p', PotOk p' (n + 1000) ∧ evSs (callF prog (k + 9)) [.ifs (.orE (.notE (.call 52 [.var 0, .var 1])) (.notE (.call 53 [.var 0, .call 49 [.var 0, .var 1]]))) [.ret (.bl false)] []] [some p, some (.int m)] = some (.nx, [some p', some (.int m)]) := by
    intro m p n hm hp hn
    obtain ⟨q1, c1, g1⟩ := f52 (k + 1) hm hp (by omega)
    obtain ⟨vs, q2, t1, g2, c2⟩ := f49 (k + 6) g1 (m_in hm) (by omega)
    obtain ⟨q3, c3, g3⟩ := f53 k t1 g2 (by omega)
    have i0 := pot_imm hp
    have i1 := pot_imm g1
    have i2 := pot_imm g2
    have i3 := pot_imm g3
    have it : (tab m vs).imm = true := by simp
    refine ⟨q3, pot_mono g3 (by omega), ?_⟩
    generalize tab m vs = tv at *
    refine qs_if_f (ρ' := [some q3, some (.int m)]) ?_ (qs_done rfl)
    simp [c1, c2, c3, i0, i1, i2, i3, it]
  obtain ⟨p3, h3, s1⟩ := turn m1 p2 _ hm1 h2 (by omega)
  obtain ⟨p4, h4, s2⟩ := turn m2 p3 _ hm2 h3 (by omega)
  obtain ⟨vs, p5, t5, h5, c5⟩ := f49 (k + 6) h4 (m := 7) (by decide) (by omega)
  obtain ⟨p6, c6, h6⟩ := f53 k t5 h5 (by omega)
  refine ⟨p6, ?_⟩
  have i0 := pot_imm hp
  have i1 := pot_imm h1
  have i2 := pot_imm h2
  have i3 := pot_imm h3
  have i4 := pot_imm h4
  have i5 := pot_imm h5
  have i6 := pot_imm h6
  have it : (tab 7 vs).imm = true := by simp
  have hb : evSs (callF prog (k + 9)) ir54.body [some p, none] = some (.rt (.bl true), [some p6, some (.int m2)]) := by
    unfold ir54
    refine qs_step (ρ1 := [some p4, some (.int m2)]) ?_ (qs_ret ?_)
    · rw [s_for]
      have hit : evIt (callF prog (k + 9)) (.seq (.disp true [false, false] [.prim .int [.prim (.bin .add) [.int 3, .call 35 [.var 0, .int 4]]], .prim .int [.prim (.bin .add) [.int 4, .call 35 [.var 0, .int 3]]]])) [some p, none] = some (([.int m1, .int m2], []), [some p2, none]) := by
        simp [prim1, prim2, a1, b1, i0, i1, i2, intD, e1, e2, z]
      rw [hit]
      simp only [Option.bind_some]
      rw [forL, watch_nil, if_pos rfl, bT_nm]
      simp only [es0, esS]
      rw [s1]
      simp only
      rw [forL, watch_nil, if_pos rfl, bT_nm]
      simp only [es0, esS]
      rw [s2]
      simp only
      rw [forL, watch_nil, if_pos rfl]
    · have c5 : callF prog (k + 9) 49 [some p4, some (.int 7)] = some (tab 7 vs, [some p5, some (.int 7)]) := c5
      generalize tab 7 vs = tv at *
      simp [c5, c6, i4, i5, i6, it]
  rw [callS (fn := ir54) rfl, callFn_eq]
  have e0' : [some p] ++ List.replicate (ir54.slots - ir54.par) none = [some p, none] := rfl
  have hpn : pinned ir54.pins 0 [some p] = true := by simp [ir54]
  rw [e0', hb, hpn]
  simp [ir54, i0]
end
theorem plain (ns : List Int) (h : ns.length ≤ 63) : ∃ fin, callF prog 24 55 [some (.frz (ns.map D.int))] = some (.bl true, fin) := by
  have z := sizeLine_eq
  obtain ⟨c, hc, e37⟩ := f37 22 ns (by omega)
  have hc' : evE (callF prog 23) (.comp [1] (.nm 1) (.seq (.call 37 [.var 0, .int 2])) [] (.call 54 [.call 34 [.var 0, .var 1]])) [some (.frz (ns.map D.int)), none] = some (.lst ((List.range c).map fun _ => D.bl true), [some (.frz (ns.map D.int)), none]) := by
    have hi : D.imms ((List.range c).map fun i : Nat => D.int (i : Int)) = true := by
      have : ((List.range c).map fun i : Nat => D.int (i : Int)) = ((List.range c).map fun i : Nat => (i : Int)).map D.int := by rw [List.map_map]; rfl
      rw [this]
      exact imms_ints
    refine ev_compM (ρ1 := [some (.frz (ns.map D.int)), none]) (ws := []) (List.range c) (fun i : Nat => D.int (i : Int)) _ ?_ (by simp) (fun i hi => ?_) (by simp; omega) (by simp)
    · generalize ((List.range c).map fun i : Nat => D.int (i : Int)) = q at *
      simp [e37, hi]
    · have hi := List.mem_range.mp hi
      obtain ⟨p, c1, h1⟩ := f34 22 ns i (by omega) (by omega)
      obtain ⟨p', c2⟩ := f54 13 h1 (by omega)
      have i1 := pot_imm h1
      exact ⟨[some (.frz (ns.map D.int)), some (.int i)], [some (.frz (ns.map D.int)), some (.int i)], by simp, by simp [c1, c2, i1], by simp⟩
  have ha : allD (.lst ((List.range c).map fun _ => D.bl true)) = some (.bl true) := by
    show (allBl ((List.range c).map fun _ => D.bl true)).map (fun m => D.bl (m.all id)) = _
    rw [allBl_map (f := fun _ => true)]
    simp
  refine ⟨[some (.frz (ns.map D.int))], ?_⟩
  rw [callS (fn := ir55) rfl, callFn_eq]
  simp [ir55, -ev_comp, prim1, hc', ha]
end LW
set_option maxHeartbeats 0
namespace LW
open PySem PySem.Spec PyProof.Rows L2

abbrev top (i : Nat) : Stmt := PySem.Challenge.pw_noroundshorter_k34_whole_exchanges_as_a.main.body.getD i (.Pass ⟨0, 0, 0, 0⟩)
abbrev s0 : Stmt := top 8
abbrev s1 : Stmt := top 9
abbrev s2 : Stmt := top 10
abbrev s3 : Stmt := top 15
abbrev s4 : Stmt := top 16
abbrev s5 : Stmt := top 17
abbrev s6 : Stmt := top 18
abbrev s7 : Stmt := top 19
abbrev s8 : Stmt := top 20
abbrev s9 : Stmt := top 21
abbrev s10 : Stmt := top 22
abbrev s11 : Stmt := top 23
abbrev s12 : Stmt := top 25
abbrev s13 : Stmt := top 26
abbrev s14 : Stmt := top 27
abbrev s15 : Stmt := top 28
abbrev s16 : Stmt := top 29
abbrev s17 : Stmt := top 30
abbrev s18 : Stmt := top 31
abbrev s19 : Stmt := top 32
abbrev s20 : Stmt := top 34
abbrev s21 : Stmt := top 35
abbrev s22 : Stmt := top 36
abbrev s23 : Stmt := top 37
abbrev s24 : Stmt := top 38
abbrev s25 : Stmt := top 39
abbrev s26 : Stmt := top 40
abbrev s27 : Stmt := top 41
abbrev s28 : Stmt := top 42
abbrev s29 : Stmt := top 43
abbrev s30 : Stmt := top 44
abbrev s31 : Stmt := top 45
abbrev s32 : Stmt := top 46
abbrev s33 : Stmt := top 48
abbrev s34 : Stmt := top 50
abbrev s35 : Stmt := top 51
abbrev s36 : Stmt := top 52
abbrev s37 : Stmt := top 53
abbrev s38 : Stmt := top 54
abbrev s39 : Stmt := top 55
abbrev s40 : Stmt := top 56
abbrev s41 : Stmt := top 57
abbrev s42 : Stmt := top 58
abbrev s43 : Stmt := top 59
abbrev s44 : Stmt := top 60
abbrev s45 : Stmt := top 61
abbrev s46 : Stmt := top 62
abbrev s47 : Stmt := top 63
abbrev s48 : Stmt := top 64
abbrev s49 : Stmt := top 65
abbrev s50 : Stmt := top 66
abbrev s51 : Stmt := top 67
abbrev s52 : Stmt := top 68
abbrev s53 : Stmt := top 69
abbrev s54 : Stmt := top 70
abbrev s55 : Stmt := top 71
def d0 : He.DefD := ⟨("is_integer", none), "is_integer", "is_integer", defArgs s0, defBody s0, defScope s0, [], []⟩
def d1 : He.DefD := ⟨("is_between", none), "is_between", "is_between", defArgs s1, defBody s1, defScope s1, [], []⟩
def d2 : He.DefD := ⟨("are_between", none), "are_between", "are_between", defArgs s2, defBody s2, defScope s2, [], []⟩
def d3 : He.DefD := ⟨("roads_in", none), "roads_in", "roads_in", defArgs s3, defBody s3, defScope s3, [], []⟩
def d4 : He.DefD := ⟨("road_between", none), "road_between", "road_between", defArgs s4, defBody s4, defScope s4, [], []⟩
def d5 : He.DefD := ⟨("is_many", none), "is_many", "is_many", defArgs s5, defBody s5, defScope s5, [], []⟩
def d6 : He.DefD := ⟨("is_table", none), "is_table", "is_table", defArgs s6, defBody s6, defScope s6, [], []⟩
def d7 : He.DefD := ⟨("is_order", none), "is_order", "is_order", defArgs s7, defBody s7, defScope s7, [], []⟩
def d8 : He.DefD := ⟨("check_many", none), "check_many", "check_many", defArgs s8, defBody s8, defScope s8, [], []⟩
def d9 : He.DefD := ⟨("check_table", none), "check_table", "check_table", defArgs s9, defBody s9, defScope s9, [], []⟩
def d10 : He.DefD := ⟨("check_order", none), "check_order", "check_order", defArgs s10, defBody s10, defScope s10, [], []⟩
def d11 : He.DefD := ⟨("lengths_of", none), "lengths_of", "lengths_of", defArgs s11, defBody s11, defScope s11, [], []⟩
def d12 : He.DefD := ⟨("is_round_of", none), "is_round_of", "is_round_of", defArgs s12, defBody s12, defScope s12, [], []⟩
def d13 : He.DefD := ⟨("check_round", none), "check_round", "check_round", defArgs s13, defBody s13, defScope s13, [], []⟩
def d14 : He.DefD := ⟨("roads_along", none), "roads_along", "roads_along", defArgs s14, defBody s14, defScope s14, [], []⟩
def d15 : He.DefD := ⟨("round_roads", none), "round_roads", "round_roads", defArgs s15, defBody s15, defScope s15, [], []⟩
def d16 : He.DefD := ⟨("length_along", none), "length_along", "length_along", defArgs s16, defBody s16, defScope s16, [], []⟩
def d17 : He.DefD := ⟨("length_of", none), "length_of", "length_of", defArgs s17, defBody s17, defScope s17, [], []⟩
def d18 : He.DefD := ⟨("round_by", none), "round_by", "round_by", defArgs s18, defBody s18, defScope s18, [], []⟩
def d19 : He.DefD := ⟨("moved_round", none), "moved_round", "moved_round", defArgs s19, defBody s19, defScope s19, [], []⟩
def d20 : He.DefD := ⟨("exchanges_in", none), "exchanges_in", "exchanges_in", defArgs s20, defBody s20, defScope s20, [], []⟩
def d21 : He.DefD := ⟨("exchanges_of", none), "exchanges_of", "exchanges_of", defArgs s21, defBody s21, defScope s21, [], []⟩
def d22 : He.DefD := ⟨("is_exchange", none), "is_exchange", "is_exchange", defArgs s22, defBody s22, defScope s22, [], []⟩
def d23 : He.DefD := ⟨("check_exchange", none), "check_exchange", "check_exchange", defArgs s23, defBody s23, defScope s23, [], []⟩
def d24 : He.DefD := ⟨("turned", none), "turned", "turned", defArgs s24, defBody s24, defScope s24, [], []⟩
def d25 : He.DefD := ⟨("exchanged", none), "exchanged", "exchanged", defArgs s25, defBody s25, defScope s25, [], []⟩
def d26 : He.DefD := ⟨("gain_of", none), "gain_of", "gain_of", defArgs s26, defBody s26, defScope s26, [], []⟩
def d27 : He.DefD := ⟨("check_tour", none), "check_tour", "check_tour", defArgs s27, defBody s27, defScope s27, [], []⟩
def d28 : He.DefD := ⟨("best_exchange", none), "best_exchange", "best_exchange", defArgs s28, defBody s28, defScope s28, [], []⟩
def d29 : He.DefD := ⟨("is_firm", none), "is_firm", "is_firm", defArgs s29, defBody s29, defScope s29, [], []⟩
def d30 : He.DefD := ⟨("steps_from", none), "steps_from", "steps_from", defArgs s30, defBody s30, defScope s30, [], []⟩
def d31 : He.DefD := ⟨("mended", none), "mended", "mended", defArgs s31, defBody s31, defScope s31, [], []⟩
def d32 : He.DefD := ⟨("mending_steps", none), "mending_steps", "mending_steps", defArgs s32, defBody s32, defScope s32, [], []⟩
def d33 : He.DefD := ⟨("exchanges_between", none), "exchanges_between", "exchanges_between", defArgs s33, defBody s33, defScope s33, [], []⟩
def d34 : He.DefD := ⟨("_law_pot", none), "_law_pot", "_law_pot", defArgs s34, defBody s34, defScope s34, [], []⟩
def d35 : He.DefD := ⟨("_law_take", none), "_law_take", "_law_take", defArgs s35, defBody s35, defScope s35, [], []⟩
def d36 : He.DefD := ⟨("_law_of", none), "_law_of", "_law_of", defArgs s36, defBody s36, defScope s36, [], []⟩
def d37 : He.DefD := ⟨("_law_cells", none), "_law_cells", "_law_cells", defArgs s37, defBody s37, defScope s37, [], []⟩
def d38 : He.DefD := ⟨("_law_some", none), "_law_some", "_law_some", defArgs s38, defBody s38, defScope s38, [], []⟩
def d39 : He.DefD := ⟨("_law_roads", none), "_law_roads", "_law_roads", defArgs s39, defBody s39, defScope s39, [], []⟩
def d40 : He.DefD := ⟨("_law_road", none), "_law_road", "_law_road", defArgs s40, defBody s40, defScope s40, [], []⟩
def d41 : He.DefD := ⟨("_law_known", none), "_law_known", "_law_known", defArgs s41, defBody s41, defScope s41, [], []⟩
def d42 : He.DefD := ⟨("_law_rounds", none), "_law_rounds", "_law_rounds", defArgs s42, defBody s42, defScope s42, [], []⟩
def d43 : He.DefD := ⟨("_law_along", none), "_law_along", "_law_along", defArgs s43, defBody s43, defScope s43, [], []⟩
def d44 : He.DefD := ⟨("_law_length", none), "_law_length", "_law_length", defArgs s44, defBody s44, defScope s44, [], []⟩
def d45 : He.DefD := ⟨("_law_as_round", none), "_law_as_round", "_law_as_round", defArgs s45, defBody s45, defScope s45, [], []⟩
def d46 : He.DefD := ⟨("_law_is_int", none), "_law_is_int", "_law_is_int", defArgs s46, defBody s46, defScope s46, [], []⟩
def d47 : He.DefD := ⟨("_law_exchanges", none), "_law_exchanges", "_law_exchanges", defArgs s47, defBody s47, defScope s47, [], []⟩
def d48 : He.DefD := ⟨("_law_turned", none), "_law_turned", "_law_turned", defArgs s48, defBody s48, defScope s48, [], []⟩
def d49 : He.DefD := ⟨("_law_table_of", none), "_law_table_of", "_law_table_of", defArgs s49, defBody s49, defScope s49, [], []⟩
def d50 : He.DefD := ⟨("_law_round_of", none), "_law_round_of", "_law_round_of", defArgs s50, defBody s50, defScope s50, [], []⟩
def d51 : He.DefD := ⟨("_law_out_from", none), "_law_out_from", "_law_out_from", defArgs s51, defBody s51, defScope s51, [], []⟩
def d52 : He.DefD := ⟨("_law_are_measured", none), "_law_are_measured", "_law_are_measured", defArgs s52, defBody s52, defScope s52, [], []⟩
def d53 : He.DefD := ⟨("_law_are_gains_right", none), "_law_are_gains_right", "_law_are_gains_right", defArgs s53, defBody s53, defScope s53, [], []⟩
def d54 : He.DefD := ⟨("_law_right", none), "_law_right", "_law_right", defArgs s54, defBody s54, defScope s54, [], []⟩
def d55 : He.DefD := ⟨("law", none), "law", "law", defArgs s55, defBody s55, defScope s55, [], []⟩
def fn : List He.DefD := [d0, d1, d2, d3, d4, d5, d6, d7, d8, d9, d10, d11, d12, d13, d14, d15, d16, d17, d18, d19, d20, d21, d22, d23, d24, d25, d26, d27, d28, d29, d30, d31, d32, d33, d34, d35, d36, d37, d38, d39, d40, d41, d42, d43, d44, d45, d46, d47, d48, d49, d50, d51, d52, d53, d54, d55]
def fa : List He.Fa := [.glo "is_integer", .glo "is_between", .glo "are_between", .glo "roads_in", .glo "road_between", .glo "is_many", .glo "is_table", .glo "is_order", .glo "check_many", .glo "check_table", .glo "check_order", .glo "lengths_of", .glo "is_round_of", .glo "check_round", .glo "roads_along", .glo "round_roads", .glo "length_along", .glo "length_of", .glo "round_by", .glo "moved_round", .glo "exchanges_in", .glo "exchanges_of", .glo "is_exchange", .glo "check_exchange", .glo "turned", .glo "exchanged", .glo "gain_of", .glo "check_tour", .glo "best_exchange", .glo "is_firm", .glo "steps_from", .glo "mended", .glo "mending_steps", .glo "exchanges_between", .glo "_law_pot", .glo "_law_take", .glo "_law_of", .glo "_law_cells", .glo "_law_some", .glo "_law_roads", .glo "_law_road", .glo "_law_known", .glo "_law_rounds", .glo "_law_along", .glo "_law_length", .glo "_law_as_round", .glo "_law_is_int", .glo "_law_exchanges", .glo "_law_turned", .glo "_law_table_of", .glo "_law_round_of", .glo "_law_out_from", .glo "_law_are_measured", .glo "_law_are_gains_right", .glo "_law_right", .glo "law", .int "LEAST_MANY" 3, .int "MOST_MANY" 7, .int "MOST_LENGTH" 99, .free "abs", .free "all", .free "bool", .free "dict", .free "int", .free "isinstance", .free "len", .free "list", .free "max", .free "min", .free "range", .free "set", .free "sorted", .free "sum", .free "tuple", .free "zip"]
abbrev R : PySem.W.OpenRow := PySem.W.OpenLaw.row PySem.Challenge.rw_noroundshorter_k34_whole_exchanges_as_a
abbrev hk : PySem.W.Hook := He.hookD 4 fa fn
def ob (s : PySem.W.SharedT) : He.AlD := He.obsDG 4 fa fn (HandSHeadRun.getT s)
theorem ob_eq (s : PySem.W.SharedT) : ob s = hk.obs s.abs := He.obsDG_eq (HandSHeadRun.getT_eq s)
def nm0 : List PySem.Str := ["RoundError", "BadExchange", "BadMany", "BadOrder", "BadRound", "BadTable", "LEAST_MANY", "MOST_MANY", "MOST_LENGTH", "is_integer", "is_between", "are_between"]
def nm1 : List PySem.Str := ["roads_in", "road_between", "is_many", "is_table", "is_order", "check_many", "check_table", "check_order", "lengths_of", "is_round_of", "check_round", "roads_along"]
def nm2 : List PySem.Str := ["round_roads", "length_along", "length_of", "round_by", "moved_round", "exchanges_in", "exchanges_of", "is_exchange", "check_exchange", "turned", "exchanged", "gain_of"]
def nm3 : List PySem.Str := ["check_tour", "best_exchange", "is_firm", "steps_from", "mended", "mending_steps", "exchanges_between", "_law_pot", "_law_take", "_law_of", "_law_cells", "_law_some"]
def nm4 : List PySem.Str := ["_law_roads", "_law_road", "_law_known", "_law_rounds", "_law_along", "_law_length", "_law_as_round", "_law_is_int", "_law_exchanges", "_law_turned", "_law_table_of", "_law_round_of"]
def nm5 : List PySem.Str := ["_law_out_from", "_law_are_measured", "_law_are_gains_right", "_law_right"]
abbrev nms : List PySem.Str := nm0 ++ nm1 ++ nm2 ++ nm3 ++ nm4 ++ nm5
theorem run (w : World) : HandSHeadRun.RunEq R (PySem.W.view R.prog [71]) hk ob 40000 nms w := by
  intro os
  kernel_rfl
end LW
set_option maxHeartbeats 0
namespace LW
open PySem PySem.Spec PyProof.Rows L2 DL
structure MG (mg : Str → Option Value) : Prop where
  abs : mg "abs" = none
  all : mg "all" = none
  bool : mg "bool" = none
  dict : mg "dict" = none
  int : mg "int" = none
  isinstance : mg "isinstance" = none
  len : mg "len" = none
  list : mg "list" = none
  max : mg "max" = none
  min : mg "min" = none
  range : mg "range" = none
  set : mg "set" = none
  sorted : mg "sorted" = none
  sum : mg "sum" = none
  tuple : mg "tuple" = none
  zip : mg "zip" = none
  LEAST_MANY : ∃ t, mg "LEAST_MANY" = some (.int 3 t)
  MOST_MANY : ∃ t, mg "MOST_MANY" = some (.int 7 t)
  MOST_LENGTH : ∃ t, mg "MOST_LENGTH" = some (.int 99 t)
structure CALS (P : Program) (w : World) (K : PySem.W.Frag) (mg : Str → Option Value) (base : Heap) (A : Around) (cf : Cf) : Prop where
  f0 : Cal P w K mg base A cf 0 "is_integer" 1
  f1 : Cal P w K mg base A cf 1 "is_between" 3
  f2 : Cal P w K mg base A cf 2 "are_between" 3
  f3 : Cal P w K mg base A cf 3 "roads_in" 1
  f4 : Cal P w K mg base A cf 4 "road_between" 2
  f5 : Cal P w K mg base A cf 5 "is_many" 1
  f6 : Cal P w K mg base A cf 6 "is_table" 1
  f7 : Cal P w K mg base A cf 7 "is_order" 2
  f8 : Cal P w K mg base A cf 8 "check_many" 1
  f9 : Cal P w K mg base A cf 9 "check_table" 1
  f10 : Cal P w K mg base A cf 10 "check_order" 2
  f11 : Cal P w K mg base A cf 11 "lengths_of" 1
  f12 : Cal P w K mg base A cf 12 "is_round_of" 2
  f13 : Cal P w K mg base A cf 13 "check_round" 2
  f14 : Cal P w K mg base A cf 14 "roads_along" 1
  f15 : Cal P w K mg base A cf 15 "round_roads" 2
  f16 : Cal P w K mg base A cf 16 "length_along" 2
  f17 : Cal P w K mg base A cf 17 "length_of" 2
  f18 : Cal P w K mg base A cf 18 "round_by" 1
  f19 : Cal P w K mg base A cf 19 "moved_round" 3
  f20 : Cal P w K mg base A cf 20 "exchanges_in" 1
  f21 : Cal P w K mg base A cf 21 "exchanges_of" 1
  f22 : Cal P w K mg base A cf 22 "is_exchange" 2
  f23 : Cal P w K mg base A cf 23 "check_exchange" 2
  f24 : Cal P w K mg base A cf 24 "turned" 2
  f25 : Cal P w K mg base A cf 25 "exchanged" 3
  f26 : Cal P w K mg base A cf 26 "gain_of" 3
  f27 : Cal P w K mg base A cf 27 "check_tour" 2
  f28 : Cal P w K mg base A cf 28 "best_exchange" 3
  f29 : Cal P w K mg base A cf 29 "is_firm" 3
  f30 : Cal P w K mg base A cf 30 "steps_from" 3
  f31 : Cal P w K mg base A cf 31 "mended" 2
  f32 : Cal P w K mg base A cf 32 "mending_steps" 2
  f33 : Cal P w K mg base A cf 33 "exchanges_between" 3
  f34 : Cal P w K mg base A cf 34 "_law_pot" 2
  f35 : Cal P w K mg base A cf 35 "_law_take" 2
  f36 : Cal P w K mg base A cf 36 "_law_of" 2
  f37 : Cal P w K mg base A cf 37 "_law_cells" 2
  f38 : Cal P w K mg base A cf 38 "_law_some" 3
  f39 : Cal P w K mg base A cf 39 "_law_roads" 1
  f40 : Cal P w K mg base A cf 40 "_law_road" 2
  f41 : Cal P w K mg base A cf 41 "_law_known" 1
  f42 : Cal P w K mg base A cf 42 "_law_rounds" 1
  f43 : Cal P w K mg base A cf 43 "_law_along" 1
  f44 : Cal P w K mg base A cf 44 "_law_length" 2
  f45 : Cal P w K mg base A cf 45 "_law_as_round" 1
  f46 : Cal P w K mg base A cf 46 "_law_is_int" 1
  f47 : Cal P w K mg base A cf 47 "_law_exchanges" 1
  f48 : Cal P w K mg base A cf 48 "_law_turned" 2
  f49 : Cal P w K mg base A cf 49 "_law_table_of" 2
  f50 : Cal P w K mg base A cf 50 "_law_round_of" 2
  f51 : Cal P w K mg base A cf 51 "_law_out_from" 2
  f52 : Cal P w K mg base A cf 52 "_law_are_measured" 2
  f53 : Cal P w K mg base A cf 53 "_law_are_gains_right" 2
  f54 : Cal P w K mg base A cf 54 "_law_right" 1
  f55 : Cal P w K mg base A cf 55 "law" 1
abbrev N0 : List Str := ["value"]
theorem nd0 : N0.Nodup := by decide +kernel
theorem sc0 : FnScope N0 ["value"] (defScope s0) := ⟨rfl, rfl, rfl, nd0, rfl, by decide +kernel, by decide +kernel⟩
theorem b0 {P : Program} {w : World} {K : PySem.W.Frag} {mg : Str → Option Value} {base : Heap} {cf : Cf} {f : Addr} {cdv : Value} {A : Around} {outer : List PySem.Env} {s : Shared} {H : Hp} {EE : XK} {kk : Nat} (M : MG mg) (hr : Room kk (A.deeper (envOfC "is_integer" (defScope s0) s.heap.objs.size f cdv))) (C : CALS P w K mg base (A.deeper (envOfC "is_integer" (defScope s0) s.heap.objs.size f cdv)) cf) :
    SSs (cxOf CX0 P w K mg base N0 "is_integer" (defScope s0) f cdv A outer s H EE).nox cf (defBody s0) ir0.body :=
  have hU := u65 hr
  (sss_cons (ss_ret (se_and (se_isi (k := .int) (bt M.isinstance bo_isinstance) (bt M.int bo_int) (v 0)) (se_one (se_not (se_isi (k := .bool) (bt M.isinstance bo_isinstance) (bt M.bool bo_bool) (v 0)))))) sss_nil)
abbrev N1 : List Str := ["value", "low", "high"]
theorem nd1 : N1.Nodup := by decide +kernel
theorem sc1 : FnScope N1 ["value", "low", "high"] (defScope s1) := ⟨rfl, rfl, rfl, nd1, rfl, by decide +kernel, by decide +kernel⟩
theorem b1 {P : Program} {w : World} {K : PySem.W.Frag} {mg : Str → Option Value} {base : Heap} {cf : Cf} {f : Addr} {cdv : Value} {A : Around} {outer : List PySem.Env} {s : Shared} {H : Hp} {EE : XK} {kk : Nat} (M : MG mg) (hr : Room kk (A.deeper (envOfC "is_between" (defScope s1) s.heap.objs.size f cdv))) (C : CALS P w K mg base (A.deeper (envOfC "is_between" (defScope s1) s.heap.objs.size f cdv)) cf) :
    SSs (cxOf CX0 P w K mg base N1 "is_between" (defScope s1) f cdv A outer s H EE).nox cf (defBody s1) ir1.body :=
  have hU := u65 hr
  (sss_cons (ss_ret (se_and (call C.f0 (sos_cons (v 0) sos_nil)) (se_one (se_chain opLe opLe (tv 1) (tv 0) (tv 2))))) sss_nil)
abbrev N2 : List Str := ["value", "low", "high", "one"]
theorem nd2 : N2.Nodup := by decide +kernel
theorem sc2 : FnScope N2 ["value", "low", "high"] (defScope s2) := ⟨rfl, rfl, rfl, nd2, rfl, by decide +kernel, by decide +kernel⟩
theorem b2 {P : Program} {w : World} {K : PySem.W.Frag} {mg : Str → Option Value} {base : Heap} {cf : Cf} {f : Addr} {cdv : Value} {A : Around} {outer : List PySem.Env} {s : Shared} {H : Hp} {EE : XK} {kk : Nat} (M : MG mg) (hr : Room kk (A.deeper (envOfC "are_between" (defScope s2) s.heap.objs.size f cdv))) (C : CALS P w K mg base (A.deeper (envOfC "are_between" (defScope s2) s.heap.objs.size f cdv)) cf) :
    SSs (cxOf CX0 P w K mg base N2 "are_between" (defScope s2) f cdv A outer s H EE).nox cf (defBody s2) ir2.body :=
  have hU := u65 hr
  (sss_cons (ss_ret (se_and (se_isi (k := .tuple) (bt M.isinstance bo_isinstance) (bt M.tuple bo_tuple) (v 0)) (se_one (se_cb1 (cAll rfl) (bt M.all bo_all) (o (se_comp (own := [("one", 3)]) rfl nd2 (by rfl) (si_seq (v 0)) (fun _ _ _ _ _ => (nm 3 nd2)) (fun _ _ _ _ _ => sc_nil) (fun _ _ _ _ _ => (call C.f1 (sos_cons (v 3) (sos_cons (v 1) (sos_cons (v 2) sos_nil))))))))))) sss_nil)
abbrev N3 : List Str := ["many", "found", "one", "other"]
theorem nd3 : N3.Nodup := by decide +kernel
theorem sc3 : FnScope N3 ["many"] (defScope s3) := ⟨rfl, rfl, rfl, nd3, rfl, by decide +kernel, by decide +kernel⟩
theorem b3 {P : Program} {w : World} {K : PySem.W.Frag} {mg : Str → Option Value} {base : Heap} {cf : Cf} {f : Addr} {cdv : Value} {A : Around} {outer : List PySem.Env} {s : Shared} {H : Hp} {EE : XK} {kk : Nat} (M : MG mg) (hr : Room kk (A.deeper (envOfC "roads_in" (defScope s3) s.heap.objs.size f cdv))) (C : CALS P w K mg base (A.deeper (envOfC "roads_in" (defScope s3) s.heap.objs.size f cdv)) cf) :
    SSs (cxOf CX0 P w K mg base N3 "roads_in" (defScope s3) f cdv A outer s H EE).nox cf (defBody s3) ir3.body :=
  have hU := u65 hr
  (sss_cons (ss_asg (se_lst sd_nil) (nm 1 nd3)) (sss_cons (ss_for PassesOwn.never rfl (si_rng1 (bt M.range bo_range) (v 0)) (nm 2 nd3) (sss_cons (ss_expr (ext 1 (se_comp (own := [("other", 3)]) rfl nd3 (by rfl) (si_rng2 (bt M.range bo_range) (o (se_bin opAdd (v 2) (o se_int))) (v 0)) (fun _ _ _ _ _ => (nm 3 nd3)) (fun _ _ _ _ _ => sc_nil) (fun _ _ _ _ _ => (se_tup (sd_cons (tv 2) (sd_cons (tv 3) sd_nil))))))) sss_nil)) (sss_cons (ss_ret (tv 1)) sss_nil)))
abbrev N4 : List Str := ["one", "other"]
theorem nd4 : N4.Nodup := by decide +kernel
theorem sc4 : FnScope N4 ["one", "other"] (defScope s4) := ⟨rfl, rfl, rfl, nd4, rfl, by decide +kernel, by decide +kernel⟩
theorem b4 {P : Program} {w : World} {K : PySem.W.Frag} {mg : Str → Option Value} {base : Heap} {cf : Cf} {f : Addr} {cdv : Value} {A : Around} {outer : List PySem.Env} {s : Shared} {H : Hp} {EE : XK} {kk : Nat} (M : MG mg) (hr : Room kk (A.deeper (envOfC "road_between" (defScope s4) s.heap.objs.size f cdv))) (C : CALS P w K mg base (A.deeper (envOfC "road_between" (defScope s4) s.heap.objs.size f cdv)) cf) :
    SSs (cxOf CX0 P w K mg base N4 "road_between" (defScope s4) f cdv A outer s H EE).nox cf (defBody s4) ir4.body :=
  have hU := u65 hr
  (sss_cons (ss_ret (se_ife (sb_cmp opLt (v 0) (v 1) (by rfl)) (se_tup (sd_cons (tv 0) (sd_cons (tv 1) sd_nil))) (se_tup (sd_cons (tv 1) (sd_cons (tv 0) sd_nil))))) sss_nil)
abbrev N5 : List Str := ["value"]
theorem nd5 : N5.Nodup := by decide +kernel
theorem sc5 : FnScope N5 ["value"] (defScope s5) := ⟨rfl, rfl, rfl, nd5, rfl, by decide +kernel, by decide +kernel⟩
theorem b5 {P : Program} {w : World} {K : PySem.W.Frag} {mg : Str → Option Value} {base : Heap} {cf : Cf} {f : Addr} {cdv : Value} {A : Around} {outer : List PySem.Env} {s : Shared} {H : Hp} {EE : XK} {kk : Nat} (M : MG mg) (hr : Room kk (A.deeper (envOfC "is_many" (defScope s5) s.heap.objs.size f cdv))) (C : CALS P w K mg base (A.deeper (envOfC "is_many" (defScope s5) s.heap.objs.size f cdv)) cf) :
    SSs (cxOf CX0 P w K mg base N5 "is_many" (defScope s5) f cdv A outer s H EE).nox cf (defBody s5) ir5.body :=
  have hU := u65 hr
  (sss_cons (ss_ret (call C.f1 (sos_cons (v 0) (sos_cons (o (cn M.LEAST_MANY)) (sos_cons (o (cn M.MOST_MANY)) sos_nil))))) sss_nil)
abbrev N6 : List Str := ["value"]
theorem nd6 : N6.Nodup := by decide +kernel
theorem sc6 : FnScope N6 ["value"] (defScope s6) := ⟨rfl, rfl, rfl, nd6, rfl, by decide +kernel, by decide +kernel⟩
theorem b6 {P : Program} {w : World} {K : PySem.W.Frag} {mg : Str → Option Value} {base : Heap} {cf : Cf} {f : Addr} {cdv : Value} {A : Around} {outer : List PySem.Env} {s : Shared} {H : Hp} {EE : XK} {kk : Nat} (M : MG mg) (hr : Room kk (A.deeper (envOfC "is_table" (defScope s6) s.heap.objs.size f cdv))) (C : CALS P w K mg base (A.deeper (envOfC "is_table" (defScope s6) s.heap.objs.size f cdv)) cf) :
    SSs (cxOf CX0 P w K mg base N6 "is_table" (defScope s6) f cdv A outer s H EE).nox cf (defBody s6) ir6.body :=
  have hU := u65 hr
  (sss_cons (ss_ifs (sb_of (sw_or (sb_not (sb_val (se_isi (k := .tuple) (bt M.isinstance bo_isinstance) (bt M.tuple bo_tuple) (v 0)))) (sw_or (sb_cmp (opNe (u64 hU)) (o (se_cb1 cLen (bt M.len bo_len) (v 0))) (o se_int) (by rfl)) (sw_one (sb_not (sb_val (call C.f5 (sos_cons (o (se_ix (u1 hU) (v 0) (o se_int))) sos_nil)))))))) (sss_cons (ss_ret se_bl) sss_nil) sss_nil) (sss_cons (ss_ret (se_and (call C.f2 (sos_cons (o (se_ix (u1 hU) (v 0) (o se_int))) (sos_cons (o se_int) (sos_cons (o (cn M.MOST_LENGTH)) sos_nil)))) (se_one (se_cmp (opEq (u64 hU)) (o (se_cb1 cLen (bt M.len bo_len) (o (se_ix (u1 hU) (v 0) (o se_int))))) (o (se_cb1 cLen (bt M.len bo_len) (o (call C.f3 (sos_cons (o (se_ix (u1 hU) (v 0) (o se_int))) sos_nil))))) (by rfl))))) sss_nil))
abbrev N7 : List Str := ["many", "value"]
theorem nd7 : N7.Nodup := by decide +kernel
theorem sc7 : FnScope N7 ["many", "value"] (defScope s7) := ⟨rfl, rfl, rfl, nd7, rfl, by decide +kernel, by decide +kernel⟩
theorem b7 {P : Program} {w : World} {K : PySem.W.Frag} {mg : Str → Option Value} {base : Heap} {cf : Cf} {f : Addr} {cdv : Value} {A : Around} {outer : List PySem.Env} {s : Shared} {H : Hp} {EE : XK} {kk : Nat} (M : MG mg) (hr : Room kk (A.deeper (envOfC "is_order" (defScope s7) s.heap.objs.size f cdv))) (C : CALS P w K mg base (A.deeper (envOfC "is_order" (defScope s7) s.heap.objs.size f cdv)) cf) :
    SSs (cxOf CX0 P w K mg base N7 "is_order" (defScope s7) f cdv A outer s H EE).nox cf (defBody s7) ir7.body :=
  have hU := u65 hr
  (sss_cons (ss_ret (se_and (call C.f2 (sos_cons (v 1) (sos_cons (o se_int) (sos_cons (o (se_bin opSub (v 0) (o se_int))) sos_nil)))) (se_and (se_cmp (opEq (u64 hU)) (o (se_cb1 cLen (bt M.len bo_len) (v 1))) (v 0) (by rfl)) (se_one (se_cmp (opEq (u64 hU)) (o (se_lenSet rfl (bt M.len bo_len) (bt M.set bo_set) (v 1))) (v 0) (by rfl)))))) sss_nil)
abbrev N8 : List Str := ["many"]
theorem nd8 : N8.Nodup := by decide +kernel
theorem sc8 : FnScope N8 ["many"] (defScope s8) := ⟨rfl, rfl, rfl, nd8, rfl, by decide +kernel, by decide +kernel⟩
theorem b8 {P : Program} {w : World} {K : PySem.W.Frag} {mg : Str → Option Value} {base : Heap} {cf : Cf} {f : Addr} {cdv : Value} {A : Around} {outer : List PySem.Env} {s : Shared} {H : Hp} {EE : XK} {kk : Nat} (M : MG mg) (hr : Room kk (A.deeper (envOfC "check_many" (defScope s8) s.heap.objs.size f cdv))) (C : CALS P w K mg base (A.deeper (envOfC "check_many" (defScope s8) s.heap.objs.size f cdv)) cf) :
    SSs (cxOf CX0 P w K mg base N8 "check_many" (defScope s8) f cdv A outer s H EE).nox cf (defBody s8) ir8.body :=
  have hU := u65 hr
  (sss_cons (ss_ifs (sb_not (sb_val (call C.f5 (sos_cons (v 0) sos_nil)))) (sss_cons ss_raise sss_nil) sss_nil) sss_nil)
abbrev N9 : List Str := ["table"]
theorem nd9 : N9.Nodup := by decide +kernel
theorem sc9 : FnScope N9 ["table"] (defScope s9) := ⟨rfl, rfl, rfl, nd9, rfl, by decide +kernel, by decide +kernel⟩
theorem b9 {P : Program} {w : World} {K : PySem.W.Frag} {mg : Str → Option Value} {base : Heap} {cf : Cf} {f : Addr} {cdv : Value} {A : Around} {outer : List PySem.Env} {s : Shared} {H : Hp} {EE : XK} {kk : Nat} (M : MG mg) (hr : Room kk (A.deeper (envOfC "check_table" (defScope s9) s.heap.objs.size f cdv))) (C : CALS P w K mg base (A.deeper (envOfC "check_table" (defScope s9) s.heap.objs.size f cdv)) cf) :
    SSs (cxOf CX0 P w K mg base N9 "check_table" (defScope s9) f cdv A outer s H EE).nox cf (defBody s9) ir9.body :=
  have hU := u65 hr
  (sss_cons (ss_ifs (sb_not (sb_val (call C.f6 (sos_cons (v 0) sos_nil)))) (sss_cons ss_raise sss_nil) sss_nil) sss_nil)
abbrev N10 : List Str := ["many", "order"]
theorem nd10 : N10.Nodup := by decide +kernel
theorem sc10 : FnScope N10 ["many", "order"] (defScope s10) := ⟨rfl, rfl, rfl, nd10, rfl, by decide +kernel, by decide +kernel⟩
theorem b10 {P : Program} {w : World} {K : PySem.W.Frag} {mg : Str → Option Value} {base : Heap} {cf : Cf} {f : Addr} {cdv : Value} {A : Around} {outer : List PySem.Env} {s : Shared} {H : Hp} {EE : XK} {kk : Nat} (M : MG mg) (hr : Room kk (A.deeper (envOfC "check_order" (defScope s10) s.heap.objs.size f cdv))) (C : CALS P w K mg base (A.deeper (envOfC "check_order" (defScope s10) s.heap.objs.size f cdv)) cf) :
    SSs (cxOf CX0 P w K mg base N10 "check_order" (defScope s10) f cdv A outer s H EE).nox cf (defBody s10) ir10.body :=
  have hU := u65 hr
  (sss_cons (ss_ifs (sb_not (sb_val (call C.f7 (sos_cons (v 0) (sos_cons (v 1) sos_nil))))) (sss_cons ss_raise sss_nil) sss_nil) sss_nil)
abbrev N11 : List Str := ["table"]
theorem nd11 : N11.Nodup := by decide +kernel
theorem sc11 : FnScope N11 ["table"] (defScope s11) := ⟨rfl, rfl, rfl, nd11, rfl, by decide +kernel, by decide +kernel⟩
theorem b11 {P : Program} {w : World} {K : PySem.W.Frag} {mg : Str → Option Value} {base : Heap} {cf : Cf} {f : Addr} {cdv : Value} {A : Around} {outer : List PySem.Env} {s : Shared} {H : Hp} {EE : XK} {kk : Nat} (M : MG mg) (hr : Room kk (A.deeper (envOfC "lengths_of" (defScope s11) s.heap.objs.size f cdv))) (C : CALS P w K mg base (A.deeper (envOfC "lengths_of" (defScope s11) s.heap.objs.size f cdv)) cf) :
    SSs (cxOf CX0 P w K mg base N11 "lengths_of" (defScope s11) f cdv A outer s H EE).nox cf (defBody s11) ir11.body :=
  have hU := u65 hr
  (sss_cons (ss_ret (se_dictZip (u2 hU) rfl (bt M.dict bo_dict) (bt M.list bo_list) (bt M.zip bo_zip) (o (call C.f3 (sos_cons (o (se_ix (u1 hU) (v 0) (o se_int))) sos_nil))) (o (se_ix (u1 hU) (v 0) (o se_int))))) sss_nil)
abbrev N12 : List Str := ["many", "value"]
theorem nd12 : N12.Nodup := by decide +kernel
theorem sc12 : FnScope N12 ["many", "value"] (defScope s12) := ⟨rfl, rfl, rfl, nd12, rfl, by decide +kernel, by decide +kernel⟩
theorem b12 {P : Program} {w : World} {K : PySem.W.Frag} {mg : Str → Option Value} {base : Heap} {cf : Cf} {f : Addr} {cdv : Value} {A : Around} {outer : List PySem.Env} {s : Shared} {H : Hp} {EE : XK} {kk : Nat} (M : MG mg) (hr : Room kk (A.deeper (envOfC "is_round_of" (defScope s12) s.heap.objs.size f cdv))) (C : CALS P w K mg base (A.deeper (envOfC "is_round_of" (defScope s12) s.heap.objs.size f cdv)) cf) :
    SSs (cxOf CX0 P w K mg base N12 "is_round_of" (defScope s12) f cdv A outer s H EE).nox cf (defBody s12) ir12.body :=
  have hU := u65 hr
  (sss_cons (ss_ret (se_and (call C.f7 (sos_cons (v 0) (sos_cons (v 1) sos_nil))) (se_and (se_cmp (opEq (u64 hU)) (o (se_ix (u1 hU) (v 1) (o se_int))) (o se_int) (by rfl)) (se_one (se_cmp opLt (o (se_ix (u1 hU) (v 1) (o se_int))) (o (se_ix (u1 hU) (v 1) (o (se_neg (o se_int))))) (by rfl)))))) sss_nil)
abbrev N13 : List Str := ["many", "tour"]
theorem nd13 : N13.Nodup := by decide +kernel
theorem sc13 : FnScope N13 ["many", "tour"] (defScope s13) := ⟨rfl, rfl, rfl, nd13, rfl, by decide +kernel, by decide +kernel⟩
theorem b13 {P : Program} {w : World} {K : PySem.W.Frag} {mg : Str → Option Value} {base : Heap} {cf : Cf} {f : Addr} {cdv : Value} {A : Around} {outer : List PySem.Env} {s : Shared} {H : Hp} {EE : XK} {kk : Nat} (M : MG mg) (hr : Room kk (A.deeper (envOfC "check_round" (defScope s13) s.heap.objs.size f cdv))) (C : CALS P w K mg base (A.deeper (envOfC "check_round" (defScope s13) s.heap.objs.size f cdv)) cf) :
    SSs (cxOf CX0 P w K mg base N13 "check_round" (defScope s13) f cdv A outer s H EE).nox cf (defBody s13) ir13.body :=
  have hU := u65 hr
  (sss_cons (ss_ifs (sb_not (sb_val (call C.f12 (sos_cons (v 0) (sos_cons (v 1) sos_nil))))) (sss_cons ss_raise sss_nil) sss_nil) sss_nil)
abbrev N14 : List Str := ["tour", "one", "other"]
theorem nd14 : N14.Nodup := by decide +kernel
theorem sc14 : FnScope N14 ["tour"] (defScope s14) := ⟨rfl, rfl, rfl, nd14, rfl, by decide +kernel, by decide +kernel⟩
theorem b14 {P : Program} {w : World} {K : PySem.W.Frag} {mg : Str → Option Value} {base : Heap} {cf : Cf} {f : Addr} {cdv : Value} {A : Around} {outer : List PySem.Env} {s : Shared} {H : Hp} {EE : XK} {kk : Nat} (M : MG mg) (hr : Room kk (A.deeper (envOfC "roads_along" (defScope s14) s.heap.objs.size f cdv))) (C : CALS P w K mg base (A.deeper (envOfC "roads_along" (defScope s14) s.heap.objs.size f cdv)) cf) :
    SSs (cxOf CX0 P w K mg base N14 "roads_along" (defScope s14) f cdv A outer s H EE).nox cf (defBody s14) ir14.body :=
  have hU := u65 hr
  (sss_cons (ss_ret (se_cb1 (cSorted hU) (bt M.sorted bo_sorted) (o (se_comp (own := [("one", 1), ("other", 2)]) rfl nd14 (by rfl) (si_zip (bt M.zip bo_zip) (v 0) (o (se_bin opAdd (o (se_sl1 (v 0) (o se_int) pur_int)) (o (se_sl0 (v 0) (o se_int) pur_int))))) (fun _ _ _ _ _ => (sg_tp rfl (sgs_cons (nm 1 nd14) (sgs_cons (nm 2 nd14) sgs_nil)) rfl)) (fun _ _ _ _ _ => sc_nil) (fun _ _ _ _ _ => (call C.f4 (sos_cons (v 1) (sos_cons (v 2) sos_nil)))))))) sss_nil)
abbrev N15 : List Str := ["many", "tour"]
theorem nd15 : N15.Nodup := by decide +kernel
theorem sc15 : FnScope N15 ["many", "tour"] (defScope s15) := ⟨rfl, rfl, rfl, nd15, rfl, by decide +kernel, by decide +kernel⟩
theorem b15 {P : Program} {w : World} {K : PySem.W.Frag} {mg : Str → Option Value} {base : Heap} {cf : Cf} {f : Addr} {cdv : Value} {A : Around} {outer : List PySem.Env} {s : Shared} {H : Hp} {EE : XK} {kk : Nat} (M : MG mg) (hr : Room kk (A.deeper (envOfC "round_roads" (defScope s15) s.heap.objs.size f cdv))) (C : CALS P w K mg base (A.deeper (envOfC "round_roads" (defScope s15) s.heap.objs.size f cdv)) cf) :
    SSs (cxOf CX0 P w K mg base N15 "round_roads" (defScope s15) f cdv A outer s H EE).nox cf (defBody s15) ir15.body :=
  have hU := u65 hr
  (sss_cons (ss_expr (call C.f8 (sos_cons (v 0) sos_nil))) (sss_cons (ss_expr (call C.f13 (sos_cons (v 0) (sos_cons (v 1) sos_nil)))) (sss_cons (ss_ret (se_ct1 cTuple (bt M.tuple bo_tuple) (o (call C.f14 (sos_cons (v 1) sos_nil))))) sss_nil)))
abbrev N16 : List Str := ["known", "tour", "road"]
theorem nd16 : N16.Nodup := by decide +kernel
theorem sc16 : FnScope N16 ["known", "tour"] (defScope s16) := ⟨rfl, rfl, rfl, nd16, rfl, by decide +kernel, by decide +kernel⟩
theorem b16 {P : Program} {w : World} {K : PySem.W.Frag} {mg : Str → Option Value} {base : Heap} {cf : Cf} {f : Addr} {cdv : Value} {A : Around} {outer : List PySem.Env} {s : Shared} {H : Hp} {EE : XK} {kk : Nat} (M : MG mg) (hr : Room kk (A.deeper (envOfC "length_along" (defScope s16) s.heap.objs.size f cdv))) (C : CALS P w K mg base (A.deeper (envOfC "length_along" (defScope s16) s.heap.objs.size f cdv)) cf) :
    SSs (cxOf CX0 P w K mg base N16 "length_along" (defScope s16) f cdv A outer s H EE).nox cf (defBody s16) ir16.body :=
  have hU := u65 hr
  (sss_cons (ss_ret (se_cb1 (cSum rfl) (bt M.sum bo_sum) (o (se_comp (own := [("road", 2)]) rfl nd16 (by rfl) (si_seq (o (call C.f14 (sos_cons (v 1) sos_nil)))) (fun _ _ _ _ _ => (nm 2 nd16)) (fun _ _ _ _ _ => sc_nil) (fun _ _ _ _ _ => (se_ix (u1 hU) (v 0) (v 2))))))) sss_nil)
abbrev N17 : List Str := ["table", "tour"]
theorem nd17 : N17.Nodup := by decide +kernel
theorem sc17 : FnScope N17 ["table", "tour"] (defScope s17) := ⟨rfl, rfl, rfl, nd17, rfl, by decide +kernel, by decide +kernel⟩
theorem b17 {P : Program} {w : World} {K : PySem.W.Frag} {mg : Str → Option Value} {base : Heap} {cf : Cf} {f : Addr} {cdv : Value} {A : Around} {outer : List PySem.Env} {s : Shared} {H : Hp} {EE : XK} {kk : Nat} (M : MG mg) (hr : Room kk (A.deeper (envOfC "length_of" (defScope s17) s.heap.objs.size f cdv))) (C : CALS P w K mg base (A.deeper (envOfC "length_of" (defScope s17) s.heap.objs.size f cdv)) cf) :
    SSs (cxOf CX0 P w K mg base N17 "length_of" (defScope s17) f cdv A outer s H EE).nox cf (defBody s17) ir17.body :=
  have hU := u65 hr
  (sss_cons (ss_expr (call C.f9 (sos_cons (v 0) sos_nil))) (sss_cons (ss_expr (call C.f13 (sos_cons (o (se_ix (u1 hU) (v 0) (o se_int))) (sos_cons (v 1) sos_nil)))) (sss_cons (ss_ret (call C.f16 (sos_cons (o (call C.f11 (sos_cons (v 0) sos_nil))) (sos_cons (v 1) sos_nil)))) sss_nil)))
abbrev N18 : List Str := ["order", "at", "found"]
theorem nd18 : N18.Nodup := by decide +kernel
theorem sc18 : FnScope N18 ["order"] (defScope s18) := ⟨rfl, rfl, rfl, nd18, rfl, by decide +kernel, by decide +kernel⟩
theorem b18 {P : Program} {w : World} {K : PySem.W.Frag} {mg : Str → Option Value} {base : Heap} {cf : Cf} {f : Addr} {cdv : Value} {A : Around} {outer : List PySem.Env} {s : Shared} {H : Hp} {EE : XK} {kk : Nat} (M : MG mg) (hr : Room kk (A.deeper (envOfC "round_by" (defScope s18) s.heap.objs.size f cdv))) (C : CALS P w K mg base (A.deeper (envOfC "round_by" (defScope s18) s.heap.objs.size f cdv)) cf) :
    SSs (cxOf CX0 P w K mg base N18 "round_by" (defScope s18) f cdv A outer s H EE).nox cf (defBody s18) ir18.body :=
  have hU := u65 hr
  (sss_cons (ss_asg (se_index (v 0) (o se_int) pur_int) (nm 1 nd18)) (sss_cons (ss_asg (se_ct1 cTuple (bt M.tuple bo_tuple) (o (se_lst (sd_star (se_sl1 (v 0) (v 1) pur_var) (sd_star (se_sl0 (v 0) (v 1) pur_var) sd_nil))))) (nm 2 nd18)) (sss_cons (ss_ret (se_ife (sb_cmp opLt (o (se_ix (u1 hU) (v 2) (o se_int))) (o (se_ix (u1 hU) (v 2) (o (se_neg (o se_int))))) (by rfl)) (tv 2) (se_tup (sd_cons se_int (sd_star (se_revTo (v 2)) sd_nil))))) sss_nil)))
abbrev N19 : List Str := ["many", "tour", "order", "place"]
theorem nd19 : N19.Nodup := by decide +kernel
theorem sc19 : FnScope N19 ["many", "tour", "order"] (defScope s19) := ⟨rfl, rfl, rfl, nd19, rfl, by decide +kernel, by decide +kernel⟩
theorem b19 {P : Program} {w : World} {K : PySem.W.Frag} {mg : Str → Option Value} {base : Heap} {cf : Cf} {f : Addr} {cdv : Value} {A : Around} {outer : List PySem.Env} {s : Shared} {H : Hp} {EE : XK} {kk : Nat} (M : MG mg) (hr : Room kk (A.deeper (envOfC "moved_round" (defScope s19) s.heap.objs.size f cdv))) (C : CALS P w K mg base (A.deeper (envOfC "moved_round" (defScope s19) s.heap.objs.size f cdv)) cf) :
    SSs (cxOf CX0 P w K mg base N19 "moved_round" (defScope s19) f cdv A outer s H EE).nox cf (defBody s19) ir19.body :=
  have hU := u65 hr
  (sss_cons (ss_expr (call C.f8 (sos_cons (v 0) sos_nil))) (sss_cons (ss_expr (call C.f13 (sos_cons (v 0) (sos_cons (v 1) sos_nil)))) (sss_cons (ss_expr (call C.f10 (sos_cons (v 0) (sos_cons (v 2) sos_nil)))) (sss_cons (ss_ret (call C.f18 (sos_cons (o (se_ct1 cTuple (bt M.tuple bo_tuple) (o (se_comp (own := [("place", 3)]) rfl nd19 (by rfl) (si_seq (v 1)) (fun _ _ _ _ _ => (nm 3 nd19)) (fun _ _ _ _ _ => sc_nil) (fun _ _ _ _ _ => (se_ix (u1 hU) (v 2) (v 3))))))) sos_nil))) sss_nil))))
abbrev N20 : List Str := ["many", "found", "at", "to"]
theorem nd20 : N20.Nodup := by decide +kernel
theorem sc20 : FnScope N20 ["many"] (defScope s20) := ⟨rfl, rfl, rfl, nd20, rfl, by decide +kernel, by decide +kernel⟩
theorem b20 {P : Program} {w : World} {K : PySem.W.Frag} {mg : Str → Option Value} {base : Heap} {cf : Cf} {f : Addr} {cdv : Value} {A : Around} {outer : List PySem.Env} {s : Shared} {H : Hp} {EE : XK} {kk : Nat} (M : MG mg) (hr : Room kk (A.deeper (envOfC "exchanges_in" (defScope s20) s.heap.objs.size f cdv))) (C : CALS P w K mg base (A.deeper (envOfC "exchanges_in" (defScope s20) s.heap.objs.size f cdv)) cf) :
    SSs (cxOf CX0 P w K mg base N20 "exchanges_in" (defScope s20) f cdv A outer s H EE).nox cf (defBody s20) ir20.body :=
  have hU := u65 hr
  (sss_cons (ss_asg (se_lst sd_nil) (nm 1 nd20)) (sss_cons (ss_for PassesOwn.never rfl (si_rng2 (bt M.range bo_range) (o se_int) (o (se_bin opSub (v 0) (o se_int)))) (nm 2 nd20) (sss_cons (ss_expr (ext 1 (se_comp (own := [("to", 3)]) rfl nd20 (by rfl) (si_rng2 (bt M.range bo_range) (o (se_bin opAdd (v 2) (o se_int))) (v 0)) (fun _ _ _ _ _ => (nm 3 nd20)) (fun _ _ _ _ _ => sc_nil) (fun _ _ _ _ _ => (se_tup (sd_cons (tv 2) (sd_cons (tv 3) sd_nil))))))) sss_nil)) (sss_cons (ss_ret (tv 1)) sss_nil)))
abbrev N21 : List Str := ["many"]
theorem nd21 : N21.Nodup := by decide +kernel
theorem sc21 : FnScope N21 ["many"] (defScope s21) := ⟨rfl, rfl, rfl, nd21, rfl, by decide +kernel, by decide +kernel⟩
theorem b21 {P : Program} {w : World} {K : PySem.W.Frag} {mg : Str → Option Value} {base : Heap} {cf : Cf} {f : Addr} {cdv : Value} {A : Around} {outer : List PySem.Env} {s : Shared} {H : Hp} {EE : XK} {kk : Nat} (M : MG mg) (hr : Room kk (A.deeper (envOfC "exchanges_of" (defScope s21) s.heap.objs.size f cdv))) (C : CALS P w K mg base (A.deeper (envOfC "exchanges_of" (defScope s21) s.heap.objs.size f cdv)) cf) :
    SSs (cxOf CX0 P w K mg base N21 "exchanges_of" (defScope s21) f cdv A outer s H EE).nox cf (defBody s21) ir21.body :=
  have hU := u65 hr
  (sss_cons (ss_expr (call C.f8 (sos_cons (v 0) sos_nil))) (sss_cons (ss_ret (se_ct1 cTuple (bt M.tuple bo_tuple) (o (call C.f20 (sos_cons (v 0) sos_nil))))) sss_nil))
abbrev N22 : List Str := ["many", "value"]
theorem nd22 : N22.Nodup := by decide +kernel
theorem sc22 : FnScope N22 ["many", "value"] (defScope s22) := ⟨rfl, rfl, rfl, nd22, rfl, by decide +kernel, by decide +kernel⟩
theorem b22 {P : Program} {w : World} {K : PySem.W.Frag} {mg : Str → Option Value} {base : Heap} {cf : Cf} {f : Addr} {cdv : Value} {A : Around} {outer : List PySem.Env} {s : Shared} {H : Hp} {EE : XK} {kk : Nat} (M : MG mg) (hr : Room kk (A.deeper (envOfC "is_exchange" (defScope s22) s.heap.objs.size f cdv))) (C : CALS P w K mg base (A.deeper (envOfC "is_exchange" (defScope s22) s.heap.objs.size f cdv)) cf) :
    SSs (cxOf CX0 P w K mg base N22 "is_exchange" (defScope s22) f cdv A outer s H EE).nox cf (defBody s22) ir22.body :=
  have hU := u65 hr
  (sss_cons (ss_ret (se_and (call C.f2 (sos_cons (v 1) (sos_cons (o se_int) (sos_cons (o (se_bin opSub (v 0) (o se_int))) sos_nil)))) (se_and (se_cmp (opEq (u64 hU)) (o (se_cb1 cLen (bt M.len bo_len) (v 1))) (o se_int) (by rfl)) (se_one (se_cmp opLt (o (se_ix (u1 hU) (v 1) (o se_int))) (o (se_ix (u1 hU) (v 1) (o se_int))) (by rfl)))))) sss_nil)
abbrev N23 : List Str := ["many", "exchange"]
theorem nd23 : N23.Nodup := by decide +kernel
theorem sc23 : FnScope N23 ["many", "exchange"] (defScope s23) := ⟨rfl, rfl, rfl, nd23, rfl, by decide +kernel, by decide +kernel⟩
theorem b23 {P : Program} {w : World} {K : PySem.W.Frag} {mg : Str → Option Value} {base : Heap} {cf : Cf} {f : Addr} {cdv : Value} {A : Around} {outer : List PySem.Env} {s : Shared} {H : Hp} {EE : XK} {kk : Nat} (M : MG mg) (hr : Room kk (A.deeper (envOfC "check_exchange" (defScope s23) s.heap.objs.size f cdv))) (C : CALS P w K mg base (A.deeper (envOfC "check_exchange" (defScope s23) s.heap.objs.size f cdv)) cf) :
    SSs (cxOf CX0 P w K mg base N23 "check_exchange" (defScope s23) f cdv A outer s H EE).nox cf (defBody s23) ir23.body :=
  have hU := u65 hr
  (sss_cons (ss_ifs (sb_not (sb_val (call C.f22 (sos_cons (v 0) (sos_cons (v 1) sos_nil))))) (sss_cons ss_raise sss_nil) sss_nil) sss_nil)
abbrev N24 : List Str := ["tour", "exchange", "at", "to", "middle"]
theorem nd24 : N24.Nodup := by decide +kernel
theorem sc24 : FnScope N24 ["tour", "exchange"] (defScope s24) := ⟨rfl, rfl, rfl, nd24, rfl, by decide +kernel, by decide +kernel⟩
theorem b24 {P : Program} {w : World} {K : PySem.W.Frag} {mg : Str → Option Value} {base : Heap} {cf : Cf} {f : Addr} {cdv : Value} {A : Around} {outer : List PySem.Env} {s : Shared} {H : Hp} {EE : XK} {kk : Nat} (M : MG mg) (hr : Room kk (A.deeper (envOfC "turned" (defScope s24) s.heap.objs.size f cdv))) (C : CALS P w K mg base (A.deeper (envOfC "turned" (defScope s24) s.heap.objs.size f cdv)) cf) :
    SSs (cxOf CX0 P w K mg base N24 "turned" (defScope s24) f cdv A outer s H EE).nox cf (defBody s24) ir24.body :=
  have hU := u65 hr
  (sss_cons (ss_asg (tv 1) (sg_tp rfl (sgs_cons (nm 2 nd24) (sgs_cons (nm 3 nd24) sgs_nil)) rfl)) (sss_cons (ss_asg (se_sl2 (v 0) (v 2) (o (se_bin opAdd (v 3) (o se_int))) pur_var (pur_prim (pur_2 pur_var pur_int))) (nm 4 nd24)) (sss_cons (ss_ret (call C.f18 (sos_cons (o (se_tup (sd_star (se_sl0 (v 0) (v 2) pur_var) (sd_star (se_rev (v 4)) (sd_star (se_sl1 (v 0) (o (se_bin opAdd (v 3) (o se_int))) (pur_prim (pur_2 pur_var pur_int))) sd_nil))))) sos_nil))) sss_nil)))
abbrev N25 : List Str := ["many", "tour", "exchange"]
theorem nd25 : N25.Nodup := by decide +kernel
theorem sc25 : FnScope N25 ["many", "tour", "exchange"] (defScope s25) := ⟨rfl, rfl, rfl, nd25, rfl, by decide +kernel, by decide +kernel⟩
theorem b25 {P : Program} {w : World} {K : PySem.W.Frag} {mg : Str → Option Value} {base : Heap} {cf : Cf} {f : Addr} {cdv : Value} {A : Around} {outer : List PySem.Env} {s : Shared} {H : Hp} {EE : XK} {kk : Nat} (M : MG mg) (hr : Room kk (A.deeper (envOfC "exchanged" (defScope s25) s.heap.objs.size f cdv))) (C : CALS P w K mg base (A.deeper (envOfC "exchanged" (defScope s25) s.heap.objs.size f cdv)) cf) :
    SSs (cxOf CX0 P w K mg base N25 "exchanged" (defScope s25) f cdv A outer s H EE).nox cf (defBody s25) ir25.body :=
  have hU := u65 hr
  (sss_cons (ss_expr (call C.f8 (sos_cons (v 0) sos_nil))) (sss_cons (ss_expr (call C.f13 (sos_cons (v 0) (sos_cons (v 1) sos_nil)))) (sss_cons (ss_expr (call C.f23 (sos_cons (v 0) (sos_cons (v 2) sos_nil)))) (sss_cons (ss_ret (call C.f24 (sos_cons (v 1) (sos_cons (v 2) sos_nil)))) sss_nil))))
abbrev N26 : List Str := ["table", "tour", "exchange", "known"]
theorem nd26 : N26.Nodup := by decide +kernel
theorem sc26 : FnScope N26 ["table", "tour", "exchange"] (defScope s26) := ⟨rfl, rfl, rfl, nd26, rfl, by decide +kernel, by decide +kernel⟩
theorem b26 {P : Program} {w : World} {K : PySem.W.Frag} {mg : Str → Option Value} {base : Heap} {cf : Cf} {f : Addr} {cdv : Value} {A : Around} {outer : List PySem.Env} {s : Shared} {H : Hp} {EE : XK} {kk : Nat} (M : MG mg) (hr : Room kk (A.deeper (envOfC "gain_of" (defScope s26) s.heap.objs.size f cdv))) (C : CALS P w K mg base (A.deeper (envOfC "gain_of" (defScope s26) s.heap.objs.size f cdv)) cf) :
    SSs (cxOf CX0 P w K mg base N26 "gain_of" (defScope s26) f cdv A outer s H EE).nox cf (defBody s26) ir26.body :=
  have hU := u65 hr
  (sss_cons (ss_expr (call C.f9 (sos_cons (v 0) sos_nil))) (sss_cons (ss_expr (call C.f13 (sos_cons (o (se_ix (u1 hU) (v 0) (o se_int))) (sos_cons (v 1) sos_nil)))) (sss_cons (ss_expr (call C.f23 (sos_cons (o (se_ix (u1 hU) (v 0) (o se_int))) (sos_cons (v 2) sos_nil)))) (sss_cons (ss_asg (call C.f11 (sos_cons (v 0) sos_nil)) (nm 3 nd26)) (sss_cons (ss_ret (se_bin opSub (o (call C.f16 (sos_cons (v 3) (sos_cons (v 1) sos_nil)))) (o (call C.f16 (sos_cons (v 3) (sos_cons (o (call C.f24 (sos_cons (v 1) (sos_cons (v 2) sos_nil)))) sos_nil)))))) sss_nil)))))
abbrev N27 : List Str := ["table", "tour"]
theorem nd27 : N27.Nodup := by decide +kernel
theorem sc27 : FnScope N27 ["table", "tour"] (defScope s27) := ⟨rfl, rfl, rfl, nd27, rfl, by decide +kernel, by decide +kernel⟩
theorem b27 {P : Program} {w : World} {K : PySem.W.Frag} {mg : Str → Option Value} {base : Heap} {cf : Cf} {f : Addr} {cdv : Value} {A : Around} {outer : List PySem.Env} {s : Shared} {H : Hp} {EE : XK} {kk : Nat} (M : MG mg) (hr : Room kk (A.deeper (envOfC "check_tour" (defScope s27) s.heap.objs.size f cdv))) (C : CALS P w K mg base (A.deeper (envOfC "check_tour" (defScope s27) s.heap.objs.size f cdv)) cf) :
    SSs (cxOf CX0 P w K mg base N27 "check_tour" (defScope s27) f cdv A outer s H EE).nox cf (defBody s27) ir27.body :=
  have hU := u65 hr
  (sss_cons (ss_expr (call C.f9 (sos_cons (v 0) sos_nil))) (sss_cons (ss_expr (call C.f13 (sos_cons (o (se_ix (u1 hU) (v 0) (o se_int))) (sos_cons (v 1) sos_nil)))) sss_nil))
abbrev N28 : List Str := ["many", "known", "tour", "exchange"]
theorem nd28 : N28.Nodup := by decide +kernel
theorem sc28 : FnScope N28 ["many", "known", "tour"] (defScope s28) := ⟨rfl, rfl, rfl, nd28, rfl, by decide +kernel, by decide +kernel⟩
theorem b28 {P : Program} {w : World} {K : PySem.W.Frag} {mg : Str → Option Value} {base : Heap} {cf : Cf} {f : Addr} {cdv : Value} {A : Around} {outer : List PySem.Env} {s : Shared} {H : Hp} {EE : XK} {kk : Nat} (M : MG mg) (hr : Room kk (A.deeper (envOfC "best_exchange" (defScope s28) s.heap.objs.size f cdv))) (C : CALS P w K mg base (A.deeper (envOfC "best_exchange" (defScope s28) s.heap.objs.size f cdv)) cf) :
    SSs (cxOf CX0 P w K mg base N28 "best_exchange" (defScope s28) f cdv A outer s H EE).nox cf (defBody s28) ir28.body :=
  have hU := u65 hr
  (sss_cons (ss_ret (se_cb1 (cMinL rfl hU) (bt M.min bo_min) (o (se_comp (own := [("exchange", 3)]) rfl nd28 (by rfl) (si_seq (o (call C.f20 (sos_cons (v 0) sos_nil)))) (fun _ _ _ _ _ => (nm 3 nd28)) (fun _ _ _ _ _ => sc_nil) (fun _ _ _ _ _ => (se_tup (sd_cons (call C.f16 (sos_cons (v 1) (sos_cons (o (call C.f24 (sos_cons (v 2) (sos_cons (v 3) sos_nil)))) sos_nil))) (sd_cons (tv 3) sd_nil)))))))) sss_nil)
abbrev N29 : List Str := ["many", "known", "tour"]
theorem nd29 : N29.Nodup := by decide +kernel
theorem sc29 : FnScope N29 ["many", "known", "tour"] (defScope s29) := ⟨rfl, rfl, rfl, nd29, rfl, by decide +kernel, by decide +kernel⟩
theorem b29 {P : Program} {w : World} {K : PySem.W.Frag} {mg : Str → Option Value} {base : Heap} {cf : Cf} {f : Addr} {cdv : Value} {A : Around} {outer : List PySem.Env} {s : Shared} {H : Hp} {EE : XK} {kk : Nat} (M : MG mg) (hr : Room kk (A.deeper (envOfC "is_firm" (defScope s29) s.heap.objs.size f cdv))) (C : CALS P w K mg base (A.deeper (envOfC "is_firm" (defScope s29) s.heap.objs.size f cdv)) cf) :
    SSs (cxOf CX0 P w K mg base N29 "is_firm" (defScope s29) f cdv A outer s H EE).nox cf (defBody s29) ir29.body :=
  have hU := u65 hr
  (sss_cons (ss_ret (se_cmp opGe (o (se_ix (u1 hU) (o (call C.f28 (sos_cons (v 0) (sos_cons (v 1) (sos_cons (v 2) sos_nil))))) (o se_int))) (o (call C.f16 (sos_cons (v 1) (sos_cons (v 2) sos_nil)))) (by rfl))) sss_nil)
abbrev N30 : List Str := ["many", "known", "tour", "found"]
theorem nd30 : N30.Nodup := by decide +kernel
theorem sc30 : FnScope N30 ["many", "known", "tour"] (defScope s30) := ⟨rfl, rfl, rfl, nd30, rfl, by decide +kernel, by decide +kernel⟩
theorem b30 {P : Program} {w : World} {K : PySem.W.Frag} {mg : Str → Option Value} {base : Heap} {cf : Cf} {f : Addr} {cdv : Value} {A : Around} {outer : List PySem.Env} {s : Shared} {H : Hp} {EE : XK} {kk : Nat} (M : MG mg) (hr : Room kk (A.deeper (envOfC "steps_from" (defScope s30) s.heap.objs.size f cdv))) (C : CALS P w K mg base (A.deeper (envOfC "steps_from" (defScope s30) s.heap.objs.size f cdv)) cf) :
    SSs (cxOf CX0 P w K mg base N30 "steps_from" (defScope s30) f cdv A outer s H EE).nox cf (defBody s30) ir30.body :=
  have hU := u65 hr
  (sss_cons (ss_asg (se_lst (sd_cons (tv 2) sd_nil)) (nm 3 nd30)) (sss_cons (ss_whl PassesOwn.never (sb_not (sb_val (call C.f29 (sos_cons (v 0) (sos_cons (v 1) (sos_cons (o (se_ix (u1 hU) (v 3) (o (se_neg (o se_int))))) sos_nil)))))) (sss_cons (ss_expr (app 3 (call C.f24 (sos_cons (o (se_ix (u1 hU) (v 3) (o (se_neg (o se_int))))) (sos_cons (o (se_ix (u1 hU) (o (call C.f28 (sos_cons (v 0) (sos_cons (v 1) (sos_cons (o (se_ix (u1 hU) (v 3) (o (se_neg (o se_int))))) sos_nil))))) (o se_int))) sos_nil))))) sss_nil)) (sss_cons (ss_ret (tv 3)) sss_nil)))
abbrev N31 : List Str := ["table", "tour"]
theorem nd31 : N31.Nodup := by decide +kernel
theorem sc31 : FnScope N31 ["table", "tour"] (defScope s31) := ⟨rfl, rfl, rfl, nd31, rfl, by decide +kernel, by decide +kernel⟩
theorem b31 {P : Program} {w : World} {K : PySem.W.Frag} {mg : Str → Option Value} {base : Heap} {cf : Cf} {f : Addr} {cdv : Value} {A : Around} {outer : List PySem.Env} {s : Shared} {H : Hp} {EE : XK} {kk : Nat} (M : MG mg) (hr : Room kk (A.deeper (envOfC "mended" (defScope s31) s.heap.objs.size f cdv))) (C : CALS P w K mg base (A.deeper (envOfC "mended" (defScope s31) s.heap.objs.size f cdv)) cf) :
    SSs (cxOf CX0 P w K mg base N31 "mended" (defScope s31) f cdv A outer s H EE).nox cf (defBody s31) ir31.body :=
  have hU := u65 hr
  (sss_cons (ss_expr (call C.f27 (sos_cons (v 0) (sos_cons (v 1) sos_nil)))) (sss_cons (ss_ret (se_ix (u1 hU) (o (call C.f30 (sos_cons (o (se_ix (u1 hU) (v 0) (o se_int))) (sos_cons (o (call C.f11 (sos_cons (v 0) sos_nil))) (sos_cons (v 1) sos_nil))))) (o (se_neg (o se_int))))) sss_nil))
abbrev N32 : List Str := ["table", "tour"]
theorem nd32 : N32.Nodup := by decide +kernel
theorem sc32 : FnScope N32 ["table", "tour"] (defScope s32) := ⟨rfl, rfl, rfl, nd32, rfl, by decide +kernel, by decide +kernel⟩
theorem b32 {P : Program} {w : World} {K : PySem.W.Frag} {mg : Str → Option Value} {base : Heap} {cf : Cf} {f : Addr} {cdv : Value} {A : Around} {outer : List PySem.Env} {s : Shared} {H : Hp} {EE : XK} {kk : Nat} (M : MG mg) (hr : Room kk (A.deeper (envOfC "mending_steps" (defScope s32) s.heap.objs.size f cdv))) (C : CALS P w K mg base (A.deeper (envOfC "mending_steps" (defScope s32) s.heap.objs.size f cdv)) cf) :
    SSs (cxOf CX0 P w K mg base N32 "mending_steps" (defScope s32) f cdv A outer s H EE).nox cf (defBody s32) ir32.body :=
  have hU := u65 hr
  (sss_cons (ss_expr (call C.f27 (sos_cons (v 0) (sos_cons (v 1) sos_nil)))) (sss_cons (ss_ret (se_ct1 cTuple (bt M.tuple bo_tuple) (o (call C.f30 (sos_cons (o (se_ix (u1 hU) (v 0) (o se_int))) (sos_cons (o (call C.f11 (sos_cons (v 0) sos_nil))) (sos_cons (v 1) sos_nil))))))) sss_nil))
abbrev N33 : List Str := ["many", "tour", "other", "known", "edge", "steps", "later", "one", "exchange", "there"]
theorem nd33 : N33.Nodup := by decide +kernel
theorem sc33 : FnScope N33 ["many", "tour", "other"] (defScope s33) := ⟨rfl, rfl, rfl, nd33, rfl, by decide +kernel, by decide +kernel⟩
theorem b33 {P : Program} {w : World} {K : PySem.W.Frag} {mg : Str → Option Value} {base : Heap} {cf : Cf} {f : Addr} {cdv : Value} {A : Around} {outer : List PySem.Env} {s : Shared} {H : Hp} {EE : XK} {kk : Nat} (M : MG mg) (hr : Room kk (A.deeper (envOfC "exchanges_between" (defScope s33) s.heap.objs.size f cdv))) (C : CALS P w K mg base (A.deeper (envOfC "exchanges_between" (defScope s33) s.heap.objs.size f cdv)) cf) :
    SSs (cxOf CX0 P w K mg base N33 "exchanges_between" (defScope s33) f cdv A outer s H EE).nox cf (defBody s33) ir33.body :=
  have hU := u65 hr
  (sss_cons (ss_expr (call C.f8 (sos_cons (v 0) sos_nil))) (sss_cons (ss_expr (call C.f13 (sos_cons (v 0) (sos_cons (v 1) sos_nil)))) (sss_cons (ss_expr (call C.f13 (sos_cons (v 0) (sos_cons (v 2) sos_nil)))) (sss_cons (ss_par3 (i := 3) (j := 4) (l := 5) rfl nd33 rfl rfl rfl (by decide) (by decide) (by decide) rfl rfl rfl (stk_cons (se_done (u0 hU) (tv 1) se_int) (stk_cons (se_lst (sd_cons (tv 1) sd_nil)) (stk_cons se_int stk_nil)))) (sss_cons (ss_whl PassesOwn.never (sb_cmp (opNin hU) (v 2) (v 3) (by rfl)) (sss_cons (ss_par2 (i := 5) (j := 6) rfl nd33 rfl rfl (by decide) rfl rfl (stk_cons (se_bin opAdd (v 5) (o se_int)) (stk_cons (se_lst sd_nil) stk_nil))) (sss_cons (ss_for PassesOwn.never rfl (si_seq (v 4)) (nm 7 nd33) (sss_cons (ss_for PassesOwn.never rfl (si_seq (o (call C.f20 (sos_cons (v 0) sos_nil)))) (nm 8 nd33) (sss_cons (ss_asg (call C.f24 (sos_cons (v 7) (sos_cons (v 8) sos_nil))) (nm 9 nd33)) (sss_cons (ss_ifs (sb_cmp (opNin hU) (v 9) (v 3) (by rfl)) (sss_cons (set hU (tv 9) (tv 5)) (sss_cons (ss_expr (app 6 (tv 9))) sss_nil)) sss_nil) sss_nil))) sss_nil)) (sss_cons (ss_asg (tv 6) (nm 4 nd33)) sss_nil)))) (sss_cons (ss_ret (se_ix (u1 hU) (v 3) (v 2))) sss_nil))))))
abbrev N34 : List Str := ["script", "place", "cell", "own", "small"]
theorem nd34 : N34.Nodup := by decide +kernel
theorem sc34 : FnScope N34 ["script", "place"] (defScope s34) := ⟨rfl, rfl, rfl, nd34, rfl, by decide +kernel, by decide +kernel⟩
theorem b34 {P : Program} {w : World} {K : PySem.W.Frag} {mg : Str → Option Value} {base : Heap} {cf : Cf} {f : Addr} {cdv : Value} {A : Around} {outer : List PySem.Env} {s : Shared} {H : Hp} {EE : XK} {kk : Nat} (M : MG mg) (hr : Room kk (A.deeper (envOfC "_law_pot" (defScope s34) s.heap.objs.size f cdv))) (C : CALS P w K mg base (A.deeper (envOfC "_law_pot" (defScope s34) s.heap.objs.size f cdv)) cf) :
    SSs (cxOf CX0 P w K mg base N34 "_law_pot" (defScope s34) f cdv A outer s H EE).nox cf (defBody s34) ir34.body :=
  have hU := u65 hr
  (sss_cons (ss_asg (se_ife (sb_cmp opLt (v 1) (o (se_cb1 cLen (bt M.len bo_len) (v 0))) (by rfl)) (se_ix (u1 hU) (v 0) (v 1)) (se_bin opAdd (o (se_bin opAdd (o (se_bin opMod (o (se_ct1 cInt (bt M.int bo_int) (o (se_cb1 (cSum rfl) (bt M.sum bo_sum) (o (se_sl0 (v 0) (o se_int) pur_int)))))) (o se_int))) (o (se_bin opMul (o se_int) (v 1))))) (o se_int))) (nm 2 nd34)) (sss_cons (ss_asg (se_bin opMul (o (se_bin opMod (o (se_ct1 cInt (bt M.int bo_int) (o (se_cb1 cAbs (bt M.abs bo_abs) (v 2))))) (o (se_bin opPow (o (se_bin opPow (o se_int) (o se_int))) (o se_int))))) (o (se_ct1 cInt (bt M.int bo_int) (o (se_cmp opGe (o (se_cb1 cAbs (bt M.abs bo_abs) (v 2))) (o (se_bin opPow (o se_int) (o se_int))) (by rfl)))))) (nm 3 nd34)) (sss_cons (ss_asg (se_bin opMod (o (se_ct1 cInt (bt M.int bo_int) (v 2))) (o se_int)) (nm 4 nd34)) (sss_cons (ss_ret (se_lst (sd_cons (tv 3) (sd_cons (se_bin opMod (o (se_ct1 cInt (bt M.int bo_int) (o (se_bin opAdd (o (se_bin opAdd (o (se_bin opMul (v 4) (o se_int))) (o (se_bin opMul (o (se_bin opMul (o se_int) (v 1))) (v 1))))) (o se_int))))) (o se_int)) (sd_cons se_int sd_nil))))) sss_nil))))
abbrev N35 : List Str := ["pot", "upto", "digit", "prime", "blend"]
theorem nd35 : N35.Nodup := by decide +kernel
theorem sc35 : FnScope N35 ["pot", "upto"] (defScope s35) := ⟨rfl, rfl, rfl, nd35, rfl, by decide +kernel, by decide +kernel⟩
theorem b35 {P : Program} {w : World} {K : PySem.W.Frag} {mg : Str → Option Value} {base : Heap} {cf : Cf} {f : Addr} {cdv : Value} {A : Around} {outer : List PySem.Env} {s : Shared} {H : Hp} {EE : XK} {kk : Nat} (M : MG mg) (hr : Room kk (A.deeper (envOfC "_law_take" (defScope s35) s.heap.objs.size f cdv))) (C : CALS P w K mg base (A.deeper (envOfC "_law_take" (defScope s35) s.heap.objs.size f cdv)) cf) :
    SSs (cxOf CX0 P w K mg base N35 "_law_take" (defScope s35) f cdv A outer s H EE).nox cf (defBody s35) ir35.body :=
  have hU := u65 hr
  (sss_cons (ss_ifs (sb_cmp opGt (o (se_ix (u1 hU) (v 0) (o se_int))) (o se_int) (by rfl)) (sss_cons (ss_asg (se_bin opMod (o (se_ct1 cInt (bt M.int bo_int) (o (se_ix (u1 hU) (v 0) (o se_int))))) (v 1)) (nm 2 nd35)) (sss_cons (set hU se_int (se_bin opFdiv (o (se_ix (u1 hU) (v 0) (o se_int))) (v 1))) (sss_cons (ss_ret (tv 2)) sss_nil))) sss_nil) (sss_cons (set hU se_int (se_bin opAdd (o (se_ix (u1 hU) (v 0) (o se_int))) (o se_int))) (sss_cons (ss_asg (se_ix (u1 hU) (o (se_lst (sd_cons se_int (sd_cons se_int (sd_cons se_int (sd_cons se_int (sd_cons se_int sd_nil))))))) (o (se_bin opMod (o (se_ct1 cInt (bt M.int bo_int) (o (se_ix (u1 hU) (v 0) (o se_int))))) (o se_int)))) (nm 3 nd35)) (sss_cons (ss_asg (se_bin opMod (o (se_ct1 cInt (bt M.int bo_int) (o (se_bin opPow (o (se_ct1 cInt (bt M.int bo_int) (o (se_bin opAdd (o (se_bin opAdd (o (se_ix (u1 hU) (v 0) (o se_int))) (o (se_bin opMul (o (se_bin opMul (o se_int) (o (se_ix (u1 hU) (v 0) (o se_int))))) (o (se_ix (u1 hU) (v 0) (o se_int))))))) (o se_int))))) (o se_int))))) (v 3)) (nm 4 nd35)) (sss_cons (ss_asg (se_bin opMod (o (se_ct1 cInt (bt M.int bo_int) (o (se_bin opMul (v 4) (o (se_bin opAdd (o (se_bin opMod (o (se_ct1 cInt (bt M.int bo_int) (v 4))) (o se_int))) (o (se_bin opMul (o se_int) (o (se_ix (u1 hU) (v 0) (o se_int))))))))))) (o se_int)) (nm 4 nd35)) (sss_cons (ss_ret (se_bin opMod (o (se_ct1 cInt (bt M.int bo_int) (o (se_bin opFdiv (v 4) (o se_int))))) (v 1))) sss_nil))))))
abbrev N36 : List Str := ["pot", "some"]
theorem nd36 : N36.Nodup := by decide +kernel
theorem sc36 : FnScope N36 ["pot", "some"] (defScope s36) := ⟨rfl, rfl, rfl, nd36, rfl, by decide +kernel, by decide +kernel⟩
theorem b36 {P : Program} {w : World} {K : PySem.W.Frag} {mg : Str → Option Value} {base : Heap} {cf : Cf} {f : Addr} {cdv : Value} {A : Around} {outer : List PySem.Env} {s : Shared} {H : Hp} {EE : XK} {kk : Nat} (M : MG mg) (hr : Room kk (A.deeper (envOfC "_law_of" (defScope s36) s.heap.objs.size f cdv))) (C : CALS P w K mg base (A.deeper (envOfC "_law_of" (defScope s36) s.heap.objs.size f cdv)) cf) :
    SSs (cxOf CX0 P w K mg base N36 "_law_of" (defScope s36) f cdv A outer s H EE).nox cf (defBody s36) ir36.body :=
  have hU := u65 hr
  (sss_cons (ss_ret (se_ix (u1 hU) (v 1) (o (call C.f35 (sos_cons (v 0) (sos_cons (o (se_cb1 cLen (bt M.len bo_len) (v 1))) sos_nil)))))) sss_nil)
abbrev N37 : List Str := ["script", "limit"]
theorem nd37 : N37.Nodup := by decide +kernel
theorem sc37 : FnScope N37 ["script", "limit"] (defScope s37) := ⟨rfl, rfl, rfl, nd37, rfl, by decide +kernel, by decide +kernel⟩
theorem b37 {P : Program} {w : World} {K : PySem.W.Frag} {mg : Str → Option Value} {base : Heap} {cf : Cf} {f : Addr} {cdv : Value} {A : Around} {outer : List PySem.Env} {s : Shared} {H : Hp} {EE : XK} {kk : Nat} (M : MG mg) (hr : Room kk (A.deeper (envOfC "_law_cells" (defScope s37) s.heap.objs.size f cdv))) (C : CALS P w K mg base (A.deeper (envOfC "_law_cells" (defScope s37) s.heap.objs.size f cdv)) cf) :
    SSs (cxOf CX0 P w K mg base N37 "_law_cells" (defScope s37) f cdv A outer s H EE).nox cf (defBody s37) ir37.body :=
  have hU := u65 hr
  (sss_cons (ss_ret (se_rangeL1 rfl (bt M.list bo_list) (bt M.range bo_range) (o (se_cb2 (cMax2 rfl) (bt M.max bo_max) (o se_int) (o (se_cb2 (cMin2 rfl) (bt M.min bo_min) (v 1) (o (se_cb1 cLen (bt M.len bo_len) (v 0))))))))) sss_nil)
abbrev N38 : List Str := ["pot", "pool", "many", "left", "found", "lap"]
theorem nd38 : N38.Nodup := by decide +kernel
theorem sc38 : FnScope N38 ["pot", "pool", "many"] (defScope s38) := ⟨rfl, rfl, rfl, nd38, rfl, by decide +kernel, by decide +kernel⟩
theorem b38 {P : Program} {w : World} {K : PySem.W.Frag} {mg : Str → Option Value} {base : Heap} {cf : Cf} {f : Addr} {cdv : Value} {A : Around} {outer : List PySem.Env} {s : Shared} {H : Hp} {EE : XK} {kk : Nat} (M : MG mg) (hr : Room kk (A.deeper (envOfC "_law_some" (defScope s38) s.heap.objs.size f cdv))) (C : CALS P w K mg base (A.deeper (envOfC "_law_some" (defScope s38) s.heap.objs.size f cdv)) cf) :
    SSs (cxOf CX0 P w K mg base N38 "_law_some" (defScope s38) f cdv A outer s H EE).nox cf (defBody s38) ir38.body :=
  have hU := u65 hr
  (sss_cons (ss_par2 (i := 3) (j := 4) rfl nd38 rfl rfl (by decide) rfl rfl (stk_cons (se_ct1 cList (bt M.list bo_list) (v 1)) (stk_cons (se_lst sd_nil) stk_nil))) (sss_cons (ss_for PassesOwn.never rfl (si_rng1 (bt M.range bo_range) (v 2)) (nm 5 nd38) (sss_cons (ss_expr (app 4 (pop 3 (call C.f35 (sos_cons (v 0) (sos_cons (o (se_cb1 cLen (bt M.len bo_len) (v 3))) sos_nil)))))) sss_nil)) (sss_cons (ss_ret (tv 4)) sss_nil)))
abbrev N39 : List Str := ["many", "found", "one", "other"]
theorem nd39 : N39.Nodup := by decide +kernel
theorem sc39 : FnScope N39 ["many"] (defScope s39) := ⟨rfl, rfl, rfl, nd39, rfl, by decide +kernel, by decide +kernel⟩
theorem b39 {P : Program} {w : World} {K : PySem.W.Frag} {mg : Str → Option Value} {base : Heap} {cf : Cf} {f : Addr} {cdv : Value} {A : Around} {outer : List PySem.Env} {s : Shared} {H : Hp} {EE : XK} {kk : Nat} (M : MG mg) (hr : Room kk (A.deeper (envOfC "_law_roads" (defScope s39) s.heap.objs.size f cdv))) (C : CALS P w K mg base (A.deeper (envOfC "_law_roads" (defScope s39) s.heap.objs.size f cdv)) cf) :
    SSs (cxOf CX0 P w K mg base N39 "_law_roads" (defScope s39) f cdv A outer s H EE).nox cf (defBody s39) ir39.body :=
  have hU := u65 hr
  (sss_cons (ss_asg (se_lst sd_nil) (nm 1 nd39)) (sss_cons (ss_for PassesOwn.never rfl (si_rng1 (bt M.range bo_range) (v 0)) (nm 2 nd39) (sss_cons (ss_expr (ext 1 (se_comp (own := [("other", 3)]) rfl nd39 (by rfl) (si_rng2 (bt M.range bo_range) (o (se_bin opAdd (v 2) (o se_int))) (v 0)) (fun _ _ _ _ _ => (nm 3 nd39)) (fun _ _ _ _ _ => sc_nil) (fun _ _ _ _ _ => (se_tup (sd_cons (tv 2) (sd_cons (tv 3) sd_nil))))))) sss_nil)) (sss_cons (ss_ret (tv 1)) sss_nil)))
abbrev N40 : List Str := ["one", "other"]
theorem nd40 : N40.Nodup := by decide +kernel
theorem sc40 : FnScope N40 ["one", "other"] (defScope s40) := ⟨rfl, rfl, rfl, nd40, rfl, by decide +kernel, by decide +kernel⟩
theorem b40 {P : Program} {w : World} {K : PySem.W.Frag} {mg : Str → Option Value} {base : Heap} {cf : Cf} {f : Addr} {cdv : Value} {A : Around} {outer : List PySem.Env} {s : Shared} {H : Hp} {EE : XK} {kk : Nat} (M : MG mg) (hr : Room kk (A.deeper (envOfC "_law_road" (defScope s40) s.heap.objs.size f cdv))) (C : CALS P w K mg base (A.deeper (envOfC "_law_road" (defScope s40) s.heap.objs.size f cdv)) cf) :
    SSs (cxOf CX0 P w K mg base N40 "_law_road" (defScope s40) f cdv A outer s H EE).nox cf (defBody s40) ir40.body :=
  have hU := u65 hr
  (sss_cons (ss_ret (se_ife (sb_cmp opLt (v 0) (v 1) (by rfl)) (se_tup (sd_cons (tv 0) (sd_cons (tv 1) sd_nil))) (se_tup (sd_cons (tv 1) (sd_cons (tv 0) sd_nil))))) sss_nil)
abbrev N41 : List Str := ["table"]
theorem nd41 : N41.Nodup := by decide +kernel
theorem sc41 : FnScope N41 ["table"] (defScope s41) := ⟨rfl, rfl, rfl, nd41, rfl, by decide +kernel, by decide +kernel⟩
theorem b41 {P : Program} {w : World} {K : PySem.W.Frag} {mg : Str → Option Value} {base : Heap} {cf : Cf} {f : Addr} {cdv : Value} {A : Around} {outer : List PySem.Env} {s : Shared} {H : Hp} {EE : XK} {kk : Nat} (M : MG mg) (hr : Room kk (A.deeper (envOfC "_law_known" (defScope s41) s.heap.objs.size f cdv))) (C : CALS P w K mg base (A.deeper (envOfC "_law_known" (defScope s41) s.heap.objs.size f cdv)) cf) :
    SSs (cxOf CX0 P w K mg base N41 "_law_known" (defScope s41) f cdv A outer s H EE).nox cf (defBody s41) ir41.body :=
  have hU := u65 hr
  (sss_cons (ss_ret (se_dictZip (u2 hU) rfl (bt M.dict bo_dict) (bt M.list bo_list) (bt M.zip bo_zip) (o (call C.f39 (sos_cons (o (se_ix (u1 hU) (v 0) (o se_int))) sos_nil))) (o (se_ix (u1 hU) (v 0) (o se_int))))) sss_nil)
abbrev N42 : List Str := ["many", "found", "lap", "longer", "row", "place"]
theorem nd42 : N42.Nodup := by decide +kernel
theorem sc42 : FnScope N42 ["many"] (defScope s42) := ⟨rfl, rfl, rfl, nd42, rfl, by decide +kernel, by decide +kernel⟩
theorem b42 {P : Program} {w : World} {K : PySem.W.Frag} {mg : Str → Option Value} {base : Heap} {cf : Cf} {f : Addr} {cdv : Value} {A : Around} {outer : List PySem.Env} {s : Shared} {H : Hp} {EE : XK} {kk : Nat} (M : MG mg) (hr : Room kk (A.deeper (envOfC "_law_rounds" (defScope s42) s.heap.objs.size f cdv))) (C : CALS P w K mg base (A.deeper (envOfC "_law_rounds" (defScope s42) s.heap.objs.size f cdv)) cf) :
    SSs (cxOf CX0 P w K mg base N42 "_law_rounds" (defScope s42) f cdv A outer s H EE).nox cf (defBody s42) ir42.body :=
  have hU := u65 hr
  (sss_cons (ss_asg (se_lst (sd_cons (se_tup (sd_cons se_int sd_nil)) sd_nil)) (nm 1 nd42)) (sss_cons (ss_for PassesOwn.never rfl (si_rng1 (bt M.range bo_range) (o (se_bin opSub (v 0) (o se_int)))) (nm 2 nd42) (sss_cons (ss_asg (se_lst sd_nil) (nm 3 nd42)) (sss_cons (ss_for PassesOwn.never rfl (si_seq (v 1)) (nm 4 nd42) (sss_cons (ss_expr (ext 3 (se_comp (own := [("place", 5)]) rfl nd42 (by rfl) (si_rng2 (bt M.range bo_range) (o se_int) (v 0)) (fun _ _ _ _ _ => (nm 5 nd42)) (fun _ _ _ _ _ => (sc_one (sb_cmp (opNin hU) (v 5) (v 4) (by rfl)))) (fun _ _ _ _ _ => (se_bin opAdd (v 4) (o (se_tup (sd_cons (tv 5) sd_nil)))))))) sss_nil)) (sss_cons (ss_asg (tv 3) (nm 1 nd42)) sss_nil)))) (sss_cons (ss_ret (se_comp (own := [("row", 4)]) rfl nd42 (by rfl) (si_seq (v 1)) (fun _ _ _ _ _ => (nm 4 nd42)) (fun _ _ _ _ _ => (sc_one (sb_cmp opLt (o (se_ix (u1 hU) (v 4) (o se_int))) (o (se_ix (u1 hU) (v 4) (o (se_neg (o se_int))))) (by rfl)))) (fun _ _ _ _ _ => (tv 4)))) sss_nil)))
abbrev N43 : List Str := ["tour", "one", "other"]
theorem nd43 : N43.Nodup := by decide +kernel
theorem sc43 : FnScope N43 ["tour"] (defScope s43) := ⟨rfl, rfl, rfl, nd43, rfl, by decide +kernel, by decide +kernel⟩
theorem b43 {P : Program} {w : World} {K : PySem.W.Frag} {mg : Str → Option Value} {base : Heap} {cf : Cf} {f : Addr} {cdv : Value} {A : Around} {outer : List PySem.Env} {s : Shared} {H : Hp} {EE : XK} {kk : Nat} (M : MG mg) (hr : Room kk (A.deeper (envOfC "_law_along" (defScope s43) s.heap.objs.size f cdv))) (C : CALS P w K mg base (A.deeper (envOfC "_law_along" (defScope s43) s.heap.objs.size f cdv)) cf) :
    SSs (cxOf CX0 P w K mg base N43 "_law_along" (defScope s43) f cdv A outer s H EE).nox cf (defBody s43) ir43.body :=
  have hU := u65 hr
  (sss_cons (ss_ret (se_comp (own := [("one", 1), ("other", 2)]) rfl nd43 (by rfl) (si_zip (bt M.zip bo_zip) (v 0) (o (se_bin opAdd (o (se_sl1 (v 0) (o se_int) pur_int)) (o (se_sl0 (v 0) (o se_int) pur_int))))) (fun _ _ _ _ _ => (sg_tp rfl (sgs_cons (nm 1 nd43) (sgs_cons (nm 2 nd43) sgs_nil)) rfl)) (fun _ _ _ _ _ => sc_nil) (fun _ _ _ _ _ => (call C.f40 (sos_cons (v 1) (sos_cons (v 2) sos_nil)))))) sss_nil)
abbrev N44 : List Str := ["table", "tour", "known", "road"]
theorem nd44 : N44.Nodup := by decide +kernel
theorem sc44 : FnScope N44 ["table", "tour"] (defScope s44) := ⟨rfl, rfl, rfl, nd44, rfl, by decide +kernel, by decide +kernel⟩
theorem b44 {P : Program} {w : World} {K : PySem.W.Frag} {mg : Str → Option Value} {base : Heap} {cf : Cf} {f : Addr} {cdv : Value} {A : Around} {outer : List PySem.Env} {s : Shared} {H : Hp} {EE : XK} {kk : Nat} (M : MG mg) (hr : Room kk (A.deeper (envOfC "_law_length" (defScope s44) s.heap.objs.size f cdv))) (C : CALS P w K mg base (A.deeper (envOfC "_law_length" (defScope s44) s.heap.objs.size f cdv)) cf) :
    SSs (cxOf CX0 P w K mg base N44 "_law_length" (defScope s44) f cdv A outer s H EE).nox cf (defBody s44) ir44.body :=
  have hU := u65 hr
  (sss_cons (ss_asg (call C.f41 (sos_cons (v 0) sos_nil)) (nm 2 nd44)) (sss_cons (ss_ret (se_cb1 (cSum rfl) (bt M.sum bo_sum) (o (se_comp (own := [("road", 3)]) rfl nd44 (by rfl) (si_seq (o (call C.f43 (sos_cons (v 1) sos_nil)))) (fun _ _ _ _ _ => (nm 3 nd44)) (fun _ _ _ _ _ => sc_nil) (fun _ _ _ _ _ => (se_ix (u1 hU) (v 2) (v 3))))))) sss_nil))
abbrev N45 : List Str := ["order", "at", "row"]
theorem nd45 : N45.Nodup := by decide +kernel
theorem sc45 : FnScope N45 ["order"] (defScope s45) := ⟨rfl, rfl, rfl, nd45, rfl, by decide +kernel, by decide +kernel⟩
theorem b45 {P : Program} {w : World} {K : PySem.W.Frag} {mg : Str → Option Value} {base : Heap} {cf : Cf} {f : Addr} {cdv : Value} {A : Around} {outer : List PySem.Env} {s : Shared} {H : Hp} {EE : XK} {kk : Nat} (M : MG mg) (hr : Room kk (A.deeper (envOfC "_law_as_round" (defScope s45) s.heap.objs.size f cdv))) (C : CALS P w K mg base (A.deeper (envOfC "_law_as_round" (defScope s45) s.heap.objs.size f cdv)) cf) :
    SSs (cxOf CX0 P w K mg base N45 "_law_as_round" (defScope s45) f cdv A outer s H EE).nox cf (defBody s45) ir45.body :=
  have hU := u65 hr
  (sss_cons (ss_asg (se_index (o (se_ct1 cList (bt M.list bo_list) (v 0))) (o se_int) pur_int) (nm 1 nd45)) (sss_cons (ss_asg (se_bin opAdd (o (se_ct1 cTuple (bt M.tuple bo_tuple) (o (se_sl1 (v 0) (v 1) pur_var)))) (o (se_ct1 cTuple (bt M.tuple bo_tuple) (o (se_sl0 (v 0) (v 1) pur_var))))) (nm 2 nd45)) (sss_cons (ss_ret (se_ife (sb_cmp opLt (o (se_ix (u1 hU) (v 2) (o se_int))) (o (se_ix (u1 hU) (v 2) (o (se_neg (o se_int))))) (by rfl)) (tv 2) (se_bin opAdd (o (se_tup (sd_cons se_int sd_nil))) (o (se_revTo (v 2)))))) sss_nil)))
abbrev N46 : List Str := ["value"]
theorem nd46 : N46.Nodup := by decide +kernel
theorem sc46 : FnScope N46 ["value"] (defScope s46) := ⟨rfl, rfl, rfl, nd46, rfl, by decide +kernel, by decide +kernel⟩
theorem b46 {P : Program} {w : World} {K : PySem.W.Frag} {mg : Str → Option Value} {base : Heap} {cf : Cf} {f : Addr} {cdv : Value} {A : Around} {outer : List PySem.Env} {s : Shared} {H : Hp} {EE : XK} {kk : Nat} (M : MG mg) (hr : Room kk (A.deeper (envOfC "_law_is_int" (defScope s46) s.heap.objs.size f cdv))) (C : CALS P w K mg base (A.deeper (envOfC "_law_is_int" (defScope s46) s.heap.objs.size f cdv)) cf) :
    SSs (cxOf CX0 P w K mg base N46 "_law_is_int" (defScope s46) f cdv A outer s H EE).nox cf (defBody s46) ir46.body :=
  have hU := u65 hr
  (sss_cons (ss_ret (se_and (se_isi (k := .int) (bt M.isinstance bo_isinstance) (bt M.int bo_int) (v 0)) (se_one (se_not (se_isi (k := .bool) (bt M.isinstance bo_isinstance) (bt M.bool bo_bool) (v 0)))))) sss_nil)
abbrev N47 : List Str := ["many", "found", "at", "to"]
theorem nd47 : N47.Nodup := by decide +kernel
theorem sc47 : FnScope N47 ["many"] (defScope s47) := ⟨rfl, rfl, rfl, nd47, rfl, by decide +kernel, by decide +kernel⟩
theorem b47 {P : Program} {w : World} {K : PySem.W.Frag} {mg : Str → Option Value} {base : Heap} {cf : Cf} {f : Addr} {cdv : Value} {A : Around} {outer : List PySem.Env} {s : Shared} {H : Hp} {EE : XK} {kk : Nat} (M : MG mg) (hr : Room kk (A.deeper (envOfC "_law_exchanges" (defScope s47) s.heap.objs.size f cdv))) (C : CALS P w K mg base (A.deeper (envOfC "_law_exchanges" (defScope s47) s.heap.objs.size f cdv)) cf) :
    SSs (cxOf CX0 P w K mg base N47 "_law_exchanges" (defScope s47) f cdv A outer s H EE).nox cf (defBody s47) ir47.body :=
  have hU := u65 hr
  (sss_cons (ss_asg (se_lst sd_nil) (nm 1 nd47)) (sss_cons (ss_for PassesOwn.never rfl (si_rng2 (bt M.range bo_range) (o se_int) (o (se_bin opSub (v 0) (o se_int)))) (nm 2 nd47) (sss_cons (ss_expr (ext 1 (se_comp (own := [("to", 3)]) rfl nd47 (by rfl) (si_rng2 (bt M.range bo_range) (o (se_bin opAdd (v 2) (o se_int))) (v 0)) (fun _ _ _ _ _ => (nm 3 nd47)) (fun _ _ _ _ _ => sc_nil) (fun _ _ _ _ _ => (se_tup (sd_cons (tv 2) (sd_cons (tv 3) sd_nil))))))) sss_nil)) (sss_cons (ss_ret (tv 1)) sss_nil)))
abbrev N48 : List Str := ["tour", "exchange", "at", "to", "middle"]
theorem nd48 : N48.Nodup := by decide +kernel
theorem sc48 : FnScope N48 ["tour", "exchange"] (defScope s48) := ⟨rfl, rfl, rfl, nd48, rfl, by decide +kernel, by decide +kernel⟩
theorem b48 {P : Program} {w : World} {K : PySem.W.Frag} {mg : Str → Option Value} {base : Heap} {cf : Cf} {f : Addr} {cdv : Value} {A : Around} {outer : List PySem.Env} {s : Shared} {H : Hp} {EE : XK} {kk : Nat} (M : MG mg) (hr : Room kk (A.deeper (envOfC "_law_turned" (defScope s48) s.heap.objs.size f cdv))) (C : CALS P w K mg base (A.deeper (envOfC "_law_turned" (defScope s48) s.heap.objs.size f cdv)) cf) :
    SSs (cxOf CX0 P w K mg base N48 "_law_turned" (defScope s48) f cdv A outer s H EE).nox cf (defBody s48) ir48.body :=
  have hU := u65 hr
  (sss_cons (ss_asg (tv 1) (sg_tp rfl (sgs_cons (nm 2 nd48) (sgs_cons (nm 3 nd48) sgs_nil)) rfl)) (sss_cons (ss_asg (se_sl2 (v 0) (v 2) (o (se_bin opAdd (v 3) (o se_int))) pur_var (pur_prim (pur_2 pur_var pur_int))) (nm 4 nd48)) (sss_cons (ss_ret (call C.f45 (sos_cons (o (se_bin opAdd (o (se_bin opAdd (o (se_sl0 (v 0) (v 2) pur_var)) (o (se_rev (v 4))))) (o (se_sl1 (v 0) (o (se_bin opAdd (v 3) (o se_int))) (pur_prim (pur_2 pur_var pur_int)))))) sos_nil))) sss_nil)))
abbrev N49 : List Str := ["pot", "many", "pick", "at", "lengths", "far", "lot", "bound", "place", "one", "other", "road"]
theorem nd49 : N49.Nodup := by decide +kernel
theorem sc49 : FnScope N49 ["pot", "many"] (defScope s49) := ⟨rfl, rfl, rfl, nd49, rfl, by decide +kernel, by decide +kernel⟩
theorem b49 {P : Program} {w : World} {K : PySem.W.Frag} {mg : Str → Option Value} {base : Heap} {cf : Cf} {f : Addr} {cdv : Value} {A : Around} {outer : List PySem.Env} {s : Shared} {H : Hp} {EE : XK} {kk : Nat} (M : MG mg) (hr : Room kk (A.deeper (envOfC "_law_table_of" (defScope s49) s.heap.objs.size f cdv))) (C : CALS P w K mg base (A.deeper (envOfC "_law_table_of" (defScope s49) s.heap.objs.size f cdv)) cf) :
    SSs (cxOf CX0 P w K mg base N49 "_law_table_of" (defScope s49) f cdv A outer s H EE).nox cf (defBody s49) ir49.body :=
  have hU := u65 hr
  (sss_cons (ss_asg (call C.f35 (sos_cons (v 0) (sos_cons (o se_int) sos_nil))) (nm 2 nd49)) (sss_cons (ss_ifs (sb_cmp (opEq (u64 hU)) (v 2) (o se_int) (by rfl)) (sss_cons (ss_asg (se_comp (own := [("place", 8)]) rfl nd49 (by rfl) (si_rng1 (bt M.range bo_range) (v 1)) (fun _ _ _ _ _ => (nm 8 nd49)) (fun _ _ _ _ _ => sc_nil) (fun _ _ _ _ _ => (se_tup (sd_cons (se_ct1 cInt (bt M.int bo_int) (o (call C.f35 (sos_cons (v 0) (sos_cons (o se_int) sos_nil))))) (sd_cons (se_ct1 cInt (bt M.int bo_int) (o (call C.f35 (sos_cons (v 0) (sos_cons (o se_int) sos_nil))))) sd_nil))))) (nm 3 nd49)) (sss_cons (ss_setLc (i := 4) (own := [("one", 9), ("other", 10)]) rfl nd49 rfl rfl (by rfl) (by rfl) (si_seqT (o (call C.f39 (sos_cons (v 1) sos_nil)))) (fun _ _ _ _ _ => (sg_tp rfl (sgs_cons (nm 9 nd49) (sgs_cons (nm 10 nd49) sgs_nil)) rfl)) (fun _ _ _ _ _ => sc_nil) (fun _ _ _ _ _ => (se_bin opAdd (o (se_cb1 cAbs (bt M.abs bo_abs) (o (se_bin opSub (o (se_ix (u1 hU) (o (se_ix (u1 hU) (v 3) (v 9))) (o se_int))) (o (se_ix (u1 hU) (o (se_ix (u1 hU) (v 3) (v 10))) (o se_int))))))) (o (se_cb1 cAbs (bt M.abs bo_abs) (o (se_bin opSub (o (se_ix (u1 hU) (o (se_ix (u1 hU) (v 3) (v 9))) (o se_int))) (o (se_ix (u1 hU) (o (se_ix (u1 hU) (v 3) (v 10))) (o se_int)))))))))) (sss_cons (ss_ret (se_tup (sd_cons (tv 1) (sd_cons (se_ct1 cTuple (bt M.tuple bo_tuple) (v 4)) sd_nil)))) sss_nil))) sss_nil) (sss_cons (ss_ifs (sb_cmp (opEq (u64 hU)) (v 2) (o se_int) (by rfl)) (sss_cons (ss_asg (se_tup (sd_cons (se_ct1 cInt (bt M.int bo_int) (o (se_bin opAdd (o se_int) (o (call C.f35 (sos_cons (v 0) (sos_cons (o se_int) sos_nil))))))) (sd_cons (se_comp (own := [("place", 8)]) rfl nd49 (by rfl) (si_rng1 (bt M.range bo_range) (v 1)) (fun _ _ _ _ _ => (nm 8 nd49)) (fun _ _ _ _ _ => (sc_one (sb_cmp (opEq (u64 hU)) (o (call C.f35 (sos_cons (v 0) (sos_cons (o se_int) sos_nil)))) (o se_int) (by rfl)))) (fun _ _ _ _ _ => (tv 8))) sd_nil))) (sg_tp rfl (sgs_cons (nm 5 nd49) (sgs_cons (nm 6 nd49) sgs_nil)) rfl)) (sss_cons (ss_setLc (i := 4) (own := [("one", 9), ("other", 10)]) rfl nd49 rfl rfl (by rfl) (by rfl) (si_seqT (o (call C.f39 (sos_cons (v 1) sos_nil)))) (fun _ _ _ _ _ => (sg_tp rfl (sgs_cons (nm 9 nd49) (sgs_cons (nm 10 nd49) sgs_nil)) rfl)) (fun _ _ _ _ _ => sc_nil) (fun _ _ _ _ _ => (se_bin opAdd (o (se_ct1 cInt (bt M.int bo_int) (o (call C.f35 (sos_cons (v 0) (sos_cons (o se_int) sos_nil)))))) (o (se_ife (sb_cmp (opEq (u64 hU)) (o (se_cmp (opIn hU) (v 9) (v 6) (by rfl))) (o (se_cmp (opIn hU) (v 10) (v 6) (by rfl))) (by rfl)) se_int (tv 5)))))) (sss_cons (ss_ret (se_tup (sd_cons (tv 1) (sd_cons (se_ct1 cTuple (bt M.tuple bo_tuple) (v 4)) sd_nil)))) sss_nil))) sss_nil) (sss_cons (ss_asg (call C.f36 (sos_cons (v 0) (sos_cons (o (se_lst (sd_cons se_int (sd_cons se_int (sd_cons se_int (sd_cons se_int sd_nil)))))) sos_nil))) (nm 7 nd49)) (sss_cons (ss_ret (se_tup (sd_cons (tv 1) (sd_cons (se_ct1 cTuple (bt M.tuple bo_tuple) (o (se_comp (own := [("road", 11)]) rfl nd49 (by rfl) (si_seq (o (call C.f39 (sos_cons (v 1) sos_nil)))) (fun _ _ _ _ _ => (nm 11 nd49)) (fun _ _ _ _ _ => sc_nil) (fun _ _ _ _ _ => (se_ct1 cInt (bt M.int bo_int) (o (call C.f35 (sos_cons (v 0) (sos_cons (v 7) sos_nil))))))))) sd_nil)))) sss_nil)))))
abbrev N50 : List Str := ["pot", "many"]
theorem nd50 : N50.Nodup := by decide +kernel
theorem sc50 : FnScope N50 ["pot", "many"] (defScope s50) := ⟨rfl, rfl, rfl, nd50, rfl, by decide +kernel, by decide +kernel⟩
theorem b50 {P : Program} {w : World} {K : PySem.W.Frag} {mg : Str → Option Value} {base : Heap} {cf : Cf} {f : Addr} {cdv : Value} {A : Around} {outer : List PySem.Env} {s : Shared} {H : Hp} {EE : XK} {kk : Nat} (M : MG mg) (hr : Room kk (A.deeper (envOfC "_law_round_of" (defScope s50) s.heap.objs.size f cdv))) (C : CALS P w K mg base (A.deeper (envOfC "_law_round_of" (defScope s50) s.heap.objs.size f cdv)) cf) :
    SSs (cxOf CX0 P w K mg base N50 "_law_round_of" (defScope s50) f cdv A outer s H EE).nox cf (defBody s50) ir50.body :=
  have hU := u65 hr
  (sss_cons (ss_ret (call C.f45 (sos_cons (o (call C.f38 (sos_cons (v 0) (sos_cons (o (se_rangeL1 rfl (bt M.list bo_list) (bt M.range bo_range) (v 1))) (sos_cons (v 1) sos_nil))))) sos_nil))) sss_nil)
abbrev N51 : List Str := ["tour", "most", "found", "here", "lap", "there", "row", "exchange", "beyond"]
theorem nd51 : N51.Nodup := by decide +kernel
theorem sc51 : FnScope N51 ["tour", "most"] (defScope s51) := ⟨rfl, rfl, rfl, nd51, rfl, by decide +kernel, by decide +kernel⟩
theorem b51 {P : Program} {w : World} {K : PySem.W.Frag} {mg : Str → Option Value} {base : Heap} {cf : Cf} {f : Addr} {cdv : Value} {A : Around} {outer : List PySem.Env} {s : Shared} {H : Hp} {EE : XK} {kk : Nat} (M : MG mg) (hr : Room kk (A.deeper (envOfC "_law_out_from" (defScope s51) s.heap.objs.size f cdv))) (C : CALS P w K mg base (A.deeper (envOfC "_law_out_from" (defScope s51) s.heap.objs.size f cdv)) cf) :
    SSs (cxOf CX0 P w K mg base N51 "_law_out_from" (defScope s51) f cdv A outer s H EE).nox cf (defBody s51) ir51.body :=
  have hU := u65 hr
  (sss_cons (ss_par2 (i := 2) (j := 3) rfl nd51 rfl rfl (by decide) rfl rfl (stk_cons (se_done (u0 hU) (tv 0) se_int) (stk_cons (se_lst (sd_cons (tv 0) sd_nil)) stk_nil))) (sss_cons (ss_for PassesOwn.never rfl (si_rng1 (bt M.range bo_range) (v 1)) (nm 4 nd51) (sss_cons (ss_asg (se_lst sd_nil) (nm 5 nd51)) (sss_cons (ss_for PassesOwn.never rfl (si_seq (v 3)) (nm 6 nd51) (sss_cons (ss_for PassesOwn.never rfl (si_seq (o (call C.f47 (sos_cons (o (se_cb1 cLen (bt M.len bo_len) (v 0))) sos_nil)))) (nm 7 nd51) (sss_cons (ss_asg (call C.f48 (sos_cons (v 6) (sos_cons (v 7) sos_nil))) (nm 8 nd51)) (sss_cons (ss_ifs (sb_cmp (opNin hU) (v 8) (v 2) (by rfl)) (sss_cons (set hU (tv 8) (se_bin opAdd (v 4) (o se_int))) (sss_cons (ss_expr (app 5 (tv 8))) sss_nil)) sss_nil) sss_nil))) sss_nil)) (sss_cons (ss_asg (tv 5) (nm 3 nd51)) sss_nil)))) (sss_cons (ss_ret (tv 2)) sss_nil)))
abbrev N52 : List Str := ["pot", "many", "tour", "far", "lap", "other", "third", "told", "unlike", "near", "order", "exchange", "road", "place"]
theorem nd52 : N52.Nodup := by decide +kernel
theorem sc52 : FnScope N52 ["pot", "many"] (defScope s52) := ⟨rfl, rfl, rfl, nd52, rfl, by decide +kernel, by decide +kernel⟩
theorem b52 {P : Program} {w : World} {K : PySem.W.Frag} {mg : Str → Option Value} {base : Heap} {cf : Cf} {f : Addr} {cdv : Value} {A : Around} {outer : List PySem.Env} {s : Shared} {H : Hp} {EE : XK} {kk : Nat} (M : MG mg) (hr : Room kk (A.deeper (envOfC "_law_are_measured" (defScope s52) s.heap.objs.size f cdv))) (C : CALS P w K mg base (A.deeper (envOfC "_law_are_measured" (defScope s52) s.heap.objs.size f cdv)) cf) :
    SSs (cxOf CX0 P w K mg base N52 "_law_are_measured" (defScope s52) f cdv A outer s H EE).nox cf (defBody s52) ir52.body :=
  have hU := u65 hr
  (sss_cons (ss_asg (call C.f50 (sos_cons (v 0) (sos_cons (v 1) sos_nil))) (nm 2 nd52)) (sss_cons (ss_asg (call C.f51 (sos_cons (v 2) (sos_cons (v 1) sos_nil))) (nm 3 nd52)) (sss_cons (ss_ifs (sb_of (sw_or (sb_cmp (opNe (u64 hU)) (o (se_cb1 cLen (bt M.len bo_len) (v 3))) (o (se_cb1 cLen (bt M.len bo_len) (o (call C.f42 (sos_cons (v 1) sos_nil))))) (by rfl)) (sw_one (sb_cmp opGt (o (se_maxVals rfl (bt M.max bo_max) (v 3))) (o (se_bin opSub (v 1) (o se_int))) (by rfl))))) (sss_cons (ss_ret se_bl) sss_nil) sss_nil) (sss_cons (ss_for PassesOwn.never rfl (si_rng1 (bt M.range bo_range) (o se_int)) (nm 4 nd52) (sss_cons (ss_asg (se_tup (sd_cons (call C.f50 (sos_cons (v 0) (sos_cons (v 1) sos_nil))) (sd_cons (call C.f50 (sos_cons (v 0) (sos_cons (v 1) sos_nil))) sd_nil))) (sg_tp rfl (sgs_cons (nm 5 nd52) (sgs_cons (nm 6 nd52) sgs_nil)) rfl)) (sss_cons (ss_asg (call C.f33 (sos_cons (v 1) (sos_cons (v 2) (sos_cons (v 5) sos_nil)))) (nm 7 nd52)) (sss_cons (ss_ifs (sb_of (sw_or (sb_not (sb_val (call C.f46 (sos_cons (v 7) sos_nil)))) (sw_or (sb_cmp (opNe (u64 hU)) (v 7) (o (se_ix (u1 hU) (v 3) (v 5))) (by rfl)) (sw_one (sb_cmp (opNe (u64 hU)) (o (call C.f33 (sos_cons (v 1) (sos_cons (v 5) (sos_cons (v 2) sos_nil))))) (v 7) (by rfl)))))) (sss_cons (ss_ret se_bl) sss_nil) sss_nil) (sss_cons (ss_ifs (sb_cmp opGt (v 7) (o (se_bin opAdd (o (call C.f33 (sos_cons (v 1) (sos_cons (v 2) (sos_cons (v 6) sos_nil))))) (o (call C.f33 (sos_cons (v 1) (sos_cons (v 6) (sos_cons (v 5) sos_nil))))))) (by rfl)) (sss_cons (ss_ret se_bl) sss_nil) sss_nil) (sss_cons (ss_asg (se_cb1 cLen (bt M.len bo_len) (o (se_comp (own := [("road", 12)]) rfl nd52 (by rfl) (si_seq (o (call C.f15 (sos_cons (v 1) (sos_cons (v 2) sos_nil))))) (fun _ _ _ _ _ => (nm 12 nd52)) (fun _ _ _ _ _ => (sc_one (sb_cmp (opNin hU) (v 12) (o (call C.f15 (sos_cons (v 1) (sos_cons (v 5) sos_nil)))) (by rfl)))) (fun _ _ _ _ _ => (tv 12))))) (nm 8 nd52)) (sss_cons (ss_ifs (sb_of (sw_or (sb_cmp opLt (v 7) (o (se_bin opFdiv (o (se_bin opAdd (v 8) (o se_int))) (o se_int))) (by rfl)) (sw_one (sb_cmp (opNe (u64 hU)) (o (se_cmp (opEq (u64 hU)) (v 7) (o se_int) (by rfl))) (o (se_cmp (opEq (u64 hU)) (v 2) (v 5) (by rfl))) (by rfl))))) (sss_cons (ss_ret se_bl) sss_nil) sss_nil) (sss_cons (ss_setLc (i := 9) (own := [("exchange", 11)]) rfl nd52 rfl rfl (by rfl) (by rfl) (si_seq (o (call C.f21 (sos_cons (v 1) sos_nil)))) (fun _ _ _ _ _ => (nm 11 nd52)) (fun _ _ _ _ _ => sc_nil) (fun _ _ _ _ _ => (call C.f25 (sos_cons (v 1) (sos_cons (v 2) (sos_cons (v 11) sos_nil)))))) (sss_cons (ss_ifs (sb_cmp (opNe (u64 hU)) (o (se_cmp opLe (v 7) (o se_int) (by rfl))) (o (se_or (se_cmp (opIn hU) (v 5) (v 9) (by rfl)) (se_one (se_cmp (opEq (u64 hU)) (v 5) (v 2) (by rfl))))) (by rfl)) (sss_cons (ss_ret se_bl) sss_nil) sss_nil) (sss_cons (ss_asg (se_ct1 cTuple (bt M.tuple bo_tuple) (o (se_comp (own := [("place", 13)]) rfl nd52 (by rfl) (si_seq (o (call C.f38 (sos_cons (v 0) (sos_cons (o (se_rangeL1 rfl (bt M.list bo_list) (bt M.range bo_range) (v 1))) (sos_cons (v 1) sos_nil)))))) (fun _ _ _ _ _ => (nm 13 nd52)) (fun _ _ _ _ _ => sc_nil) (fun _ _ _ _ _ => (se_ct1 cInt (bt M.int bo_int) (v 13)))))) (nm 10 nd52)) (sss_cons (ss_ifs (sb_cmp (opNe (u64 hU)) (o (call C.f33 (sos_cons (v 1) (sos_cons (o (call C.f19 (sos_cons (v 1) (sos_cons (v 2) (sos_cons (v 10) sos_nil))))) (sos_cons (o (call C.f19 (sos_cons (v 1) (sos_cons (v 5) (sos_cons (v 10) sos_nil))))) sos_nil))))) (v 7) (by rfl)) (sss_cons (ss_ret se_bl) sss_nil) sss_nil) sss_nil))))))))))) (sss_cons (ss_ret se_bl) sss_nil)))))
abbrev N53 : List Str := ["pot", "table", "many", "here", "begun", "whole", "laps", "lap", "exchange", "steps", "one", "other", "gains"]
theorem nd53 : N53.Nodup := by decide +kernel
theorem sc53 : FnScope N53 ["pot", "table"] (defScope s53) := ⟨rfl, rfl, rfl, nd53, rfl, by decide +kernel, by decide +kernel⟩
theorem b53 {P : Program} {w : World} {K : PySem.W.Frag} {mg : Str → Option Value} {base : Heap} {cf : Cf} {f : Addr} {cdv : Value} {A : Around} {outer : List PySem.Env} {s : Shared} {H : Hp} {EE : XK} {kk : Nat} (M : MG mg) (hr : Room kk (A.deeper (envOfC "_law_are_gains_right" (defScope s53) s.heap.objs.size f cdv))) (C : CALS P w K mg base (A.deeper (envOfC "_law_are_gains_right" (defScope s53) s.heap.objs.size f cdv)) cf) :
    SSs (cxOf CX0 P w K mg base N53 "_law_are_gains_right" (defScope s53) f cdv A outer s H EE).nox cf (defBody s53) ir53.body :=
  have hU := u65 hr
  (sss_cons (ss_par2 (i := 2) (j := 3) rfl nd53 rfl rfl (by decide) rfl rfl (stk_cons (se_ix (u1 hU) (v 1) (o se_int)) (stk_cons (call C.f50 (sos_cons (v 0) (sos_cons (o (se_ix (u1 hU) (v 1) (o se_int))) sos_nil))) stk_nil))) (sss_cons (ss_par3 (i := 4) (j := 5) (l := 6) rfl nd53 rfl rfl rfl (by decide) (by decide) (by decide) rfl rfl rfl (stk_cons (tv 3) (stk_cons se_int (stk_cons (se_ct1 cInt (bt M.int bo_int) (o (se_bin opAdd (o se_int) (o (call C.f35 (sos_cons (v 0) (sos_cons (o se_int) sos_nil))))))) stk_nil)))) (sss_cons (ss_for PassesOwn.never rfl (si_rng1 (bt M.range bo_range) (v 6)) (nm 7 nd53) (sss_cons (ss_asg (call C.f36 (sos_cons (v 0) (sos_cons (o (call C.f21 (sos_cons (v 2) sos_nil))) sos_nil))) (nm 8 nd53)) (sss_cons (ss_asg (se_bin opAdd (v 5) (o (call C.f26 (sos_cons (v 1) (sos_cons (v 3) (sos_cons (v 8) sos_nil)))))) (nm 5 nd53)) (sss_cons (ss_asg (call C.f25 (sos_cons (v 2) (sos_cons (v 3) (sos_cons (v 8) sos_nil)))) (nm 3 nd53)) sss_nil)))) (sss_cons (ss_ifs (sb_cmp (opNe (u64 hU)) (v 5) (o (se_bin opSub (o (call C.f17 (sos_cons (v 1) (sos_cons (v 4) sos_nil)))) (o (call C.f17 (sos_cons (v 1) (sos_cons (v 3) sos_nil)))))) (by rfl)) (sss_cons (ss_ret se_bl) sss_nil) sss_nil) (sss_cons (ss_ifs (sb_of (sw_and (sb_cmp opLt (v 2) (o se_int) (by rfl)) (sw_one (sb_cmp opGt (o (call C.f33 (sos_cons (v 2) (sos_cons (v 4) (sos_cons (v 3) sos_nil))))) (v 6) (by rfl))))) (sss_cons (ss_ret se_bl) sss_nil) sss_nil) (sss_cons (ss_asg (call C.f32 (sos_cons (v 1) (sos_cons (v 4) sos_nil))) (nm 9 nd53)) (sss_cons (ss_ifs (sb_of (sw_or (sb_cmp (opNe (u64 hU)) (o (se_ix (u1 hU) (v 9) (o (se_neg (o se_int))))) (o (call C.f31 (sos_cons (v 1) (sos_cons (v 4) sos_nil)))) (by rfl)) (sw_one (sb_of (sw_and (sb_cmp opLt (v 2) (o se_int) (by rfl)) (sw_one (sb_cmp opGt (o (call C.f33 (sos_cons (v 2) (sos_cons (v 4) (sos_cons (o (se_ix (u1 hU) (v 9) (o (se_neg (o se_int))))) sos_nil))))) (o (se_bin opSub (o (se_cb1 cLen (bt M.len bo_len) (v 9))) (o se_int))) (by rfl)))))))) (sss_cons (ss_ret se_bl) sss_nil) sss_nil) (sss_cons (ss_for PassesOwn.never rfl (si_zip (bt M.zip bo_zip) (v 9) (o (se_sl1 (v 9) (o se_int) pur_int))) (sg_tp rfl (sgs_cons (nm 10 nd53) (sgs_cons (nm 11 nd53) sgs_nil)) rfl) (sss_cons (ss_setLc (i := 12) (own := [("exchange", 8)]) rfl nd53 rfl rfl (by rfl) (by rfl) (si_seq (o (call C.f21 (sos_cons (v 2) sos_nil)))) (fun _ _ _ _ _ => (nm 8 nd53)) (fun _ _ _ _ _ => sc_nil) (fun _ _ _ _ _ => (call C.f26 (sos_cons (v 1) (sos_cons (v 10) (sos_cons (v 8) sos_nil)))))) (sss_cons (ss_ifs (sb_of (sw_or (sb_cmp (opNe (u64 hU)) (o (se_cb1 (cMaxL rfl hU) (bt M.max bo_max) (v 12))) (o (se_bin opSub (o (call C.f44 (sos_cons (v 1) (sos_cons (v 10) sos_nil)))) (o (call C.f44 (sos_cons (v 1) (sos_cons (v 11) sos_nil)))))) (by rfl)) (sw_one (sb_cmp opLe (o (se_cb1 (cMaxL rfl hU) (bt M.max bo_max) (v 12))) (o se_int) (by rfl))))) (sss_cons (ss_ret se_bl) sss_nil) sss_nil) sss_nil))) (sss_cons (ss_ret (se_cmp opLe (o (se_cb1 (cMaxL rfl hU) (bt M.max bo_max) (o (se_comp (own := [("exchange", 8)]) rfl nd53 (by rfl) (si_seq (o (call C.f21 (sos_cons (v 2) sos_nil)))) (fun _ _ _ _ _ => (nm 8 nd53)) (fun _ _ _ _ _ => sc_nil) (fun _ _ _ _ _ => (call C.f26 (sos_cons (v 1) (sos_cons (o (se_ix (u1 hU) (v 9) (o (se_neg (o se_int))))) (sos_cons (v 8) sos_nil))))))))) (o se_int) (by rfl))) sss_nil)))))))))
abbrev N54 : List Str := ["pot", "many"]
theorem nd54 : N54.Nodup := by decide +kernel
theorem sc54 : FnScope N54 ["pot"] (defScope s54) := ⟨rfl, rfl, rfl, nd54, rfl, by decide +kernel, by decide +kernel⟩
theorem b54 {P : Program} {w : World} {K : PySem.W.Frag} {mg : Str → Option Value} {base : Heap} {cf : Cf} {f : Addr} {cdv : Value} {A : Around} {outer : List PySem.Env} {s : Shared} {H : Hp} {EE : XK} {kk : Nat} (M : MG mg) (hr : Room kk (A.deeper (envOfC "_law_right" (defScope s54) s.heap.objs.size f cdv))) (C : CALS P w K mg base (A.deeper (envOfC "_law_right" (defScope s54) s.heap.objs.size f cdv)) cf) :
    SSs (cxOf CX0 P w K mg base N54 "_law_right" (defScope s54) f cdv A outer s H EE).nox cf (defBody s54) ir54.body :=
  have hU := u65 hr
  (sss_cons (ss_for PassesOwn.never rfl (si_seq (o (se_tup (sd_cons (se_ct1 cInt (bt M.int bo_int) (o (se_bin opAdd (o se_int) (o (call C.f35 (sos_cons (v 0) (sos_cons (o se_int) sos_nil))))))) (sd_cons (se_ct1 cInt (bt M.int bo_int) (o (se_bin opAdd (o se_int) (o (call C.f35 (sos_cons (v 0) (sos_cons (o se_int) sos_nil))))))) sd_nil))))) (nm 1 nd54) (sss_cons (ss_ifs (sb_of (sw_or (sb_not (sb_val (call C.f52 (sos_cons (v 0) (sos_cons (v 1) sos_nil))))) (sw_one (sb_not (sb_val (call C.f53 (sos_cons (v 0) (sos_cons (o (call C.f49 (sos_cons (v 0) (sos_cons (v 1) sos_nil)))) sos_nil)))))))) (sss_cons (ss_ret se_bl) sss_nil) sss_nil) sss_nil)) (sss_cons (ss_ret (call C.f53 (sos_cons (v 0) (sos_cons (o (call C.f49 (sos_cons (v 0) (sos_cons (o se_int) sos_nil)))) sos_nil)))) sss_nil))
abbrev N55 : List Str := ["script", "place"]
theorem nd55 : N55.Nodup := by decide +kernel
theorem sc55 : FnScope N55 ["script"] (defScope s55) := ⟨rfl, rfl, rfl, nd55, rfl, by decide +kernel, by decide +kernel⟩
theorem b55 {P : Program} {w : World} {K : PySem.W.Frag} {mg : Str → Option Value} {base : Heap} {cf : Cf} {f : Addr} {cdv : Value} {A : Around} {outer : List PySem.Env} {s : Shared} {H : Hp} {EE : XK} {kk : Nat} (M : MG mg) (hr : Room kk (A.deeper (envOfC "law" (defScope s55) s.heap.objs.size f cdv))) (C : CALS P w K mg base (A.deeper (envOfC "law" (defScope s55) s.heap.objs.size f cdv)) cf) :
    SSs (cxOf CX0 P w K mg base N55 "law" (defScope s55) f cdv A outer s H EE).nox cf (defBody s55) ir55.body :=
  have hU := u65 hr
  (sss_cons (ss_ret (se_cb1 (cAll rfl) (bt M.all bo_all) (o (se_comp (own := [("place", 1)]) rfl nd55 (by rfl) (si_seq (o (call C.f37 (sos_cons (v 0) (sos_cons (o se_int) sos_nil))))) (fun _ _ _ _ _ => (nm 1 nd55)) (fun _ _ _ _ _ => sc_nil) (fun _ _ _ _ _ => (call C.f54 (sos_cons (o (call C.f34 (sos_cons (v 0) (sos_cons (v 1) sos_nil)))) sos_nil))))))) sss_nil)
end LW
set_option maxHeartbeats 0
namespace LW
open PySem PySem.Spec PyProof.Rows L2 DL
/-- what the heap holds of the defs -/
structure ENT (K : PySem.W.Frag) (mg : Str → Option Value) : Prop where
  e0 : (∃ fd, FunD K "is_integer" "is_integer" (defArgs s0) (defBody s0) (defScope s0) [] [] (He.ga K "is_integer") fd) ∧ mg "is_integer" = some (.ref (He.ga K "is_integer"))
  e1 : (∃ fd, FunD K "is_between" "is_between" (defArgs s1) (defBody s1) (defScope s1) [] [] (He.ga K "is_between") fd) ∧ mg "is_between" = some (.ref (He.ga K "is_between"))
  e2 : (∃ fd, FunD K "are_between" "are_between" (defArgs s2) (defBody s2) (defScope s2) [] [] (He.ga K "are_between") fd) ∧ mg "are_between" = some (.ref (He.ga K "are_between"))
  e3 : (∃ fd, FunD K "roads_in" "roads_in" (defArgs s3) (defBody s3) (defScope s3) [] [] (He.ga K "roads_in") fd) ∧ mg "roads_in" = some (.ref (He.ga K "roads_in"))
  e4 : (∃ fd, FunD K "road_between" "road_between" (defArgs s4) (defBody s4) (defScope s4) [] [] (He.ga K "road_between") fd) ∧ mg "road_between" = some (.ref (He.ga K "road_between"))
  e5 : (∃ fd, FunD K "is_many" "is_many" (defArgs s5) (defBody s5) (defScope s5) [] [] (He.ga K "is_many") fd) ∧ mg "is_many" = some (.ref (He.ga K "is_many"))
  e6 : (∃ fd, FunD K "is_table" "is_table" (defArgs s6) (defBody s6) (defScope s6) [] [] (He.ga K "is_table") fd) ∧ mg "is_table" = some (.ref (He.ga K "is_table"))
  e7 : (∃ fd, FunD K "is_order" "is_order" (defArgs s7) (defBody s7) (defScope s7) [] [] (He.ga K "is_order") fd) ∧ mg "is_order" = some (.ref (He.ga K "is_order"))
  e8 : (∃ fd, FunD K "check_many" "check_many" (defArgs s8) (defBody s8) (defScope s8) [] [] (He.ga K "check_many") fd) ∧ mg "check_many" = some (.ref (He.ga K "check_many"))
  e9 : (∃ fd, FunD K "check_table" "check_table" (defArgs s9) (defBody s9) (defScope s9) [] [] (He.ga K "check_table") fd) ∧ mg "check_table" = some (.ref (He.ga K "check_table"))
  e10 : (∃ fd, FunD K "check_order" "check_order" (defArgs s10) (defBody s10) (defScope s10) [] [] (He.ga K "check_order") fd) ∧ mg "check_order" = some (.ref (He.ga K "check_order"))
  e11 : (∃ fd, FunD K "lengths_of" "lengths_of" (defArgs s11) (defBody s11) (defScope s11) [] [] (He.ga K "lengths_of") fd) ∧ mg "lengths_of" = some (.ref (He.ga K "lengths_of"))
  e12 : (∃ fd, FunD K "is_round_of" "is_round_of" (defArgs s12) (defBody s12) (defScope s12) [] [] (He.ga K "is_round_of") fd) ∧ mg "is_round_of" = some (.ref (He.ga K "is_round_of"))
  e13 : (∃ fd, FunD K "check_round" "check_round" (defArgs s13) (defBody s13) (defScope s13) [] [] (He.ga K "check_round") fd) ∧ mg "check_round" = some (.ref (He.ga K "check_round"))
  e14 : (∃ fd, FunD K "roads_along" "roads_along" (defArgs s14) (defBody s14) (defScope s14) [] [] (He.ga K "roads_along") fd) ∧ mg "roads_along" = some (.ref (He.ga K "roads_along"))
  e15 : (∃ fd, FunD K "round_roads" "round_roads" (defArgs s15) (defBody s15) (defScope s15) [] [] (He.ga K "round_roads") fd) ∧ mg "round_roads" = some (.ref (He.ga K "round_roads"))
  e16 : (∃ fd, FunD K "length_along" "length_along" (defArgs s16) (defBody s16) (defScope s16) [] [] (He.ga K "length_along") fd) ∧ mg "length_along" = some (.ref (He.ga K "length_along"))
  e17 : (∃ fd, FunD K "length_of" "length_of" (defArgs s17) (defBody s17) (defScope s17) [] [] (He.ga K "length_of") fd) ∧ mg "length_of" = some (.ref (He.ga K "length_of"))
  e18 : (∃ fd, FunD K "round_by" "round_by" (defArgs s18) (defBody s18) (defScope s18) [] [] (He.ga K "round_by") fd) ∧ mg "round_by" = some (.ref (He.ga K "round_by"))
  e19 : (∃ fd, FunD K "moved_round" "moved_round" (defArgs s19) (defBody s19) (defScope s19) [] [] (He.ga K "moved_round") fd) ∧ mg "moved_round" = some (.ref (He.ga K "moved_round"))
  e20 : (∃ fd, FunD K "exchanges_in" "exchanges_in" (defArgs s20) (defBody s20) (defScope s20) [] [] (He.ga K "exchanges_in") fd) ∧ mg "exchanges_in" = some (.ref (He.ga K "exchanges_in"))
  e21 : (∃ fd, FunD K "exchanges_of" "exchanges_of" (defArgs s21) (defBody s21) (defScope s21) [] [] (He.ga K "exchanges_of") fd) ∧ mg "exchanges_of" = some (.ref (He.ga K "exchanges_of"))
  e22 : (∃ fd, FunD K "is_exchange" "is_exchange" (defArgs s22) (defBody s22) (defScope s22) [] [] (He.ga K "is_exchange") fd) ∧ mg "is_exchange" = some (.ref (He.ga K "is_exchange"))
  e23 : (∃ fd, FunD K "check_exchange" "check_exchange" (defArgs s23) (defBody s23) (defScope s23) [] [] (He.ga K "check_exchange") fd) ∧ mg "check_exchange" = some (.ref (He.ga K "check_exchange"))
  e24 : (∃ fd, FunD K "turned" "turned" (defArgs s24) (defBody s24) (defScope s24) [] [] (He.ga K "turned") fd) ∧ mg "turned" = some (.ref (He.ga K "turned"))
  e25 : (∃ fd, FunD K "exchanged" "exchanged" (defArgs s25) (defBody s25) (defScope s25) [] [] (He.ga K "exchanged") fd) ∧ mg "exchanged" = some (.ref (He.ga K "exchanged"))
  e26 : (∃ fd, FunD K "gain_of" "gain_of" (defArgs s26) (defBody s26) (defScope s26) [] [] (He.ga K "gain_of") fd) ∧ mg "gain_of" = some (.ref (He.ga K "gain_of"))
  e27 : (∃ fd, FunD K "check_tour" "check_tour" (defArgs s27) (defBody s27) (defScope s27) [] [] (He.ga K "check_tour") fd) ∧ mg "check_tour" = some (.ref (He.ga K "check_tour"))
  e28 : (∃ fd, FunD K "best_exchange" "best_exchange" (defArgs s28) (defBody s28) (defScope s28) [] [] (He.ga K "best_exchange") fd) ∧ mg "best_exchange" = some (.ref (He.ga K "best_exchange"))
  e29 : (∃ fd, FunD K "is_firm" "is_firm" (defArgs s29) (defBody s29) (defScope s29) [] [] (He.ga K "is_firm") fd) ∧ mg "is_firm" = some (.ref (He.ga K "is_firm"))
  e30 : (∃ fd, FunD K "steps_from" "steps_from" (defArgs s30) (defBody s30) (defScope s30) [] [] (He.ga K "steps_from") fd) ∧ mg "steps_from" = some (.ref (He.ga K "steps_from"))
  e31 : (∃ fd, FunD K "mended" "mended" (defArgs s31) (defBody s31) (defScope s31) [] [] (He.ga K "mended") fd) ∧ mg "mended" = some (.ref (He.ga K "mended"))
  e32 : (∃ fd, FunD K "mending_steps" "mending_steps" (defArgs s32) (defBody s32) (defScope s32) [] [] (He.ga K "mending_steps") fd) ∧ mg "mending_steps" = some (.ref (He.ga K "mending_steps"))
  e33 : (∃ fd, FunD K "exchanges_between" "exchanges_between" (defArgs s33) (defBody s33) (defScope s33) [] [] (He.ga K "exchanges_between") fd) ∧ mg "exchanges_between" = some (.ref (He.ga K "exchanges_between"))
  e34 : (∃ fd, FunD K "_law_pot" "_law_pot" (defArgs s34) (defBody s34) (defScope s34) [] [] (He.ga K "_law_pot") fd) ∧ mg "_law_pot" = some (.ref (He.ga K "_law_pot"))
  e35 : (∃ fd, FunD K "_law_take" "_law_take" (defArgs s35) (defBody s35) (defScope s35) [] [] (He.ga K "_law_take") fd) ∧ mg "_law_take" = some (.ref (He.ga K "_law_take"))
  e36 : (∃ fd, FunD K "_law_of" "_law_of" (defArgs s36) (defBody s36) (defScope s36) [] [] (He.ga K "_law_of") fd) ∧ mg "_law_of" = some (.ref (He.ga K "_law_of"))
  e37 : (∃ fd, FunD K "_law_cells" "_law_cells" (defArgs s37) (defBody s37) (defScope s37) [] [] (He.ga K "_law_cells") fd) ∧ mg "_law_cells" = some (.ref (He.ga K "_law_cells"))
  e38 : (∃ fd, FunD K "_law_some" "_law_some" (defArgs s38) (defBody s38) (defScope s38) [] [] (He.ga K "_law_some") fd) ∧ mg "_law_some" = some (.ref (He.ga K "_law_some"))
  e39 : (∃ fd, FunD K "_law_roads" "_law_roads" (defArgs s39) (defBody s39) (defScope s39) [] [] (He.ga K "_law_roads") fd) ∧ mg "_law_roads" = some (.ref (He.ga K "_law_roads"))
  e40 : (∃ fd, FunD K "_law_road" "_law_road" (defArgs s40) (defBody s40) (defScope s40) [] [] (He.ga K "_law_road") fd) ∧ mg "_law_road" = some (.ref (He.ga K "_law_road"))
  e41 : (∃ fd, FunD K "_law_known" "_law_known" (defArgs s41) (defBody s41) (defScope s41) [] [] (He.ga K "_law_known") fd) ∧ mg "_law_known" = some (.ref (He.ga K "_law_known"))
  e42 : (∃ fd, FunD K "_law_rounds" "_law_rounds" (defArgs s42) (defBody s42) (defScope s42) [] [] (He.ga K "_law_rounds") fd) ∧ mg "_law_rounds" = some (.ref (He.ga K "_law_rounds"))
  e43 : (∃ fd, FunD K "_law_along" "_law_along" (defArgs s43) (defBody s43) (defScope s43) [] [] (He.ga K "_law_along") fd) ∧ mg "_law_along" = some (.ref (He.ga K "_law_along"))
  e44 : (∃ fd, FunD K "_law_length" "_law_length" (defArgs s44) (defBody s44) (defScope s44) [] [] (He.ga K "_law_length") fd) ∧ mg "_law_length" = some (.ref (He.ga K "_law_length"))
  e45 : (∃ fd, FunD K "_law_as_round" "_law_as_round" (defArgs s45) (defBody s45) (defScope s45) [] [] (He.ga K "_law_as_round") fd) ∧ mg "_law_as_round" = some (.ref (He.ga K "_law_as_round"))
  e46 : (∃ fd, FunD K "_law_is_int" "_law_is_int" (defArgs s46) (defBody s46) (defScope s46) [] [] (He.ga K "_law_is_int") fd) ∧ mg "_law_is_int" = some (.ref (He.ga K "_law_is_int"))
  e47 : (∃ fd, FunD K "_law_exchanges" "_law_exchanges" (defArgs s47) (defBody s47) (defScope s47) [] [] (He.ga K "_law_exchanges") fd) ∧ mg "_law_exchanges" = some (.ref (He.ga K "_law_exchanges"))
  e48 : (∃ fd, FunD K "_law_turned" "_law_turned" (defArgs s48) (defBody s48) (defScope s48) [] [] (He.ga K "_law_turned") fd) ∧ mg "_law_turned" = some (.ref (He.ga K "_law_turned"))
  e49 : (∃ fd, FunD K "_law_table_of" "_law_table_of" (defArgs s49) (defBody s49) (defScope s49) [] [] (He.ga K "_law_table_of") fd) ∧ mg "_law_table_of" = some (.ref (He.ga K "_law_table_of"))
  e50 : (∃ fd, FunD K "_law_round_of" "_law_round_of" (defArgs s50) (defBody s50) (defScope s50) [] [] (He.ga K "_law_round_of") fd) ∧ mg "_law_round_of" = some (.ref (He.ga K "_law_round_of"))
  e51 : (∃ fd, FunD K "_law_out_from" "_law_out_from" (defArgs s51) (defBody s51) (defScope s51) [] [] (He.ga K "_law_out_from") fd) ∧ mg "_law_out_from" = some (.ref (He.ga K "_law_out_from"))
  e52 : (∃ fd, FunD K "_law_are_measured" "_law_are_measured" (defArgs s52) (defBody s52) (defScope s52) [] [] (He.ga K "_law_are_measured") fd) ∧ mg "_law_are_measured" = some (.ref (He.ga K "_law_are_measured"))
  e53 : (∃ fd, FunD K "_law_are_gains_right" "_law_are_gains_right" (defArgs s53) (defBody s53) (defScope s53) [] [] (He.ga K "_law_are_gains_right") fd) ∧ mg "_law_are_gains_right" = some (.ref (He.ga K "_law_are_gains_right"))
  e54 : (∃ fd, FunD K "_law_right" "_law_right" (defArgs s54) (defBody s54) (defScope s54) [] [] (He.ga K "_law_right") fd) ∧ mg "_law_right" = some (.ref (He.ga K "_law_right"))
  e55 : (∃ fd, FunD K "law" "law" (defArgs s55) (defBody s55) (defScope s55) [] [] (He.ga K "law") fd) ∧ mg "law" = some (.ref (He.ga K "law"))
structure FNS (P : Program) (w : World) (K : PySem.W.Frag) (mg : Str → Option Value) (base : Heap) (k : Nat) : Prop where
  f0 : ∀ fd, FunD K "is_integer" "is_integer" (defArgs s0) (defBody s0) (defScope s0) [] [] (He.ga K "is_integer") fd → FnOk P w K mg base CX0 k (He.ga K "is_integer") fd ["value"] (spD P w K 1 (callF prog k 0))
  f1 : ∀ fd, FunD K "is_between" "is_between" (defArgs s1) (defBody s1) (defScope s1) [] [] (He.ga K "is_between") fd → FnOk P w K mg base CX0 k (He.ga K "is_between") fd ["value", "low", "high"] (spD P w K 3 (callF prog k 1))
  f2 : ∀ fd, FunD K "are_between" "are_between" (defArgs s2) (defBody s2) (defScope s2) [] [] (He.ga K "are_between") fd → FnOk P w K mg base CX0 k (He.ga K "are_between") fd ["value", "low", "high"] (spD P w K 3 (callF prog k 2))
  f3 : ∀ fd, FunD K "roads_in" "roads_in" (defArgs s3) (defBody s3) (defScope s3) [] [] (He.ga K "roads_in") fd → FnOk P w K mg base CX0 k (He.ga K "roads_in") fd ["many"] (spD P w K 1 (callF prog k 3))
  f4 : ∀ fd, FunD K "road_between" "road_between" (defArgs s4) (defBody s4) (defScope s4) [] [] (He.ga K "road_between") fd → FnOk P w K mg base CX0 k (He.ga K "road_between") fd ["one", "other"] (spD P w K 2 (callF prog k 4))
  f5 : ∀ fd, FunD K "is_many" "is_many" (defArgs s5) (defBody s5) (defScope s5) [] [] (He.ga K "is_many") fd → FnOk P w K mg base CX0 k (He.ga K "is_many") fd ["value"] (spD P w K 1 (callF prog k 5))
  f6 : ∀ fd, FunD K "is_table" "is_table" (defArgs s6) (defBody s6) (defScope s6) [] [] (He.ga K "is_table") fd → FnOk P w K mg base CX0 k (He.ga K "is_table") fd ["value"] (spD P w K 1 (callF prog k 6))
  f7 : ∀ fd, FunD K "is_order" "is_order" (defArgs s7) (defBody s7) (defScope s7) [] [] (He.ga K "is_order") fd → FnOk P w K mg base CX0 k (He.ga K "is_order") fd ["many", "value"] (spD P w K 2 (callF prog k 7))
  f8 : ∀ fd, FunD K "check_many" "check_many" (defArgs s8) (defBody s8) (defScope s8) [] [] (He.ga K "check_many") fd → FnOk P w K mg base CX0 k (He.ga K "check_many") fd ["many"] (spD P w K 1 (callF prog k 8))
  f9 : ∀ fd, FunD K "check_table" "check_table" (defArgs s9) (defBody s9) (defScope s9) [] [] (He.ga K "check_table") fd → FnOk P w K mg base CX0 k (He.ga K "check_table") fd ["table"] (spD P w K 1 (callF prog k 9))
  f10 : ∀ fd, FunD K "check_order" "check_order" (defArgs s10) (defBody s10) (defScope s10) [] [] (He.ga K "check_order") fd → FnOk P w K mg base CX0 k (He.ga K "check_order") fd ["many", "order"] (spD P w K 2 (callF prog k 10))
  f11 : ∀ fd, FunD K "lengths_of" "lengths_of" (defArgs s11) (defBody s11) (defScope s11) [] [] (He.ga K "lengths_of") fd → FnOk P w K mg base CX0 k (He.ga K "lengths_of") fd ["table"] (spD P w K 1 (callF prog k 11))
  f12 : ∀ fd, FunD K "is_round_of" "is_round_of" (defArgs s12) (defBody s12) (defScope s12) [] [] (He.ga K "is_round_of") fd → FnOk P w K mg base CX0 k (He.ga K "is_round_of") fd ["many", "value"] (spD P w K 2 (callF prog k 12))
  f13 : ∀ fd, FunD K "check_round" "check_round" (defArgs s13) (defBody s13) (defScope s13) [] [] (He.ga K "check_round") fd → FnOk P w K mg base CX0 k (He.ga K "check_round") fd ["many", "tour"] (spD P w K 2 (callF prog k 13))
  f14 : ∀ fd, FunD K "roads_along" "roads_along" (defArgs s14) (defBody s14) (defScope s14) [] [] (He.ga K "roads_along") fd → FnOk P w K mg base CX0 k (He.ga K "roads_along") fd ["tour"] (spD P w K 1 (callF prog k 14))
  f15 : ∀ fd, FunD K "round_roads" "round_roads" (defArgs s15) (defBody s15) (defScope s15) [] [] (He.ga K "round_roads") fd → FnOk P w K mg base CX0 k (He.ga K "round_roads") fd ["many", "tour"] (spD P w K 2 (callF prog k 15))
  f16 : ∀ fd, FunD K "length_along" "length_along" (defArgs s16) (defBody s16) (defScope s16) [] [] (He.ga K "length_along") fd → FnOk P w K mg base CX0 k (He.ga K "length_along") fd ["known", "tour"] (spD P w K 2 (callF prog k 16))
  f17 : ∀ fd, FunD K "length_of" "length_of" (defArgs s17) (defBody s17) (defScope s17) [] [] (He.ga K "length_of") fd → FnOk P w K mg base CX0 k (He.ga K "length_of") fd ["table", "tour"] (spD P w K 2 (callF prog k 17))
  f18 : ∀ fd, FunD K "round_by" "round_by" (defArgs s18) (defBody s18) (defScope s18) [] [] (He.ga K "round_by") fd → FnOk P w K mg base CX0 k (He.ga K "round_by") fd ["order"] (spD P w K 1 (callF prog k 18))
  f19 : ∀ fd, FunD K "moved_round" "moved_round" (defArgs s19) (defBody s19) (defScope s19) [] [] (He.ga K "moved_round") fd → FnOk P w K mg base CX0 k (He.ga K "moved_round") fd ["many", "tour", "order"] (spD P w K 3 (callF prog k 19))
  f20 : ∀ fd, FunD K "exchanges_in" "exchanges_in" (defArgs s20) (defBody s20) (defScope s20) [] [] (He.ga K "exchanges_in") fd → FnOk P w K mg base CX0 k (He.ga K "exchanges_in") fd ["many"] (spD P w K 1 (callF prog k 20))
  f21 : ∀ fd, FunD K "exchanges_of" "exchanges_of" (defArgs s21) (defBody s21) (defScope s21) [] [] (He.ga K "exchanges_of") fd → FnOk P w K mg base CX0 k (He.ga K "exchanges_of") fd ["many"] (spD P w K 1 (callF prog k 21))
  f22 : ∀ fd, FunD K "is_exchange" "is_exchange" (defArgs s22) (defBody s22) (defScope s22) [] [] (He.ga K "is_exchange") fd → FnOk P w K mg base CX0 k (He.ga K "is_exchange") fd ["many", "value"] (spD P w K 2 (callF prog k 22))
  f23 : ∀ fd, FunD K "check_exchange" "check_exchange" (defArgs s23) (defBody s23) (defScope s23) [] [] (He.ga K "check_exchange") fd → FnOk P w K mg base CX0 k (He.ga K "check_exchange") fd ["many", "exchange"] (spD P w K 2 (callF prog k 23))
  f24 : ∀ fd, FunD K "turned" "turned" (defArgs s24) (defBody s24) (defScope s24) [] [] (He.ga K "turned") fd → FnOk P w K mg base CX0 k (He.ga K "turned") fd ["tour", "exchange"] (spD P w K 2 (callF prog k 24))
  f25 : ∀ fd, FunD K "exchanged" "exchanged" (defArgs s25) (defBody s25) (defScope s25) [] [] (He.ga K "exchanged") fd → FnOk P w K mg base CX0 k (He.ga K "exchanged") fd ["many", "tour", "exchange"] (spD P w K 3 (callF prog k 25))
  f26 : ∀ fd, FunD K "gain_of" "gain_of" (defArgs s26) (defBody s26) (defScope s26) [] [] (He.ga K "gain_of") fd → FnOk P w K mg base CX0 k (He.ga K "gain_of") fd ["table", "tour", "exchange"] (spD P w K 3 (callF prog k 26))
  f27 : ∀ fd, FunD K "check_tour" "check_tour" (defArgs s27) (defBody s27) (defScope s27) [] [] (He.ga K "check_tour") fd → FnOk P w K mg base CX0 k (He.ga K "check_tour") fd ["table", "tour"] (spD P w K 2 (callF prog k 27))
  f28 : ∀ fd, FunD K "best_exchange" "best_exchange" (defArgs s28) (defBody s28) (defScope s28) [] [] (He.ga K "best_exchange") fd → FnOk P w K mg base CX0 k (He.ga K "best_exchange") fd ["many", "known", "tour"] (spD P w K 3 (callF prog k 28))
  f29 : ∀ fd, FunD K "is_firm" "is_firm" (defArgs s29) (defBody s29) (defScope s29) [] [] (He.ga K "is_firm") fd → FnOk P w K mg base CX0 k (He.ga K "is_firm") fd ["many", "known", "tour"] (spD P w K 3 (callF prog k 29))
  f30 : ∀ fd, FunD K "steps_from" "steps_from" (defArgs s30) (defBody s30) (defScope s30) [] [] (He.ga K "steps_from") fd → FnOk P w K mg base CX0 k (He.ga K "steps_from") fd ["many", "known", "tour"] (spD P w K 3 (callF prog k 30))
  f31 : ∀ fd, FunD K "mended" "mended" (defArgs s31) (defBody s31) (defScope s31) [] [] (He.ga K "mended") fd → FnOk P w K mg base CX0 k (He.ga K "mended") fd ["table", "tour"] (spD P w K 2 (callF prog k 31))
  f32 : ∀ fd, FunD K "mending_steps" "mending_steps" (defArgs s32) (defBody s32) (defScope s32) [] [] (He.ga K "mending_steps") fd → FnOk P w K mg base CX0 k (He.ga K "mending_steps") fd ["table", "tour"] (spD P w K 2 (callF prog k 32))
  f33 : ∀ fd, FunD K "exchanges_between" "exchanges_between" (defArgs s33) (defBody s33) (defScope s33) [] [] (He.ga K "exchanges_between") fd → FnOk P w K mg base CX0 k (He.ga K "exchanges_between") fd ["many", "tour", "other"] (spD P w K 3 (callF prog k 33))
  f34 : ∀ fd, FunD K "_law_pot" "_law_pot" (defArgs s34) (defBody s34) (defScope s34) [] [] (He.ga K "_law_pot") fd → FnOk P w K mg base CX0 k (He.ga K "_law_pot") fd ["script", "place"] (spD P w K 2 (callF prog k 34))
  f35 : ∀ fd, FunD K "_law_take" "_law_take" (defArgs s35) (defBody s35) (defScope s35) [] [] (He.ga K "_law_take") fd → FnOk P w K mg base CX0 k (He.ga K "_law_take") fd ["pot", "upto"] (spD P w K 2 (callF prog k 35))
  f36 : ∀ fd, FunD K "_law_of" "_law_of" (defArgs s36) (defBody s36) (defScope s36) [] [] (He.ga K "_law_of") fd → FnOk P w K mg base CX0 k (He.ga K "_law_of") fd ["pot", "some"] (spD P w K 2 (callF prog k 36))
  f37 : ∀ fd, FunD K "_law_cells" "_law_cells" (defArgs s37) (defBody s37) (defScope s37) [] [] (He.ga K "_law_cells") fd → FnOk P w K mg base CX0 k (He.ga K "_law_cells") fd ["script", "limit"] (spD P w K 2 (callF prog k 37))
  f38 : ∀ fd, FunD K "_law_some" "_law_some" (defArgs s38) (defBody s38) (defScope s38) [] [] (He.ga K "_law_some") fd → FnOk P w K mg base CX0 k (He.ga K "_law_some") fd ["pot", "pool", "many"] (spD P w K 3 (callF prog k 38))
  f39 : ∀ fd, FunD K "_law_roads" "_law_roads" (defArgs s39) (defBody s39) (defScope s39) [] [] (He.ga K "_law_roads") fd → FnOk P w K mg base CX0 k (He.ga K "_law_roads") fd ["many"] (spD P w K 1 (callF prog k 39))
  f40 : ∀ fd, FunD K "_law_road" "_law_road" (defArgs s40) (defBody s40) (defScope s40) [] [] (He.ga K "_law_road") fd → FnOk P w K mg base CX0 k (He.ga K "_law_road") fd ["one", "other"] (spD P w K 2 (callF prog k 40))
  f41 : ∀ fd, FunD K "_law_known" "_law_known" (defArgs s41) (defBody s41) (defScope s41) [] [] (He.ga K "_law_known") fd → FnOk P w K mg base CX0 k (He.ga K "_law_known") fd ["table"] (spD P w K 1 (callF prog k 41))
  f42 : ∀ fd, FunD K "_law_rounds" "_law_rounds" (defArgs s42) (defBody s42) (defScope s42) [] [] (He.ga K "_law_rounds") fd → FnOk P w K mg base CX0 k (He.ga K "_law_rounds") fd ["many"] (spD P w K 1 (callF prog k 42))
  f43 : ∀ fd, FunD K "_law_along" "_law_along" (defArgs s43) (defBody s43) (defScope s43) [] [] (He.ga K "_law_along") fd → FnOk P w K mg base CX0 k (He.ga K "_law_along") fd ["tour"] (spD P w K 1 (callF prog k 43))
  f44 : ∀ fd, FunD K "_law_length" "_law_length" (defArgs s44) (defBody s44) (defScope s44) [] [] (He.ga K "_law_length") fd → FnOk P w K mg base CX0 k (He.ga K "_law_length") fd ["table", "tour"] (spD P w K 2 (callF prog k 44))
  f45 : ∀ fd, FunD K "_law_as_round" "_law_as_round" (defArgs s45) (defBody s45) (defScope s45) [] [] (He.ga K "_law_as_round") fd → FnOk P w K mg base CX0 k (He.ga K "_law_as_round") fd ["order"] (spD P w K 1 (callF prog k 45))
  f46 : ∀ fd, FunD K "_law_is_int" "_law_is_int" (defArgs s46) (defBody s46) (defScope s46) [] [] (He.ga K "_law_is_int") fd → FnOk P w K mg base CX0 k (He.ga K "_law_is_int") fd ["value"] (spD P w K 1 (callF prog k 46))
  f47 : ∀ fd, FunD K "_law_exchanges" "_law_exchanges" (defArgs s47) (defBody s47) (defScope s47) [] [] (He.ga K "_law_exchanges") fd → FnOk P w K mg base CX0 k (He.ga K "_law_exchanges") fd ["many"] (spD P w K 1 (callF prog k 47))
  f48 : ∀ fd, FunD K "_law_turned" "_law_turned" (defArgs s48) (defBody s48) (defScope s48) [] [] (He.ga K "_law_turned") fd → FnOk P w K mg base CX0 k (He.ga K "_law_turned") fd ["tour", "exchange"] (spD P w K 2 (callF prog k 48))
  f49 : ∀ fd, FunD K "_law_table_of" "_law_table_of" (defArgs s49) (defBody s49) (defScope s49) [] [] (He.ga K "_law_table_of") fd → FnOk P w K mg base CX0 k (He.ga K "_law_table_of") fd ["pot", "many"] (spD P w K 2 (callF prog k 49))
  f50 : ∀ fd, FunD K "_law_round_of" "_law_round_of" (defArgs s50) (defBody s50) (defScope s50) [] [] (He.ga K "_law_round_of") fd → FnOk P w K mg base CX0 k (He.ga K "_law_round_of") fd ["pot", "many"] (spD P w K 2 (callF prog k 50))
  f51 : ∀ fd, FunD K "_law_out_from" "_law_out_from" (defArgs s51) (defBody s51) (defScope s51) [] [] (He.ga K "_law_out_from") fd → FnOk P w K mg base CX0 k (He.ga K "_law_out_from") fd ["tour", "most"] (spD P w K 2 (callF prog k 51))
  f52 : ∀ fd, FunD K "_law_are_measured" "_law_are_measured" (defArgs s52) (defBody s52) (defScope s52) [] [] (He.ga K "_law_are_measured") fd → FnOk P w K mg base CX0 k (He.ga K "_law_are_measured") fd ["pot", "many"] (spD P w K 2 (callF prog k 52))
  f53 : ∀ fd, FunD K "_law_are_gains_right" "_law_are_gains_right" (defArgs s53) (defBody s53) (defScope s53) [] [] (He.ga K "_law_are_gains_right") fd → FnOk P w K mg base CX0 k (He.ga K "_law_are_gains_right") fd ["pot", "table"] (spD P w K 2 (callF prog k 53))
  f54 : ∀ fd, FunD K "_law_right" "_law_right" (defArgs s54) (defBody s54) (defScope s54) [] [] (He.ga K "_law_right") fd → FnOk P w K mg base CX0 k (He.ga K "_law_right") fd ["pot"] (spD P w K 1 (callF prog k 54))
  f55 : ∀ fd, FunD K "law" "law" (defArgs s55) (defBody s55) (defScope s55) [] [] (He.ga K "law") fd → FnOk P w K mg base CX0 k (He.ga K "law") fd ["script"] (spD P w K 1 (callF prog k 55))
section
variable {P : Program} {w : World} {K : PySem.W.Frag} {mg : Str → Option Value} {base : Heap} {k : Nat}
theorem cals {A : Around} (N : ENT K mg) (O : FNS P w K mg base k) (hr : Room k A) : CALS P w K mg base A (callF prog k) := by
  constructor
  · obtain ⟨⟨fd, F⟩, g⟩ := N.e0
    exact ⟨_, fd, _, k, O.f0 fd F, hr, F.kp, F.bindsN (fun _ _ _ _ _ _ us hl => match us, hl with | [_], _ => rfl), g⟩
  · obtain ⟨⟨fd, F⟩, g⟩ := N.e1
    exact ⟨_, fd, _, k, O.f1 fd F, hr, F.kp, F.bindsN (fun _ _ _ _ _ _ us hl => match us, hl with | [_, _, _], _ => rfl), g⟩
  · obtain ⟨⟨fd, F⟩, g⟩ := N.e2
    exact ⟨_, fd, _, k, O.f2 fd F, hr, F.kp, F.bindsN (fun _ _ _ _ _ _ us hl => match us, hl with | [_, _, _], _ => rfl), g⟩
  · obtain ⟨⟨fd, F⟩, g⟩ := N.e3
    exact ⟨_, fd, _, k, O.f3 fd F, hr, F.kp, F.bindsN (fun _ _ _ _ _ _ us hl => match us, hl with | [_], _ => rfl), g⟩
  · obtain ⟨⟨fd, F⟩, g⟩ := N.e4
    exact ⟨_, fd, _, k, O.f4 fd F, hr, F.kp, F.bindsN (fun _ _ _ _ _ _ us hl => match us, hl with | [_, _], _ => rfl), g⟩
  · obtain ⟨⟨fd, F⟩, g⟩ := N.e5
    exact ⟨_, fd, _, k, O.f5 fd F, hr, F.kp, F.bindsN (fun _ _ _ _ _ _ us hl => match us, hl with | [_], _ => rfl), g⟩
  · obtain ⟨⟨fd, F⟩, g⟩ := N.e6
    exact ⟨_, fd, _, k, O.f6 fd F, hr, F.kp, F.bindsN (fun _ _ _ _ _ _ us hl => match us, hl with | [_], _ => rfl), g⟩
  · obtain ⟨⟨fd, F⟩, g⟩ := N.e7
    exact ⟨_, fd, _, k, O.f7 fd F, hr, F.kp, F.bindsN (fun _ _ _ _ _ _ us hl => match us, hl with | [_, _], _ => rfl), g⟩
  · obtain ⟨⟨fd, F⟩, g⟩ := N.e8
    exact ⟨_, fd, _, k, O.f8 fd F, hr, F.kp, F.bindsN (fun _ _ _ _ _ _ us hl => match us, hl with | [_], _ => rfl), g⟩
  · obtain ⟨⟨fd, F⟩, g⟩ := N.e9
    exact ⟨_, fd, _, k, O.f9 fd F, hr, F.kp, F.bindsN (fun _ _ _ _ _ _ us hl => match us, hl with | [_], _ => rfl), g⟩
  · obtain ⟨⟨fd, F⟩, g⟩ := N.e10
    exact ⟨_, fd, _, k, O.f10 fd F, hr, F.kp, F.bindsN (fun _ _ _ _ _ _ us hl => match us, hl with | [_, _], _ => rfl), g⟩
  · obtain ⟨⟨fd, F⟩, g⟩ := N.e11
    exact ⟨_, fd, _, k, O.f11 fd F, hr, F.kp, F.bindsN (fun _ _ _ _ _ _ us hl => match us, hl with | [_], _ => rfl), g⟩
  · obtain ⟨⟨fd, F⟩, g⟩ := N.e12
    exact ⟨_, fd, _, k, O.f12 fd F, hr, F.kp, F.bindsN (fun _ _ _ _ _ _ us hl => match us, hl with | [_, _], _ => rfl), g⟩
  · obtain ⟨⟨fd, F⟩, g⟩ := N.e13
    exact ⟨_, fd, _, k, O.f13 fd F, hr, F.kp, F.bindsN (fun _ _ _ _ _ _ us hl => match us, hl with | [_, _], _ => rfl), g⟩
  · obtain ⟨⟨fd, F⟩, g⟩ := N.e14
    exact ⟨_, fd, _, k, O.f14 fd F, hr, F.kp, F.bindsN (fun _ _ _ _ _ _ us hl => match us, hl with | [_], _ => rfl), g⟩
  · obtain ⟨⟨fd, F⟩, g⟩ := N.e15
    exact ⟨_, fd, _, k, O.f15 fd F, hr, F.kp, F.bindsN (fun _ _ _ _ _ _ us hl => match us, hl with | [_, _], _ => rfl), g⟩
  · obtain ⟨⟨fd, F⟩, g⟩ := N.e16
    exact ⟨_, fd, _, k, O.f16 fd F, hr, F.kp, F.bindsN (fun _ _ _ _ _ _ us hl => match us, hl with | [_, _], _ => rfl), g⟩
  · obtain ⟨⟨fd, F⟩, g⟩ := N.e17
    exact ⟨_, fd, _, k, O.f17 fd F, hr, F.kp, F.bindsN (fun _ _ _ _ _ _ us hl => match us, hl with | [_, _], _ => rfl), g⟩
  · obtain ⟨⟨fd, F⟩, g⟩ := N.e18
    exact ⟨_, fd, _, k, O.f18 fd F, hr, F.kp, F.bindsN (fun _ _ _ _ _ _ us hl => match us, hl with | [_], _ => rfl), g⟩
  · obtain ⟨⟨fd, F⟩, g⟩ := N.e19
    exact ⟨_, fd, _, k, O.f19 fd F, hr, F.kp, F.bindsN (fun _ _ _ _ _ _ us hl => match us, hl with | [_, _, _], _ => rfl), g⟩
  · obtain ⟨⟨fd, F⟩, g⟩ := N.e20
    exact ⟨_, fd, _, k, O.f20 fd F, hr, F.kp, F.bindsN (fun _ _ _ _ _ _ us hl => match us, hl with | [_], _ => rfl), g⟩
  · obtain ⟨⟨fd, F⟩, g⟩ := N.e21
    exact ⟨_, fd, _, k, O.f21 fd F, hr, F.kp, F.bindsN (fun _ _ _ _ _ _ us hl => match us, hl with | [_], _ => rfl), g⟩
  · obtain ⟨⟨fd, F⟩, g⟩ := N.e22
    exact ⟨_, fd, _, k, O.f22 fd F, hr, F.kp, F.bindsN (fun _ _ _ _ _ _ us hl => match us, hl with | [_, _], _ => rfl), g⟩
  · obtain ⟨⟨fd, F⟩, g⟩ := N.e23
    exact ⟨_, fd, _, k, O.f23 fd F, hr, F.kp, F.bindsN (fun _ _ _ _ _ _ us hl => match us, hl with | [_, _], _ => rfl), g⟩
  · obtain ⟨⟨fd, F⟩, g⟩ := N.e24
    exact ⟨_, fd, _, k, O.f24 fd F, hr, F.kp, F.bindsN (fun _ _ _ _ _ _ us hl => match us, hl with | [_, _], _ => rfl), g⟩
  · obtain ⟨⟨fd, F⟩, g⟩ := N.e25
    exact ⟨_, fd, _, k, O.f25 fd F, hr, F.kp, F.bindsN (fun _ _ _ _ _ _ us hl => match us, hl with | [_, _, _], _ => rfl), g⟩
  · obtain ⟨⟨fd, F⟩, g⟩ := N.e26
    exact ⟨_, fd, _, k, O.f26 fd F, hr, F.kp, F.bindsN (fun _ _ _ _ _ _ us hl => match us, hl with | [_, _, _], _ => rfl), g⟩
  · obtain ⟨⟨fd, F⟩, g⟩ := N.e27
    exact ⟨_, fd, _, k, O.f27 fd F, hr, F.kp, F.bindsN (fun _ _ _ _ _ _ us hl => match us, hl with | [_, _], _ => rfl), g⟩
  · obtain ⟨⟨fd, F⟩, g⟩ := N.e28
    exact ⟨_, fd, _, k, O.f28 fd F, hr, F.kp, F.bindsN (fun _ _ _ _ _ _ us hl => match us, hl with | [_, _, _], _ => rfl), g⟩
  · obtain ⟨⟨fd, F⟩, g⟩ := N.e29
    exact ⟨_, fd, _, k, O.f29 fd F, hr, F.kp, F.bindsN (fun _ _ _ _ _ _ us hl => match us, hl with | [_, _, _], _ => rfl), g⟩
  · obtain ⟨⟨fd, F⟩, g⟩ := N.e30
    exact ⟨_, fd, _, k, O.f30 fd F, hr, F.kp, F.bindsN (fun _ _ _ _ _ _ us hl => match us, hl with | [_, _, _], _ => rfl), g⟩
  · obtain ⟨⟨fd, F⟩, g⟩ := N.e31
    exact ⟨_, fd, _, k, O.f31 fd F, hr, F.kp, F.bindsN (fun _ _ _ _ _ _ us hl => match us, hl with | [_, _], _ => rfl), g⟩
  · obtain ⟨⟨fd, F⟩, g⟩ := N.e32
    exact ⟨_, fd, _, k, O.f32 fd F, hr, F.kp, F.bindsN (fun _ _ _ _ _ _ us hl => match us, hl with | [_, _], _ => rfl), g⟩
  · obtain ⟨⟨fd, F⟩, g⟩ := N.e33
    exact ⟨_, fd, _, k, O.f33 fd F, hr, F.kp, F.bindsN (fun _ _ _ _ _ _ us hl => match us, hl with | [_, _, _], _ => rfl), g⟩
  · obtain ⟨⟨fd, F⟩, g⟩ := N.e34
    exact ⟨_, fd, _, k, O.f34 fd F, hr, F.kp, F.bindsN (fun _ _ _ _ _ _ us hl => match us, hl with | [_, _], _ => rfl), g⟩
  · obtain ⟨⟨fd, F⟩, g⟩ := N.e35
    exact ⟨_, fd, _, k, O.f35 fd F, hr, F.kp, F.bindsN (fun _ _ _ _ _ _ us hl => match us, hl with | [_, _], _ => rfl), g⟩
  · obtain ⟨⟨fd, F⟩, g⟩ := N.e36
    exact ⟨_, fd, _, k, O.f36 fd F, hr, F.kp, F.bindsN (fun _ _ _ _ _ _ us hl => match us, hl with | [_, _], _ => rfl), g⟩
  · obtain ⟨⟨fd, F⟩, g⟩ := N.e37
    exact ⟨_, fd, _, k, O.f37 fd F, hr, F.kp, F.bindsN (fun _ _ _ _ _ _ us hl => match us, hl with | [_, _], _ => rfl), g⟩
  · obtain ⟨⟨fd, F⟩, g⟩ := N.e38
    exact ⟨_, fd, _, k, O.f38 fd F, hr, F.kp, F.bindsN (fun _ _ _ _ _ _ us hl => match us, hl with | [_, _, _], _ => rfl), g⟩
  · obtain ⟨⟨fd, F⟩, g⟩ := N.e39
    exact ⟨_, fd, _, k, O.f39 fd F, hr, F.kp, F.bindsN (fun _ _ _ _ _ _ us hl => match us, hl with | [_], _ => rfl), g⟩
  · obtain ⟨⟨fd, F⟩, g⟩ := N.e40
    exact ⟨_, fd, _, k, O.f40 fd F, hr, F.kp, F.bindsN (fun _ _ _ _ _ _ us hl => match us, hl with | [_, _], _ => rfl), g⟩
  · obtain ⟨⟨fd, F⟩, g⟩ := N.e41
    exact ⟨_, fd, _, k, O.f41 fd F, hr, F.kp, F.bindsN (fun _ _ _ _ _ _ us hl => match us, hl with | [_], _ => rfl), g⟩
  · obtain ⟨⟨fd, F⟩, g⟩ := N.e42
    exact ⟨_, fd, _, k, O.f42 fd F, hr, F.kp, F.bindsN (fun _ _ _ _ _ _ us hl => match us, hl with | [_], _ => rfl), g⟩
  · obtain ⟨⟨fd, F⟩, g⟩ := N.e43
    exact ⟨_, fd, _, k, O.f43 fd F, hr, F.kp, F.bindsN (fun _ _ _ _ _ _ us hl => match us, hl with | [_], _ => rfl), g⟩
  · obtain ⟨⟨fd, F⟩, g⟩ := N.e44
    exact ⟨_, fd, _, k, O.f44 fd F, hr, F.kp, F.bindsN (fun _ _ _ _ _ _ us hl => match us, hl with | [_, _], _ => rfl), g⟩
  · obtain ⟨⟨fd, F⟩, g⟩ := N.e45
    exact ⟨_, fd, _, k, O.f45 fd F, hr, F.kp, F.bindsN (fun _ _ _ _ _ _ us hl => match us, hl with | [_], _ => rfl), g⟩
  · obtain ⟨⟨fd, F⟩, g⟩ := N.e46
    exact ⟨_, fd, _, k, O.f46 fd F, hr, F.kp, F.bindsN (fun _ _ _ _ _ _ us hl => match us, hl with | [_], _ => rfl), g⟩
  · obtain ⟨⟨fd, F⟩, g⟩ := N.e47
    exact ⟨_, fd, _, k, O.f47 fd F, hr, F.kp, F.bindsN (fun _ _ _ _ _ _ us hl => match us, hl with | [_], _ => rfl), g⟩
  · obtain ⟨⟨fd, F⟩, g⟩ := N.e48
    exact ⟨_, fd, _, k, O.f48 fd F, hr, F.kp, F.bindsN (fun _ _ _ _ _ _ us hl => match us, hl with | [_, _], _ => rfl), g⟩
  · obtain ⟨⟨fd, F⟩, g⟩ := N.e49
    exact ⟨_, fd, _, k, O.f49 fd F, hr, F.kp, F.bindsN (fun _ _ _ _ _ _ us hl => match us, hl with | [_, _], _ => rfl), g⟩
  · obtain ⟨⟨fd, F⟩, g⟩ := N.e50
    exact ⟨_, fd, _, k, O.f50 fd F, hr, F.kp, F.bindsN (fun _ _ _ _ _ _ us hl => match us, hl with | [_, _], _ => rfl), g⟩
  · obtain ⟨⟨fd, F⟩, g⟩ := N.e51
    exact ⟨_, fd, _, k, O.f51 fd F, hr, F.kp, F.bindsN (fun _ _ _ _ _ _ us hl => match us, hl with | [_, _], _ => rfl), g⟩
  · obtain ⟨⟨fd, F⟩, g⟩ := N.e52
    exact ⟨_, fd, _, k, O.f52 fd F, hr, F.kp, F.bindsN (fun _ _ _ _ _ _ us hl => match us, hl with | [_, _], _ => rfl), g⟩
  · obtain ⟨⟨fd, F⟩, g⟩ := N.e53
    exact ⟨_, fd, _, k, O.f53 fd F, hr, F.kp, F.bindsN (fun _ _ _ _ _ _ us hl => match us, hl with | [_, _], _ => rfl), g⟩
  · obtain ⟨⟨fd, F⟩, g⟩ := N.e54
    exact ⟨_, fd, _, k, O.f54 fd F, hr, F.kp, F.bindsN (fun _ _ _ _ _ _ us hl => match us, hl with | [_], _ => rfl), g⟩
  · obtain ⟨⟨fd, F⟩, g⟩ := N.e55
    exact ⟨_, fd, _, k, O.f55 fd F, hr, F.kp, F.bindsN (fun _ _ _ _ _ _ us hl => match us, hl with | [_], _ => rfl), g⟩
theorem fns0 : FNS P w K mg base 0 := by
  constructor
  · exact fun fd _ => fn_zero rfl
  · exact fun fd _ => fn_zero rfl
  · exact fun fd _ => fn_zero rfl
  · exact fun fd _ => fn_zero rfl
  · exact fun fd _ => fn_zero rfl
  · exact fun fd _ => fn_zero rfl
  · exact fun fd _ => fn_zero rfl
  · exact fun fd _ => fn_zero rfl
  · exact fun fd _ => fn_zero rfl
  · exact fun fd _ => fn_zero rfl
  · exact fun fd _ => fn_zero rfl
  · exact fun fd _ => fn_zero rfl
  · exact fun fd _ => fn_zero rfl
  · exact fun fd _ => fn_zero rfl
  · exact fun fd _ => fn_zero rfl
  · exact fun fd _ => fn_zero rfl
  · exact fun fd _ => fn_zero rfl
  · exact fun fd _ => fn_zero rfl
  · exact fun fd _ => fn_zero rfl
  · exact fun fd _ => fn_zero rfl
  · exact fun fd _ => fn_zero rfl
  · exact fun fd _ => fn_zero rfl
  · exact fun fd _ => fn_zero rfl
  · exact fun fd _ => fn_zero rfl
  · exact fun fd _ => fn_zero rfl
  · exact fun fd _ => fn_zero rfl
  · exact fun fd _ => fn_zero rfl
  · exact fun fd _ => fn_zero rfl
  · exact fun fd _ => fn_zero rfl
  · exact fun fd _ => fn_zero rfl
  · exact fun fd _ => fn_zero rfl
  · exact fun fd _ => fn_zero rfl
  · exact fun fd _ => fn_zero rfl
  · exact fun fd _ => fn_zero rfl
  · exact fun fd _ => fn_zero rfl
  · exact fun fd _ => fn_zero rfl
  · exact fun fd _ => fn_zero rfl
  · exact fun fd _ => fn_zero rfl
  · exact fun fd _ => fn_zero rfl
  · exact fun fd _ => fn_zero rfl
  · exact fun fd _ => fn_zero rfl
  · exact fun fd _ => fn_zero rfl
  · exact fun fd _ => fn_zero rfl
  · exact fun fd _ => fn_zero rfl
  · exact fun fd _ => fn_zero rfl
  · exact fun fd _ => fn_zero rfl
  · exact fun fd _ => fn_zero rfl
  · exact fun fd _ => fn_zero rfl
  · exact fun fd _ => fn_zero rfl
  · exact fun fd _ => fn_zero rfl
  · exact fun fd _ => fn_zero rfl
  · exact fun fd _ => fn_zero rfl
  · exact fun fd _ => fn_zero rfl
  · exact fun fd _ => fn_zero rfl
  · exact fun fd _ => fn_zero rfl
  · exact fun fd _ => fn_zero rfl
theorem fnsS (M : MG mg) (N : ENT K mg) (O : FNS P w K mg base k) : FNS P w K mg base (k + 1) := by
  constructor
  · exact fun fd F => fn_step (fn := ir0) F sc0 rfl rfl (by decide +kernel) (fun cdv A outer s H E hr => b0 M hr (cals N O hr))
  · exact fun fd F => fn_step (fn := ir1) F sc1 rfl rfl (by decide +kernel) (fun cdv A outer s H E hr => b1 M hr (cals N O hr))
  · exact fun fd F => fn_step (fn := ir2) F sc2 rfl rfl (by decide +kernel) (fun cdv A outer s H E hr => b2 M hr (cals N O hr))
  · exact fun fd F => fn_step (fn := ir3) F sc3 rfl rfl (by decide +kernel) (fun cdv A outer s H E hr => b3 M hr (cals N O hr))
  · exact fun fd F => fn_step (fn := ir4) F sc4 rfl rfl (by decide +kernel) (fun cdv A outer s H E hr => b4 M hr (cals N O hr))
  · exact fun fd F => fn_step (fn := ir5) F sc5 rfl rfl (by decide +kernel) (fun cdv A outer s H E hr => b5 M hr (cals N O hr))
  · exact fun fd F => fn_step (fn := ir6) F sc6 rfl rfl (by decide +kernel) (fun cdv A outer s H E hr => b6 M hr (cals N O hr))
  · exact fun fd F => fn_step (fn := ir7) F sc7 rfl rfl (by decide +kernel) (fun cdv A outer s H E hr => b7 M hr (cals N O hr))
  · exact fun fd F => fn_step (fn := ir8) F sc8 rfl rfl (by decide +kernel) (fun cdv A outer s H E hr => b8 M hr (cals N O hr))
  · exact fun fd F => fn_step (fn := ir9) F sc9 rfl rfl (by decide +kernel) (fun cdv A outer s H E hr => b9 M hr (cals N O hr))
  · exact fun fd F => fn_step (fn := ir10) F sc10 rfl rfl (by decide +kernel) (fun cdv A outer s H E hr => b10 M hr (cals N O hr))
  · exact fun fd F => fn_step (fn := ir11) F sc11 rfl rfl (by decide +kernel) (fun cdv A outer s H E hr => b11 M hr (cals N O hr))
  · exact fun fd F => fn_step (fn := ir12) F sc12 rfl rfl (by decide +kernel) (fun cdv A outer s H E hr => b12 M hr (cals N O hr))
  · exact fun fd F => fn_step (fn := ir13) F sc13 rfl rfl (by decide +kernel) (fun cdv A outer s H E hr => b13 M hr (cals N O hr))
  · exact fun fd F => fn_step (fn := ir14) F sc14 rfl rfl (by decide +kernel) (fun cdv A outer s H E hr => b14 M hr (cals N O hr))
  · exact fun fd F => fn_step (fn := ir15) F sc15 rfl rfl (by decide +kernel) (fun cdv A outer s H E hr => b15 M hr (cals N O hr))
  · exact fun fd F => fn_step (fn := ir16) F sc16 rfl rfl (by decide +kernel) (fun cdv A outer s H E hr => b16 M hr (cals N O hr))
  · exact fun fd F => fn_step (fn := ir17) F sc17 rfl rfl (by decide +kernel) (fun cdv A outer s H E hr => b17 M hr (cals N O hr))
  · exact fun fd F => fn_step (fn := ir18) F sc18 rfl rfl (by decide +kernel) (fun cdv A outer s H E hr => b18 M hr (cals N O hr))
  · exact fun fd F => fn_step (fn := ir19) F sc19 rfl rfl (by decide +kernel) (fun cdv A outer s H E hr => b19 M hr (cals N O hr))
  · exact fun fd F => fn_step (fn := ir20) F sc20 rfl rfl (by decide +kernel) (fun cdv A outer s H E hr => b20 M hr (cals N O hr))
  · exact fun fd F => fn_step (fn := ir21) F sc21 rfl rfl (by decide +kernel) (fun cdv A outer s H E hr => b21 M hr (cals N O hr))
  · exact fun fd F => fn_step (fn := ir22) F sc22 rfl rfl (by decide +kernel) (fun cdv A outer s H E hr => b22 M hr (cals N O hr))
  · exact fun fd F => fn_step (fn := ir23) F sc23 rfl rfl (by decide +kernel) (fun cdv A outer s H E hr => b23 M hr (cals N O hr))
  · exact fun fd F => fn_step (fn := ir24) F sc24 rfl rfl (by decide +kernel) (fun cdv A outer s H E hr => b24 M hr (cals N O hr))
  · exact fun fd F => fn_step (fn := ir25) F sc25 rfl rfl (by decide +kernel) (fun cdv A outer s H E hr => b25 M hr (cals N O hr))
  · exact fun fd F => fn_step (fn := ir26) F sc26 rfl rfl (by decide +kernel) (fun cdv A outer s H E hr => b26 M hr (cals N O hr))
  · exact fun fd F => fn_step (fn := ir27) F sc27 rfl rfl (by decide +kernel) (fun cdv A outer s H E hr => b27 M hr (cals N O hr))
  · exact fun fd F => fn_step (fn := ir28) F sc28 rfl rfl (by decide +kernel) (fun cdv A outer s H E hr => b28 M hr (cals N O hr))
  · exact fun fd F => fn_step (fn := ir29) F sc29 rfl rfl (by decide +kernel) (fun cdv A outer s H E hr => b29 M hr (cals N O hr))
  · exact fun fd F => fn_step (fn := ir30) F sc30 rfl rfl (by decide +kernel) (fun cdv A outer s H E hr => b30 M hr (cals N O hr))
  · exact fun fd F => fn_step (fn := ir31) F sc31 rfl rfl (by decide +kernel) (fun cdv A outer s H E hr => b31 M hr (cals N O hr))
  · exact fun fd F => fn_step (fn := ir32) F sc32 rfl rfl (by decide +kernel) (fun cdv A outer s H E hr => b32 M hr (cals N O hr))
  · exact fun fd F => fn_step (fn := ir33) F sc33 rfl rfl (by decide +kernel) (fun cdv A outer s H E hr => b33 M hr (cals N O hr))
  · exact fun fd F => fn_step (fn := ir34) F sc34 rfl rfl (by decide +kernel) (fun cdv A outer s H E hr => b34 M hr (cals N O hr))
  · exact fun fd F => fn_step (fn := ir35) F sc35 rfl rfl (by decide +kernel) (fun cdv A outer s H E hr => b35 M hr (cals N O hr))
  · exact fun fd F => fn_step (fn := ir36) F sc36 rfl rfl (by decide +kernel) (fun cdv A outer s H E hr => b36 M hr (cals N O hr))
  · exact fun fd F => fn_step (fn := ir37) F sc37 rfl rfl (by decide +kernel) (fun cdv A outer s H E hr => b37 M hr (cals N O hr))
  · exact fun fd F => fn_step (fn := ir38) F sc38 rfl rfl (by decide +kernel) (fun cdv A outer s H E hr => b38 M hr (cals N O hr))
  · exact fun fd F => fn_step (fn := ir39) F sc39 rfl rfl (by decide +kernel) (fun cdv A outer s H E hr => b39 M hr (cals N O hr))
  · exact fun fd F => fn_step (fn := ir40) F sc40 rfl rfl (by decide +kernel) (fun cdv A outer s H E hr => b40 M hr (cals N O hr))
  · exact fun fd F => fn_step (fn := ir41) F sc41 rfl rfl (by decide +kernel) (fun cdv A outer s H E hr => b41 M hr (cals N O hr))
  · exact fun fd F => fn_step (fn := ir42) F sc42 rfl rfl (by decide +kernel) (fun cdv A outer s H E hr => b42 M hr (cals N O hr))
  · exact fun fd F => fn_step (fn := ir43) F sc43 rfl rfl (by decide +kernel) (fun cdv A outer s H E hr => b43 M hr (cals N O hr))
  · exact fun fd F => fn_step (fn := ir44) F sc44 rfl rfl (by decide +kernel) (fun cdv A outer s H E hr => b44 M hr (cals N O hr))
  · exact fun fd F => fn_step (fn := ir45) F sc45 rfl rfl (by decide +kernel) (fun cdv A outer s H E hr => b45 M hr (cals N O hr))
  · exact fun fd F => fn_step (fn := ir46) F sc46 rfl rfl (by decide +kernel) (fun cdv A outer s H E hr => b46 M hr (cals N O hr))
  · exact fun fd F => fn_step (fn := ir47) F sc47 rfl rfl (by decide +kernel) (fun cdv A outer s H E hr => b47 M hr (cals N O hr))
  · exact fun fd F => fn_step (fn := ir48) F sc48 rfl rfl (by decide +kernel) (fun cdv A outer s H E hr => b48 M hr (cals N O hr))
  · exact fun fd F => fn_step (fn := ir49) F sc49 rfl rfl (by decide +kernel) (fun cdv A outer s H E hr => b49 M hr (cals N O hr))
  · exact fun fd F => fn_step (fn := ir50) F sc50 rfl rfl (by decide +kernel) (fun cdv A outer s H E hr => b50 M hr (cals N O hr))
  · exact fun fd F => fn_step (fn := ir51) F sc51 rfl rfl (by decide +kernel) (fun cdv A outer s H E hr => b51 M hr (cals N O hr))
  · exact fun fd F => fn_step (fn := ir52) F sc52 rfl rfl (by decide +kernel) (fun cdv A outer s H E hr => b52 M hr (cals N O hr))
  · exact fun fd F => fn_step (fn := ir53) F sc53 rfl rfl (by decide +kernel) (fun cdv A outer s H E hr => b53 M hr (cals N O hr))
  · exact fun fd F => fn_step (fn := ir54) F sc54 rfl rfl (by decide +kernel) (fun cdv A outer s H E hr => b54 M hr (cals N O hr))
  · exact fun fd F => fn_step (fn := ir55) F sc55 rfl rfl (by decide +kernel) (fun cdv A outer s H E hr => b55 M hr (cals N O hr))
theorem fns (M : MG mg) (N : ENT K mg) : ∀ k, FNS P w K mg base k
  | 0 => fns0
  | k + 1 => fnsS M N (fns M N k)
end
theorem ent {K : PySem.W.Frag} {h : Heap} {mg : Str → Option Value} (X : K.In h) (G : h.Ns mainGlobals mg) (c : He.SaysD fa fn K) : ENT K mg ∧ MG mg := by
  refine ⟨?_, ?_⟩
  · constructor
    · exact ⟨c.def_ 0 (d := d0) rfl, He.glo_ok X G (c.fact 0 (f := .glo "is_integer") rfl)⟩
    · exact ⟨c.def_ 1 (d := d1) rfl, He.glo_ok X G (c.fact 1 (f := .glo "is_between") rfl)⟩
    · exact ⟨c.def_ 2 (d := d2) rfl, He.glo_ok X G (c.fact 2 (f := .glo "are_between") rfl)⟩
    · exact ⟨c.def_ 3 (d := d3) rfl, He.glo_ok X G (c.fact 3 (f := .glo "roads_in") rfl)⟩
    · exact ⟨c.def_ 4 (d := d4) rfl, He.glo_ok X G (c.fact 4 (f := .glo "road_between") rfl)⟩
    · exact ⟨c.def_ 5 (d := d5) rfl, He.glo_ok X G (c.fact 5 (f := .glo "is_many") rfl)⟩
    · exact ⟨c.def_ 6 (d := d6) rfl, He.glo_ok X G (c.fact 6 (f := .glo "is_table") rfl)⟩
    · exact ⟨c.def_ 7 (d := d7) rfl, He.glo_ok X G (c.fact 7 (f := .glo "is_order") rfl)⟩
    · exact ⟨c.def_ 8 (d := d8) rfl, He.glo_ok X G (c.fact 8 (f := .glo "check_many") rfl)⟩
    · exact ⟨c.def_ 9 (d := d9) rfl, He.glo_ok X G (c.fact 9 (f := .glo "check_table") rfl)⟩
    · exact ⟨c.def_ 10 (d := d10) rfl, He.glo_ok X G (c.fact 10 (f := .glo "check_order") rfl)⟩
    · exact ⟨c.def_ 11 (d := d11) rfl, He.glo_ok X G (c.fact 11 (f := .glo "lengths_of") rfl)⟩
    · exact ⟨c.def_ 12 (d := d12) rfl, He.glo_ok X G (c.fact 12 (f := .glo "is_round_of") rfl)⟩
    · exact ⟨c.def_ 13 (d := d13) rfl, He.glo_ok X G (c.fact 13 (f := .glo "check_round") rfl)⟩
    · exact ⟨c.def_ 14 (d := d14) rfl, He.glo_ok X G (c.fact 14 (f := .glo "roads_along") rfl)⟩
    · exact ⟨c.def_ 15 (d := d15) rfl, He.glo_ok X G (c.fact 15 (f := .glo "round_roads") rfl)⟩
    · exact ⟨c.def_ 16 (d := d16) rfl, He.glo_ok X G (c.fact 16 (f := .glo "length_along") rfl)⟩
    · exact ⟨c.def_ 17 (d := d17) rfl, He.glo_ok X G (c.fact 17 (f := .glo "length_of") rfl)⟩
    · exact ⟨c.def_ 18 (d := d18) rfl, He.glo_ok X G (c.fact 18 (f := .glo "round_by") rfl)⟩
    · exact ⟨c.def_ 19 (d := d19) rfl, He.glo_ok X G (c.fact 19 (f := .glo "moved_round") rfl)⟩
    · exact ⟨c.def_ 20 (d := d20) rfl, He.glo_ok X G (c.fact 20 (f := .glo "exchanges_in") rfl)⟩
    · exact ⟨c.def_ 21 (d := d21) rfl, He.glo_ok X G (c.fact 21 (f := .glo "exchanges_of") rfl)⟩
    · exact ⟨c.def_ 22 (d := d22) rfl, He.glo_ok X G (c.fact 22 (f := .glo "is_exchange") rfl)⟩
    · exact ⟨c.def_ 23 (d := d23) rfl, He.glo_ok X G (c.fact 23 (f := .glo "check_exchange") rfl)⟩
    · exact ⟨c.def_ 24 (d := d24) rfl, He.glo_ok X G (c.fact 24 (f := .glo "turned") rfl)⟩
    · exact ⟨c.def_ 25 (d := d25) rfl, He.glo_ok X G (c.fact 25 (f := .glo "exchanged") rfl)⟩
    · exact ⟨c.def_ 26 (d := d26) rfl, He.glo_ok X G (c.fact 26 (f := .glo "gain_of") rfl)⟩
    · exact ⟨c.def_ 27 (d := d27) rfl, He.glo_ok X G (c.fact 27 (f := .glo "check_tour") rfl)⟩
    · exact ⟨c.def_ 28 (d := d28) rfl, He.glo_ok X G (c.fact 28 (f := .glo "best_exchange") rfl)⟩
    · exact ⟨c.def_ 29 (d := d29) rfl, He.glo_ok X G (c.fact 29 (f := .glo "is_firm") rfl)⟩
    · exact ⟨c.def_ 30 (d := d30) rfl, He.glo_ok X G (c.fact 30 (f := .glo "steps_from") rfl)⟩
    · exact ⟨c.def_ 31 (d := d31) rfl, He.glo_ok X G (c.fact 31 (f := .glo "mended") rfl)⟩
    · exact ⟨c.def_ 32 (d := d32) rfl, He.glo_ok X G (c.fact 32 (f := .glo "mending_steps") rfl)⟩
    · exact ⟨c.def_ 33 (d := d33) rfl, He.glo_ok X G (c.fact 33 (f := .glo "exchanges_between") rfl)⟩
    · exact ⟨c.def_ 34 (d := d34) rfl, He.glo_ok X G (c.fact 34 (f := .glo "_law_pot") rfl)⟩
    · exact ⟨c.def_ 35 (d := d35) rfl, He.glo_ok X G (c.fact 35 (f := .glo "_law_take") rfl)⟩
    · exact ⟨c.def_ 36 (d := d36) rfl, He.glo_ok X G (c.fact 36 (f := .glo "_law_of") rfl)⟩
    · exact ⟨c.def_ 37 (d := d37) rfl, He.glo_ok X G (c.fact 37 (f := .glo "_law_cells") rfl)⟩
    · exact ⟨c.def_ 38 (d := d38) rfl, He.glo_ok X G (c.fact 38 (f := .glo "_law_some") rfl)⟩
    · exact ⟨c.def_ 39 (d := d39) rfl, He.glo_ok X G (c.fact 39 (f := .glo "_law_roads") rfl)⟩
    · exact ⟨c.def_ 40 (d := d40) rfl, He.glo_ok X G (c.fact 40 (f := .glo "_law_road") rfl)⟩
    · exact ⟨c.def_ 41 (d := d41) rfl, He.glo_ok X G (c.fact 41 (f := .glo "_law_known") rfl)⟩
    · exact ⟨c.def_ 42 (d := d42) rfl, He.glo_ok X G (c.fact 42 (f := .glo "_law_rounds") rfl)⟩
    · exact ⟨c.def_ 43 (d := d43) rfl, He.glo_ok X G (c.fact 43 (f := .glo "_law_along") rfl)⟩
    · exact ⟨c.def_ 44 (d := d44) rfl, He.glo_ok X G (c.fact 44 (f := .glo "_law_length") rfl)⟩
    · exact ⟨c.def_ 45 (d := d45) rfl, He.glo_ok X G (c.fact 45 (f := .glo "_law_as_round") rfl)⟩
    · exact ⟨c.def_ 46 (d := d46) rfl, He.glo_ok X G (c.fact 46 (f := .glo "_law_is_int") rfl)⟩
    · exact ⟨c.def_ 47 (d := d47) rfl, He.glo_ok X G (c.fact 47 (f := .glo "_law_exchanges") rfl)⟩
    · exact ⟨c.def_ 48 (d := d48) rfl, He.glo_ok X G (c.fact 48 (f := .glo "_law_turned") rfl)⟩
    · exact ⟨c.def_ 49 (d := d49) rfl, He.glo_ok X G (c.fact 49 (f := .glo "_law_table_of") rfl)⟩
    · exact ⟨c.def_ 50 (d := d50) rfl, He.glo_ok X G (c.fact 50 (f := .glo "_law_round_of") rfl)⟩
    · exact ⟨c.def_ 51 (d := d51) rfl, He.glo_ok X G (c.fact 51 (f := .glo "_law_out_from") rfl)⟩
    · exact ⟨c.def_ 52 (d := d52) rfl, He.glo_ok X G (c.fact 52 (f := .glo "_law_are_measured") rfl)⟩
    · exact ⟨c.def_ 53 (d := d53) rfl, He.glo_ok X G (c.fact 53 (f := .glo "_law_are_gains_right") rfl)⟩
    · exact ⟨c.def_ 54 (d := d54) rfl, He.glo_ok X G (c.fact 54 (f := .glo "_law_right") rfl)⟩
    · exact ⟨c.def_ 55 (d := d55) rfl, He.glo_ok X G (c.fact 55 (f := .glo "law") rfl)⟩
  · constructor
    · exact He.free_ok X G (c.fact 59 (f := .free "abs") rfl)
    · exact He.free_ok X G (c.fact 60 (f := .free "all") rfl)
    · exact He.free_ok X G (c.fact 61 (f := .free "bool") rfl)
    · exact He.free_ok X G (c.fact 62 (f := .free "dict") rfl)
    · exact He.free_ok X G (c.fact 63 (f := .free "int") rfl)
    · exact He.free_ok X G (c.fact 64 (f := .free "isinstance") rfl)
    · exact He.free_ok X G (c.fact 65 (f := .free "len") rfl)
    · exact He.free_ok X G (c.fact 66 (f := .free "list") rfl)
    · exact He.free_ok X G (c.fact 67 (f := .free "max") rfl)
    · exact He.free_ok X G (c.fact 68 (f := .free "min") rfl)
    · exact He.free_ok X G (c.fact 69 (f := .free "range") rfl)
    · exact He.free_ok X G (c.fact 70 (f := .free "set") rfl)
    · exact He.free_ok X G (c.fact 71 (f := .free "sorted") rfl)
    · exact He.free_ok X G (c.fact 72 (f := .free "sum") rfl)
    · exact He.free_ok X G (c.fact 73 (f := .free "tuple") rfl)
    · exact He.free_ok X G (c.fact 74 (f := .free "zip") rfl)
    · exact He.int_ok X G (c.fact 56 (f := .int "LEAST_MANY" 3) rfl)
    · exact He.int_ok X G (c.fact 57 (f := .int "MOST_MANY" 7) rfl)
    · exact He.int_ok X G (c.fact 58 (f := .int "MOST_LENGTH" 99) rfl)
theorem facts {P : Program} {w : World} {K : PySem.W.Frag} {h : Heap} {mg : Str → Option Value} {f : Addr} (X : K.In h) (G : h.Ns mainGlobals mg) (hfa : mg ("law" : Str) = some (.ref f)) (c : He.SaysD fa fn K) :
    ∃ fd : FuncData, (∀ (s : Shared) (v : Value), BindsTo s fd ⟨[v], []⟩ [("script", v)]) ∧ ∀ base : Heap, K.In base → base.Ns mainGlobals mg → FnOk P w K mg base CX0 24 f fd ["script"] (spD P w K 1 (callF prog 24 55)) := by
  obtain ⟨N, M⟩ := ent X G c
  obtain ⟨⟨fd, F⟩, g⟩ := N.e55
  have e := hfa.symm.trans g
  cases e
  have b := FunD.bindsA (ps := ["script"]) F fun _ _ _ _ _ _ us hl => match us, hl with | [_], _ => rfl
  exact ⟨fd, fun s v => b s [v] rfl, fun base _ _ => (fns M N 24).f55 fd F⟩
theorem sp_of {P : Program} {w : World} {K : PySem.W.Frag} {H : Hp} {a : Addr} {ns : List Int} (hp : ∀ ns : List Int, ns.length ≤ 63 → ∃ fin, callF prog 24 55 [some (.frz (ns.map D.int))] = some (.bl true, fin)) (hl : ns.length ≤ 63) (ho : Only H) (hS : SqL K H a (ns.map V.int)) :
    spD P w K 1 (callF prog 24 55) [.ref a] H (fun v _ => v = .bl true) fun _ _ _ => False := sp_law hp hl ho hS
end LW
set_option maxHeartbeats 0
open PySem PySem.W PySem.Calls PyProof.Rows
theorem PySem.Challenge.cw_noroundshorter_k34_whole_exchanges_as_a_holds : PySem.Challenge.rw_noroundshorter_k34_whole_exchanges_as_a.Holds := by
  w_on; o_law
  refine HandSHeadRun.head_any (r := OpenLaw.row PySem.Challenge.rw_noroundshorter_k34_whole_exchanges_as_a) (q := view (OpenLaw.row PySem.Challenge.rw_noroundshorter_k34_whole_exchanges_as_a).prog [71]) (H := LW.hk) (ob := LW.ob) (M := 40000) (loose := LW.nms) (d := HandSHeadRun.topDef (OpenLaw.row PySem.Challenge.rw_noroundshorter_k34_whole_exchanges_as_a).prog 71) (kwd := []) LW.ob_eq
    (by kernel_rfl) (fun s => by kernel_rfl) LW.run (by kernel_rfl) (by kernel_rfl) (by kernel_rfl) (by rfl) (by first | assumption | decide +kernel) (by decide +kernel) ⟨rfl, rfl, rfl, rfl, rfl, by decide +kernel⟩ ?hw ?hc
  case hw => w_witness2
  case hc =>
    refine L2.walk_ofE (l := PySem.Challenge.rw_noroundshorter_k34_whole_exchanges_as_a) (n := 63) (k := 24) (x := "script") (CX := L2.CX0) rfl (by decide) (by kernel_rfl) ⟨rfl, by decide, by decide⟩ ?F (fun _ _ _ _ z => z)
    intro w mg fa h Y G hmg0
    obtain ⟨K, KX, c⟩ := Y
    have hmg : mg ("law" : PySem.Str) = some (.ref fa) := by
      have e : (HandSHeadRun.topDef (OpenLaw.row PySem.Challenge.rw_noroundshorter_k34_whole_exchanges_as_a).prog 71).name = ("law" : PySem.Str) := by kernel_rfl
      rw [← e]
      exact hmg0
    obtain ⟨fd, hb, hF⟩ := LW.facts (P := (PySem.Challenge.rw_noroundshorter_k34_whole_exchanges_as_a).prog) (w := w) KX G hmg c
    exact ⟨K, fd, DL.spD (PySem.Challenge.rw_noroundshorter_k34_whole_exchanges_as_a).prog w K 1 (DL.callF LW.prog 24 55), KX, hb, fun H a ns hl ho hS => LW.sp_of LW.plain hl ho hS, hF⟩
