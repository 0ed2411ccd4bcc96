import PyProof.Rows.All
import Wide.All
import OpenK.AllK
import Wide.FinOn
import PyProof.EqAt
import PyProof.EqKinds
import PyProof.TupleCall
import HandS.ForMost
import HandS.Wide
import HandS.Exc
import HandS.ExcOwn
import HandS.TryOnly
import HandS.TryMany
import HandS.IsInst
import HandS.Deep
import HandS.Style
import HandS.TupMul
import HandS.TupAny
import HandS.Walk
import HandS.Zip
import HandS.Flow
import KE.SortData
import HandS.TupLen
import HandS.ExcIs
import HandS.Lambda
import HandS.ExcCtx
import KE.GoesZip
import KE.GoesMore
import HandS.SortRule
import PyProof.EnumIter
import PyProof.EnumFor
import PyProof.EnumMake
import HandS.HotCalls
import PyProof.ZipIter
import PyProof.Rows.TupIter
import HandS.RaiseMore
import PyProof.ReprRoads
import PyProof.CallFns
import HandS.Small
import HandS.Replace
import HandS.Conv
import HandS.Codes
import KE.KNestM
import PyProof.Rows.RegFStrParts
import HandS.Text
import PySem.Challenge.RW_whatran_k14_what_is_no_through
set_option Elab.async false
set_option linter.all false
set_option maxRecDepth 100000
set_option maxHeartbeats 4000000
/-! # An evaluator for a part of the language, over plain data: values, a store of cells, terms with places in the stead of names. -/
namespace Ev
open PySem PySem.Spec L2

/-- values: tuples and lists that nobody changes stand by what they hold; a cell is what may be changed -/
inductive D where
  | non | bl (b : Bool) | int (i : Int) | str (x : Str)
  | tup (xs : List D) | lst (xs : List D)
  | ref (l : Nat)
  | fn (k : Nat)
  | scr (ns : List Int)
  | tdc (ks : List (List Key)) (vs : List D)
  deriving Inhabited

mutual
def D.pd : D → PyData
  | .non => .none
  | .bl b => .bool b
  | .int i => .int i
  | .str x => .str x
  | .tup xs => .tuple (D.pds xs)
  | .lst xs => .list (D.pds xs)
  | .ref _ => .none
  | .fn _ => .none
  | .scr _ => .none
  | .tdc _ _ => .none
def D.pds : List D → List PyData
  | [] => []
  | x :: xs => D.pd x :: D.pds xs
end
mutual
/-- no cell within -/
def D.plain : D → Bool
  | .non => true
  | .bl _ => true
  | .int _ => true
  | .str _ => true
  | .tup xs => D.plains xs
  | .lst xs => D.plains xs
  | .ref _ => false
  | .fn _ => false
  | .scr _ => false
  | .tdc _ _ => false
def D.plains : List D → Bool
  | [] => true
  | x :: xs => D.plain x && D.plains xs
end
/-- a cell's content -/
inductive Ob where
  | lst (xs : List D)
  | dct (kvs : List (D × D))
  deriving Inhabited
abbrev Store := List Ob
abbrev Env := List (Option D)
/-- an error: its class by number, its fields -/
structure Ex where
  cls : Nat
  fs : List (Str × D) := []
inductive R (α : Type) where
  | ok (a : α) (S : Store)
  | exc (x : Ex) (S : Store)
  | stuck
def R.bind {α β : Type} (r : R α) (f : α → Store → R β) : R β :=
  match r with
  | .ok a S => f a S
  | .exc x S => .exc x S
  | .stuck => .stuck
inductive SR where
  | nx (env : Env) (S : Store)
  | rt (d : D) (S : Store)
  | bk (env : Env) (S : Store)
  | ct (env : Env) (S : Store)
  | exc (x : Ex) (env : Env) (S : Store)
  | stuck
def SR.seq (r : SR) (f : Env → Store → SR) : SR :=
  match r with
  | .nx env S => f env S
  | .rt d S => .rt d S
  | .bk e S => .bk e S
  | .ct e S => .ct e S
  | .exc x e S => .exc x e S
  | .stuck => .stuck
/-- an expression's end taken up by a statement -/
def R.st {α : Type} (r : R α) (env : Env) (f : α → Store → SR) : SR :=
  match r with
  | .ok a S => f a S
  | .exc x S => .exc x env S
  | .stuck => .stuck

/-! ### operations on values -/
def isz (n : Nat) : Bool := decide (n ≤ sizeLine)
/-- the items of a list -/
def lstOf (S : Store) : D → Option (List D)
  | .lst xs => some xs
  | .ref l => match S[l]? with
    | some (.lst xs) => some xs
    | _ => none
  | _ => none
/-- a new list: by what it holds, or a cell -/
def mkL (new : Bool) (xs : List D) (S : Store) : R D :=
  if isz xs.length then (if new then .ok (.ref S.length) (S ++ [.lst xs]) else .ok (.lst xs) S) else .stuck
def mkT (xs : List D) (S : Store) : R D := if isz xs.length then .ok (.tup xs) S else .stuck
def truth (S : Store) : D → Option Bool
  | .non => some false
  | .bl b => some b
  | .int i => some (i != 0)
  | .str x => if isz x.length then some ((x.length : Int) != 0) else none
  | .tup xs => some (!xs.isEmpty)
  | .lst xs => some (!xs.isEmpty)
  | .ref l => match S[l]? with
    | some (.lst xs) => some (!xs.isEmpty)
    | _ => none
  | .fn _ => none
  | .scr ns => some (!ns.isEmpty)
  | .tdc _ _ => none
inductive Bop where
  | add | sub | mul | fdiv | mod | pow
  deriving DecidableEq
inductive Cop where
  | eq | ne | lt | le | gt | ge | is | nis | isin | nin
  deriving DecidableEq
def okMul (i j : Int) : Bool := decide (i.natAbs.log2 + j.natAbs.log2 < 1000000)
def okDiv (j : Int) : Bool := decide (j ≠ 0 ∧ j.natAbs.log2 < 9000) || decide (j ≠ 0 ∧ j.natAbs < 1073741824)
def okPow (i j : Int) : Bool := decide (0 ≤ j ∧ j ≤ 1000000 ∧ i.natAbs < 2 ^ 64)
def binV (new : Bool) (op : Bop) (x y : D) (S : Store) : R D :=
  match op with
  | .add =>
    match x, y with
    | .int i, .int j => .ok (.int (i + j)) S
    | .str a, .str b => if isz (a.length + b.length) then .ok (.str (a ++ b)) S else .stuck
    | .tup a, .tup b => mkT (a ++ b) S
    | .scr a, y => match lstOf S y with
      | some b => mkL new (a.map .int ++ b) S
      | none => .stuck
    | x, y => match lstOf S x, lstOf S y with
      | some a, some b => mkL new (a ++ b) S
      | _, _ => .stuck
  | .sub =>
    match x, y with
    | .int i, .int j => .ok (.int (i - j)) S
    | _, _ => .stuck
  | .mul =>
    match x, y with
    | .int i, .int j => if okMul i j then .ok (.int (i * j)) S else .stuck
    | .tup a, .int k => if decide (k = 1) then .ok (.tup a) S else if !a.isEmpty && decide (2 ≤ k ∧ k ≤ 1000 ∧ a.length ≤ 1000) then .ok (.tup (List.replicate k.toNat a).flatten) S else .stuck
    | x, .int k => match lstOf S x with
      | some a => if decide (-(2 ^ 63) ≤ k ∧ k < 2 ^ 63 ∧ a.length * k.toNat ≤ sizeLine) then mkL new (List.replicate k.toNat a).flatten S else .stuck
      | none => .stuck
    | _, _ => .stuck
  | .fdiv =>
    match x, y with
    | .int i, .int j => if okDiv j then .ok (.int (i.fdiv j)) S else .stuck
    | _, _ => .stuck
  | .mod =>
    match x, y with
    | .int i, .int j => if j = 0 then .stuck else .ok (.int (i.fmod j)) S
    | _, _ => .stuck
  | .pow =>
    match x, y with
    | .int i, .int j => if okPow i j then .ok (.int (i ^ j.toNat)) S else .stuck
    | _, _ => .stuck
/-- a cell looked into -/
def view (S : Store) : D → D
  | .ref l => match S[l]? with
    | some (.lst xs) => .lst xs
    | _ => .ref l
  | x => x
/-- == of two that stand alone -/
def scalD : D → D → Option Bool
  | .int i, .int j => some (decide (i = j))
  | .str a, .str b => some (decide (a = b))
  | .bl a, .bl b => some (decide (a = b))
  | .non, .non => some true
  | .non, .int _ => some false
  | .int _, .non => some false
  | .non, .str _ => some false
  | .str _, .non => some false
  | .non, .bl _ => some false
  | .bl _, .non => some false
  | .str _, .int _ => some false
  | .int _, .str _ => some false
  | .str _, .bl _ => some false
  | .bl _, .str _ => some false
  | _, _ => none
/-- == -/
def eqD (S : Store) (x y : D) : Option Bool :=
  match scalD x y with
  | some b => some b
  | none =>
    if (view S x).plain && (view S y).plain && SeqAt.shaped (view S x).pd && SeqAt.shaped (view S y).pd then some (PyData.eqv (view S x).pd (view S y).pd) else none
def flatD : D → Bool
  | .non => true
  | .bl _ => true
  | .int _ => true
  | .str _ => true
  | _ => false
def flatEq : D → D → Bool
  | .non, .non => true
  | .bl a, .bl b => a == b
  | .bl a, .int b => (if a then 1 else 0) == b
  | .int a, .bl b => a == (if b then 1 else 0)
  | .int a, .int b => a == b
  | .str a, .str b => a == b
  | _, _ => false
def intsOf : List D → Option (List Int)
  | [] => some []
  | .int i :: r => (intsOf r).map (i :: ·)
  | _ :: _ => none
def blsOf : List D → Option (List Bool)
  | [] => some []
  | .bl i :: r => (blsOf r).map (i :: ·)
  | _ :: _ => none
def strsOf : List D → Option (List Str)
  | [] => some []
  | .str i :: r => (strsOf r).map (i :: ·)
  | _ :: _ => none
/-- what may be a dict's key -/
def kD : D → Option Key
  | .int i => some (.inl i)
  | .str x => some (.inr x)
  | _ => none
/-- dicts whose keys are tuples, never changed -/
def keysOf : List D → Option (List Key)
  | [] => some []
  | x :: r => match kD x, keysOf r with
    | some k, some ks => some (k :: ks)
    | _, _ => none
def tkD : D → Option (List Key)
  | .tup xs => keysOf xs
  | _ => none
def pairT : D → Option (List Key × D)
  | .tup [k, v] => (tkD k).map fun ks => (ks, v)
  | _ => none
def pairsT : List D → Option (List (List Key × D))
  | [] => some []
  | x :: r => match pairT x, pairsT r with
    | some p, some q => some (p :: q)
    | _, _ => none
def setT (acc : List (List Key × D)) (k : List Key) (v : D) : List (List Key × D) := if (acc.any fun q => decide (q.1 = k)) then acc.map (fun q => if q.1 = k then (q.1, v) else q) else acc ++ [(k, v)]
def foldT : List (List Key × D) → List (List Key × D) → List (List Key × D)
  | acc, [] => acc
  | acc, q :: r => foldT (setT acc q.1 q.2) r
def mkTdc (l : List (List Key × D)) : D := .tdc (l.map (·.1)) (l.map (·.2))
def tAt (ks : List (List Key)) (vs : List D) (k : List Key) : Option D := ((ks.zip vs).find? fun q => decide (q.1 = k)).map (·.2)
/-- in -/
def inStr (z : Str) : D → Option Bool
  | .str a => if a.cps.size = 1 then some (decide (a.cps.getD 0 0 ∈ z.cps.toList)) else some (!(Builtin.Str.occurrences z a 0 z.length 1).isEmpty)
  | _ => none
def inSeq (x : D) (ys : List D) : Option Bool := if flatD x && ys.all flatD then some (ys.any fun y => flatEq y x) else none
def inDat (x : D) (ys : List D) : Option Bool := if x.plain && D.plains ys && SeqAt.shaped x.pd && SeqAt.shaped (.list (D.pds ys)) then some (ys.any fun y => PyData.eqv y.pd x.pd) else none
def inD (S : Store) (x y : D) : Option Bool :=
  match y with
  | .str z => inStr z x
  | .tup ys => inSeq x ys
  | .tdc ks vs => match tkD x with
    | some k => some (tAt ks vs k).isSome
    | none => none
  | y => match lstOf S y with
    | some ys => match inSeq x ys with
      | some b => some b
      | none => inDat x ys
    | none => none
def ofB (o : Option Bool) (S : Store) : R D :=
  match o with
  | some b => .ok (.bl b) S
  | none => .stuck
def ltD (x y : D) : Option Bool :=
  match x, y with
  | .int i, .int j => some (decide (i < j))
  | .str a, .str b => some (decide (a.cps.toList < b.cps.toList))
  | .tup a, .tup b => match intsOf a, intsOf b with
    | some m, some n => some (HT.lexLt m n)
    | _, _ => none
  | _, _ => none
def isNon : D → Bool
  | .non => true
  | _ => false
def cmpV (op : Cop) (x y : D) (S : Store) : R D :=
  match op with
  | .eq => ofB (eqD S x y) S
  | .ne => ofB ((eqD S x y).map (!·)) S
  | .lt => ofB (ltD x y) S
  | .gt => match x, y with
    | .int i, .int j => .ok (.bl (decide (j < i))) S
    | _, _ => .stuck
  | .le => match x, y with
    | .int i, .int j => .ok (.bl (decide (i ≤ j))) S
    | _, _ => .stuck
  | .ge => match x, y with
    | .int i, .int j => .ok (.bl (decide (j ≤ i))) S
    | _, _ => .stuck
  | .is => match x, y with
    | x, .non => .ok (.bl (isNon x)) S
    | .bl a, .bl b => .ok (.bl (decide (a = b))) S
    | _, _ => .stuck
  | .nis => match x, y with
    | x, .non => .ok (.bl (!isNon x)) S
    | .bl a, .bl b => .ok (.bl (!decide (a = b))) S
    | _, _ => .stuck
  | .isin => ofB (inD S x y) S
  | .nin => ofB ((inD S x y).map (!·)) S
/-- what a dict holds -/
def dctOf (S : Store) : D → Option (List (D × D))
  | .ref l => match S[l]? with
    | some (.dct kvs) => some kvs
    | _ => none
  | _ => none
def dAt (kvs : List (D × D)) (k : Key) : Option D := (kvs.find? fun p => decide (kD p.1 = some k)).map (·.2)
def dPut (kvs : List (D × D)) (i : D) (k : Key) (v : D) : List (D × D) :=
  if (kvs.any fun p => decide (kD p.1 = some k)) = true then kvs.map (fun p => if kD p.1 = some k then (p.1, v) else p) else kvs ++ [(i, v)]
def dctIx (kvs : List (D × D)) (y : D) (S : Store) : R D :=
  match kD y with
  | some k => match dAt kvs k with
    | some d => .ok d S
    | none => .stuck
  | none => .stuck
/-- an item -/
def ixV0 (x y : D) (S : Store) : R D :=
  match y with
  | .int i => match x with
    | .tup xs => match atI xs i with
      | some d => .ok d S
      | none => .stuck
    | .str z => if isz z.length then (match atI z.cps.toList i with
      | some c => .ok (.str ⟨#[c]⟩) S
      | none => .stuck) else .stuck
    | .scr ns => match atI ns i with
      | some n => .ok (.int n) S
      | none => .stuck
    | x => match lstOf S x with
      | some xs => match atI xs i with
        | some d => .ok d S
        | none => .stuck
      | none => .stuck
  | _ => .stuck
def ixT (x y : D) (S : Store) : R D :=
  match x with
  | .tdc ks vs => match tkD y with
    | some k => match tAt ks vs k with
      | some d => .ok d S
      | none => .stuck
    | none => .stuck
  | x => ixV0 x y S
def ixV (x y : D) (S : Store) : R D :=
  match dctOf S x with
  | some kvs => dctIx kvs y S
  | none => ixT x y S
def cutD {α : Type} (xs : List α) (lo hi : Option Int) : List α := (xs.drop (HT.sIx xs.length 0 lo)).take (HT.sIx xs.length xs.length hi - HT.sIx xs.length 0 lo)
/-- a slice -/
def cutV (new : Bool) (x : D) (lo hi : Option Int) (S : Store) : R D :=
  match x with
  | .tup xs => .ok (.tup (cutD xs lo hi)) S
  | .str z => if isz z.length then .ok (.str (cutS z lo hi)) S else .stuck
  | .scr ns => mkL new ((cutD ns lo hi).map .int) S
  | x => match lstOf S x with
    | some xs => mkL new (cutD xs lo hi) S
    | none => .stuck
end Ev


namespace Ev
open PySem PySem.Spec L2

mutual
def D.beq : D → D → Bool
  | .non, .non => true
  | .bl a, .bl b => a == b
  | .int a, .int b => a == b
  | .str a, .str b => decide (a = b)
  | .tup a, .tup b => D.beqs a b
  | .lst a, .lst b => D.beqs a b
  | .ref a, .ref b => a == b
  | .fn a, .fn b => a == b
  | .scr a, .scr b => decide (a = b)
  | .tdc a b, .tdc c d => decide (a = c) && D.beqs b d
  | _, _ => false
def D.beqs : List D → List D → Bool
  | [], [] => true
  | x :: xs, y :: ys => D.beq x y && D.beqs xs ys
  | [], _ :: _ => false
  | _ :: _, [] => false
end
mutual
theorem D.beq_eq : ∀ (x y : D), D.beq x y = true → x = y
  | .non, y, h => by cases y <;> simp_all [D.beq]
  | .bl a, y, h => by cases y <;> simp_all [D.beq]
  | .int a, y, h => by cases y <;> simp_all [D.beq]
  | .str a, y, h => by cases y <;> simp_all [D.beq]
  | .ref a, y, h => by cases y <;> simp_all [D.beq]
  | .fn a, y, h => by cases y <;> simp_all [D.beq]
  | .scr a, y, h => by cases y <;> simp_all [D.beq]
  | .tdc a b, y, h => by
    cases y with
    | tdc c d =>
      rw [D.beq, Bool.and_eq_true] at h
      rw [of_decide_eq_true h.1, D.beqs_eq b d h.2]
    | _ => simp [D.beq] at h
  | .tup a, y, h => by
    cases y with
    | tup b => rw [D.beq] at h; rw [D.beqs_eq a b h]
    | _ => simp [D.beq] at h
  | .lst a, y, h => by
    cases y with
    | lst b => rw [D.beq] at h; rw [D.beqs_eq a b h]
    | _ => simp [D.beq] at h
theorem D.beqs_eq : ∀ (x y : List D), D.beqs x y = true → x = y
  | [], y, h => by cases y <;> simp_all [D.beqs]
  | x :: xs, y, h => by
    cases y with
    | nil => simp [D.beqs] at h
    | cons y ys =>
      rw [D.beqs, Bool.and_eq_true] at h
      rw [D.beq_eq x y h.1, D.beqs_eq xs ys h.2]
end
mutual
theorem D.beq_self : ∀ (x : D), D.beq x x = true
  | .non => rfl
  | .bl a => by simp [D.beq]
  | .int a => by simp [D.beq]
  | .str a => by simp [D.beq]
  | .ref a => by simp [D.beq]
  | .fn a => by simp [D.beq]
  | .scr a => by simp [D.beq]
  | .tdc a b => by rw [D.beq, D.beqs_self b]; simp
  | .tup a => by rw [D.beq]; exact D.beqs_self a
  | .lst a => by rw [D.beq]; exact D.beqs_self a
theorem D.beqs_self : ∀ (x : List D), D.beqs x x = true
  | [] => rfl
  | x :: xs => by rw [D.beqs, D.beq_self x, D.beqs_self xs]; rfl
end
instance : DecidableEq D := fun x y => if h : D.beq x y = true then .isTrue (D.beq_eq x y h) else .isFalse fun e => h (by subst e; exact D.beq_self x)
instance : DecidableEq Ob
  | .lst a, .lst b => if h : a = b then .isTrue (by rw [h]) else .isFalse fun e => h (Ob.lst.inj e)
  | .dct a, .dct b => if h : a = b then .isTrue (by rw [h]) else .isFalse fun e => h (Ob.dct.inj e)
  | .lst _, .dct _ => .isFalse fun e => nomatch e
  | .dct _, .lst _ => .isFalse fun e => nomatch e

/-! ### terms -/
inductive Bfn where
  | len | int | abs | sum | all | any | list | tuple | repr | sorted | max | dict
  deriving DecidableEq
inductive Ty where
  | bool | int | str | list | tuple | dict
  deriving DecidableEq
/-- methods -/
inductive Mt where
  | append | extend | clear | join | split | sindex | lindex
  deriving DecidableEq
mutual
inductive T where
  | nm (i : Nat)
  | tp (ts : Ts)
inductive Ts where
  | nil
  | cons (t : T) (ts : Ts)
end
mutual
inductive E where
  | var (i : Nat)
  | con (d : D)
  | glb (k : Nat)
  | tup (es : Es)
  | lst (new : Bool) (es : Es)
  | dct0
  | dct2 (a b c d : Str)
  | told (a : E)
  | bin (new : Bool) (op : Bop) (a b : E)
  | neg (a : E)
  | nt (a : E)
  | cmp (op : Cop) (a b : E)
  | cmp2 (o1 o2 : Cop) (a b c : E)
  | and (a b : E)
  | or (a b : E)
  | ife (c a b : E)
  | ix (a b : E)
  | cutA (new : Bool) (a lo : E)
  | cutB (new : Bool) (a hi : E)
  | cutC (new : Bool) (a lo hi : E)
  | rev (new : Bool) (a : E)
  | call (k : Nat) (es : Es)
  | bf (new : Bool) (f : Bfn) (a : E)
  | isi (a : E) (t : Ty)
  | lrng1 (new : Bool) (a : E)
  | lrng2 (new : Bool) (a b : E)
  | mth0 (m : Mt) (o : E)
  | mth1 (m : Mt) (o a : E)
  | comp (new : Bool) (own : List Nat) (elt : E) (t : T) (it : I) (ifs : Es)
  | comp2 (new : Bool) (own : List Nat) (elt : E) (t1 : T) (i1 : I) (t2 : T) (i2 : I)
inductive Es where
  | nil
  | cons (e : E) (es : Es)
/-- what is walked -/
inductive I where
  | seq (e : E)
  | rng (es : Es)
  | zip (a b : E)
  | enz (a b : E)
end
def Es.len' : Es → Nat
  | .nil => 0
  | .cons _ es => es.len' + 1
mutual
inductive St where
  | set (i : Nat) (e : E)
  | asg (t : T) (e : E)
  | par (i j : Nat) (a b : E)
  | put (o i e : E)
  | aug (i : Nat) (op : Bop) (e : E)
  | ex (e : E)
  | ret (e : E)
  | retN
  | ite (c : E) (a b : Ss)
  | whl (c : E) (b : Ss)
  | for (t : T) (it : I) (b : Ss)
  | rse (k : Nat)
  | pas
  | brk
  | cnt
  | nev
inductive Ss where
  | nil
  | cons (s : St) (ss : Ss)
end
structure Fn where
  np : Nat
  nv : Nat
  pure : Bool
  body : Ss
structure Cfg where
  fns : List Fn
  glbs : List D
  lim : Nat
abbrev Call := Nat → List D → Store → R D

mutual
def T.asg : T → D → Env → Option Env
  | .nm i, d, env => some (env.set i (some d))
  | .tp ts, d, env => match d with
    | .tup xs => Ts.asg ts xs env
    | .lst xs => Ts.asg ts xs env
    | _ => none
def Ts.asg : Ts → List D → Env → Option Env
  | .nil, [], env => some env
  | .cons t ts, x :: xs, env => match T.asg t x env with
    | some env1 => Ts.asg ts xs env1
    | none => none
  | .nil, _ :: _, _ => none
  | .cons _ _, [], _ => none
end
def wipeD (env : Env) : List Nat → Env
  | [] => env
  | v :: vs => (wipeD env vs).set v none
/-- a list that is walked must stand as it was -/
def gOk (g : Option (Nat × List D)) (S : Store) : Bool :=
  match g with
  | none => true
  | some (l, xs) => decide (S[l]? = some (.lst xs))
structure Items where
  xs : List D
  g : Option (Nat × List D) := none
/-- lists joined, turn by turn -/
def colGo (t : T) (g : Option (Nat × List D)) (ev : Env → Store → R (List D)) (env : Env) : List D → Store → R (List D)
  | [], S => if gOk g S then .ok [] S else .stuck
  | x :: xs, S =>
    if gOk g S then
      match t.asg x env with
      | some env1 => match ev env1 S with
        | .ok ys S2 => match colGo t g ev env xs S2 with
          | .ok zs S3 => .ok (ys ++ zs) S3
          | _ => .stuck
        | _ => .stuck
      | none => .stuck
    else .stuck
/-- one turn of a clause -/
def step1 (ok : Env → Store → R Bool) (ev : Env → Store → R D) (env : Env) (S : Store) : R (List D) :=
  match ok env S with
  | .ok b S1 => if b then (match ev env S1 with
    | .ok y S2 => .ok [y] S2
    | _ => .stuck) else .ok [] S1
  | _ => .stuck
def compGo (t : T) (g : Option (Nat × List D)) (ok : Env → Store → R Bool) (ev : Env → Store → R D) (env : Env) (xs : List D) (S : Store) : R (List D) := colGo t g (step1 ok ev) env xs S
mutual
def T.slots : T → List Nat
  | .nm i => [i]
  | .tp ts => Ts.slots ts
def Ts.slots : Ts → List Nat
  | .nil => []
  | .cons t ts => T.slots t ++ Ts.slots ts
end
def forGo (t : T) (g : Option (Nat × List D)) (body : Env → Store → SR) : List D → Env → Store → SR
  | [], env, S => if gOk g S then .nx env S else .stuck
  | x :: xs, env, S =>
    if gOk g S then
      match t.asg x env with
      | some env1 => match body env1 S with
        | .nx e S1 => forGo t g body xs e S1
        | .ct e S1 => forGo t g body xs e S1
        | .bk e S1 => .nx e S1
        | .rt d S1 => .rt d S1
        | .exc x e S1 => .exc x e S1
        | .stuck => .stuck
      | none => .stuck
    else .stuck
def whlGo (test : Env → Store → R Bool) (body : Env → Store → SR) : Nat → Env → Store → SR
  | 0, _, _ => .stuck
  | n + 1, env, S => (test env S).st env fun b S1 =>
    if b then (match body env S1 with
      | .nx e S2 => whlGo test body n e S2
      | .ct e S2 => whlGo test body n e S2
      | .bk e S2 => .nx e S2
      | .rt d S2 => .rt d S2
      | .exc x e S2 => .exc x e S2
      | .stuck => .stuck) else .nx env S1
def rngs (xs : List D) : Option (List D) :=
  match xs with
  | [.int j] => if decide (-(2 ^ 62) ≤ j ∧ j < 2 ^ 62) then some ((List.range j.toNat).map fun i => .int ((0 : Int) + (i : Nat))) else none
  | [.int i, .int j] => if decide (-(2 ^ 62) ≤ i ∧ i < 2 ^ 62 ∧ -(2 ^ 62) ≤ j ∧ j < 2 ^ 62) then some ((List.range (j - i).toNat).map fun k => .int (i + (k : Nat))) else none
  | [.int i, .int j, .int c] => if decide (c = -1 ∧ -(2 ^ 62) ≤ i ∧ i < 2 ^ 62 ∧ -(2 ^ 62) ≤ j ∧ j < 2 ^ 62) then some ((List.range (i - j).toNat).map fun k => .int (i + (k : Nat) * (-1))) else none
  | _ => none
/-- what zip takes -/
def srcD : D → Option (List D)
  | .lst xs => some xs
  | .tup xs => some xs
  | .str z => some (z.cps.toList.map fun c => .str ⟨#[c]⟩)
  | .scr ns => some (ns.map .int)
  | _ => none
def seqItems (S : Store) : D → Option Items
  | .tup xs => some ⟨xs, none⟩
  | .lst xs => some ⟨xs, none⟩
  | .str z => some ⟨z.cps.toList.map fun c => .str ⟨#[c]⟩, none⟩
  | .ref l => match S[l]? with
    | some (.lst xs) => some ⟨xs, some (l, xs)⟩
    | _ => none
  | .scr ns => some ⟨ns.map .int, none⟩
  | _ => none
def isiD (S : Store) (t : Ty) : D → Option Bool
  | .non => some false
  | .bl _ => some (match t with | .bool => true | .int => true | _ => false)
  | .int _ => some (match t with | .int => true | _ => false)
  | .str _ => some (match t with | .str => true | _ => false)
  | .tup _ => some (match t with | .tuple => true | _ => false)
  | .lst _ => some (match t with | .list => true | _ => false)
  | .ref l => match S[l]? with
    | some (.lst _) => some (match t with | .list => true | _ => false)
    | some (.dct _) => some (match t with | .dict => true | _ => false)
    | none => none
  | .fn _ => none
  | .scr _ => some (match t with | .list => true | _ => false)
  | .tdc _ _ => none
def okRepr (d : D) : Bool := d.plain && d.pd.showable && !d.pd.hasDict && decide (d.pd.depth ≤ 64) && decide (d.pd.shown.length ≤ sizeLine)
/-- data that sorted takes -/
def tup1 : D → Bool
  | .tup (_ :: _) => true
  | _ => false
def notTup : D → Bool
  | .tup _ => false
  | .non => false
  | _ => true
def okSort (xs : List D) : Bool := D.plains xs && xs.all (fun a => SeqAt.shaped a.pd && xs.all fun b => PySem.W.alike a.pd b.pd) && (xs.all tup1 || xs.all notTup)
def leD (a b : D) : Bool := PySem.W.dataLe false D.pd a b
def bfV (new : Bool) (f : Bfn) (x : D) (S : Store) : R D :=
  match f with
  | .len => match x with
    | .tup xs => .ok (.int xs.length) S
    | .str z => if isz z.length then .ok (.int z.length) S else .stuck
    | .scr ns => .ok (.int ns.length) S
    | .tdc ks vs => if isz (ks.zip vs).length then .ok (.int (ks.zip vs).length) S else .stuck
    | x => match lstOf S x with
      | some xs => .ok (.int xs.length) S
      | none => .stuck
  | .int => match x with
    | .int i => .ok (.int i) S
    | .bl b => .ok (.int (if b then 1 else 0)) S
    | .str a => match PySem.intText? a with
      | some n => if decide (a.length ≤ 640) then .ok (.int n) S else .stuck
      | none => .stuck
    | _ => .stuck
  | .abs => match x with
    | .int i => .ok (.int (if i < 0 then -i else i)) S
    | _ => .stuck
  | .sum => match lstOf S x with
    | some xs => match intsOf xs with
      | some ns => .ok (.int ns.sum) S
      | none => .stuck
    | none => .stuck
  | .max => match lstOf S x with
    | some xs => match intsOf xs with
      | some ns => match ns.max? with
        | some m => .ok (.int m) S
        | none => .stuck
      | none => .stuck
    | none => .stuck
  | .all => match lstOf S x with
    | some xs => match blsOf xs with
      | some ns => .ok (.bl (ns.all id)) S
      | none => .stuck
    | none => .stuck
  | .any => match lstOf S x with
    | some xs => match blsOf xs with
      | some ns => .ok (.bl (ns.any id)) S
      | none => .stuck
    | none => .stuck
  | .list => match x with
    | .tup xs => mkL new xs S
    | x => match lstOf S x with
      | some xs => mkL new xs S
      | none => .stuck
  | .tuple => match x with
    | .tup xs => .ok (.tup xs) S
    | x => match lstOf S x with
      | some xs => mkT xs S
      | none => .stuck
  | .dict => match lstOf S x with
    | some xs => match pairsT xs with
      | some l => .ok (mkTdc (foldT [] l)) S
      | none => .stuck
    | none => .stuck
  | .sorted => match lstOf S x with
    | some xs => if okSort xs then mkL new (xs.mergeSort leD) S else .stuck
    | none => .stuck
  | .repr => match view S x with
    | .tup xs => if okRepr (.tup xs) then .ok (.str (D.pd (.tup xs)).shown) S else .stuck
    | .lst xs => if okRepr (.lst xs) then .ok (.str (D.pd (.lst xs)).shown) S else .stuck
    | .non => .ok (.str "None") S
    | _ => .stuck
def joinLen (a : Str) (ys : List Str) : Nat := (ys.map (·.length)).sum + ys.length * a.length
def mthV (m : Mt) (o : D) (as : List D) (S : Store) : R D :=
  match m, as with
  | .append, [x] => match o with
    | .ref l => match S[l]? with
      | some (.lst xs) => if decide (xs.length < sizeLine) then .ok .non (S.set l (.lst (xs ++ [x]))) else .stuck
      | _ => .stuck
    | _ => .stuck
  | .extend, [x] => match o with
    | .ref l => match S[l]? with
      | some (.lst xs) => match x with
        | .lst ys => if isz (xs.length + ys.length) then .ok .non (S.set l (.lst (xs ++ ys))) else .stuck
        | _ => .stuck
      | _ => .stuck
    | _ => .stuck
  | .clear, [] => match o with
    | .ref l => match S[l]? with
      | some (.lst xs) => .ok .non (S.set l (.lst []))
      | _ => .stuck
    | _ => .stuck
  | .join, [x] => match o with
    | .str a => match (match x with | .tup xs => some xs | x => lstOf S x) with
      | some xs => match strsOf xs with
        | some ys => if decide (joinLen a ys ≤ 16777216) then .ok (.str (Txt.join a ys)) S else .stuck
        | none => .stuck
      | none => .stuck
    | _ => .stuck
  | .split, [x] => match o, x with
    | .str a, .str b => if !(b.length == 0) && isz (a.length + 2) then .ok (.lst ((Txt.split a b).map .str)) S else .stuck
    | _, _ => .stuck
  | .sindex, [x] => match o, x with
    | .str a, .str b => match Builtin.Str.occurrences a b 0 a.length 1 with
      | i :: _ => .ok (.int (i : Nat)) S
      | [] => .stuck
    | _, _ => .stuck
  | _, _ => .stuck
/-- what has such a method -/
def mtOk (m : Mt) (o : D) (S : Store) : Bool :=
  match m with
  | .append => isCell o S
  | .extend => isCell o S
  | .clear => isCell o S
  | .join => isStr o
  | .split => isStr o
  | .sindex => isStr o
  | .lindex => false
where
  isStr : D → Bool
    | .str _ => true
    | _ => false
  isCell : D → Store → Bool
    | .ref l, S => match S[l]? with
      | some (.lst _) => true
      | _ => false
    | _, _ => false

/-! ### told by _law_said -/
/-- the texts of the classes that it is one of -/
def saidT : List Str → List Bool → List Str
  | x :: xs, b :: bs => if b then x :: saidT xs bs else saidT xs bs
  | _, _ => []
def saidX : List Str := ["condition", "values", "through", "number"]
/-- NoCondition, NoNumber, NoThrough, NoValues: which of NoCondition, NoValues, NoThrough, NoNumber they are -/
def saidOf : Nat → Option (Bool × Bool × Bool × Bool)
  | 0 => some (true, false, false, false)
  | 1 => some (false, false, false, true)
  | 2 => some (false, false, true, false)
  | 3 => some (false, true, false, false)
  | _ => none
def saidD (b : Bool × Bool × Bool × Bool) : D := .tup [.str "refused", .lst ((saidT saidX [b.1, b.2.1, b.2.2.1, b.2.2.2]).map .str)]
def toldV : R D → R D
  | .ok d S => .ok (.tup [.str "told", d]) S
  | .exc x S => match x.fs, saidOf x.cls with
    | [], some b => .ok (saidD b) S
    | _, _ => .stuck
  | .stuck => .stuck
mutual
def E.ev (call : Call) (G : Cfg) : E → Env → Store → R D
  | .var i, env, S => match env[i]? with
    | some (some d) => .ok d S
    | _ => .stuck
  | .con d, _, S => .ok d S
  | .glb k, _, S => match G.glbs[k]? with
    | some d => .ok d S
    | none => .stuck
  | .tup es, env, S => (Es.ev call G es env S).bind fun xs S => mkT xs S
  | .lst new es, env, S => (Es.ev call G es env S).bind fun xs S => mkL new xs S
  | .dct0, _, S => .ok (.ref S.length) (S ++ [.dct []])
  | .dct2 a b c d, _, S => if decide (a = c) then .stuck else .ok (.ref S.length) (S ++ [.dct [(.str a, .str b), (.str c, .str d)]])
  | .told a, env, S => toldV (E.ev call G a env S)
  | .bin new op a b, env, S => (E.ev call G a env S).bind fun x S => (E.ev call G b env S).bind fun y S => binV new op x y S
  | .neg a, env, S => (E.ev call G a env S).bind fun x S => match x with
    | .int i => .ok (.int (-i)) S
    | _ => .stuck
  | .nt a, env, S => (E.ev call G a env S).bind fun x S => match truth S x with
    | some b => .ok (.bl (!b)) S
    | none => .stuck
  | .cmp op a b, env, S => (E.ev call G a env S).bind fun x S => (E.ev call G b env S).bind fun y S => cmpV op x y S
  | .cmp2 o1 o2 a b c, env, S => (E.ev call G a env S).bind fun x S => (E.ev call G b env S).bind fun y S => (cmpV o1 x y S).bind fun z S => match z with
    | .bl true => (E.ev call G c env S).bind fun w S => cmpV o2 y w S
    | .bl false => .ok (.bl false) S
    | _ => .stuck
  | .and a b, env, S => (E.ev call G a env S).bind fun x S => match truth S x with
    | some true => E.ev call G b env S
    | some false => .ok x S
    | none => .stuck
  | .or a b, env, S => (E.ev call G a env S).bind fun x S => match truth S x with
    | some true => .ok x S
    | some false => E.ev call G b env S
    | none => .stuck
  | .ife c a b, env, S => (E.ev call G c env S).bind fun x S => match truth S x with
    | some true => E.ev call G a env S
    | some false => E.ev call G b env S
    | none => .stuck
  | .ix a b, env, S => (E.ev call G a env S).bind fun x S => (E.ev call G b env S).bind fun y S => ixV x y S
  | .cutA new a lo, env, S => (E.ev call G a env S).bind fun x S => (E.ev call G lo env S).bind fun y S => match y with
    | .int i => cutV new x (some i) none S
    | _ => .stuck
  | .cutB new a hi, env, S => (E.ev call G a env S).bind fun x S => (E.ev call G hi env S).bind fun y S => match y with
    | .int i => cutV new x none (some i) S
    | _ => .stuck
  | .cutC new a lo hi, env, S => (E.ev call G a env S).bind fun x S => (E.ev call G lo env S).bind fun y S => match y with
    | .int i => (E.ev call G hi env S).bind fun z S => match z with
      | .int j => cutV new x (some i) (some j) S
      | _ => .stuck
    | _ => .stuck
  | .rev new a, env, S => (E.ev call G a env S).bind fun x S => match lstOf S x with
    | some xs => mkL new xs.reverse S
    | none => .stuck
  | .call k es, env, S => (Es.ev call G es env S).bind fun xs S => call k xs S
  | .bf new f a, env, S => (E.ev call G a env S).bind fun x S => bfV new f x S
  | .isi a t, env, S => (E.ev call G a env S).bind fun x S => ofB (isiD S t x) S
  | .lrng1 new a, env, S => (E.ev call G a env S).bind fun x S => match rngs [x] with
    | some ys => mkL new ys S
    | none => .stuck
  | .lrng2 new a b, env, S => (E.ev call G a env S).bind fun x S => (E.ev call G b env S).bind fun y S => match rngs [x, y] with
    | some ys => mkL new ys S
    | none => .stuck
  | .mth0 m o, env, S => (E.ev call G o env S).bind fun x S => if mtOk m x S then mthV m x [] S else .stuck
  | .mth1 m o a, env, S => (E.ev call G o env S).bind fun x S => if mtOk m x S then (E.ev call G a env S).bind fun y S => mthV m x [y] S else .stuck
  | .comp new own elt t it ifs, env, S => (I.ev call G it env S).bind fun its S =>
    (compGo t its.g (fun env S => (Es.tst call G ifs env S)) (fun env S => E.ev call G elt env S) (wipeD env own) its.xs S).bind fun ys S => mkL new ys S
  | .comp2 new own elt t1 i1 t2 i2, env, S => (I.ev call G i1 env S).bind fun its S =>
    (colGo t1 its.g (fun env S => (I.ev call G i2 env S).bind fun js S => compGo t2 js.g (fun _ S => .ok true S) (fun env S => E.ev call G elt env S) (wipeD env t2.slots) js.xs S) (wipeD env own) its.xs S).bind fun ys S => mkL new ys S
def Es.ev (call : Call) (G : Cfg) : Es → Env → Store → R (List D)
  | .nil, _, S => .ok [] S
  | .cons e es, env, S => (E.ev call G e env S).bind fun x S => (Es.ev call G es env S).bind fun xs S => .ok (x :: xs) S
/-- the tests of a clause: none, or one -/
def Es.tst (call : Call) (G : Cfg) : Es → Env → Store → R Bool
  | .nil, _, S => .ok true S
  | .cons e es, env, S => (E.ev call G e env S).bind fun x S => match truth S x with
    | some b => .ok b S
    | none => .stuck
def I.ev (call : Call) (G : Cfg) : I → Env → Store → R Items
  | .seq e, env, S => (E.ev call G e env S).bind fun x S => match seqItems S x with
    | some its => .ok its S
    | none => .stuck
  | .rng es, env, S => (Es.ev call G es env S).bind fun xs S => match rngs xs with
    | some ys => .ok ⟨ys, none⟩ S
    | none => .stuck
  | .zip a b, env, S => (E.ev call G a env S).bind fun x S => (E.ev call G b env S).bind fun y S => match srcD x, srcD y with
    | some xs, some ys => .ok ⟨(xs.zip ys).map fun p => .tup [p.1, p.2], none⟩ S
    | _, _ => .stuck
  | .enz a b, env, S => (E.ev call G a env S).bind fun x S => (E.ev call G b env S).bind fun y S => match srcD x, srcD y with
    | some xs, some ys => .ok ⟨(xs.zip ys).zipIdx.map fun p => .tup [.int (p.2 : Nat), .tup [p.1.1, p.1.2]], none⟩ S
    | _, _ => .stuck
end
def E.tst (call : Call) (G : Cfg) (e : E) (env : Env) (S : Store) : R Bool := (e.ev call G env S).bind fun x S => match truth S x with
  | some b => .ok b S
  | none => .stuck
def augV (op : Bop) (x y : D) : Option D :=
  match op, x, y with
  | .add, .int i, .int j => some (.int (i + j))
  | .sub, .int i, .int j => some (.int (i - j))
  | _, _, _ => none
def putV0 (o i v : D) (S : Store) : Option Store :=
  match o, i with
  | .ref l, .int k => match S[l]? with
    | some (.lst xs) => match ixN xs.length k with
      | some j => some (S.set l (.lst (xs.set j v)))
      | none => none
    | _ => none
  | _, _ => none
def putV (o i v : D) (S : Store) : Option Store :=
  match dctOf S o with
  | some kvs => match o, kD i with
    | .ref l, some k => if decide (kvs.length < sizeLine) then some (S.set l (.dct (dPut kvs i k v))) else none
    | _, _ => none
  | none => putV0 o i v S
mutual
def St.ev (call : Call) (G : Cfg) : St → Env → Store → SR
  | .set i e, env, S => (e.ev call G env S).st env fun x S => .nx (env.set i (some x)) S
  | .asg t e, env, S => (e.ev call G env S).st env fun x S => match t.asg x env with
    | some env1 => .nx env1 S
    | none => .stuck
  | .par i j a b, env, S => (a.ev call G env S).st env fun x S => (b.ev call G env S).st env fun y S => .nx ((env.set i (some x)).set j (some y)) S
  | .put o i e, env, S => (e.ev call G env S).st env fun v S => (o.ev call G env S).st env fun x S => (i.ev call G env S).st env fun y S => match putV x y v S with
    | some S1 => .nx env S1
    | none => .stuck
  | .aug i op e, env, S => match env[i]? with
    | some (some x) => (e.ev call G env S).st env fun y S => (match augV op x y with
      | some z => .nx (env.set i (some z)) S
      | none => .stuck)
    | _ => .stuck
  | .ex e, env, S => (e.ev call G env S).st env fun _ S => .nx env S
  | .ret e, env, S => (e.ev call G env S).st env fun x S => .rt x S
  | .retN, env, S => .rt .non S
  | .ite c a b, env, S => (c.tst call G env S).st env fun k S => if k then Ss.ev call G a env S else Ss.ev call G b env S
  | .whl c b, env, S => whlGo (fun env S => c.tst call G env S) (fun env S => Ss.ev call G b env S) G.lim env S
  | .for t it b, env, S => (it.ev call G env S).st env fun its S => forGo t its.g (fun env S => Ss.ev call G b env S) its.xs env S
  | .rse k, env, S => .exc ⟨k, []⟩ env S
  | .pas, env, S => .nx env S
  | .brk, env, S => .bk env S
  | .cnt, env, S => .ct env S
  | .nev, env, S => .stuck
def Ss.ev (call : Call) (G : Cfg) : Ss → Env → Store → SR
  | .nil, env, S => .nx env S
  | .cons s ss, env, S => (St.ev call G s env S).seq fun env S => Ss.ev call G ss env S
end
mutual
/-- cells from n on, taken by what they hold -/
def frzW (n : Nat) (r : Nat → Option D) : D → Option D
  | .ref l => if l < n then some (.ref l) else r l
  | .tup xs => (frzWs n r xs).map .tup
  | .lst xs => (frzWs n r xs).map .lst
  | .non => some .non
  | .bl b => some (.bl b)
  | .int i => some (.int i)
  | .str x => some (.str x)
  | .fn k => some (.fn k)
  | .scr k => some (.scr k)
  | .tdc _ _ => none
def frzWs (n : Nat) (r : Nat → Option D) : List D → Option (List D)
  | [] => some []
  | x :: xs => match frzW n r x with
    | some y => (frzWs n r xs).map (y :: ·)
    | none => none
end
def frz (S : Store) (n : Nat) : Nat → D → Option D
  | 0 => frzW n fun _ => none
  | k + 1 => frzW n fun l => match S[l]? with
    | some (.lst xs) => (xs.mapM (frz S n k)).map .lst
    | _ => none
def fin (pure : Bool) (S0 : Store) (d : D) (S : Store) : R D :=
  if pure then (if S.take S0.length = S0 then (match frz S S0.length 3 d with
    | some e => .ok e S0
    | none => .stuck) else .stuck) else .ok d S
def finish (pure : Bool) (S0 : Store) (r : SR) : R D :=
  match r with
  | .nx _ S => fin pure S0 .non S
  | .rt d S => fin pure S0 d S
  | .exc x _ S => if x.fs = [] then (if pure then (if S.take S0.length = S0 then .exc x S0 else .stuck) else .exc x S) else .stuck
  | _ => .stuck
def run (G : Cfg) : Nat → Call
  | 0, _, _, _ => .stuck
  | n + 1, k, args, S => match G.fns[k]? with
    | some f => if args.length = f.np then finish f.pure S (f.body.ev (run G n) G (args.map some ++ List.replicate (f.nv - f.np) none) S) else .stuck
    | none => .stuck
end Ev


namespace Ev
open PySem PySem.Spec L2 PyProof.Rows
/-! ### dict(list of pairs), the keys are tuples told by address -/
abbrev TKs := List (List L2.Key × Addr × Value)
def foldH : TKs → TKs → TKs
  | acc, [] => acc
  | acc, q :: r => foldH (storedH acc q.1 q.2.1 q.2.2) r
theorem storedH_len (acc : TKs) (k : List L2.Key) (a : Addr) (v : Value) : (storedH acc k a v).length ≤ acc.length + 1 := by
  unfold storedH
  split <;> simp
section
variable {prog : Program} {w : World} {A : Around}
theorem tk_but {h h' : Heap} {x a : Addr} {ks : List L2.Key} (m : (tupleKind (mixKind prog w)).is h ks a)
    (e : ∀ b o, b ≠ x → h.get? b = some o → h'.get? b = some o) (hx : ∃ o, h.get? x = some o ∧ ∀ us n, o.data ≠ .seq us n) : (tupleKind (mixKind prog w)).is h' ks a := by
  obtain ⟨o, us, n, h1, h2, h3, h4⟩ := m
  refine ⟨o, us, n, e a o (fun z => ?_) h1, h2, h3, h4⟩
  obtain ⟨o2, e2, e3⟩ := hx
  rw [← z] at e2
  exact e3 us n (by rw [← Option.some.inj (h1.symm.trans e2)]; exact h3)
theorem dictH_but {h h' : Heap} {d x : Addr} {acc : TKs} (m : h.DictOfH (tupleKind (mixKind prog w)) d acc) (hd : d ≠ x)
    (e : ∀ b o, b ≠ x → h.get? b = some o → h'.get? b = some o) (hx : ∃ o, h.get? x = some o ∧ ∀ us n, o.data ≠ .seq us n) : h'.DictOfH (tupleKind (mixKind prog w)) d acc := by
  obtain ⟨o, es, ep, m1, m2, m3, m4, m5, m6⟩ := m
  exact ⟨o, es, ep, e d o hd m1, m2, m3, m4, fun q hq => tk_but (m5 q hq) e hx, m6⟩
theorem it_notseq {h : Heap} {I l : Addr} {i : Nat} (hi : h.IsListIter I l i) : ∃ o, h.get? I = some o ∧ ∀ us n, o.data ≠ .seq us n := by
  obtain ⟨o, h1, h2, h3⟩ := hi
  exact ⟨o, h1, fun us n z => by rw [h3] at z; exact nomatch z⟩
theorem turnH {R : Result → Shared → Prop} {S I l : Addr} {items : Array Value} {res : Value} (hh : A.handled = none) (hu : A.in1.units < cLine)
    (n1 : l ≠ I) (n2 : S ≠ I) (n3 : S ≠ l) :
    ∀ (rest : TKs) (i : Nat) (acc : TKs) (ix : Int) (t : Tok) (s : Shared), items.size = i + rest.length → acc.length + rest.length ≤ sizeLine →
      (∀ (j : Nat) (q : List L2.Key × Addr × Value), rest[j]? = some q → ∃ b : Addr, items[i + j]? = some (.ref b) ∧ b ≠ S ∧ b ≠ I ∧
        IsTup s.heap b #[.ref q.2.1, q.2.2] ∧ (tupleKind (mixKind prog w)).is s.heap q.1 q.2.1) →
      s.heap.IsListIter I l i → s.heap.IsList l items → s.heap.DictOfH (tupleKind (mixKind prog w)) S acc →
      (∀ h' tk, h'.DictOfH (tupleKind (mixKind prog w)) S (foldH acc rest) →
        (∀ b o, b ≠ S → b ≠ I → s.heap.get? b = some o → h'.get? b = some o) → R (.ok (.ret res)) { s with heap := h', toks := tk }) →
      codeAny (model prog w) A (.builtin "dict.update.loop" ⟨[.ref S, .ref I, .int ix t, res], []⟩) R s := by
  intro rest
  induction rest with
  | nil =>
    intro i acc ix t s hsz _ _ hit hl hm hR
    have hnone : items[i]? = none := Array.getElem?_eq_none (by simp at hsz; omega)
    refine codeAny_builtin ud_entry ?_
    rw [Around.under_plainId ud_plain _]
    show wpAny _ A.in1 (pyNext (.ref I) >>= _) _ _ s
    refine wpAny_bind (wpAny_pyNext_list_end (A := A.in1) hh hit hl hnone fun h' he => ?_)
    show wpAny _ A.in1 (Builtin.Dict.addKeywords S [] >>= _) _ _ _
    refine wpAny_bind (wpAny_pure (wpAny_pure ?_))
    exact hR h' s.toks (dictH_but hm n2 (fun b o hb e => he b o hb e) (it_notseq hit)) fun b o _ hb e => he b o hb e
  | cons q rest ih =>
    intro i acc ix t s hsz hln ht hit hl hm hR
    obtain ⟨b, hb, bS, bI, htup, hk⟩ := ht 0 q rfl
    rw [List.length_cons] at hsz hln
    refine codeAny_builtin ud_entry ?_
    rw [Around.under_plainId ud_plain _]
    show wpAny _ A.in1 (pyNext (.ref I) >>= _) _ _ s
    refine wpAny_bind (wpAny_pyNext_list_item (x := .ref b) hit hl (by simpa using hb) fun h1 hit1 hs1 => ?_)
    have k1 : ∀ c o, c ≠ I → s.heap.get? c = some o → h1.get? c = some o := fun c o hc e => hs1.extBut c o hc e
    have htup1 : IsTup h1 b #[.ref q.2.1, q.2.2] := htup.extBut hs1.extBut bI
    have hl1 : h1.IsList l items := hl.extBut hs1.extBut n1
    have hm1 := dictH_but hm n2 k1 (it_notseq hit)
    have hk1 := tk_but hk k1 (it_notseq hit)
    obtain ⟨o, ho, hc, n, hd⟩ := id htup1
    show wpAny _ A.in1 (holding [Value.ref b] _ >>= _) _ _ _
    refine wpAny_bind (wpAny_holding ?_)
    refine wpAny_bind (wpAny_tryCatch ?_)
    unfold Builtin.Dict.pairItems
    refine wpAny_bind (wpAny_typeOf (T := "tuple") ⟨o, ho, hc⟩ ?_)
    rw [if_pos (by first | decide | rfl | simp)]
    refine wpAny_bind (wpAny_seqItems ho hd (wpAny_pure ?_))
    show wpAny _ A.in1 (holding [.ref q.2.1, q.2.2] (dictSet S (.ref q.2.1) q.2.2)) _ _ _
    refine wpAny_holding (wpAny_dictSet_heap (knd := tupleKind (mixKind prog w)) (k := q.1) hu hk1 hm1 (fun h2 hm2 hs2 => ?_) (by omega))
    obtain ⟨oS, esS, epS, mS, _, dS, _⟩ := id hm1
    refine wpAny_pure ⟨plainId_quiet ud_plain _, ih (i + 1) (storedH acc q.1 q.2.1 q.2.2) (ix + 1) 0 _ (by omega) ?_ (fun j q' e => ?_) ?_ ?_ hm2 fun h' tk hd' k => ?_⟩
    · have z := storedH_len acc q.1 q.2.1 q.2.2
      omega
    · obtain ⟨b', hb', bS', bI', htup', hk'⟩ := ht (j + 1) q' (by simpa using e)
      refine ⟨b', ?_, bS', bI', (htup'.extBut hs1.extBut bI').extBut hs2.extBut bS', ?_⟩
      · rw [show i + 1 + j = i + (j + 1) by omega]
        exact hb'
      · exact (tupleKind (mixKind prog w)).keeps (tk_but hk' k1 (it_notseq hit)) mS dS hs2
    · exact hit1.at fun o' e => hs2.extBut I o' (Ne.symm n2) e
    · exact hl1.extBut hs2.extBut (Ne.symm n3)
    · exact hR h' tk hd' fun c oc h3 h4 e => k c oc h3 h4 (hs2.extBut c oc h3 (hs1.extBut c oc h4 e))
end
end Ev


namespace Ev
open PySem PySem.Spec L2 PyProof.Rows
section
variable {prog : Program} {w : World} {A : Around} {E : Value → Shared → Prop}
/-- dict(l) of a list of pairs whose first is a tuple -/
theorem dictH_call {s : Shared} {l : Addr} {ol : Obj} {items : Array Value} {n : Nat} {prs : TKs} {Q : Value → Shared → Prop} (hh : A.handled = none) (hu : A.in1.in1.units < cLine)
    (hl : s.heap.get? l = some ol) (hc : ol.cls = .type "list") (hd : ol.dict = none)
    (hdat : ol.data = .seq items n) (hsz : items.size = prs.length) (hln : prs.length ≤ sizeLine)
    (ht : ∀ (j : Nat) (q : List L2.Key × Addr × Value), prs[j]? = some q → ∃ b : Addr, items[j]? = some (.ref b) ∧
      IsTup s.heap b #[.ref q.2.1, q.2.2] ∧ (tupleKind (mixKind prog w)).is s.heap q.1 q.2.1)
    (h : ∀ h' tk, h'.DictOfH (tupleKind (mixKind prog w)) s.heap.objs.size (foldH [] prs) →
      (∀ b o, s.heap.get? b = some o → h'.get? b = some o) → Q (.ref s.heap.objs.size) { s with heap := h', toks := tk }) :
    wpAny (model prog w) A (call (.type "dict") [.ref l]) Q E s := by
  refine callType_codes (Q₁ := fun ob z => ob = .ref s.heap.objs.size ∧ z = { s with heap := s.heap.push { cls := .type "dict", data := .dict #[] } })
    PySem.F.kt_called_dict (PySem.F.kt_typeCall_dict_1 _) PySem.F.entry_dict_init (kt_code_dict_new _ ⟨rfl, rfl⟩) ?_
  rintro ob z ⟨rfl, rfl⟩
  have hnew : (s.heap.push { cls := .type "dict", data := .dict #[] }).DictOfH (tupleKind (mixKind prog w)) s.heap.objs.size [] := Heap.DictOfH.new s.heap
  have k0 : ∀ b o, s.heap.get? b = some o → (s.heap.push { cls := .type "dict", data := .dict #[] }).get? b = some o := fun b o e => Heap.get?_push_of_some _ e
  refine ⟨hnew.typeIs, PySem.F.args_dict_init_2 _ _, ?_⟩
  unfold Builtin.«dict.__init__»
  refine wpAny_bind ?_
  unfold Builtin.Dict.selfAndRest
  refine wpAny_bind (wpAny_notOrdered_dict hnew.typeIs ?_)
  show wpAny _ _ (pure (s.heap.objs.size, [Value.ref l])) _ _ _
  refine wpAny_pure ?_
  show wpAny _ _ (Builtin.Dict.updateFrom "dict.__init__" s.heap.objs.size (.ref l) [] .none) _ _ _
  unfold Builtin.Dict.updateFrom
  refine wpAny_bind (wpAny_typeOf (T := "list") ⟨ol, k0 _ _ hl, hc⟩ ?_)
  rw [if_pos (by first | decide | rfl | simp)]
  refine wpAny_bind (miss_list (k0 _ _ hl) hc hdat hd hh fun h1 tk1 hk1 => ?_)
  rw [if_pos (show (none : Option Value).isNone = true from rfl)]
  refine wpAny_bind (wpAny_rule ?_)
  have hl1 : h1.IsList l items := ⟨ol, hk1 _ _ (k0 _ _ hl), hc, n, hdat⟩
  have hS1 : s.heap.objs.size < h1.objs.size := Heap.lt_size (hk1 _ _ (Heap.get?_push_size s.heap (o := { cls := .type "dict", data := .dict #[] }) rfl))
  refine wpAny_bind (wpAny_pyIter_list hl1 ?_)
  have k2 : ∀ b o, h1.get? b = some o → (h1.push { cls := .type "list_iterator", data := .fields #[.ref l, .int 0 0] }).get? b = some o := fun b o e => Heap.get?_push_of_some _ e
  have k3 : ∀ b o, s.heap.get? b = some o → (h1.push { cls := .type "list_iterator", data := .fields #[.ref l, .int 0 0] }).get? b = some o := fun b o e => k2 b o (hk1 b o (k0 b o e))
  have hlt : l < s.heap.objs.size := Heap.lt_size hl
  have tkk : ∀ {ha hb : Heap} {a : Addr} {ks : List L2.Key}, (∀ b o, ha.get? b = some o → hb.get? b = some o) → (tupleKind (mixKind prog w)).is ha ks a → (tupleKind (mixKind prog w)).is hb ks a :=
    fun e m => by
      obtain ⟨o, us, n, h1, h2, h3, h4⟩ := m
      exact ⟨o, us, n, e _ o h1, h2, h3, h4⟩
  have hdic : (h1.push { cls := .type "list_iterator", data := .fields #[.ref l, .int 0 0] }).DictOfH (tupleKind (mixKind prog w)) s.heap.objs.size [] := by
    obtain ⟨o, es, ep, m1, m2, m3, m4, m5, m6⟩ := hnew
    exact ⟨o, es, ep, k2 _ _ (hk1 _ _ m1), m2, m3, m4, fun q hq => (nomatch hq), m6⟩
  have key := turnH (prog := prog) (w := w) (A := A.in1) (R := wants (fun r s₂ => r = .none ∧ Q (.ref s.heap.objs.size) s₂) E) (S := s.heap.objs.size) (I := h1.objs.size) (l := l) (items := items) (res := Value.none) hh hu
    (Nat.ne_of_lt (Nat.lt_trans hlt hS1)) (Nat.ne_of_lt hS1) (Nat.ne_of_gt hlt) prs 0 [] 0 0
    { s with heap := h1.push { cls := .type "list_iterator", data := .fields #[.ref l, .int 0 0] }, toks := tk1 } (by rw [hsz, Nat.zero_add]) (by rw [List.length_nil, Nat.zero_add]; exact hln)
    (fun j q e => by
      obtain ⟨b, e1, e2, e3⟩ := ht j q e
      have hb : b < s.heap.objs.size := e2.lt
      exact ⟨b, by rw [Nat.zero_add]; exact e1, Nat.ne_of_lt hb, Nat.ne_of_lt (Nat.lt_trans hb hS1), e2.keeps k3, tkk k3 e3⟩)
    ⟨_, Heap.get?_push_size _ rfl, rfl, rfl⟩ (hl1.at fun o e => k2 _ _ e) hdic
    (fun h' tk hd' k => ⟨rfl, h h' tk hd' fun b o e => k b o (Nat.ne_of_lt (Heap.lt_size e)) (Nat.ne_of_lt (Nat.lt_trans (Heap.lt_size e) hS1)) (k3 _ _ e)⟩)
  first
    | exact wpAny_pure ⟨plainId_quiet ud_plain _, key⟩
    | exact wpAny_bind (wpAny_pure (wpAny_pure ⟨plainId_quiet ud_plain _, key⟩))
end
end Ev


namespace Ev
open PySem PySem.Spec L2 PyProof.Rows
/-! ### a dict with tuple keys, told by its one object: keys may be the program's own tuples too -/
abbrev TVs := List (List L2.Key × Addr × V)
abbrev TRel : TVs → TKs → Prop := Paired fun p q => p.1 = q.1 ∧ p.2.1 = q.2.1 ∧ RelV p.2.2 q.2.2
def DictS (P : Program) (w : World) (a : Addr) (tvs : TVs) : HO := .ext fun h => (a == sysModules) = false ∧ ∃ xs : TKs, TRel tvs xs ∧ ∃ o es ep, h.get? a = some o ∧ o.ExactDict ∧ o.data = .dict es ep ∧
  es.toList = xs.map (entryOfKey (tupleKind (mixKind P w))) ∧ (xs.map (·.1)).Nodup
def setTV (acc : TVs) (k : List L2.Key) (a : Addr) (v : V) : TVs := if (acc.any fun q => decide (q.1 = k)) then acc.map (fun q => if q.1 = k then (q.1, q.2.1, v) else q) else acc ++ [(k, a, v)]
def foldV : TVs → TVs → TVs
  | acc, [] => acc
  | acc, q :: r => foldV (setTV acc q.1 q.2.1 q.2.2) r
theorem TRel.any {l : TVs} {m : TKs} (r : TRel l m) (k : List L2.Key) : (l.any fun q => decide (q.1 = k)) = (atKey m k).isSome := by
  induction r with
  | nil => rfl
  | @cons p q ps qs h t ih =>
    rw [List.any_cons, ih]
    by_cases e : p.1 = k
    · simp [e, atKey, List.find?_cons, ← h.1]
    · simp [e, atKey, List.find?_cons, ← h.1]
theorem TRel.mapd {l : TVs} {m : TKs} (r : TRel l m) (k : List L2.Key) {v : V} {u : Value} (rv : RelV v u) :
    TRel (l.map fun q => if q.1 = k then (q.1, q.2.1, v) else q) (m.map (putAt k u)) := by
  induction r with
  | nil => exact .nil
  | @cons p q ps qs h t ih =>
    refine .cons ?_ ih
    unfold putAt
    dsimp only
    rw [← h.1]
    by_cases e : p.1 = k
    · rw [if_pos e, if_pos e]
      exact ⟨rfl, h.2.1, rv⟩
    · rw [if_neg e, if_neg e]
      exact h
theorem TRel.put {l : TVs} {m : TKs} (r : TRel l m) (k : List L2.Key) (a : Addr) {v : V} {u : Value} (rv : RelV v u) : TRel (setTV l k a v) (storedH m k a u) := by
  unfold setTV storedH
  rw [r.any k]
  split
  · exact r.mapd k rv
  · exact Paired.snoc r ⟨rfl, rfl, rv⟩
theorem TRel.fold : ∀ {r : TVs} {m : TKs} {acc : TVs} {xs : TKs}, TRel r m → TRel acc xs → TRel (foldV acc r) (foldH xs m)
  | _, _, _, _, .nil, k => k
  | _, _, _, _, .cons (a := p) (b := q) h t, k => by
    have z := TRel.fold t (k.put p.1 p.2.1 h.2.2)
    simp only [foldV, foldH]
    rw [← h.1, ← h.2.1]
    exact z
section
variable {X : Cx} {pins : List (Addr × Obj)} {σ : L2.St} {H : Hp} {s : Shared}
theorem key_ofS (I : Inv X pins σ H s) {a : Addr} {ks : List L2.Key} (h : SqT X.K H a (ks.map kV)) : (tupleKind (mixKind X.prog X.w)).is s.heap ks a := by
  obtain ⟨its, r, ⟨o, h1, h2, n, h3⟩, _⟩ := I.tuple h
  exact ⟨o, its.toArray, n, h1, h2, h3, by simpa using items_are r⟩
theorem pairsS_of (I : Inv X pins σ H s) : ∀ {ps : List Addr} {kvs : TVs}, Paired (fun p kv => SqT X.K H p [.ref kv.2.1, kv.2.2] ∧ SqT X.K H kv.2.1 (kv.1.map kV)) ps kvs →
    ∃ prs : TKs, TRel kvs prs ∧ prs.length = ps.length ∧
      ∀ (j : Nat) (q : List L2.Key × Addr × Value), prs[j]? = some q → ∃ b : Addr, ps[j]? = some b ∧ IsTup s.heap b #[.ref q.2.1, q.2.2] ∧ (tupleKind (mixKind X.prog X.w)).is s.heap q.1 q.2.1
  | _, _, .nil => ⟨[], .nil, rfl, fun j q e => by simp at e⟩
  | _, _, .cons (a := p) (b := kv) h t => by
    obtain ⟨prs, r, hl, hp⟩ := pairsS_of I t
    obtain ⟨its, rv, ht, _⟩ := I.tuple h.1
    obtain ⟨u, y, ei, ru, ry⟩ := vals2 rv
    subst ei
    cases (show u = Value.ref kv.2.1 from ru)
    refine ⟨(kv.1, kv.2.1, y) :: prs, .cons ⟨rfl, rfl, ry⟩ r, by simp [hl], fun j q e => ?_⟩
    cases j with
    | zero =>
      cases (Option.some.inj e : (kv.1, kv.2.1, y) = q)
      exact ⟨p, rfl, ht, key_ofS I h.2⟩
    | succ j => exact hp j q (by simpa using e)
end
theorem call_dictS {X : Cx} (hcalm : X.calm = true) (hu : X.A.in1.in1.units < cLine) : CallR X (.type "dict") (fun xs H Q => ∃ (a : Addr) (ps : List Addr) (kvs : TVs), xs = [.ref a] ∧
    SqL X.K H a (ps.map V.ref) ∧ Paired (fun p kv => SqT X.K H p [.ref kv.2.1, kv.2.2] ∧ SqT X.K H kv.2.1 (kv.1.map kV)) ps kvs ∧
    ∀ p, H p = none → Q (.ref p) (upd H p (DictS X.prog X.w p (foldV [] kvs)))) := by
  intro pins s σ H xs us Q I r q
  obtain ⟨a, ps, kvs, ex, hq, hp, q⟩ := q
  subst ex
  obtain ⟨u, eu, rx⟩ := vals1 r
  subst eu
  cases rx
  obtain ⟨its, rv, pl, hz⟩ := I.list hq
  cases refs_at rv
  rw [List.length_map] at hz
  obtain ⟨prs, rel, hl, hpr⟩ := pairsS_of I hp
  obtain ⟨o, n, ho, hc, hd, hdat⟩ := pl
  refine dictH_call (prs := prs) (I.ok.hd hcalm) hu ho hc hd hdat (by simp [hl]) (by rw [hl]; exact hz) (fun j q' e => ?_) fun h' tk hd' k => ?_
  · obtain ⟨b, e1, e2⟩ := hpr j q' e
    exact ⟨b, by simp [e1], e2⟩
  · have hn : H s.heap.objs.size = none := I.hok.fresh (Nat.le_refl _)
    obtain ⟨o2, es, ep, m1, m2, m3, m4, _, m6⟩ := hd'
    refine ⟨.ref s.heap.objs.size, upd H s.heap.objs.size (DictS X.prog X.w s.heap.objs.size (foldV [] kvs)), I.laid (t' := tk) k (Nat.le_refl _) ?_, rfl, q _ hn⟩
    refine ⟨⟨beq_eq_false_iff_ne.mpr (Nat.ne_of_gt I.big), _, rel.fold .nil, o2, es, ep, m1, m2, m3, m4, m6⟩, ⟨o2, m1⟩, ?_⟩
    rintro h1 h2 ⟨sm, xs, t, o3, es3, ep3, n1, n2⟩ e
    exact ⟨sm, xs, t, o3, es3, ep3, e _ n1, n2⟩
end Ev


namespace Ev
open PySem PySem.Spec L2 PyProof.Rows
def valT (l : TVs) (k : List L2.Key) : Option V := (l.find? fun q => decide (q.1 = k)).map (·.2.2)
theorem TRel.val {l : TVs} {m : TKs} (r : TRel l m) (k : List L2.Key) : RelO (valT l k) ((atKey m k).map (·.2)) := by
  induction r with
  | nil => exact True.intro
  | @cons p q ps qs h t ih =>
    obtain ⟨h1, _, h2⟩ := h
    by_cases e : p.1 = k
    · have e' : q.1 = k := h1.symm.trans e
      have b : atKey (q :: qs) k = some q.2 := by simp [atKey, List.find?_cons, e']
      have c : valT (p :: ps) k = some p.2.2 := by simp [valT, List.find?_cons, e]
      rw [c, b]; exact h2
    · have e' : ¬ q.1 = k := fun z => e (h1.trans z)
      have b : atKey (q :: qs) k = atKey qs k := by simp [atKey, List.find?_cons, e']
      have c : valT (p :: ps) k = valT ps k := by simp [valT, List.find?_cons, e]
      rw [c, b]; exact ih
/-- what is known of such a dict, and of the key that is asked -/
def DAsk (P : Program) (w : World) (K : PySem.W.Frag) (H : Hp) (a : Addr) (y : V) (r : Option V) : Prop :=
  ∃ (tvs : TVs) (b : Addr) (k : List L2.Key), H a = some (DictS P w a tvs) ∧ (∀ q ∈ tvs, SqT K H q.2.1 (q.1.map kV)) ∧ y = .ref b ∧ SqT K H b (k.map kV) ∧ r = valT tvs k
section
variable {X : Cx} {pins : List (Addr × Obj)} {σ : L2.St} {H : Hp} {s : Shared} {a : Addr} {A : Around} {E : Value → Shared → Prop} {y : V} {u : Value}
theorem dS_rd (I : Inv X pins σ H s) {tvs : TVs} (e : H a = some (DictS X.prog X.w a tvs)) (hk : ∀ q ∈ tvs, SqT X.K H q.2.1 (q.1.map kV)) :
    (a == sysModules) = false ∧ ∃ xs, TRel tvs xs ∧ s.heap.DictOfH (tupleKind (mixKind X.prog X.w)) a xs := by
  obtain ⟨⟨sm, xs, r, o, es, ep, n1, n2, n3, n4, n5⟩, -⟩ := (I.hok a _ e : ObjOk X.prog X.w H s.heap a (DictS X.prog X.w a tvs))
  refine ⟨sm, xs, r, o, es, ep, n1, n2, n3, n4, ?_, n5⟩
  clear n4 n5 e
  induction r with
  | nil => exact fun x hx => nomatch hx
  | @cons p q ps qs h t ih =>
    intro x hx
    rcases List.mem_cons.mp hx with e | hx
    · subst e
      rw [← h.1, ← h.2.1]
      exact key_ofS I (hk p (List.mem_cons_self ..))
    · exact ih (fun z hz => hk z (List.mem_cons_of_mem _ hz)) x hx
theorem dS_item {v : V} {Q : Value → Shared → Prop} (hu : A.units + 1 < cLine) (I : Inv X pins σ H s) (g : DAsk X.prog X.w X.K H a y (some v)) (ry : RelV y u)
    (h : ∀ w' s', Inv X pins σ H s' → RelV v w' → Q w' s') : wpAny (model X.prog X.w) A (getItem (.ref a) u) Q E s := by
  obtain ⟨tvs, b, k, e, hk, ey, eb, l⟩ := g
  subst ey
  cases (show u = Value.ref b from ry)
  obtain ⟨_, xs, rel, dd⟩ := dS_rd I e hk
  obtain ⟨w', hw, rw'⟩ := RelO.some_of (v := v) (o := (atKey xs k).map (·.2)) (by rw [l]; exact rel.val k)
  obtain ⟨p, hp, hp2⟩ := Option.map_eq_some_iff.mp hw
  refine wpAny_getItem_heap (tupleKind_room_in1 hu) (key_ofS I eb) dd hp ?_
  rw [hp2]
  exact h w' _ (I.tok _) rw'
theorem dS_notIn {r : Option V} {Q : Value → Shared → Prop} (hu : A.units + 1 < cLine) (I : Inv X pins σ H s) (g : DAsk X.prog X.w X.K H a y r) (ry : RelV y u)
    (h : ∀ s', Inv X pins σ H s' → Q (.bool (!r.isSome)) s') : wpAny (model X.prog X.w) A (compareOp .NotIn u (.ref a)) Q E s := by
  obtain ⟨tvs, b, k, e, hk, ey, eb, l⟩ := g
  subst ey
  cases (show u = Value.ref b from ry)
  obtain ⟨sm, xs, rel, dd⟩ := dS_rd I e hk
  refine wpAny_notIn_heap (tupleKind_room_in1 hu) (key_ofS I eb) sm dd ?_
  have q := (rel.val k).isSome_eq
  rw [Option.isSome_map] at q
  rw [← q, ← l]
  exact h _ (I.tok _)
theorem dS_in {r : Option V} {Q : Value → Shared → Prop} (hu : A.units + 1 < cLine) (I : Inv X pins σ H s) (g : DAsk X.prog X.w X.K H a y r) (ry : RelV y u)
    (h : ∀ s', Inv X pins σ H s' → Q (.bool r.isSome) s') : wpAny (model X.prog X.w) A (compareOp .In u (.ref a)) Q E s := by
  obtain ⟨tvs, b, k, e, hk, ey, eb, l⟩ := g
  subst ey
  cases (show u = Value.ref b from ry)
  obtain ⟨sm, xs, rel, dd⟩ := dS_rd I e hk
  refine wpAny_in_heap (tupleKind_room_in1 hu) (key_ofS I eb) sm dd ?_
  have q := (rel.val k).isSome_eq
  rw [Option.isSome_map] at q
  rw [← q, ← l]
  exact h _ (I.tok _)
theorem dS_type (I : Inv X pins σ H s) {r : Option V} (g : DAsk X.prog X.w X.K H a y r) : s.TypeIs (.ref a) "dict" := by
  obtain ⟨tvs, b, k, e, hk, _⟩ := g
  obtain ⟨_, xs, _, dd⟩ := dS_rd I e hk
  exact dd.typeIs
end
/-- rules: an item, in, not in -/
def rIxS (P : Program) (w : World) (K : PySem.W.Frag) : R2 := fun x y H Q => ∃ a v, x = .ref a ∧ DAsk P w K H a y (some v) ∧ Q v H
def rInS (P : Program) (w : World) (K : PySem.W.Frag) (f : Bool → Bool) : R2 := fun x y H Q => ∃ a r, y = .ref a ∧ DAsk P w K H a x r ∧ Q (.bl (f r.isSome)) H
theorem ix_dS {X : Cx} (hu : X.A.units + 1 < cLine) : IxR X (rIxS X.prog X.w X.K) := by
  intro value slice pins s σ H x y v u Q I rx ry h hs
  obtain ⟨a, r, rfl, g, q⟩ := h
  cases rx
  exact tail_any (dS_type I g) PySem.F.slot_dict_getitem.lookup (dS_item hu I g ry fun w' s' I' rw' => ⟨r, H, I', rw', q⟩) hs
theorem op_inS {X : Cx} (hu : X.A.units + 1 < cLine) : OpR X (compareOp .In) (rInS X.prog X.w X.K id) := by
  intro pins s σ H x y v u Q I rx ry h
  obtain ⟨a, r, rfl, g, q⟩ := h
  cases ry
  exact dS_in hu I g rx fun s' I' => ⟨.bl r.isSome, H, I', rfl, q⟩
theorem op_notinS {X : Cx} (hu : X.A.units + 1 < cLine) : OpR X (compareOp .NotIn) (rInS X.prog X.w X.K not) := by
  intro pins s σ H x y v u Q I rx ry h
  obtain ⟨a, r, rfl, g, q⟩ := h
  cases ry
  exact dS_notIn hu I g rx fun s' I' => ⟨.bl (!r.isSome), H, I', rfl, q⟩
end Ev


namespace Ev
open PySem PySem.Spec L2 PyProof.Rows
/-- len of a dict with tuple keys -/
theorem call_lenS {X : Cx} : CallR X (.builtin "len") (fun xs H Q => ∃ (p : Addr) (tvs : TVs), xs = [.ref p] ∧ H p = some (DictS X.prog X.w p tvs) ∧
    (∀ q ∈ tvs, SqT X.K H q.2.1 (q.1.map kV)) ∧ (tvs.length : Int) < 2 ^ 63 ∧ Q (.int ((tvs.length : Nat) : Int)) H) := by
  intro pins s σ H xs us Q I r h
  obtain ⟨p, tvs, rfl, e, hk, hz, q⟩ := h
  obtain ⟨u, rfl, rx⟩ := vals1 r
  cases (show u = Value.ref p from rx)
  obtain ⟨sm, ys, rel, dd⟩ := dS_rd I e hk
  have hl : tvs.length = ys.length := Paired.length rel
  refine call_len_dictH sm dd (by rw [← hl]; exact hz) ?_
  rw [← hl]
  exact ⟨.int ((tvs.length : Nat) : Int), H, I.tok _, ⟨_, rfl⟩, q⟩
end Ev


namespace Ev
open PySem PySem.Spec L2 PyProof.Rows
/-! ### the def that calls what it got and tells the refusal's classes -/
def saidB (q : Nat → Pos) : List Stmt := [ (Stmt.Try (body := [ (Stmt.Return (value := (some (Expr.Tuple (elts := [ (Expr.Constant (Const.str "told") 0 (q 0)), (Expr.Call (Expr.Name "_law_ask" (q 1)) [] [] (q 2))]) (k := 0) (pos := (q 3))))) (pos := (q 4)))]) (handlers := [ (ExceptHandler.ExceptHandler (type := (some (Expr.Name "RanError" (q 5)))) (name := (some "e")) (body := [ (Stmt.Assign (targets := [(Expr.Name "_law_marks" (q 6))]) (value := (Expr.List (elts := [ (Expr.Call (func := (Expr.Name "isinstance" (q 7))) (args := [(Expr.Name "e" (q 8)), (Expr.Name "NoCondition" (q 9))]) (keywords := []) (pos := (q 10))), (Expr.Call (func := (Expr.Name "isinstance" (q 11))) (args := [(Expr.Name "e" (q 12)), (Expr.Name "NoValues" (q 13))]) (keywords := []) (pos := (q 14))), (Expr.Call (func := (Expr.Name "isinstance" (q 15))) (args := [(Expr.Name "e" (q 16)), (Expr.Name "NoThrough" (q 17))]) (keywords := []) (pos := (q 18))), (Expr.Call (func := (Expr.Name "isinstance" (q 19))) (args := [(Expr.Name "e" (q 20)), (Expr.Name "NoNumber" (q 21))]) (keywords := []) (pos := (q 22)))]) (pos := (q 23)))) (pos := (q 24))), (Stmt.Assign (targets := [(Expr.Name "_law_names" (q 25))]) (value := (Expr.List (elts := [ (Expr.Constant (Const.str "condition") 0 (q 26)), (Expr.Constant (Const.str "values") 0 (q 27)), (Expr.Constant (Const.str "through") 0 (q 28)), (Expr.Constant (Const.str "number") 0 (q 29))]) (pos := (q 30)))) (pos := (q 31))), (Stmt.Return (value := (some (Expr.Tuple (elts := [ (Expr.Constant (Const.str "refused") 0 (q 32)), (Expr.ListComp (elt := (Expr.Name "_law_name" (q 33))) (generators := [ { target := (Expr.Tuple (elts := [(Expr.Name "_law_name" (q 34)), (Expr.Name "_law_is_so" (q 35))]) (k := 0) (pos := (q 36))), iter := (Expr.Call (func := (Expr.Name "zip" (q 37))) (args := [(Expr.Name "_law_names" (q 38)), (Expr.Name "_law_marks" (q 39))]) (keywords := []) (pos := (q 40))), ifs := [(Expr.Name "_law_is_so" (q 41))], is_async := 0 : Comprehension }]) (scope := { kind := ScopeKind.function, names := [ (Str.ofString ".0", NameKind.local), (Str.ofString "_law_name", NameKind.local), (Str.ofString "_law_is_so", NameKind.local)], isGenerator := false, isCoroutine := false, more := [] : Scope }) (pos := (q 42)))]) (k := 0) (pos := (q 43))))) (pos := (q 44)))]) (pos := (q 45)))]) (orelse := []) (finalbody := []) (pos := (q 46)))]
def saidN : List Str := ["_law_ask", "e", "_law_marks", "_law_names", "_law_name", "_law_is_so"]
def saidSc : Scope :=
  { kind := ScopeKind.function
    names := [("_law_ask", .local), ("e", .local), ("_law_marks", .local), ("_law_names", .local), ("RanError", .globalImplicit), ("isinstance", .globalImplicit), ("NoCondition", .globalImplicit), ("NoValues", .globalImplicit), ("NoThrough", .globalImplicit), ("NoNumber", .globalImplicit), ("zip", .globalImplicit)]
    isGenerator := false
    isCoroutine := false
    more := [("fast", Const.str "_law_ask"), ("fast", Const.str "e"), ("fast", Const.str "_law_marks"), ("fast", Const.str "_law_names"), ("fast", Const.str "_law_name"), ("fast", Const.str "_law_is_so")] }
/-- what the classes say of an exception's class -/
structure SaidC (K : PySem.W.Frag) (R c0 c1 c2 c3 D : Addr) (b0 b1 b2 b3 : Bool) : Prop where
  ec : ExcC K D
  rn : PySem.W.exmOne K (.ref D) (.ref R) = some true
  k0 : PySem.W.kitOne K (.ref D) (.ref c0) = some b0
  k1 : PySem.W.kitOne K (.ref D) (.ref c1) = some b1
  k2 : PySem.W.kitOne K (.ref D) (.ref c2) = some b2
  k3 : PySem.W.kitOne K (.ref D) (.ref c3) = some b3
end Ev


namespace Ev
open PySem PySem.Spec L2 PyProof.Rows

/-- a list of the written part -/
def KL (K : PySem.W.Frag) (a : Addr) (xs : List V) : Prop :=
  ∃ (o : Obj) (its : Array Value) (n : Nat), K.lookup a = some o ∧ o.cls = .type "list" ∧ o.dict = none ∧ o.data = .seq its n ∧ its.size ≤ sizeLine ∧ Vals xs its.toList
/-- the cells' places, in order; and what is hidden: lists under way -/
structure Mp where
  c : List Addr
  h : List Addr
  t : List (Addr × Str)
def Mp.has (m : Mp) (p : Addr) : Prop := p ∈ m.c ∨ p ∈ m.h
def Mp.add (m : Mp) (p : Addr) : Mp := ⟨m.c ++ [p], m.h, m.t⟩
/-- where the names of the table lie -/
structure Ad where
  K : PySem.W.Frag
  fa : Nat → Addr
  ca : Nat → Addr
  P : Program
  w : World
  tb : List (Addr × Str)
/-- keys, where they stand, values -/
def tvs (ks : List (List Key)) (as : List Addr) (vs : List V) : TVs := (ks.zip (as.zip vs)).map fun q => (q.1, q.2.1, q.2.2)
section
variable (T : Ad)
/-- a list that is nobody's cell -/
def LV (m : Mp) (H : Hp) (p : Addr) (vs : List V) : Prop := H p = some (.lst vs) ∧ ¬ m.has p
/-- the script -/
def SC (H : Hp) (p : Addr) (vs : List V) : Prop := (∃ o, H p = some (.frz o (.lst vs))) ∨ KL T.K p vs
mutual
def RD (m : Mp) (H : Hp) : D → V → Prop
  | .non, v => v = .non
  | .bl b, v => v = .bl b
  | .int i, v => v = .int i
  | .str x, v => v = .str x
  | .tup xs, v => ∃ p vs, v = .ref p ∧ SqT T.K H p vs ∧ RDs m H xs vs
  | .lst xs, v => ∃ p vs, v = .ref p ∧ LV m H p vs ∧ RDs m H xs vs
  | .ref l, v => ∃ p, m.c[l]? = some p ∧ v = .ref p
  | .fn k, v => v = .ref (T.fa k)
  | .scr ns, v => ∃ p, v = .ref p ∧ SC T H p (ns.map V.int)
  | .tdc ks ds, v => ∃ p as vs, v = .ref p ∧ H p = some (DictS T.P T.w p (tvs ks as vs)) ∧ as.length = ks.length ∧ vs.length = ks.length ∧ (∀ q ∈ tvs ks as vs, SqT T.K H q.2.1 (q.1.map kV)) ∧ RDs m H ds vs
def RDs (m : Mp) (H : Hp) : List D → List V → Prop
  | [], vs => vs = []
  | x :: xs, vs => ∃ v r, vs = v :: r ∧ RD m H x v ∧ RDs m H xs r
end
def RKs (m : Mp) (H : Hp) : List (D × D) → List (Key × V) → Prop
  | [], vs => vs = []
  | x :: xs, vs => ∃ k v r, vs = (k, v) :: r ∧ kD x.1 = some k ∧ RD T m H x.2 v ∧ RKs m H xs r
def RO (m : Mp) (H : Hp) : Ob → HO → Prop
  | .lst xs, o => ∃ vs, o = .lst vs ∧ RDs T m H xs vs
  | .dct kvs, o => ∃ vs, o = .dK vs ∧ RKs T m H kvs vs
structure RS (m : Mp) (H : Hp) (S : Store) : Prop where
  len : S.length = m.c.length
  nd : m.c.Nodup
  hid : ∀ p ∈ m.h, p ∉ m.c ∧ H p ≠ none
  hnt : ∀ p ∈ m.h, ∀ ps, H p ≠ some (.tbl ps)
  tt : m.t = T.tb
  tab : LamX.Tabs m.t H
  at_ : ∀ (l : Nat) (ob : Ob) (p : Addr), S[l]? = some ob → m.c[l]? = some p → ∃ o, H p = some o ∧ RO T m H ob o
structure REnv (m : Mp) (H : Hp) (env : Env) (σ : L2.St) : Prop where
  len : env.length = σ.length
  at_ : ∀ (i : Nat) (d : D), env[i]? = some (some d) → ∃ v, σ[i]? = some (some v) ∧ RD T m H d v
end
/-- what stays: the tuples, the lists that are nobody's cells -/
structure Ext0 (m : Mp) (H : Hp) (m' : Mp) (H' : Hp) : Prop where
  pre : ∃ t, m'.c = m.c ++ t
  tup : ∀ p vs, Rd H p (.tup vs) → Rd H' p (.tup vs)
  lst : ∀ p vs, H p = some (.lst vs) → ¬ m.has p → H' p = some (.lst vs) ∧ ¬ m'.has p
  frz : ∀ p o u, H p = some (.frz o u) → H' p = some (.frz o u)
  ext : ∀ p φ, H p = some (.ext φ) → H' p = some (.ext φ)
  tt : m'.t = m.t
  tab : LamX.Tabs m.t H → LamX.Tabs m.t H'
structure Ext (m : Mp) (H : Hp) (m' : Mp) (H' : Hp) : Prop extends Ext0 m H m' H' where
  eqh : m'.h = m.h
  hid : ∀ p ∈ m.h, H' p = H p
section
variable {T : Ad} {m m' m'' : Mp} {H H' H'' : Hp}
theorem Ext0.refl : Ext0 m H m H := ⟨⟨[], by simp⟩, fun _ _ h => h, fun _ _ h n => ⟨h, n⟩, fun _ _ _ h => h, fun _ _ h => h, rfl, fun h => h⟩
theorem Ext.refl : Ext m H m H := ⟨Ext0.refl, rfl, fun _ _ => rfl⟩
theorem Ext0.trans (a : Ext0 m H m' H') (b : Ext0 m' H' m'' H'') : Ext0 m H m'' H'' := by
  obtain ⟨t, e⟩ := a.pre
  obtain ⟨t', e'⟩ := b.pre
  exact ⟨⟨t ++ t', by rw [e', e, List.append_assoc]⟩, fun p vs h => b.tup p vs (a.tup p vs h), fun p vs h n => let ⟨h1, n1⟩ := a.lst p vs h n; b.lst p vs h1 n1, fun p o u h => b.frz p o u (a.frz p o u h), fun p φ h => b.ext p φ (a.ext p φ h), b.tt.trans a.tt, fun h => a.tt ▸ b.tab (a.tt.symm ▸ a.tab h)⟩
theorem Ext.trans (a : Ext m H m' H') (b : Ext m' H' m'' H'') : Ext m H m'' H'' :=
  ⟨a.toExt0.trans b.toExt0, b.eqh.trans a.eqh, fun p h => (b.hid p (a.eqh ▸ h)).trans (a.hid p h)⟩
theorem Ext0.get (e : Ext0 m H m' H') {l : Nat} {p : Addr} (h : m.c[l]? = some p) : m'.c[l]? = some p := by
  obtain ⟨t, e⟩ := e.pre
  rw [e]
  exact List.getElem?_append_left (List.getElem?_eq_some_iff.mp h).1 ▸ h
theorem Ext0.lv (e : Ext0 m H m' H') {p : Addr} {vs : List V} (h : LV m H p vs) : LV m' H' p vs := e.lst p vs h.1 h.2
theorem Ext0.sc (e : Ext0 m H m' H') {p : Addr} {vs : List V} (h : SC T H p vs) : SC T H' p vs := by
  rcases h with ⟨o, h⟩ | h
  · exact .inl ⟨o, e.frz p o _ h⟩
  · exact .inr h
theorem Ext0.sqt (e : Ext0 m H m' H') {p : Addr} {vs : List V} {K : PySem.W.Frag} (h : SqT K H p vs) : SqT K H' p vs := by
  rcases h with h | h
  · exact .inl (e.tup p vs h)
  · exact .inr h
mutual
theorem RD.ext0 (e : Ext0 m H m' H') : ∀ (d : D) (v : V), RD T m H d v → RD T m' H' d v
  | .non, v, h => by simpa [RD] using h
  | .bl b, v, h => by simpa [RD] using h
  | .int i, v, h => by simpa [RD] using h
  | .str x, v, h => by simpa [RD] using h
  | .fn k, v, h => by simpa [RD] using h
  | .scr ns, v, h => by
    obtain ⟨p, h1, h2⟩ := h
    exact ⟨p, h1, e.sc h2⟩
  | .tdc ks ds, v, h => by
    obtain ⟨p, as, vs, h1, h2, h3, h4, h5, h6⟩ := h
    exact ⟨p, as, vs, h1, e.ext p _ h2, h3, h4, fun q hq => e.sqt (h5 q hq), RDs.ext0 e ds vs h6⟩
  | .ref l, v, h => by
    obtain ⟨p, h1, h2⟩ := h
    exact ⟨p, e.get h1, h2⟩
  | .tup xs, v, h => by
    obtain ⟨p, vs, h1, h2, h3⟩ := h
    exact ⟨p, vs, h1, e.sqt h2, RDs.ext0 e xs vs h3⟩
  | .lst xs, v, h => by
    obtain ⟨p, vs, h1, h2, h3⟩ := h
    exact ⟨p, vs, h1, e.lv h2, RDs.ext0 e xs vs h3⟩
theorem RDs.ext0 (e : Ext0 m H m' H') : ∀ (ds : List D) (vs : List V), RDs T m H ds vs → RDs T m' H' ds vs
  | [], vs, h => by simpa [RDs] using h
  | d :: ds, vs, h => by
    obtain ⟨v, r, h1, h2, h3⟩ := h
    exact ⟨v, r, h1, RD.ext0 e d v h2, RDs.ext0 e ds r h3⟩
end
theorem RD.ext (e : Ext m H m' H') (d : D) (v : V) (h : RD T m H d v) : RD T m' H' d v := RD.ext0 e.toExt0 d v h
theorem RDs.ext (e : Ext m H m' H') (ds : List D) (vs : List V) (h : RDs T m H ds vs) : RDs T m' H' ds vs := RDs.ext0 e.toExt0 ds vs h
theorem RKs.ext0 (e : Ext0 m H m' H') : ∀ (ds : List (D × D)) (vs : List (Key × V)), RKs T m H ds vs → RKs T m' H' ds vs
  | [], vs, h => by simpa [RKs] using h
  | d :: ds, vs, h => by
    obtain ⟨k, v, r, h1, h2, h3, h4⟩ := h
    exact ⟨k, v, r, h1, h2, RD.ext0 e _ _ h3, RKs.ext0 e ds r h4⟩
theorem RO.ext0 (e : Ext0 m H m' H') {ob : Ob} {o : HO} (h : RO T m H ob o) : RO T m' H' ob o := by
  cases ob with
  | lst xs =>
    obtain ⟨vs, h1, h2⟩ := h
    exact ⟨vs, h1, RDs.ext0 e xs vs h2⟩
  | dct kvs =>
    obtain ⟨vs, h1, h2⟩ := h
    exact ⟨vs, h1, RKs.ext0 e kvs vs h2⟩
theorem RO.ext (e : Ext m H m' H') {ob : Ob} {o : HO} (h : RO T m H ob o) : RO T m' H' ob o := h.ext0 e.toExt0
theorem REnv.ext0 {env : Env} {σ : L2.St} (e : Ext0 m H m' H') (h : REnv T m H env σ) : REnv T m' H' env σ :=
  ⟨h.len, fun i d q => let ⟨v, h1, h2⟩ := h.at_ i d q; ⟨v, h1, RD.ext0 e d v h2⟩⟩
theorem REnv.ext {env : Env} {σ : L2.St} (e : Ext m H m' H') (h : REnv T m H env σ) : REnv T m' H' env σ := h.ext0 e.toExt0
theorem RDs.length : ∀ {ds : List D} {vs : List V}, RDs T m H ds vs → vs.length = ds.length
  | [], vs, h => by
    have h : vs = [] := h
    rw [h]
    rfl
  | d :: ds, vs, h => by
    obtain ⟨v, r, h1, _, h3⟩ := h
    rw [h1, List.length_cons, List.length_cons, RDs.length h3]
theorem RDs.append : ∀ {ds es : List D} {vs ws : List V}, RDs T m H ds vs → RDs T m H es ws → RDs T m H (ds ++ es) (vs ++ ws)
  | [], es, vs, ws, h, k => by
    have h : vs = [] := h
    rw [h]
    exact k
  | d :: ds, es, vs, ws, h, k => by
    obtain ⟨v, r, h1, h2, h3⟩ := h
    rw [h1]
    exact ⟨v, r ++ ws, rfl, h2, RDs.append h3 k⟩
theorem RDs.one {d : D} {v : V} (h : RD T m H d v) : RDs T m H [d] [v] := ⟨v, [], rfl, h, rfl⟩
theorem RDs.get : ∀ {ds : List D} {vs : List V} {i : Nat} {d : D}, RDs T m H ds vs → ds[i]? = some d → ∃ v, vs[i]? = some v ∧ RD T m H d v
  | [], vs, i, d, h, k => by simp at k
  | d :: ds, vs, 0, e, h, k => by
    obtain ⟨v, r, h1, h2, h3⟩ := h
    simp at k
    subst k
    exact ⟨v, by rw [h1]; rfl, h2⟩
  | d :: ds, vs, i + 1, e, h, k => by
    obtain ⟨v, r, h1, h2, h3⟩ := h
    obtain ⟨w, h4, h5⟩ := RDs.get (i := i) h3 (by simpa using k)
    exact ⟨w, by rw [h1]; simpa using h4, h5⟩
theorem RDs.drop : ∀ {ds : List D} {vs : List V} (n : Nat), RDs T m H ds vs → RDs T m H (ds.drop n) (vs.drop n)
  | ds, vs, 0, h => h
  | [], vs, n + 1, h => by
    have h : vs = [] := h
    rw [h]
    exact rfl
  | d :: ds, vs, n + 1, h => by
    obtain ⟨v, r, h1, h2, h3⟩ := h
    rw [h1]
    exact RDs.drop n h3
theorem RDs.take : ∀ {ds : List D} {vs : List V} (n : Nat), RDs T m H ds vs → RDs T m H (ds.take n) (vs.take n)
  | ds, vs, 0, h => rfl
  | [], vs, n + 1, h => by
    have h : vs = [] := h
    rw [h]
    exact rfl
  | d :: ds, vs, n + 1, h => by
    obtain ⟨v, r, h1, h2, h3⟩ := h
    rw [h1]
    exact ⟨v, r.take n, rfl, h2, RDs.take n h3⟩
theorem RDs.reverse : ∀ {ds : List D} {vs : List V}, RDs T m H ds vs → RDs T m H ds.reverse vs.reverse
  | [], vs, h => by
    have h : vs = [] := h
    rw [h]
    exact rfl
  | d :: ds, vs, h => by
    obtain ⟨v, r, h1, h2, h3⟩ := h
    rw [h1, List.reverse_cons, List.reverse_cons]
    exact (RDs.reverse h3).append (RDs.one h2)
theorem RDs.rep {ds : List D} {vs : List V} (h : RDs T m H ds vs) : ∀ k : Nat, RDs T m H (List.replicate k ds).flatten (List.replicate k vs).flatten
  | 0 => rfl
  | k + 1 => by
    rw [List.replicate_succ, List.replicate_succ, List.flatten_cons, List.flatten_cons]
    exact h.append (RDs.rep h k)
theorem RDs.set : ∀ {ds : List D} {vs : List V} {d : D} {v : V} (i : Nat), RDs T m H ds vs → RD T m H d v → RDs T m H (ds.set i d) (vs.set i v)
  | [], vs, d, v, i, h, k => by
    have h : vs = [] := h
    rw [h]
    exact rfl
  | e :: ds, vs, d, v, 0, h, k => by
    obtain ⟨w, r, h1, h2, h3⟩ := h
    rw [h1]
    exact ⟨v, r, rfl, k, h3⟩
  | e :: ds, vs, d, v, i + 1, h, k => by
    obtain ⟨w, r, h1, h2, h3⟩ := h
    rw [h1]
    exact ⟨w, r.set i v, rfl, h2, RDs.set i h3 k⟩

theorem RKs.at_ {k : Key} {d : D} : ∀ {ds : List (D × D)} {vs : List (Key × V)}, RKs T m H ds vs → dAt ds k = some d → ∃ v, valV vs k = some v ∧ RD T m H d v
  | [], vs, h, q => by cases q
  | x :: xs, vs, h, q => by
    obtain ⟨k', v, r, rfl, h2, h3, h4⟩ := h
    by_cases e : k' = k
    · have q1 : dAt (x :: xs) k = some x.2 := by
        unfold dAt
        rw [List.find?_cons_of_pos (by rw [h2, e]; simp)]
        rfl
      rw [q1] at q
      cases q
      exact ⟨v, valV_pos e, h3⟩
    · have q1 : dAt (x :: xs) k = dAt xs k := by
        unfold dAt
        rw [List.find?_cons_of_neg (by rw [h2]; simpa using e)]
      rw [q1] at q
      obtain ⟨w, h5, h6⟩ := RKs.at_ h4 q
      exact ⟨w, by rw [valV_neg e]; exact h5, h6⟩
theorem RKs.any_ {k : Key} : ∀ {ds : List (D × D)} {vs : List (Key × V)}, RKs T m H ds vs → (ds.any fun p => decide (kD p.1 = some k)) = (vs.any fun kv => decide (kv.1 = k))
  | [], vs, h => by
    have h : vs = [] := h
    rw [h]
    rfl
  | x :: xs, vs, h => by
    obtain ⟨k', v, r, rfl, h2, h3, h4⟩ := h
    rw [List.any_cons, List.any_cons, RKs.any_ h4, h2]
    simp
theorem RKs.rep {k : Key} {d : D} {v : V} (hv : RD T m H d v) : ∀ {ds : List (D × D)} {vs : List (Key × V)}, RKs T m H ds vs → RKs T m H (ds.map fun p => if kD p.1 = some k then (p.1, d) else p) (vs.map fun kv => if kv.1 = k then (kv.1, v) else kv)
  | [], vs, h => by
    have h : vs = [] := h
    rw [h]
    exact rfl
  | x :: xs, vs, h => by
    obtain ⟨k', w, r, rfl, h2, h3, h4⟩ := h
    rw [List.map_cons, List.map_cons]
    by_cases e : k' = k
    · rw [if_pos e, if_pos (by rw [h2, e])]
      exact ⟨k', v, _, rfl, h2, hv, RKs.rep hv h4⟩
    · rw [if_neg e, if_neg (by rw [h2]; simpa using e)]
      exact ⟨k', w, _, rfl, h2, h3, RKs.rep hv h4⟩
theorem RKs.snoc {i d : D} {k : Key} {v : V} (hi : kD i = some k) (hv : RD T m H d v) : ∀ {ds : List (D × D)} {vs : List (Key × V)}, RKs T m H ds vs → RKs T m H (ds ++ [(i, d)]) (vs ++ [(k, v)])
  | [], vs, h => by
    have h : vs = [] := h
    rw [h]
    exact ⟨k, v, [], rfl, hi, hv, rfl⟩
  | x :: xs, vs, h => by
    obtain ⟨k', w, r, rfl, h2, h3, h4⟩ := h
    exact ⟨k', w, r ++ [(k, v)], rfl, h2, h3, RKs.snoc hi hv h4⟩
theorem RKs.put {i d : D} {k : Key} {v : V} (hi : kD i = some k) (hv : RD T m H d v) {ds : List (D × D)} {vs : List (Key × V)} (h : RKs T m H ds vs) : RKs T m H (dPut ds i k d) (putK vs k v) := by
  unfold dPut putK
  rw [h.any_]
  split
  · exact h.rep hv
  · exact h.snoc hi hv
theorem RKs.length : ∀ {ds : List (D × D)} {vs : List (Key × V)}, RKs T m H ds vs → vs.length = ds.length
  | [], vs, h => by
    have h : vs = [] := h
    rw [h]
    rfl
  | x :: xs, vs, h => by
    obtain ⟨k', w, r, rfl, h2, h3, h4⟩ := h
    rw [List.length_cons, List.length_cons, RKs.length h4]
theorem rd_key {d : D} {k : Key} {v : V} (hk : kD d = some k) (h : RD T m H d v) : v = kV k := by
  cases d with
  | int i => cases hk; exact h
  | str x => cases hk; exact h
  | _ => cases hk

/-! ### tables stay -/
theorem tabS_keep {H H' : Hp} {P : Addr} {q : Str} (t : LamX.TabS H P q) (h1 : ∀ p ps, H p = some (.tbl ps) → H' p = some (.tbl ps)) (h2 : ∀ p φ, H p = some (.ext φ) → H' p = some (.ext φ)) : LamX.TabS H' P q := by
  obtain ⟨ps, a1, a2, a3⟩ := t
  refine ⟨ps, h1 _ _ a1, a2, fun pos cv hc => ?_⟩
  obtain ⟨c, b1, b2⟩ := a3 pos cv hc
  exact ⟨c, b1, h2 _ _ b2⟩
theorem tabs_keep {H H' : Hp} {l : List (Addr × Str)} (t : LamX.Tabs l H) (h1 : ∀ p ps, H p = some (.tbl ps) → H' p = some (.tbl ps)) (h2 : ∀ p φ, H p = some (.ext φ) → H' p = some (.ext φ)) : LamX.Tabs l H' := fun p hp => tabS_keep (t p hp) h1 h2
theorem tabs_new {H : Hp} {l : List (Addr × Str)} {p : Addr} {o : HO} (hp : H p = none) (t : LamX.Tabs l H) : LamX.Tabs l (upd H p o) :=
  tabs_keep t (fun q ps h => by rw [upd_ne (ne_of_none h hp)]; exact h) fun q ps h => by rw [upd_ne (ne_of_none h hp)]; exact h
/-! ### new things -/
theorem rdne {p q : Addr} {u : HO} (h : Rd H p u) (n : H q = none) : p ≠ q := by
  rintro rfl
  rcases h with h | ⟨o, h⟩ <;> rw [n] at h <;> cases h
theorem rdupd {p q : Addr} {u o : HO} (h : Rd H p u) (n : p ≠ q) : Rd (upd H q o) p u := by
  rcases h with h | ⟨ob, h⟩
  · exact .inl (by rw [upd_ne n]; exact h)
  · exact .inr ⟨ob, by rw [upd_ne n]; exact h⟩
theorem Ext0.new {p : Addr} {o : HO} (hp : H p = none) : Ext0 m H m (upd H p o) :=
  ⟨⟨[], by simp⟩, fun q vs h => rdupd h (rdne h hp), fun q vs h n => ⟨by rw [upd_ne (ne_of_none h hp)]; exact h, n⟩, fun q o u h => by rw [upd_ne (ne_of_none h hp)]; exact h, fun q φ h => by rw [upd_ne (ne_of_none h hp)]; exact h, rfl, tabs_new hp⟩
theorem RS.tracked {S : Store} (r : RS T m H S) {l : Nat} {p : Addr} (h : m.c[l]? = some p) : H p ≠ none := by
  have hl : l < S.length := by rw [r.len]; exact (List.getElem?_eq_some_iff.mp h).1
  obtain ⟨o, ho, _⟩ := r.at_ l S[l] p (List.getElem?_eq_getElem hl) h
  rw [ho]
  simp
theorem RS.notin {S : Store} (r : RS T m H S) {p : Addr} (h : H p = none) : ¬ m.has p := fun hm => by
  rcases hm with hm | hm
  · obtain ⟨l, hl, e⟩ := List.getElem_of_mem hm
    exact r.tracked (l := l) (p := p) (by rw [List.getElem?_eq_getElem hl, e]) h
  · exact (r.hid p hm).2 h
theorem Ext.new {S : Store} {p : Addr} {o : HO} (r : RS T m H S) (hp : H p = none) : Ext m H m (upd H p o) :=
  ⟨Ext0.new hp, rfl, fun q hq => upd_ne (by rintro rfl; exact r.notin hp (.inr hq))⟩
theorem RS.new {S : Store} {p : Addr} {o : HO} (r : RS T m H S) (hp : H p = none) : RS T m (upd H p o) S :=
  ⟨r.len, r.nd, fun q hq => ⟨(r.hid q hq).1, by
    rw [upd_ne (by rintro rfl; exact r.notin hp (.inr hq))]
    exact (r.hid q hq).2⟩, fun q hq => by
    rw [upd_ne (by rintro rfl; exact r.notin hp (.inr hq))]
    exact r.hnt q hq, r.tt, tabs_new hp r.tab, fun l ob q h1 h2 => by
    obtain ⟨u, h3, h4⟩ := r.at_ l ob q h1 h2
    refine ⟨u, ?_, h4.ext0 (Ext0.new hp)⟩
    rw [upd_ne (by rintro rfl; rw [hp] at h3; cases h3)]
    exact h3⟩
theorem Ext.cell {S : Store} {p : Addr} {o : HO} (r : RS T m H S) (hp : H p = none) : Ext m H (m.add p) (upd H p o) :=
  ⟨⟨⟨[p], rfl⟩, fun q vs h => rdupd h (rdne h hp), fun q vs h n => ⟨by rw [upd_ne (ne_of_none h hp)]; exact h, by
    rintro (z | z)
    · rcases List.mem_append.mp z with z | z
      · exact n (.inl z)
      · exact ne_of_none h hp (by simpa using z)
    · exact n (.inr z)⟩, fun q o u h => by rw [upd_ne (ne_of_none h hp)]; exact h, fun q φ h => by rw [upd_ne (ne_of_none h hp)]; exact h, rfl, tabs_new hp⟩, rfl, fun q hq => upd_ne (by rintro rfl; exact r.notin hp (.inr hq))⟩
theorem RS.cellO {S : Store} {p : Addr} {o : HO} {ob : Ob} (r : RS T m H S) (hp : H p = none) (h : RO T m H ob o) : RS T (m.add p) (upd H p o) (S ++ [ob]) := by
  have e := Ext.cell (o := o) r hp
  refine ⟨by simp [r.len, Mp.add], ?_, fun q hq => ⟨?_, ?_⟩, fun q hq => (by
    rw [upd_ne (by rintro rfl; exact r.notin hp (.inr hq))]
    exact r.hnt q hq), r.tt, tabs_new hp r.tab, fun l ob' q h1 h2 => ?_⟩
  · show (m.c ++ [p]).Nodup
    rw [List.nodup_append]
    refine ⟨r.nd, by simp, fun a ha b hb => ?_⟩
    have : b = p := by simpa using hb
    rintro rfl
    exact r.notin hp (.inl (this ▸ ha))
  · intro z
    rcases List.mem_append.mp z with z | z
    · exact (r.hid q hq).1 z
    · have : q = p := by simpa using z
      subst this
      exact r.notin hp (.inr hq)
  · rw [upd_ne (by rintro rfl; exact r.notin hp (.inr hq))]
    exact (r.hid q hq).2
  · have h2 : (m.c ++ [p])[l]? = some q := h2
    by_cases hl : l < m.c.length
    · rw [List.getElem?_append_left (by rw [r.len]; exact hl)] at h1
      rw [List.getElem?_append_left hl] at h2
      obtain ⟨u, h3, h4⟩ := r.at_ l ob' q h1 h2
      refine ⟨u, ?_, h4.ext e⟩
      rw [upd_ne (by rintro rfl; rw [hp] at h3; cases h3)]
      exact h3
    · have hl2 : l < (m.c ++ [p]).length := (List.getElem?_eq_some_iff.mp h2).1
      rw [List.length_append, List.length_singleton] at hl2
      have el : l = m.c.length := by omega
      subst el
      rw [List.getElem?_append_right (Nat.le_refl _)] at h2
      have eq : q = p := by simpa using h2.symm
      subst eq
      rw [List.getElem?_append_right (Nat.le_of_eq r.len), r.len] at h1
      have eo : ob' = ob := by simpa using h1.symm
      subst eo
      exact ⟨_, upd_same, h.ext e⟩
theorem RS.cell {S : Store} {p : Addr} {xs : List D} {vs : List V} (r : RS T m H S) (hp : H p = none) (h : RDs T m H xs vs) : RS T (m.add p) (upd H p (.lst vs)) (S ++ [.lst xs]) := r.cellO hp ⟨vs, rfl, h⟩
theorem RS.obj {S : Store} {l : Nat} {ob : Ob} (r : RS T m H S) (h : S[l]? = some ob) : ∃ p o, m.c[l]? = some p ∧ H p = some o ∧ RO T m H ob o := by
  have hl : l < m.c.length := by rw [← r.len]; exact (List.getElem?_eq_some_iff.mp h).1
  have hp : m.c[l]? = some m.c[l] := List.getElem?_eq_getElem hl
  obtain ⟨o, h1, h2⟩ := r.at_ l _ _ h hp
  exact ⟨_, o, hp, h1, h2⟩
theorem RS.lst {S : Store} {l : Nat} {xs : List D} (r : RS T m H S) (h : S[l]? = some (.lst xs)) : ∃ p vs, m.c[l]? = some p ∧ H p = some (.lst vs) ∧ RDs T m H xs vs := by
  obtain ⟨p, o, h1, h2, vs, h3, h4⟩ := r.obj h
  subst h3
  exact ⟨p, vs, h1, h2, h4⟩
theorem RS.dct {S : Store} {l : Nat} {kvs : List (D × D)} (r : RS T m H S) (h : S[l]? = some (.dct kvs)) : ∃ p vs, m.c[l]? = some p ∧ H p = some (.dK vs) ∧ RKs T m H kvs vs := by
  obtain ⟨p, o, h1, h2, vs, h3, h4⟩ := r.obj h
  subst h3
  exact ⟨p, vs, h1, h2, h4⟩
/-- what may be written -/
def Mu (u : HO) : Prop := (∀ vs, u ≠ .tup vs) ∧ (∀ o v, u ≠ .frz o v) ∧ (∀ φ, u ≠ .ext φ) ∧ ∀ ps, u ≠ .tbl ps
theorem Mu.lst {vs : List V} : Mu (.lst vs) := ⟨fun _ h => (by cases h), fun _ _ h => (by cases h), fun _ h => (by cases h), fun _ h => (by cases h)⟩
theorem Mu.dK {vs : List (Key × V)} : Mu (.dK vs) := ⟨fun _ h => (by cases h), fun _ _ h => (by cases h), fun _ h => (by cases h), fun _ h => (by cases h)⟩
theorem tabs_upd {H : Hp} {l : List (Addr × Str)} {p : Addr} {u o : HO} (hw : H p = some u) (mu : Mu u) (t : LamX.Tabs l H) : LamX.Tabs l (L2.upd H p o) :=
  tabs_keep t (fun q ps h => by rw [upd_ne (by rintro rfl; rw [hw] at h; cases h; exact mu.2.2.2 _ rfl)]; exact h) fun q φ h => by rw [upd_ne (by rintro rfl; rw [hw] at h; cases h; exact mu.2.2.1 _ rfl)]; exact h
theorem Ext0.upd {p : Addr} {u o : HO} (hp : m.has p) (hw : H p = some u) (mu : Mu u) : Ext0 m H m (L2.upd H p o) :=
  ⟨⟨[], by simp⟩, fun q vs h => rdupd h (by
      rintro rfl
      rcases h with h | ⟨_, h⟩ <;> rw [hw] at h <;> cases h
      · exact mu.1 _ rfl
      · exact mu.2.1 _ _ rfl), fun q vs h n => ⟨by rw [upd_ne (by rintro rfl; exact n hp)]; exact h, n⟩, fun q o u' h => by rw [upd_ne (by rintro rfl; rw [hw] at h; cases h; exact mu.2.1 _ _ rfl)]; exact h, fun q φ h => by rw [upd_ne (by rintro rfl; rw [hw] at h; cases h; exact mu.2.2.1 _ rfl)]; exact h, rfl, tabs_upd hw mu⟩
theorem Ext.upd {S : Store} {l : Nat} {p : Addr} {u o : HO} (r : RS T m H S) (hp : m.c[l]? = some p) (hw : H p = some u) (mu : Mu u) : Ext m H m (L2.upd H p o) :=
  ⟨Ext0.upd (.inl (List.mem_of_getElem? hp)) hw mu, rfl, fun q hq => upd_ne (by rintro rfl; exact (r.hid q hq).1 (List.mem_of_getElem? hp))⟩
theorem RS.updO {S : Store} {l : Nat} {p : Addr} {u o : HO} {ob : Ob} (r : RS T m H S) (hp : m.c[l]? = some p) (hw : H p = some u) (mu : Mu u) (h : RO T m H ob o) : RS T m (L2.upd H p o) (S.set l ob) := by
  have e := Ext.upd (o := o) r hp hw mu
  refine ⟨by rw [List.length_set]; exact r.len, r.nd, fun q hq => ⟨(r.hid q hq).1, ?_⟩, fun q hq => (by rw [e.hid q hq]; exact r.hnt q hq), r.tt, tabs_upd hw mu r.tab, fun j ob' q h1 h2 => ?_⟩
  · rw [e.hid q hq]
    exact (r.hid q hq).2
  by_cases hj : j = l
  · subst hj
    have eq : q = p := by rw [hp] at h2; exact (Option.some.inj h2).symm
    subst eq
    have hl : j < S.length := by rw [r.len]; exact (List.getElem?_eq_some_iff.mp hp).1
    rw [List.getElem?_set_self hl] at h1
    cases h1
    exact ⟨_, upd_same, h.ext e⟩
  · rw [List.getElem?_set_ne (Ne.symm hj)] at h1
    obtain ⟨u, h3, h4⟩ := r.at_ j ob' q h1 h2
    refine ⟨u, ?_, h4.ext e⟩
    rw [upd_ne]
    · exact h3
    · rintro rfl
      obtain ⟨hl, e1⟩ := List.getElem?_eq_some_iff.mp hp
      obtain ⟨hj', e2⟩ := List.getElem?_eq_some_iff.mp h2
      exact hj ((List.getElem_inj r.nd).mp (e2.trans e1.symm))
theorem RS.upd {S : Store} {l : Nat} {p : Addr} {xs : List D} {vs ws : List V} (r : RS T m H S) (hp : m.c[l]? = some p) (hw : H p = some (.lst ws)) (h : RDs T m H xs vs) : RS T m (L2.upd H p (.lst vs)) (S.set l (.lst xs)) := r.updO hp hw Mu.lst ⟨vs, rfl, h⟩

/-! ### a list under way: hidden -/
def Mp.hide (m : Mp) (p : Addr) : Mp := ⟨m.c, p :: m.h, m.t⟩
theorem Ext0.hide {p : Addr} {o : HO} (hp : H p = none) : Ext0 m H (m.hide p) (L2.upd H p o) :=
  ⟨⟨[], by simp [Mp.hide]⟩, fun q vs h => rdupd h (rdne h hp), fun q vs h n => ⟨by rw [upd_ne (ne_of_none h hp)]; exact h, by
    rintro (z | z)
    · exact n (.inl z)
    · rcases List.mem_cons.mp z with z | z
      · exact ne_of_none h hp z
      · exact n (.inr z)⟩, fun q o u h => by rw [upd_ne (ne_of_none h hp)]; exact h, fun q φ h => by rw [upd_ne (ne_of_none h hp)]; exact h, rfl, tabs_new hp⟩
theorem RS.ext0 {S : Store} (r : RS T m H S) (e : Ext0 m H m' H') (hc : m'.c = m.c) (hh : ∀ p ∈ m'.h, p ∉ m'.c ∧ H' p ≠ none) (hn : ∀ p ∈ m'.h, ∀ ps, H' p ≠ some (.tbl ps)) (ha : ∀ (l : Nat) p, m.c[l]? = some p → H' p = H p) : RS T m' H' S :=
  ⟨by rw [hc]; exact r.len, by rw [hc]; exact r.nd, hh, hn, e.tt.trans r.tt, e.tt.symm ▸ e.tab r.tab, fun l ob p h1 h2 => by
    rw [hc] at h2
    obtain ⟨o, h3, h4⟩ := r.at_ l ob p h1 h2
    exact ⟨o, by rw [ha l p h2]; exact h3, h4.ext0 e⟩⟩
theorem RS.hide {S : Store} {p : Addr} {o : HO} (r : RS T m H S) (hp : H p = none) (ho : ∀ ps, o ≠ .tbl ps) : RS T (m.hide p) (L2.upd H p o) S := by
  refine r.ext0 (Ext0.hide hp) rfl (fun q hq => ?_) (fun q hq => ?_) fun l q h => upd_ne (by rintro rfl; exact r.tracked h hp)
  · have hq2 : q = p ∨ q ∈ m.h := List.mem_cons.mp hq
    clear hq
    rcases hq2 with rfl | hq2
    · exact ⟨fun z => r.notin hp (.inl z), by rw [upd_same]; simp⟩
    · have hne : q ≠ p := by rintro rfl; exact r.notin hp (.inr hq2)
      exact ⟨(r.hid q hq2).1, by rw [upd_ne hne]; exact (r.hid q hq2).2⟩
  · have hq2 : q = p ∨ q ∈ m.h := List.mem_cons.mp hq
    clear hq
    rcases hq2 with rfl | hq2
    · rw [upd_same]
      exact fun ps z => ho ps (Option.some.inj z)
    · have hne : q ≠ p := by rintro rfl; exact r.notin hp (.inr hq2)
      rw [upd_ne hne]
      exact r.hnt q hq2
/-- the hidden list is written -/
theorem RS.updh {S : Store} {p : Addr} {o : HO} (r : RS T m H S) (hp : p ∈ m.h) (ho : ∀ ps, o ≠ .tbl ps) (e : Ext0 m H m (L2.upd H p o)) : RS T m (L2.upd H p o) S := by
  refine r.ext0 e rfl (fun q hq => ⟨(r.hid q hq).1, ?_⟩) (fun q hq => ?_) fun l q h => upd_ne (by rintro rfl; exact (r.hid q hp).1 (List.mem_of_getElem? h))
  · by_cases hqp : q = p
    · rw [hqp, upd_same]
      simp
    · rw [upd_ne hqp]
      exact (r.hid q hq).2
  · by_cases hqp : q = p
    · rw [hqp, upd_same]
      exact fun ps z => ho ps (Option.some.inj z)
    · rw [upd_ne hqp]
      exact r.hnt q hq
/-- the hidden list is shown -/
theorem Ext0.show_ {p : Addr} {hs : List Addr} (e : m.h = p :: hs) : Ext0 m H ⟨m.c, hs, m.t⟩ H :=
  ⟨⟨[], by simp⟩, fun _ _ h => h, fun q vs h n => ⟨h, by
    rintro (z | z)
    · exact n (.inl z)
    · exact n (.inr (by rw [e]; exact List.mem_cons_of_mem _ z))⟩, fun _ _ _ h => h, fun _ _ h => h, rfl, fun h => h⟩
theorem RS.show_ {S : Store} {p : Addr} {hs : List Addr} (r : RS T m H S) (e : m.h = p :: hs) : RS T ⟨m.c, hs, m.t⟩ H S :=
  r.ext0 (Ext0.show_ e) rfl (fun q hq => r.hid q (by rw [e]; exact List.mem_cons_of_mem _ hq)) (fun q hq => r.hnt q (by rw [e]; exact List.mem_cons_of_mem _ hq)) fun _ _ _ => rfl
end
end Ev


namespace Ev
open PySem PySem.Spec L2 PyProof.Rows

/-! ### the names of the table -/
structure Names where
  fns : List Str
  gls : List Str
  cls : List Str
  blt : List Str
  tld : Option (List Str)
structure Tb extends Ad where
  mg : Str → Option Value
  base : Heap
  G : Cfg
  nm : Names
  fd : Nat → FuncData
  ps : Nat → List Str

/-! ### room, contracts -/
structure Rm (k : Nat) (A : Around) : Prop where
  room : Room k A
  gd : A.guards = some []
theorem Rm.mono {j k : Nat} {A : Around} (r : Rm k A) (h : j ≤ k) : Rm j A := ⟨r.room.mono h, r.gd⟩
theorem Rm.deeper {k : Nat} {A : Around} (r : Rm (k + 1) A) (env : PySem.Env) : Rm k (A.deeper env) := ⟨r.room.deeper env, r.gd⟩
structure FnG (P : Program) (w : World) (K : PySem.W.Frag) (mg : Str → Option Value) (base : Heap) (CX : CXT) (k : Nat) (f : Addr) (fd : FuncData) (ps : List Str) (sp : Sp) : Prop where
  len : ∀ vs H Q E, sp vs H Q E → vs.length = ps.length
  run : ∀ (A : Around) (outer : List PySem.Env) (s : Shared) (H : Hp) (args : Args) (us : List Value) (vs : List V) (Q : VK) (E : XK), Rm k A → Env0 P w K mg base A outer s H → BindsTo s fd args (ps.zip us) → Vals vs us → sp vs H Q E →
    codeAny (model P w) A (.call (.ref f) args) (CR CX outer P w H s Q E) s
theorem fnG_of {CX : CXT} {P : Program} {w : World} {K : PySem.W.Frag} {mg : Str → Option Value} {base : Heap} {k : Nat} {f : Addr} {name qual : Str} {params : Arguments} {body : List Stmt} {scope : Scope} {dV kV doc pm cdv ct oc : Value} {an od : Option Addr}
    {osl : Array (Option Value)} {N ps : List Str} {sp : Sp} (lk : K.lookup f = some ⟨oc, od, .func (PySem.W.fnOf name qual params body scope dV kV doc pm an cdv ct), osl⟩) (hcd : PySem.W.codeIn K cdv qual = true) (S : FnScope N ps scope)
    (len : ∀ vs H Q E, sp vs H Q E → vs.length = ps.length)
    (hbody : ∀ (A : Around) (outer : List PySem.Env) (s : Shared) (H : Hp) (vs : List V) (Q : VK) (E : XK), Rm k (A.deeper (envOfC qual scope s.heap.objs.size f cdv)) → sp vs H Q E →
      ∃ t, PSs (cxOf CX P w K mg base N qual scope f cdv A outer s H E) body t ∧ t { nx := fun _ H' => Q .non H', rt := Q } (start N vs) H) :
    FnG P w K mg base CX (k + 1) f (PySem.W.fnOf name qual params body scope dV kV doc pm an cdv ct) ps sp := by
  refine ⟨len, fun A outer s H args us vs Q E hr e0 hb r hsp => ?_⟩
  have hl := len _ _ _ _ hsp
  have KX : K.In s.heap := e0.mod.kin.keeps fun b o e => (e0.bs b o e).1
  have lim : s.heap.NoLimit := e0.mod.nolimit.keeps fun b o e => (e0.bs b o e).1
  have hkind : ∀ y ∈ ps.zip us, scope.names.lookup y.1 = some .local ∨ (scope.names.lookup y.1 = some .cell ∧ ((cellsFrom (s.heap.objs.size + 1) scope.names []).lookup y.1).isSome = true) := fun ⟨n, v⟩ hy => by
    rcases S.par n (List.of_mem_zip hy).1 with q | q
    · exact .inl q
    · exact .inr ⟨q, PySem.W.cellsFrom_some _ _ _ (.inl q)⟩
  refine codeAny_call_function hr.room.depth (KX _ _ lk) rfl S.co S.gen rfl (PySem.W.codeRec_of KX hcd) (hb _ _ _ _ ?_)
  refine wpAny_newFunctionEnv_cells S.kind hkind fun env he s1 x => ?_
  subst he
  refine ⟨lim.keeps x.toInCall.keep, codeAny_func ?_⟩
  obtain ⟨t, ht, hq⟩ := hbody A outer s H vs Q E (hr.deeper _) hsp
  have I : Inv (cxOf CX P w K mg base N qual scope f cdv A outer s H E) [] (start N vs) H s1 := inv_start S hr.room.hd e0 hl r x
  refine wpAny_mono (ht.run [] s1 (start N vs) H _ I hq) (fun fl s' hs => ?_) fun e s' hs => hs
  have fin : ∀ {σ' : L2.St} {H' : Hp} {v : V} {u : Value}, Inv (cxOf CX P w K mg base N qual scope f cdv A outer s H E) [] σ' H' s' → RelV v u → Q v H' → CE outer P w H s Q u s' :=
    fun {σ' H' v u} J rv q => ⟨v, H', J.os, J.bare, J.base, J.hok, rv, q⟩
  cases fl with
  | ret u =>
    obtain ⟨v, σ', H', J, rv, q⟩ := hs
    exact fin J rv q
  | next =>
    obtain ⟨σ', H', J, q⟩ := hs
    exact fin (v := V.non) (u := Value.none) J rfl q
  | brk =>
    obtain ⟨_, _, _, q⟩ := hs
    exact False.elim q
  | cont =>
    obtain ⟨_, _, _, q⟩ := hs
    exact False.elim q

/-! ### what is wanted of an end -/
section
variable (T : Ad)
/-- an evaluation's end, taken up by k -/
def PostK {α : Type} (r : R α) (m : Mp) (H : Hp) (σ : L2.St) (W : WX) (k : α → Store → Mp → Hp → Prop) : Prop :=
  match r with
  | .ok a S => ∀ m' H', Ext m H m' H' → RS T m' H' S → k a S m' H'
  | .exc x S => x.fs = [] ∧ ∀ m' H', Ext m H m' H' → RS T m' H' S → W (.ref (T.ca x.cls)) none σ H'
  | .stuck => False
def tE (W : WX) (f : Env → Store → R D) : TE := fun σ H Q => ∃ env m S, REnv T m H env σ ∧ RS T m H S ∧ PostK T (f env S) m H σ W fun d _ m' H' => ∀ v, RD T m' H' d v → Q v H'
def tA (W : WX) (f : Env → Store → R (List D)) : TA := fun σ H Q => ∃ env m S, REnv T m H env σ ∧ RS T m H S ∧ PostK T (f env S) m H σ W fun ds _ m' H' => ∀ vs, RDs T m' H' ds vs → Q vs H'
def tB (W : WX) (f : Env → Store → R Bool) : TT := fun σ H Q => ∃ env m S, REnv T m H env σ ∧ RS T m H S ∧ PostK T (f env S) m H σ W fun b _ _ H' => Q b H'
def PostS (r : SR) (m : Mp) (H : Hp) (W : WX) (D : Ends) : Prop :=
  match r with
  | .nx env S => ∀ m' H' σ, Ext m H m' H' → RS T m' H' S → REnv T m' H' env σ → D.nx σ H'
  | .bk env S => ∀ m' H' σ, Ext m H m' H' → RS T m' H' S → REnv T m' H' env σ → D.bk σ H'
  | .ct env S => ∀ m' H' σ, Ext m H m' H' → RS T m' H' S → REnv T m' H' env σ → D.ct σ H'
  | .rt d S => ∀ m' H' v, Ext m H m' H' → RS T m' H' S → RD T m' H' d v → D.rt v H'
  | .exc x env S => x.fs = [] ∧ ∀ m' H' σ, Ext m H m' H' → RS T m' H' S → REnv T m' H' env σ → W (.ref (T.ca x.cls)) none σ H'
  | .stuck => False
def tS (W : WX) (f : Env → Store → SR) : TS := fun D σ H => ∃ env m S, REnv T m H env σ ∧ RS T m H S ∧ PostS T (f env S) m H W D
def PostF (r : R D) (m : Mp) (H : Hp) (Q : VK) (E : XK) : Prop :=
  match r with
  | .ok d S => ∀ v m' H', Ext m H m' H' → RS T m' H' S → RD T m' H' d v → Q v H'
  | .exc x S => x.fs = [] ∧ ∀ m' H', Ext m H m' H' → RS T m' H' S → E (.ref (T.ca x.cls)) none H'
  | .stuck => False
/-- the contract of a call -/
def spC (c : List D → Store → R D) (np : Nat) : Sp := fun vs H Q E => vs.length = np ∧ ∃ m ds S, RS T m H S ∧ RDs T m H ds vs ∧ PostF T (c ds S) m H Q E
end
section
variable {T : Ad} {m : Mp} {H : Hp} {σ : L2.St} {W : WX}
theorem PostK.bind {α β : Type} {r : R α} {g : α → Store → R β} {k : β → Store → Mp → Hp → Prop} (h : PostK T (r.bind g) m H σ W k) :
    PostK T r m H σ W fun a S m1 H1 => PostK T (g a S) m1 H1 σ W k := by
  cases r with
  | ok a S =>
    intro m1 H1 e1 r1
    have h : PostK T (g a S) m H σ W k := h
    show PostK T (g a S) m1 H1 σ W k
    generalize g a S = q at h ⊢
    cases q with
    | ok b S2 => exact fun m2 H2 e2 r2 => h m2 H2 (e1.trans e2) r2
    | exc x S2 => exact ⟨h.1, fun m2 H2 e2 r2 => h.2 m2 H2 (e1.trans e2) r2⟩
    | stuck => exact h
  | exc x S => exact h
  | stuck => exact h
theorem PostK.imp {α : Type} {r : R α} {k k' : α → Store → Mp → Hp → Prop} (h : PostK T r m H σ W k) (f : ∀ a S m' H', r = .ok a S → Ext m H m' H' → RS T m' H' S → k a S m' H' → k' a S m' H') : PostK T r m H σ W k' := by
  cases r with
  | ok a S => exact fun m1 H1 e1 r1 => f a S m1 H1 rfl e1 r1 (h m1 H1 e1 r1)
  | exc x S => exact h
  | stuck => exact h
theorem PostK.ext {α : Type} {r : R α} {k : α → Store → Mp → Hp → Prop} {m' : Mp} {H' : Hp} (h : PostK T r m H σ W k) (e : Ext m H m' H') : PostK T r m' H' σ W k := by
  cases r with
  | ok a S => exact fun m1 H1 e1 r1 => h m1 H1 (e.trans e1) r1
  | exc x S => exact ⟨h.1, fun m1 H1 e1 r1 => h.2 m1 H1 (e.trans e1) r1⟩
  | stuck => exact h
theorem PostS.ext {r : SR} {m' : Mp} {H' : Hp} {D : Ends} (h : PostS T r m H W D) (e : Ext m H m' H') : PostS T r m' H' W D := by
  cases r with
  | nx env S => exact fun m1 H1 σ e1 => h m1 H1 σ (e.trans e1)
  | bk env S => exact fun m1 H1 σ e1 => h m1 H1 σ (e.trans e1)
  | ct env S => exact fun m1 H1 σ e1 => h m1 H1 σ (e.trans e1)
  | rt d S => exact fun m1 H1 v e1 => h m1 H1 v (e.trans e1)
  | exc x env S => exact ⟨h.1, fun m1 H1 σ e1 => h.2 m1 H1 σ (e.trans e1)⟩
  | stuck => exact h
/-- an expression's end within a statement -/
theorem PostK.st {α : Type} {r : R α} {env : Env} {g : α → Store → SR} {D : Ends} (he : REnv T m H env σ) (h : PostS T (r.st env g) m H W D) : PostK T r m H σ W fun a S m1 H1 => PostS T (g a S) m1 H1 W D := by
  cases r with
  | ok a S => exact fun m1 H1 e1 r1 => PostS.ext (r := g a S) h e1
  | exc x S => exact ⟨h.1, fun m1 H1 e1 r1 => h.2 m1 H1 σ e1 r1 (he.ext e1)⟩
  | stuck => exact h
end
section
variable {X : Cx} {e : Expr} {es : List Expr} {st : Stmt} {sts : List Stmt} {c : Expr}
theorem peImp {t t' : TE} (p : PE X e t) (h : ∀ σ H Q, t' σ H Q → t σ H Q) : PE X e t' := ⟨fun pins s σ H Q I q => p.run pins s σ H Q I (h σ H Q q)⟩
theorem ptImp {t t' : TT} (p : PT X e t) (h : ∀ σ H Q, t' σ H Q → t σ H Q) : PT X e t' := ⟨fun pins s σ H Q I q => p.run pins s σ H Q I (h σ H Q q)⟩
theorem paImp {t t' : TA} (p : PA X es t) (h : ∀ σ H Q, t' σ H Q → t σ H Q) : PA X es t' := ⟨fun pos pins s σ H Q I q => p.run pos pins s σ H Q I (h σ H Q q)⟩
theorem psImp {t t' : TS} (p : PS X st t) (h : ∀ D σ H, t' D σ H → t D σ H) : PS X st t' := ⟨fun pins s σ H D I q => p.run pins s σ H D I (h D σ H q)⟩
theorem pssImp {t t' : TS} (p : PSs X sts t) (h : ∀ D σ H, t' D σ H → t D σ H) : PSs X sts t' := ⟨fun pins s σ H D I q => p.run pins s σ H D I (h D σ H q)⟩
end

/-! ### the context of a body -/
/-- of a def that makes lambdas -/
structure LamF (T : Tb) (n : Nat) (X : Cx) : Prop where
  rm : Rm (n + 2) X.A
  cd : ∃ c P : Addr, X.env.code = .ref c ∧ LamX.TabB X.base X.mg c P ∧ (P, X.env.qual ++ "<lambda>") ∈ T.tb ∧ ∀ p ∈ T.tb, p.1 = P → p.2 = X.env.qual ++ "<lambda>"
/-- what is known of the def that tells -/
def ToldF (T : Tb) : Prop := ∃ (R c0 c1 c2 c3 g : Addr) (oc : Value) (od : Option Addr) (pg : Arguments) (dV kV doc pm : Value) (an : Option Addr) (cdv ct : Value) (osl : Array (Option Value)) (q : Nat → Pos),
  T.mg "_law_said" = some (.ref g) ∧ PySem.W.keepIn T.K (.ref g) = true ∧ T.K.lookup g = some ⟨oc, od, .func (PySem.W.fnOf "_law_said" "_law_said" pg (saidB q) saidSc dV kV doc pm an cdv ct), osl⟩ ∧ PySem.W.codeIn T.K cdv "_law_said" = true ∧
  Binds T.K (PySem.W.fnOf "_law_said" "_law_said" pg (saidB q) saidSc dV kV doc pm an cdv ct) ["_law_ask"] [] ∧ T.mg "RanError" = some (.ref R) ∧ T.mg "NoCondition" = some (.ref c0) ∧ T.mg "NoValues" = some (.ref c1) ∧ T.mg "NoThrough" = some (.ref c2) ∧ T.mg "NoNumber" = some (.ref c3) ∧
  T.mg "isinstance" = none ∧ T.mg "zip" = none ∧ ∀ c b, saidOf c = some b → SaidC T.K R c0 c1 c2 c3 (T.ca c) b.1 b.2.1 b.2.2.1 b.2.2.2
structure Good (T : Tb) (n : Nat) (N : List Str) (sc so : Scope) (X : Cx) (W : WX) : Prop where
  hK : X.K = T.K
  hmg : X.mg = T.mg
  hP : X.prog = T.P
  hw : X.w = T.w
  hb : X.base = T.base
  hN : X.N = N
  nd : X.N.Nodup
  scp : X.env.scope = sc
  calm : X.calm = true
  rm : Rm n X.A
  tk : L2N.Takes X W
  po : PassesOwn (model X.prog X.w) X.A X.env X.xe
  lam : T.nm.tld = some N → LamF T n X
  st : ∀ x, (so.names.lookup x = some .local ∨ so.names.lookup x = some .cell) → Loc X.env.scope x ∧ (X.fn x = true ∨ X.env.scope.names.lookup x = some .local)
/-- the table's facts, calls at level n -/
structure TbOk (T : Tb) (n : Nat) (call : Call) : Prop where
  fn : ∀ (k : Nat) (x : Str), T.nm.fns[k]? = some x → T.mg x = some (.ref (T.fa k)) ∧ PySem.W.keepIn T.K (.ref (T.fa k)) = true ∧ Binds T.K (T.fd k) (T.ps k) [] ∧
    FnG T.P T.w T.K T.mg T.base (L2N.CX T.P T.w) n (T.fa k) (T.fd k) (T.ps k) (spC T.toAd (call k) (T.ps k).length) ∧ ∀ ds S, call k ds S ≠ .stuck → ds.length = (T.ps k).length
  bl : ∀ x ∈ T.nm.blt, T.mg x = none
  gl : ∀ (k : Nat) (x : Str) (d : D), T.nm.gls[k]? = some x → T.G.glbs[k]? = some d → ∃ v u, T.mg x = some u ∧ RelV v u ∧ ∀ m H, RD T.toAd m H d v
  cl : ∀ (k : Nat) (x : Str), T.nm.cls[k]? = some x → T.mg x = some (.ref (T.ca k)) ∧ PySem.W.keepIn T.K (.ref (T.ca k)) = true ∧
    PySem.W.excIn T.K (T.ca k) [.type "ValueError", .type "Exception", .type "BaseException", .type "object"] "ValueError.__new__" = true ∧
    PySem.W.subIn T.K (.ref (T.ca k)) (.type "BaseException") = some true ∧ PySem.W.typeIn T.K (.ref (T.ca k)) = some (.type "type")
  td : T.nm.tld ≠ none → ToldF T
def isVis (sc : Scope) (x : Str) : Bool := match sc.names.lookup x with
  | some .local => true
  | some .cell => true
  | some .free => true
  | _ => false
theorem isVis_of {sc : Scope} {x : Str} (h : isVis sc x = true) : Vis sc x := by
  unfold isVis at h
  unfold Vis
  split at h <;> simp_all
def isGl (sc : Scope) (x : Str) : Bool := decide (sc.names.lookup x = some .globalImplicit)
def noDbg (x : Str) : Bool := !(x == ("__debug__" : Str)) && !(x == ("__classdict__" : Str)) && !decide (x = ("__name__" : Str))
theorem noDbg_1 {x : Str} (h : noDbg x = true) : (x == ("__debug__" : Str)) = false := by
  unfold noDbg at h
  simp only [Bool.and_eq_true, Bool.not_eq_true'] at h
  exact h.1.1
theorem noDbg_2 {x : Str} (h : noDbg x = true) : (x == ("__classdict__" : Str)) = false := by
  unfold noDbg at h
  simp only [Bool.and_eq_true, Bool.not_eq_true'] at h
  exact h.1.2
theorem noDbg_3 {x : Str} (h : noDbg x = true) : x ≠ ("__name__" : Str) := by
  unfold noDbg at h
  simp only [Bool.and_eq_true, Bool.not_eq_true', decide_eq_false_iff_not] at h
  exact h.2
theorem gl_of {T : Tb} {n : Nat} {N : List Str} {sc so : Scope} {X : Cx} {W : WX} (g : Good T n N sc so X W) {x : Str} (h : isGl sc x = true) : Gl X x := by
  unfold isGl at h
  show X.env.scope.names.lookup x = _
  rw [g.scp]
  exact of_decide_eq_true h
end Ev


namespace Ev
open PySem PySem.Spec L2 PyProof.Rows LamX
/-! ### a lambda handed to a def, exceptions with their context None -/
abbrev lamCxN (X : Cx) (A : Around) (outer : List PySem.Env) (s : Shared) (H : Hp) (E : XK) (scope : Scope) (f c' : Addr) : Cx :=
  (lamCx X A outer s H E scope f c').tr [] fun e s' => wpAny (model X.prog X.w) (A.deeper (lamEnv X scope s.heap.objs.size f c')) (leaving (lamEnv X scope s.heap.objs.size f c') e) (fun _ s2 => L2N.CX X.prog X.w outer H s E e s2) (fun e' s2 => L2N.CX X.prog X.w outer H s E e' s2) s'
section
variable {X : Cx} {pins : List (Addr × Obj)} {σ : L2.St} {H : Hp} {s : Shared}
theorem pe_actN {CXg : CXT} {Eg : XK} {Ng : List Str} {qg : Str} {sg : Scope} {g f c' : Addr} {cdg pm ctv : Value} {params : Arguments} {body : Expr} {scope : Scope} {k : Nat} {a : Str} {pn : List (Addr × Obj)} {xe : Value → Shared → Prop} {W : WX} {E : XK} {tb : TE} {p1 p2 : Pos}
    (I : Inv X pins σ H s) (L : LamS X.env.scope scope) (hf : s.heap.get? f = some (PySem.W.kla_obj "<lambda>" (X.env.qual ++ "<lambda>") params body scope (cloFrom X.env.cells scope.names []) pm c' ctv)) (hfn : H f = none) (hfr : f ∉ frs X.stack)
    (hbind : bindArgs (PySem.W.kla_fn "<lambda>" (X.env.qual ++ "<lambda>") params body scope (cloFrom X.env.cells scope.names []) pm (.ref c') ctv) ⟨[], []⟩ = pure [])
    (tk : L2N.Takes ((cxOf CXg X.prog X.w X.K X.mg X.base Ng qg sg g cdg X.A X.stack s H Eg).tr pn xe) W) (hW : ∀ cls d σ' H', E cls d H' → W cls d σ' H') (hr : Rm (k + 1) (X.A.deeper (envOfC qg sg s.heap.objs.size g cdg)))
    (hbody : ∀ (A : Around) (outer : List PySem.Env) (s : Shared) (H : Hp), Rm k (A.deeper (lamEnv X scope s.heap.objs.size f c')) → PE (lamCxN X A outer s H E scope f c') body tb)
    (hN : Ng[0]? = some a) (hv : Vis sg a) (hd : (a == ("__debug__" : Str)) = false) (hcd : (a == ("__classdict__" : Str)) = false) :
    PE ((cxOf CXg X.prog X.w X.K X.mg X.base Ng qg sg g cdg X.A X.stack s H Eg).tr pn xe) (.Call (.Name a p1) [] [] p2) (fun σZ HZ Q => σZ[0]? = some (some (.ref f)) ∧ HZ c' = some (CodeO c' (X.env.qual ++ "<lambda>")) ∧ tb σ HZ Q) := by
  refine ⟨fun pinsZ sZ σZ HZ Q IZ ⟨hs, hc, ht⟩ => wpAny_Call_Name_kw (thn ((pe_var (pos := p1) (i := 0) hN hv hd hcd).run pinsZ sZ σZ HZ (fun v H1 => v = .ref f ∧ H1 = HZ) IZ ⟨.ref f, hs, rfl, rfl⟩) fun u s1 ⟨v, H1, I1, r1, q1⟩ => ?_)⟩
  obtain ⟨rfl, rfl⟩ := q1
  cases (show u = Value.ref f from r1)
  have un : Un (frs X.stack) [] H H1 s.heap s1.heap := I1.base
  have of1 := un.keep f _ hf hfn hfr (by simp)
  refine PySem.W.callWith_F0 ⟨_, _, _, _, of1⟩ ?_
  obtain ⟨⟨oc, vs, t, hoc, hdc, hvc⟩, _, _⟩ := I1.hok c' _ hc
  have call_ : codeAny (model X.prog X.w) (X.A.deeper (envOfC qg sg s.heap.objs.size g cdg)) (.call (.ref f) ⟨[], []⟩) (CR (L2N.CX X.prog X.w) (envOfC qg sg s.heap.objs.size g cdg :: X.stack) X.prog X.w H1 s1 Q E) s1 := by
    refine PySem.W.kla_callFunE hr.room.depth of1 rfl L.co L.gen rfl ⟨c', oc, vs, t, rfl, hoc, hdc, hvc⟩ ?_
    rw [hbind]
    refine wpAny_pure (wpAny_newFunctionEnv (fun y hy => (L.own y hy).2) (fun y hy => absurd hy (by simp)) (fun h₁ hns hsb => ⟨I1.nolimit.fresh _ hsb, ?_⟩) L.kind)
    show codeAny _ _ (.expr body (lamEnv X scope s1.heap.objs.size f c')) _ _
    have kp : ∀ b o, s1.heap.get? b = some o → h₁.get? b = some o := fun b o e => hsb.extBut b o (Nat.ne_of_lt (Heap.lt_size e)) (Heap.get?_push_of_some _ e)
    have J := lam_start2 (E := E) (f := f) (c' := c') (tk := s1.toks + ([] : List (Str × Value)).length) I L I1.env0 hr.room.hd un hns kp
    refine PySem.W.kla_codeExpr (wpAny_mono ((hbody _ _ s1 H1 (hr.deeper _)).run [] _ _ H1 Q (J.toTry _) ht) (fun v s' ⟨w', H', J', rv, q⟩ => ⟨w', H', J'.os, J'.bare, J'.base, J'.hok, rv, q⟩) fun e s' hq => hq)
  refine wpAny_call (codeAny_mono call_ fun r s' hq => ?_)
  match r, hq with
  | .error e, hq => exact L2N.passes_call tk hW pinsZ σZ H1 s1 e s' I1 hq
  | .ok (.ret u), hq => exact I1.after hq
  | .ok .next, hq => exact hq.elim
  | .ok .brk, hq => exact hq.elim
  | .ok .cont, hq => exact hq.elim
abbrev toldCx (X : Cx) (Ng : List Str) (x : Str) (sg : Scope) (g : Addr) (cdg : Value) (s : Shared) (H : Hp) : Cx := cxOf C8.CX0 X.prog X.w X.K X.mg X.base Ng x sg g cdg X.A X.stack s H C8.E0
/-- a def that calls what it got -/
def GivesN (X : Cx) (Ng : List Str) (x : Str) (sg : Scope) (g : Addr) (cdg : Value) (bg : List Stmt) (a : Str) (q : Str) (TT : (XK → Hp → VK → Prop) → Hp → VK → Prop) : Prop :=
  ∀ (f c' : Addr) (s : Shared) (H : Hp) (Q : VK) (tl : XK → Hp → VK → Prop),
    (∀ (W : WX) (pn : List (Addr × Obj)) (xe : Value → Shared → Prop) (E : XK) (p1 p2 : Pos), L2N.Takes ((toldCx X Ng x sg g cdg s H).tr pn xe) W → (∀ cls d σ' H', E cls d H' → W cls d σ' H') →
      PE ((toldCx X Ng x sg g cdg s H).tr pn xe) (.Call (.Name a p1) [] [] p2) (fun σZ HZ Q => σZ[0]? = some (some (.ref f)) ∧ HZ c' = some (CodeO c' q) ∧ tl E HZ Q)) →
    H c' = some (CodeO c' q) → TT tl H Q → ∃ t, PSs (toldCx X Ng x sg g cdg s H).nox bg t ∧ t { nx := fun _ H' => Q .non H', rt := Q } (L2.start Ng [.ref f]) H
/-- x(lambda: body) -/
theorem lamcallN {T : List (Addr × Str)} {TT : (XK → Hp → VK → Prop) → Hp → VK → Prop} {x a : Str} {g c P : Addr} {k : Nat} {pg : Arguments} {bg : List Stmt} {sg : Scope} {dV kV doc pm cdv ct oc : Value} {an od : Option Addr} {osl : Array (Option Value)} {Ng : List Str}
    {params : Arguments} {body : Expr} {scope : Scope} {t : XK → TE} {p lpos pos : Pos} (hg : Gl X x) (hm : X.mg x = some (.ref g)) (hk : PySem.W.keepIn X.K (.ref g) = true) (lk : X.K.lookup g = some ⟨oc, od, .func (PySem.W.fnOf x x pg bg sg dV kV doc pm an cdv ct), osl⟩)
    (hcg : PySem.W.codeIn X.K cdv x = true) (hb : Binds X.K (PySem.W.fnOf x x pg bg sg dV kV doc pm an cdv ct) [a] []) (Sg : FnScope Ng [a] sg) (hNg : Ng[0]? = some a) (hva : Vis sg a) (hG : GivesN X Ng x sg g cdv bg a (X.env.qual ++ "<lambda>") TT)
    (TB : TabB X.base X.mg c P) (hcode : X.env.code = .ref c) (hmT : (P, X.env.qual ++ "<lambda>") ∈ T) (hu : ∀ p ∈ T, p.1 = P → p.2 = X.env.qual ++ "<lambda>") (hr : Rm (k + 2) X.A) (L : LamS X.env.scope scope) (hdef : defaultsOf params X.env = ([], []))
    (hbind : ∀ (q : Str) (cl : List (Str × Addr)) (pm cv ctv : Value), bindArgs (PySem.W.kla_fn "<lambda>" q params body scope cl pm cv ctv) ⟨[], []⟩ = pure [])
    (hbody : ∀ (A : Around) (outer : List PySem.Env) (s : Shared) (H : Hp) (E : XK) (f c' : Addr), Rm k (A.deeper (lamEnv X scope s.heap.objs.size f c')) → PE (lamCxN X A outer s H E scope f c') body (t E))
    (hdb : (x == ("__debug__" : Str)) = false) (hd : (a == ("__debug__" : Str)) = false) (hcd : (a == ("__classdict__" : Str)) = false) : PE X (.Call (.Name x p) [.Lambda params body scope lpos] [] pos) (tLam T TT t) := by
  refine ⟨fun pins s σ H Q I ⟨hT, h⟩ => wpAny_Call_Name_kw (ld_glob I hg hm ?_ hdb)⟩
  refine PySem.W.callWith_K (h₀ := X.base) I.ok.mod.kin hk (show wpAny _ _ (spliced ((false, eval (.Lambda params body scope lpos) X.env) :: backTo pos (starEach [] X.env))) _ _ s from Calls.spliced_cons (lam_make2 I TB hcode hmT hu hT hdef (L.has I.ok) fun f c' pm' ctv H1 s' I1 eN T1 hf hfn hfr hco => Calls.spliced_nil ⟨I1.kIn, ?_⟩)) (by rfl) (by rfl)
  have call_ : codeAny (model X.prog X.w) X.A (.call (.ref g) ⟨[.ref f], []⟩) (CR C8.CX0 X.stack X.prog X.w H1 s' Q C8.E0) s' := by
    refine run_ofS (N := Ng) (ps := [a]) (us := [.ref f]) (vs := [.ref f]) lk hcg Sg hr.room I1.env0 (hb s' [.ref f] I1.kIn rfl) (.cons rfl .nil) rfl fun hr' => ?_
    obtain ⟨t', ht', hq'⟩ := hG f c' s' H1 Q (fun E H' Q' => t E σ H' Q') (fun W pn xe E p1 p2 tk hW => pe_actN I1 L hf hfn hfr (hbind _ _ _ _ _) tk hW ⟨hr', hr.gd⟩ (fun A outer s H hr2 => hbody A outer s H E f c' hr2) hNg hva hd hcd) hco (h H1 eN T1)
    exact ⟨t', ht'.nox, hq'⟩
  refine wpAny_call (codeAny_mono call_ fun r s2 hq => ?_)
  match r, hq with
  | .error e, hq => exact (show False from hq).elim
  | .ok (.ret u), hq => exact I1.after hq
  | .ok .next, hq => exact hq.elim
  | .ok .brk, hq => exact hq.elim
  | .ok .cont, hq => exact hq.elim
end
end Ev


namespace Ev
open PySem PySem.Spec L2 PyProof.Rows
/-! ### a tuple once: itself -/
theorem tuple_mul1 (l : Addr) (items : Array Value) (n : Nat) (dd : Option Addr) (sl : Array (Option Value)) (u : Tok) :
    Meets (Builtin.«tuple.__mul__» ⟨[.ref l, .int 1 u], []⟩) (fun _ R s => s.heap.get? l = some { cls := .type "tuple", dict := dd, data := .seq items n, slots := sl } ∧ R (.ok (.ret (Value.ref l))) s) :=
  .of_wp fun prog w A R s h => by
    obtain ⟨hp, g, d, tk, os⟩ := s
    obtain ⟨hl, h⟩ := h
    have f1 := AutoSeq1.idx_int
    have c0 : (decide ((1 : Int) < -(2 ^ 63)) || decide ((1 : Int) ≥ 2 ^ 63)) = false := by decide
    have c1 : (items.isEmpty || (1 : Int) == 1) = true := by cases items.isEmpty <;> rfl
    wp_walk using wpAny_loadPart' hl
    repeat (first
      | (refine wpAny_ite_false (decide_eq_false (by rw [c0]; exact Bool.false_ne_true)) ?_; wp_walk using wpAny_loadPart' hl)
      | (refine wpAny_ite_true (decide_eq_true c1) ?_; wp_walk using wpAny_loadPart' hl))
    exact ⟨_, rfl, h⟩
def rRepT1 (K : PySem.W.Frag) : R2 := fun x y H Q => ∃ l xs, x = .ref l ∧ y = .int 1 ∧ SqT K H l xs ∧ Q (.ref l) H
section
variable {X : Cx}
theorem op_repT1 : OpR X (binaryOp .Mult) (rRepT1 X.K) := by
  intro pins s σ H x y v u Q I rx ry h
  obtain ⟨l, xs, rfl, rfl, hT, q⟩ := h
  cases rx
  obtain ⟨t, rfl⟩ := ry
  obtain ⟨its, r, ⟨⟨cls, dd, data, sl⟩, ho, hc, n, hd⟩, hs⟩ := I.tuple hT
  simp only at hc hd
  subst hc hd
  refine wpAny_binaryOp_repeat_ref (T := "tuple") (U := "int") (by decide) ⟨_, ho, rfl⟩ (fun s' => typeIs_int s' 1 t) noFill_tuple_mul F.fills_int_mul F.slot_int_rmul repeat_tuple F.slot_int_index.lookup
    (call_meets F.slot_int_rmul (typeIs_int s 1 t) F.entry_int_rmul (F.args_int_rmul_2 _ _) (int_rmul_tuple 1 t l its.toArray n dd sl)
      ⟨ho, rfl, ⟨_, ho, rfl⟩, call_meets F.slot_tuple_mul ⟨_, ho, rfl⟩ F.entry_tuple_mul (F.args_tuple_mul_2 _ _) (tuple_mul1 l its.toArray n dd sl t) ⟨ho, ?_⟩⟩)
  exact ⟨.ref l, H, I, rfl, q⟩
end
end Ev


namespace Ev
open PySem PySem.Spec L2 PyProof.Rows
section
variable {T : Ad} {m : Mp} {H : Hp} {σ : L2.St} {W : WX} {S : Store} {Q : VK}
abbrev KQ (T : Ad) (Q : VK) : D → Store → Mp → Hp → Prop := fun d _ m' H' => ∀ v, RD T m' H' d v → Q v H'
theorem ok_use {d : D} {v : V} (r : RS T m H S) (h : PostK T (.ok d S) m H σ W (KQ T Q)) (hv : RD T m H d v) : Q v H := h m H Ext.refl r v hv
theorem ref_len (r : RS T m H S) {p : Addr} {H' : Hp} : RD T (m.add p) H' (.ref S.length) (.ref p) := ⟨p, by show (m.c ++ [p])[S.length]? = some p; rw [r.len, List.getElem?_append_right (Nat.le_refl _)]; simp, rfl⟩
theorem isz_of {n : Nat} (h : isz n = true) : n ≤ sizeLine := of_decide_eq_true h
theorem mkL_use {new : Bool} {xs : List D} {vs : List V} (r : RS T m H S) (h : PostK T (mkL new xs S) m H σ W (KQ T Q)) (hx : RDs T m H xs vs) :
    vs.length ≤ sizeLine ∧ ∀ p, H p = none → Q (.ref p) (upd H p (.lst vs)) := by
  unfold mkL at h
  by_cases hz : isz xs.length = true
  · rw [if_pos hz] at h
    refine ⟨by rw [hx.length]; exact isz_of hz, fun p hp => ?_⟩
    cases new with
    | true =>
      rw [if_pos rfl] at h
      exact h _ _ (Ext.cell r hp) (r.cell hp hx) _ (ref_len r)
    | false =>
      rw [if_neg Bool.false_ne_true] at h
      exact h _ _ (Ext.new r hp) (r.new hp) _ ⟨p, vs, rfl, ⟨upd_same, r.notin hp⟩, RDs.ext (Ext.new r hp) _ _ hx⟩
  · rw [if_neg hz] at h
    exact h.elim
theorem mkT_use {xs : List D} {vs : List V} (r : RS T m H S) (h : PostK T (mkT xs S) m H σ W (KQ T Q)) (hx : RDs T m H xs vs) :
    vs.length ≤ sizeLine ∧ ∀ p, H p = none → Q (.ref p) (upd H p (.tup vs)) := by
  unfold mkT at h
  by_cases hz : isz xs.length = true
  · rw [if_pos hz] at h
    refine ⟨by rw [hx.length]; exact isz_of hz, fun p hp => ?_⟩
    exact h _ _ (Ext.new r hp) (r.new hp) _ ⟨p, vs, rfl, .inl (.inl upd_same), RDs.ext (Ext.new r hp) _ _ hx⟩
  · rw [if_neg hz] at h
    exact h.elim
theorem lstOf_lst {xs ys : List D} (h : lstOf S (.lst xs) = some ys) : xs = ys := Option.some.inj h
theorem lstOf_ref {l : Nat} {ys : List D} (h : lstOf S (.ref l) = some ys) : S[l]? = some (.lst ys) := by
  have h : (match S[l]? with | some (.lst xs) => some xs | _ => none) = some ys := h
  revert h
  cases S[l]? with
  | none => exact fun h => nomatch h
  | some o =>
    cases o with
    | lst xs => exact fun h => by rw [Option.some.inj h]
    | dct _ => exact fun h => nomatch h
theorem lst_of {d : D} {xs : List D} {v : V} (r : RS T m H S) (h : lstOf S d = some xs) (hv : RD T m H d v) : ∃ p vs, v = .ref p ∧ H p = some (.lst vs) ∧ RDs T m H xs vs := by
  cases d with
  | lst ys =>
    obtain rfl := lstOf_lst h
    obtain ⟨p, vs, h1, h2, h3⟩ := hv
    exact ⟨p, vs, h1, h2.1, h3⟩
  | ref l =>
    obtain ⟨p, h1, h2⟩ := hv
    obtain ⟨p', vs, h3, h4, h5⟩ := r.lst (lstOf_ref h)
    rw [h1] at h3
    cases h3
    exact ⟨p, vs, h2, h4, h5⟩
  | _ => simp [lstOf] at h
theorem tup_of {xs : List D} {v : V} (hv : RD T m H (.tup xs) v) : ∃ p vs, v = .ref p ∧ SqT T.K H p vs ∧ RDs T m H xs vs := hv
theorem scr_of {ns : List Int} {v : V} (hv : RD T m H (.scr ns) v) : ∃ p, v = .ref p ∧ SqL T.K H p (ns.map V.int) := by
  obtain ⟨p, h1, h2⟩ := hv
  refine ⟨p, h1, ?_⟩
  rcases h2 with ⟨o, h⟩ | h
  · exact .inl (.inr ⟨o, h⟩)
  · exact .inr h
theorem RDs.nil_iff {ds : List D} {vs : List V} (h : RDs T m H ds vs) : vs = [] ↔ ds = [] := by
  cases ds with
  | nil =>
    have h : vs = [] := h
    simp [h]
  | cons d ds =>
    obtain ⟨v, r, h1, _⟩ := h
    simp [h1]
theorem RDs.ints : ∀ (ns : List Int), RDs T m H (ns.map D.int) (ns.map V.int)
  | [] => rfl
  | n :: ns => ⟨_, _, rfl, rfl, RDs.ints ns⟩
theorem RDs.cut {ds : List D} {vs : List V} (h : RDs T m H ds vs) (lo hi : Option Int) : RDs T m H (cutD ds lo hi) (L2.cutV vs lo hi) := by
  unfold cutD L2.cutV
  rw [h.length]
  exact (h.drop _).take _
end

/-! ### rules of my own -/
section
variable {X : Cx}
/-- list + list, whatever they are -/
def rCatG (K : PySem.W.Frag) : R2 := fun x y H Q => ∃ l b xs zs, x = .ref l ∧ y = .ref b ∧ SqL K H l xs ∧ SqL K H b zs ∧ xs.length + zs.length ≤ sizeLine ∧ ∀ p, H p = none → Q (.ref p) (upd H p (.lst (xs ++ zs)))
theorem op_catG : OpR X (binaryOp .Add) (rCatG X.K) := by
  intro pins s σ H x y v u Q I rx ry h
  obtain ⟨l, b, xs, zs, rfl, rfl, hH, hB, hz, q⟩ := h
  cases rx
  cases ry
  obtain ⟨its, r, p1, z1⟩ := I.list hH
  obtain ⟨its2, r2, p2, z2⟩ := I.list hB
  have hl := r.length
  have hl2 := r2.length
  obtain ⟨⟨cls, dd, data, sl⟩, ho, hc, n, hd⟩ := id p1.isList
  obtain ⟨⟨cls2, dd2, data2, sl2⟩, ho2, hc2, n2, hd2⟩ := id p2.isList
  simp only at hc hd hc2 hd2
  subst hc hd hc2 hd2
  have e : its.toArray ++ its2.toArray = (its ++ its2).toArray := by simp
  refine concat_meets ⟨_, ho, rfl⟩ ⟨_, ho2, rfl⟩ noFill_list_add seq_list_add PySem.F.slot_list_add PySem.F.entry_list_add (PySem.F.args_list_add_2 _ _) (list_addW l b its.toArray its2.toArray n n2 dd dd2 sl sl2 (by rw [List.size_toArray, List.size_toArray]; omega)) ⟨ho, ho2, ?_⟩
  rw [e]
  exact ⟨.ref _, _, I.lnew (t' := s.toks) (r.append r2) (by rw [List.length_append]; omega), rfl, q _ I.fresh⟩
def CDivA (_ j : Int) : Prop := j ≠ 0 ∧ j.natAbs.log2 < 9000
theorem op_fdivA : OpR X (binaryOp .FloorDiv) (rI CDivA fun i j => .int (i.fdiv j)) := opI fun _ _ _ _ _ _ _ hc q => floordiv_int hc.1 q (.inl (PyProof.noPylong_of_log2 hc.2))
theorem op_mulW2 : OpR X (binaryOp .Mult) (rI CMulW fun i j => .int (i * j)) := op_mulW
end
section
variable {T : Ad} {m : Mp} {H : Hp} {σ : L2.St} {W : WX} {S : Store} {Q : VK} {dx dy : D} {x y : V}
def opB : Bop → Operator
  | .add => .Add
  | .sub => .Sub
  | .mul => .Mult
  | .fdiv => .FloorDiv
  | .mod => .Mod
  | .pow => .Pow
def rB (K : PySem.W.Frag) : Bop → R2
  | .add => fun x y H Q => rI0 (fun i j => .int (i + j)) x y H Q ∨ (∃ i j, x = .str i ∧ y = .str j ∧ i.length + j.length ≤ sizeLine ∧ Q (.str (i ++ j)) H) ∨ rCatA K x y H Q ∨ rCatG K x y H Q
  | .sub => rI0 fun i j => .int (i - j)
  | .mul => fun x y H Q => rI CMulW (fun i j => .int (i * j)) x y H Q ∨ rRepT K x y H Q ∨ rRepT1 K x y H Q ∨ rRep x y H Q
  | .fdiv => fun x y H Q => rI CDivA (fun i j => .int (i.fdiv j)) x y H Q
  | .mod => rI (fun _ j => j ≠ 0) fun i j => .int (i.fmod j)
  | .pow => rI CPow fun i j => .int (i ^ j.toNat)
theorem opB_ok {X : Cx} (op : Bop) : OpR X (binaryOp (opB op)) (rB X.K op) := by
  cases op with
  | add => exact op_add.or (op_add_str.or (op_catA.or op_catG))
  | sub => exact op_sub
  | mul => exact op_mulW.or (op_repT.or (op_repT1.or op_rep))
  | fdiv => exact op_fdivA
  | mod => exact op_modN
  | pow => exact op_pow
theorem rd_int {i : Int} (h : RD T m H (.int i) x) : x = .int i := h
theorem rd_str {i : Str} (h : RD T m H (.str i) x) : x = .str i := h
theorem rd_bl {i : Bool} (h : RD T m H (.bl i) x) : x = .bl i := h
theorem rd_non (h : RD T m H .non x) : x = .non := h
theorem lst_pair {ys : Option (List D)} {f : List D → R D} {k : D → Store → Mp → Hp → Prop} (h : PostK T (match ys with | some b => f b | none => .stuck) m H σ W k) : ∃ b, ys = some b ∧ PostK T (f b) m H σ W k := by
  cases ys with
  | none => exact h.elim
  | some b => exact ⟨b, rfl, h⟩
theorem lst_pair2 {xs ys : Option (List D)} {f : List D → List D → R D} {k : D → Store → Mp → Hp → Prop} (h : PostK T (match xs, ys with | some a, some b => f a b | _, _ => .stuck) m H σ W k) : ∃ a b, xs = some a ∧ ys = some b ∧ PostK T (f a b) m H σ W k := by
  cases xs with
  | none => cases ys <;> exact h.elim
  | some a =>
    cases ys with
    | none => exact h.elim
    | some b => exact ⟨a, b, rfl, rfl, h⟩
theorem rB_add {new : Bool} (r : RS T m H S) (hx : RD T m H dx x) (hy : RD T m H dy y) (h : PostK T (binV new .add dx dy S) m H σ W (KQ T Q)) : rB T.K .add x y H Q := by
  have lists : ∀ {a b : List D}, lstOf S dx = some a → lstOf S dy = some b → PostK T (mkL new (a ++ b) S) m H σ W (KQ T Q) → rB T.K .add x y H Q := fun {a b} e1 e2 h => by
    obtain ⟨p, vs, rfl, h2, h3⟩ := lst_of r e1 hx
    obtain ⟨q, ws, rfl, h5, h6⟩ := lst_of r e2 hy
    obtain ⟨k1, k2⟩ := mkL_use r h (h3.append h6)
    rw [List.length_append] at k1
    exact .inr (.inr (.inr ⟨p, q, vs, ws, rfl, rfl, SqL.of h2, SqL.of h5, k1, k2⟩))
  cases dx with
  | int i =>
    cases dy with
    | int j =>
      obtain rfl := rd_int hx
      obtain rfl := rd_int hy
      exact .inl ⟨i, j, rfl, rfl, ok_use r h rfl⟩
    | _ => exact absurd h (by simp [binV, lstOf, PostK])
  | str i =>
    cases dy with
    | str j =>
      obtain rfl := rd_str hx
      obtain rfl := rd_str hy
      unfold binV at h
      simp only at h
      by_cases hz : isz (i.length + j.length) = true
      · rw [if_pos hz] at h
        exact .inr (.inl ⟨i, j, rfl, rfl, isz_of hz, ok_use r h rfl⟩)
      · rw [if_neg hz] at h
        exact h.elim
    | _ => exact absurd h (by simp [binV, lstOf, PostK])
  | tup i =>
    cases dy with
    | tup j =>
      obtain ⟨p, vs, rfl, h2, h3⟩ := tup_of hx
      obtain ⟨q, ws, rfl, h5, h6⟩ := tup_of hy
      have h : PostK T (mkT (i ++ j) S) m H σ W (KQ T Q) := h
      obtain ⟨k1, k2⟩ := mkT_use r h (h3.append h6)
      rw [List.length_append] at k1
      have ki : isz (i ++ j).length = true := by
        unfold mkT at h
        by_cases hz : isz (i ++ j).length = true
        · exact hz
        · rw [if_neg hz] at h
          exact h.elim
      have kt : PostK T (.ok (.tup (i ++ j)) S) m H σ W (KQ T Q) := by
        unfold mkT at h
        rw [if_pos ki] at h
        exact h
      refine .inr (.inr (.inl ⟨p, q, vs, ws, rfl, rfl, h2, h5, k1, fun e => ?_, fun _ e => ?_, fun _ _ => k2⟩))
      · refine ok_use r kt ⟨q, ws, rfl, h5, ?_⟩
        rw [h3.nil_iff.mp e, List.nil_append]
        exact h6
      · refine ok_use r kt ⟨p, vs, rfl, h2, ?_⟩
        rw [h6.nil_iff.mp e, List.append_nil]
        exact h3
    | _ => exact absurd h (by simp [binV, lstOf, PostK])
  | scr ns =>
    have h : PostK T (match lstOf S dy with | some b => mkL new (ns.map .int ++ b) S | none => .stuck) m H σ W (KQ T Q) := by
      cases dy <;> exact h
    obtain ⟨b, e, h⟩ := lst_pair h
    obtain ⟨p, rfl, h2⟩ := scr_of hx
    obtain ⟨q, ws, rfl, h5, h6⟩ := lst_of r e hy
    obtain ⟨k1, k2⟩ := mkL_use r h ((RDs.ints ns).append h6)
    rw [List.length_append] at k1
    exact .inr (.inr (.inr ⟨p, q, _, ws, rfl, rfl, h2, SqL.of h5, k1, k2⟩))
  | lst i =>
    have h : PostK T (match lstOf S (.lst i), lstOf S dy with | some a, some b => mkL new (a ++ b) S | _, _ => .stuck) m H σ W (KQ T Q) := by
      cases dy <;> exact h
    obtain ⟨a, b, e1, e2, h⟩ := lst_pair2 h
    exact lists e1 e2 h
  | ref i =>
    have h : PostK T (match lstOf S (.ref i), lstOf S dy with | some a, some b => mkL new (a ++ b) S | _, _ => .stuck) m H σ W (KQ T Q) := by
      cases dy <;> exact h
    obtain ⟨a, b, e1, e2, h⟩ := lst_pair2 h
    exact lists e1 e2 h
  | non => exact absurd h (by cases dy <;> simp [binV, lstOf, PostK])
  | bl b => exact absurd h (by cases dy <;> simp [binV, lstOf, PostK])
  | fn b => exact absurd h (by cases dy <;> simp [binV, lstOf, PostK])
  | tdc _ _ => exact absurd h (by cases dy <;> simp [binV, lstOf, PostK])
theorem ite_use {α : Type} {c : Bool} {a : R α} {k : α → Store → Mp → Hp → Prop} (h : PostK T (if c then a else .stuck) m H σ W k) : c = true ∧ PostK T a m H σ W k := by
  cases c with
  | true => exact ⟨rfl, h⟩
  | false => exact h.elim
theorem rB_mul {new : Bool} (r : RS T m H S) (hx : RD T m H dx x) (hy : RD T m H dy y) (h : PostK T (binV new .mul dx dy S) m H σ W (KQ T Q)) : rB T.K .mul x y H Q := by
  cases dy with
  | int k =>
    obtain rfl := rd_int hy
    have lists : ∀ {a : List D}, lstOf S dx = some a → PostK T (if decide (-(2 ^ 63) ≤ k ∧ k < 2 ^ 63 ∧ a.length * k.toNat ≤ sizeLine) then mkL new (List.replicate k.toNat a).flatten S else .stuck) m H σ W (KQ T Q) → rB T.K .mul x (.int k) H Q := fun {a} e1 h => by
      obtain ⟨p, vs, rfl, h2, h3⟩ := lst_of r e1 hx
      obtain ⟨c, h⟩ := ite_use h
      obtain ⟨c1, c2, c3⟩ := of_decide_eq_true c
      obtain ⟨k1, k2⟩ := mkL_use r h (h3.rep k.toNat)
      exact .inr (.inr (.inr ⟨p, k, vs, rfl, rfl, h2, c1, c2, by rw [h3.length]; exact c3, k2⟩))
    cases dx with
    | int i =>
      obtain rfl := rd_int hx
      obtain ⟨c, h⟩ := ite_use (show PostK T (if okMul i k then .ok (.int (i * k)) S else .stuck) m H σ W (KQ T Q) from h)
      exact .inl ⟨i, k, rfl, rfl, (show i.natAbs.log2 + k.natAbs.log2 < 1000000 from of_decide_eq_true c), ok_use r h rfl⟩
    | tup a =>
      obtain ⟨p, vs, rfl, h2, h3⟩ := tup_of hx
      have h : PostK T (if decide (k = 1) then .ok (.tup a) S else if !a.isEmpty && decide (2 ≤ k ∧ k ≤ 1000 ∧ a.length ≤ 1000) then .ok (.tup (List.replicate k.toNat a).flatten) S else .stuck) m H σ W (KQ T Q) := h
      by_cases hk : k = 1
      · rw [if_pos (decide_eq_true hk)] at h
        subst hk
        exact .inr (.inr (.inl ⟨p, vs, rfl, rfl, h2, ok_use r h ⟨p, vs, rfl, h2, h3⟩⟩))
      rw [if_neg (by rw [decide_eq_false hk]; exact Bool.false_ne_true)] at h
      obtain ⟨c, h⟩ := ite_use h
      rw [Bool.and_eq_true] at c
      obtain ⟨c1, c2, c3⟩ := of_decide_eq_true c.2
      refine .inr (.inl ⟨p, k, vs, rfl, rfl, h2, fun e => ?_, c1, c2, by rw [h3.length]; exact c3, fun q hq => ?_⟩)
      · have := h3.nil_iff.mp e
        rw [this] at c
        exact absurd c.1 (by simp)
      · exact h _ _ (Ext.new r hq) (r.new hq) _ ⟨q, _, rfl, .inl (.inl upd_same), RDs.ext (Ext.new r hq) _ _ (h3.rep k.toNat)⟩
    | lst a => exact lists rfl h
    | ref l =>
      have h : PostK T (match lstOf S (.ref l) with | some a => if decide (-(2 ^ 63) ≤ k ∧ k < 2 ^ 63 ∧ a.length * k.toNat ≤ sizeLine) then mkL new (List.replicate k.toNat a).flatten S else .stuck | none => .stuck) m H σ W (KQ T Q) := h
      obtain ⟨a, e, h⟩ := lst_pair h
      exact lists e h
    | _ => exact absurd h (by simp [binV, lstOf, PostK])
  | _ => exact absurd h (by cases dx <;> simp [binV, PostK])
theorem rB_ok {new : Bool} {op : Bop} (r : RS T m H S) (hx : RD T m H dx x) (hy : RD T m H dy y) (h : PostK T (binV new op dx dy S) m H σ W (KQ T Q)) : rB T.K op x y H Q := by
  cases op with
  | add => exact rB_add r hx hy h
  | mul => exact rB_mul r hx hy h
  | sub =>
    cases dx with
    | int i =>
      cases dy with
      | int j =>
        obtain rfl := rd_int hx
        obtain rfl := rd_int hy
        exact ⟨i, j, rfl, rfl, ok_use r h rfl⟩
      | _ => exact absurd h (by simp [binV, PostK])
    | _ => exact absurd h (by cases dy <;> simp [binV, PostK])
  | fdiv =>
    cases dx with
    | int i =>
      cases dy with
      | int j =>
        obtain rfl := rd_int hx
        obtain rfl := rd_int hy
        obtain ⟨c, h⟩ := ite_use (show PostK T (if okDiv j then .ok (.int (i.fdiv j)) S else .stuck) m H σ W (KQ T Q) from h)
        refine ⟨i, j, rfl, rfl, ?_, ok_use r h rfl⟩
        unfold okDiv at c
        simp only [Bool.or_eq_true, decide_eq_true_eq] at c
        rcases c with ⟨c1, c2⟩ | ⟨c1, c2⟩
        · exact ⟨by omega, c2⟩
        · refine ⟨c1, ?_⟩
          have h1 : j.natAbs.log2 ≤ 30 := by
            have := (Nat.log2_lt (n := j.natAbs) (k := 31) (by omega)).mpr (by omega)
            omega
          omega
      | _ => exact absurd h (by simp [binV, PostK])
    | _ => exact absurd h (by cases dy <;> simp [binV, PostK])
  | mod =>
    cases dx with
    | int i =>
      cases dy with
      | int j =>
        obtain rfl := rd_int hx
        obtain rfl := rd_int hy
        unfold binV at h
        simp only at h
        by_cases hj : j = 0
        · rw [if_pos hj] at h
          exact h.elim
        · rw [if_neg hj] at h
          exact ⟨i, j, rfl, rfl, hj, ok_use r h rfl⟩
      | _ => exact absurd h (by simp [binV, PostK])
    | _ => exact absurd h (by cases dy <;> simp [binV, PostK])
  | pow =>
    cases dx with
    | int i =>
      cases dy with
      | int j =>
        obtain rfl := rd_int hx
        obtain rfl := rd_int hy
        obtain ⟨c, h⟩ := ite_use (show PostK T (if okPow i j then .ok (.int (i ^ j.toNat)) S else .stuck) m H σ W (KQ T Q) from h)
        exact ⟨i, j, rfl, rfl, (show 0 ≤ j ∧ j ≤ 1000000 ∧ i.natAbs < 2 ^ 64 from of_decide_eq_true c), ok_use r h rfl⟩
      | _ => exact absurd h (by simp [binV, PostK])
    | _ => exact absurd h (by cases dy <;> simp [binV, PostK])
end
end Ev


namespace Ev
open PySem PySem.Spec L2 PyProof.Rows
section
variable {T : Ad} {m : Mp} {H : Hp} {σ : L2.St} {W : WX} {S : Store} {Q : VK} {dx dy : D} {x y : V}

/-! ### data -/
mutual
theorem RD.dp : ∀ (d : D) (v : V), RD T m H d v → d.plain = true → Dp T.K H v d.pd
  | .non, v, h, _ => by
    cases (show v = .non from h)
    exact .non
  | .bl b, v, h, _ => by
    cases (show v = .bl b from h)
    exact .bl b
  | .int b, v, h, _ => by
    cases (show v = .int b from h)
    exact .int b
  | .str b, v, h, _ => by
    cases (show v = .str b from h)
    exact .str b
  | .tup xs, v, h, p => by
    obtain ⟨a, vs, h1, h2, h3⟩ := h
    subst h1
    rw [D.pd]
    exact .tup h2 (RDs.dp xs vs h3 (by rw [D.plain] at p; exact p))
  | .lst xs, v, h, p => by
    obtain ⟨a, vs, h1, h2, h3⟩ := h
    subst h1
    rw [D.pd]
    exact .lst (SqL.of h2.1) (RDs.dp xs vs h3 (by rw [D.plain] at p; exact p))
  | .ref _, _, _, p => by simp [D.plain] at p
  | .fn _, _, _, p => by simp [D.plain] at p
  | .scr _, _, _, p => by simp [D.plain] at p
theorem RDs.dp : ∀ (ds : List D) (vs : List V), RDs T m H ds vs → D.plains ds = true → DpAll T.K H vs (D.pds ds)
  | [], vs, h, _ => by
    cases (show vs = [] from h)
    rw [D.pds]
    exact .nil
  | d :: ds, vs, h, p => by
    obtain ⟨v, r, h1, h2, h3⟩ := h
    subst h1
    rw [D.plains, Bool.and_eq_true] at p
    rw [D.pds]
    exact .cons (RD.dp d v h2 p.1) (RDs.dp ds r h3 p.2)
end
theorem view_ref {l : Nat} : view S (.ref l) = (match S[l]? with | some (.lst xs) => .lst xs | _ => .ref l) := rfl
theorem view_lst {l : Nat} {xs : List D} (h : S[l]? = some (.lst xs)) : view S (.ref l) = .lst xs := by rw [view_ref, h]
theorem view_dp {d : D} {v : V} (r : RS T m H S) (h : RD T m H d v) (p : (view S d).plain = true) : Dp T.K H v (view S d).pd := by
  cases d with
  | ref l =>
    cases e : S[l]? with
    | none =>
      rw [view_ref, e] at p
      simp [D.plain] at p
    | some o =>
      cases o with
      | dct _ =>
        rw [view_ref, e] at p
        simp [D.plain] at p
      | lst xs =>
        rw [view_lst e] at p ⊢
        obtain ⟨a, h1, h2⟩ := h
        obtain ⟨q, vs, h3, h4, h5⟩ := r.lst e
        rw [h1] at h3
        cases h3
        subst h2
        rw [D.pd]
        exact .lst (SqL.of h4) (RDs.dp xs vs h5 (by rw [D.plain] at p; exact p))
  | _ => exact RD.dp _ _ h p
theorem scal_use {b : Bool} (h : scalD dx dy = some b) (hx : RD T m H dx x) (hy : RD T m H dy y) : scal x y = true ∧ b = decide (x = y) := by
  cases dx <;> cases dy <;> (first | (simp [scalD] at h; done) | skip) <;> simp only [RD] at hx hy <;> subst hx hy <;> simp_all [scalD, scal]
theorem dat_use {b : Bool} (r : RS T m H S) (h : (if (view S dx).plain && (view S dy).plain && SeqAt.shaped (view S dx).pd && SeqAt.shaped (view S dy).pd then some (PyData.eqv (view S dx).pd (view S dy).pd) else none) = some b) (hx : RD T m H dx x) (hy : RD T m H dy y) :
    ∃ d e, Dp T.K H x d ∧ Dp T.K H y e ∧ SeqAt.shaped d = true ∧ SeqAt.shaped e = true ∧ b = PyData.eqv d e := by
  split at h
  · rename_i c
    simp only [Bool.and_eq_true] at c
    exact ⟨_, _, view_dp r hx c.1.1.1, view_dp r hy c.1.1.2, c.1.2, c.2, (Option.some.inj h).symm⟩
  · cases h
theorem ofB_use {o : Option Bool} (r : RS T m H S) (h : PostK T (ofB o S) m H σ W (KQ T Q)) : ∃ b, o = some b ∧ Q (.bl b) H := by
  cases o with
  | none => exact h.elim
  | some b => exact ⟨b, rfl, ok_use r h rfl⟩
theorem eq_use (r : RS T m H S) {b : Bool} (h : eqD S dx dy = some b) (hx : RD T m H dx x) (hy : RD T m H dy y) (k : Q (.bl b) H) : rEq x y H Q ∨ rEqD T.K x y H Q := by
  unfold eqD at h
  cases e : scalD dx dy with
  | some c =>
    rw [e] at h
    cases h
    obtain ⟨h1, h2⟩ := scal_use e hx hy
    exact .inl ⟨h1, by rw [← h2]; exact k⟩
  | none =>
    rw [e] at h
    obtain ⟨d, e, h1, h2, h3, h4, h5⟩ := dat_use r h hx hy
    exact .inr ⟨d, e, h1, h2, h3, h4, by rw [← h5]; exact k⟩
theorem ne_use (r : RS T m H S) {b : Bool} (h : eqD S dx dy = some b) (hx : RD T m H dx x) (hy : RD T m H dy y) (k : Q (.bl (!b)) H) : rNe x y H Q ∨ rNeD T.K x y H Q := by
  unfold eqD at h
  cases e : scalD dx dy with
  | some c =>
    rw [e] at h
    cases h
    obtain ⟨h1, h2⟩ := scal_use e hx hy
    exact .inl ⟨h1, by rw [← h2]; exact k⟩
  | none =>
    rw [e] at h
    obtain ⟨d, e, h1, h2, h3, h4, h5⟩ := dat_use r h hx hy
    exact .inr ⟨d, e, h1, h2, h3, h4, by rw [← h5]; exact k⟩

/-! ### in -/
theorem flat_use {d : D} {v : V} (h : RD T m H d v) (f : flatD d = true) : flatV v = true := by
  cases d <;> simp [flatD] at f <;> simp only [RD] at h <;> subst h <;> rfl
theorem flatEq_use {d e : D} {v w : V} (h : RD T m H d v) (k : RD T m H e w) (f : flatD d = true) (g : flatD e = true) : eqV v w = flatEq d e := by
  cases d <;> simp [flatD] at f <;> simp only [RD] at h <;> subst h <;> cases e <;> simp [flatD] at g <;> simp only [RD] at k <;> subst k <;> rfl
theorem flats_use : ∀ {ds : List D} {vs : List V}, RDs T m H ds vs → ds.all flatD = true → vs.all flatV = true
  | [], vs, h, _ => by
    cases (show vs = [] from h)
    rfl
  | d :: ds, vs, h, f => by
    obtain ⟨v, r, h1, h2, h3⟩ := h
    subst h1
    rw [List.all_cons, Bool.and_eq_true] at f
    rw [List.all_cons, flat_use h2 f.1, flats_use h3 f.2]
    rfl
theorem any_use {e : D} {w : V} (k : RD T m H e w) (g : flatD e = true) : ∀ {ds : List D} {vs : List V}, RDs T m H ds vs → ds.all flatD = true → inV w vs = ds.any fun y => flatEq y e
  | [], vs, h, _ => by
    cases (show vs = [] from h)
    rfl
  | d :: ds, vs, h, f => by
    obtain ⟨v, r, h1, h2, h3⟩ := h
    subst h1
    rw [List.all_cons, Bool.and_eq_true] at f
    show (eqV v w || inV w r) = _
    rw [List.any_cons, flatEq_use h2 k f.1 g, any_use k g h3 f.2]
theorem inSeq_use {b : Bool} {ds : List D} {vs : List V} (h : inSeq dx ds = some b) (hx : RD T m H dx x) (hy : RDs T m H ds vs) : flatV x = true ∧ vs.all flatV = true ∧ b = inV x vs := by
  unfold inSeq at h
  split at h
  · rename_i c
    rw [Bool.and_eq_true] at c
    exact ⟨flat_use hx c.1, flats_use hy c.2, by rw [any_use hx c.1 hy c.2]; exact (Option.some.inj h).symm⟩
  · cases h
theorem any_pds (p : PyData) : ∀ ds : List D, (ds.any fun y => PyData.eqv y.pd p) = (D.pds ds).any fun z => PyData.eqv z p
  | [] => by rw [D.pds]; rfl
  | d :: ds => by rw [D.pds, List.any_cons, List.any_cons, any_pds p ds]
theorem inDat_use {b : Bool} {ds : List D} {vs : List V} {p : Addr} (h : inDat dx ds = some b) (hx : RD T m H dx x) (hp : H p = some (.lst vs)) (hy : RDs T m H ds vs) :
    ∃ d es, Dp T.K H x d ∧ Dp T.K H (.ref p) (.list es) ∧ SeqAt.shaped d = true ∧ SeqAt.shaped (.list es) = true ∧ b = es.any fun z => PyData.eqv z d := by
  unfold inDat at h
  split at h
  · rename_i c
    simp only [Bool.and_eq_true] at c
    exact ⟨_, _, RD.dp _ _ hx c.1.1.1, .lst (SqL.of hp) (RDs.dp _ _ hy c.1.1.2), c.1.2, c.2, by rw [← any_pds]; exact (Option.some.inj h).symm⟩
  · cases h
def rSign (f : Bool → Bool) : R2 := fun x y H Q => ∃ (c : Nat) (z : Str), x = .str ⟨#[c]⟩ ∧ y = .str z ∧ Q (.bl (f (decide (c ∈ z.cps.toList)))) H
def rSub (f : Bool → Bool) : R2 := fun x y H Q => ∃ i j, x = .str i ∧ y = .str j ∧ Q (.bl (f (!(Builtin.Str.occurrences j i 0 j.length 1).isEmpty))) H
def rDat (K : PySem.W.Frag) (f : Bool → Bool) : R2 := fun x y H Q => ∃ d ds, Dp K H x d ∧ Dp K H y (.list ds) ∧ SeqAt.shaped d = true ∧ SeqAt.shaped (.list ds) = true ∧ Q (.bl (f (ds.any fun z => PyData.eqv z d))) H
def rSeq (K : PySem.W.Frag) (f : Bool → Bool) : R2 := fun x y H Q => ∃ p xs, y = .ref p ∧ (SqL K H p xs ∨ SqT K H p xs) ∧ flatV x = true ∧ xs.all flatV = true ∧ Q (.bl (f (inV x xs))) H
def rInAll (P : Program) (w : World) (K : PySem.W.Frag) (f : Bool → Bool) : R2 := fun x y H Q => rSign f x y H Q ∨ rSub f x y H Q ∨ rSeq K f x y H Q ∨ rDat K f x y H Q ∨ rInS P w K f x y H Q
theorem keys_use : ∀ {ds : List D} {vs : List V} {ks : List Key}, keysOf ds = some ks → RDs T m H ds vs → vs = ks.map kV
  | [], vs, ks, h, r => by
    cases h
    exact r
  | d :: ds, vs, ks, h, r => by
    obtain ⟨v, q, rfl, h2, h3⟩ := r
    unfold keysOf at h
    cases e1 : kD d with
    | none =>
      rw [e1] at h
      cases h
    | some k =>
      cases e2 : keysOf ds with
      | none =>
        rw [e1, e2] at h
        cases h
      | some l =>
        rw [e1, e2] at h
        cases h
        rw [rd_key e1 h2, keys_use e2 h3]
        rfl
theorem tkD_use {k : List Key} (h : tkD dx = some k) (hx : RD T m H dx x) : ∃ b, x = .ref b ∧ SqT T.K H b (k.map kV) := by
  cases dx with
  | tup xs =>
    obtain ⟨p, vs, h1, h2, h3⟩ := hx
    rw [keys_use (show keysOf xs = some k from h) h3] at h2
    exact ⟨p, h1, h2⟩
  | _ => simp [tkD] at h
theorem tAt_use {k : List Key} : ∀ {ks : List (List Key)} {as : List Addr} {vs : List V} {ds : List D}, as.length = ks.length → vs.length = ks.length → RDs T m H ds vs →
    (tAt ks ds k = none ∧ valT (tvs ks as vs) k = none) ∨ ∃ d v, tAt ks ds k = some d ∧ valT (tvs ks as vs) k = some v ∧ RD T m H d v
  | [], as, vs, ds, h1, h2, r => .inl ⟨rfl, rfl⟩
  | k0 :: ks, [], vs, ds, h1, h2, r => by simp at h1
  | k0 :: ks, a :: as, [], ds, h1, h2, r => by simp at h2
  | k0 :: ks, a :: as, v :: vs, [], h1, h2, r => by cases (show v :: vs = [] from r)
  | k0 :: ks, a :: as, v :: vs, d :: ds, h1, h2, r => by
    obtain ⟨v', q, e, r2, r3⟩ := r
    cases e
    by_cases c : k0 = k
    · refine .inr ⟨d, v, ?_, ?_, r2⟩
      · simp [tAt, c]
      · simp [valT, tvs, c]
    · have e1 : tAt (k0 :: ks) (d :: ds) k = tAt ks ds k := by simp [tAt, c]
      have e2 : valT (tvs (k0 :: ks) (a :: as) (v :: vs)) k = valT (tvs ks as vs) k := by simp [valT, tvs, c]
      rw [e1, e2]
      exact tAt_use (ks := ks) (by simpa using h1) (by simpa using h2) r3
theorem tdc_ask {ks : List (List Key)} {ds : List D} {k : List Key} (hx : RD T m H (.tdc ks ds) x) (hk : tkD dy = some k) (hy : RD T m H dy y) :
    ∃ a r, x = .ref a ∧ DAsk T.P T.w T.K H a y r ∧ ((tAt ks ds k = none ∧ r = none) ∨ ∃ d v, tAt ks ds k = some d ∧ r = some v ∧ RD T m H d v) := by
  obtain ⟨p, as, vs, h1, h2, h3, h4, h5, h6⟩ := hx
  obtain ⟨b, e1, e2⟩ := tkD_use hk hy
  exact ⟨p, _, h1, ⟨tvs ks as vs, b, k, h2, h5, e1, e2, rfl⟩, tAt_use h3 h4 h6⟩
theorem in_use (r : RS T m H S) {b : Bool} (f : Bool → Bool) (h : inD S dx dy = some b) (hx : RD T m H dx x) (hy : RD T m H dy y) (k : Q (.bl (f b)) H) : rInAll T.P T.w T.K f x y H Q := by
  have lists : (match lstOf S dy with | some ys => (match inSeq dx ys with | some b => some b | none => inDat dx ys) | none => none) = some b → rInAll T.P T.w T.K f x y H Q := fun h => by
    cases e : lstOf S dy with
    | none =>
      rw [e] at h
      cases h
    | some ys =>
      rw [e] at h
      obtain ⟨p, vs, rfl, h2, h3⟩ := lst_of r e hy
      simp only at h
      cases e2 : inSeq dx ys with
      | some c =>
        rw [e2] at h
        cases h
        obtain ⟨f1, f2, f3⟩ := inSeq_use e2 hx h3
        exact .inr (.inr (.inl ⟨p, vs, rfl, .inl (SqL.of h2), f1, f2, by rw [← f3]; exact k⟩))
      | none =>
        rw [e2] at h
        obtain ⟨d, es, f1, f2, f3, f4, f5⟩ := inDat_use h hx h2 h3
        exact .inr (.inr (.inr (.inl ⟨d, es, f1, f2, f3, f4, by rw [← f5]; exact k⟩)))
  cases dy with
  | str z =>
    obtain rfl := rd_str hy
    have h : inStr z dx = some b := h
    cases dx with
    | str a =>
      obtain rfl := rd_str hx
      have h : (if a.cps.size = 1 then some (decide (a.cps.getD 0 0 ∈ z.cps.toList)) else some (!(Builtin.Str.occurrences z a 0 z.length 1).isEmpty)) = some b := h
      by_cases c : a.cps.size = 1
      · rw [if_pos c] at h
        have e : a = ⟨#[a.cps.getD 0 0]⟩ := by
          obtain ⟨l⟩ := a
          obtain ⟨l⟩ := l
          match l, c with
          | [u], _ => rfl
        exact .inl ⟨_, z, by rw [← e], rfl, by rw [Option.some.inj h]; exact k⟩
      · rw [if_neg c] at h
        exact .inr (.inl ⟨a, z, rfl, rfl, by rw [Option.some.inj h]; exact k⟩)
    | _ => simp [inStr] at h
  | tup ys =>
    obtain ⟨p, vs, rfl, h2, h3⟩ := tup_of hy
    obtain ⟨f1, f2, f3⟩ := inSeq_use (show inSeq dx ys = some b from h) hx h3
    exact .inr (.inr (.inl ⟨p, vs, rfl, .inr h2, f1, f2, by rw [← f3]; exact k⟩))
  | tdc ks ds =>
    have h : (match tkD dx with | some k => some (tAt ks ds k).isSome | none => none) = some b := h
    cases ek : tkD dx with
    | none =>
      rw [ek] at h
      cases h
    | some kk =>
      rw [ek] at h
      obtain ⟨a, o, e1, e2, e3⟩ := tdc_ask hy ek hx
      refine .inr (.inr (.inr (.inr ⟨a, o, e1, e2, ?_⟩)))
      have h : some (tAt ks ds kk).isSome = some b := h
      have e4 : o.isSome = b := by
        rcases e3 with ⟨e3, rfl⟩ | ⟨d, v, e3, rfl, _⟩ <;> rw [e3] at h <;> cases h <;> rfl
      rw [e4]
      exact k
  | _ => exact lists h

/-! ### < -/
theorem intsOf_use : ∀ {ds : List D} {vs : List V} {ns : List Int}, intsOf ds = some ns → RDs T m H ds vs → vs = ns.map V.int
  | [], vs, ns, h, k => by
    cases (show vs = [] from k)
    cases h
    rfl
  | d :: ds, vs, ns, h, k => by
    obtain ⟨v, r, h1, h2, h3⟩ := k
    cases d with
    | int i =>
      rw [intsOf] at h
      cases e : intsOf ds with
      | none =>
        rw [e] at h
        cases h
      | some ms =>
        rw [e] at h
        cases h
        cases (show v = .int i from h2)
        rw [h1, intsOf_use e h3]
        rfl
    | _ => simp [intsOf] at h
theorem blsOf_use : ∀ {ds : List D} {vs : List V} {ns : List Bool}, blsOf ds = some ns → RDs T m H ds vs → vs = ns.map V.bl
  | [], vs, ns, h, k => by
    cases (show vs = [] from k)
    cases h
    rfl
  | d :: ds, vs, ns, h, k => by
    obtain ⟨v, r, h1, h2, h3⟩ := k
    cases d with
    | bl i =>
      rw [blsOf] at h
      cases e : blsOf ds with
      | none =>
        rw [e] at h
        cases h
      | some ms =>
        rw [e] at h
        cases h
        cases (show v = .bl i from h2)
        rw [h1, blsOf_use e h3]
        rfl
    | _ => simp [blsOf] at h
theorem strsOf_use : ∀ {ds : List D} {vs : List V} {ns : List Str}, strsOf ds = some ns → RDs T m H ds vs → vs = ns.map V.str
  | [], vs, ns, h, k => by
    cases (show vs = [] from k)
    cases h
    rfl
  | d :: ds, vs, ns, h, k => by
    obtain ⟨v, r, h1, h2, h3⟩ := k
    cases d with
    | str i =>
      rw [strsOf] at h
      cases e : strsOf ds with
      | none =>
        rw [e] at h
        cases h
      | some ms =>
        rw [e] at h
        cases h
        cases (show v = .str i from h2)
        rw [h1, strsOf_use e h3]
        rfl
    | _ => simp [strsOf] at h
def opC : Cop → CmpOp
  | .eq => .Eq
  | .ne => .NotEq
  | .lt => .Lt
  | .gt => .Gt
  | .le => .LtE
  | .ge => .GtE
  | .is => .Is
  | .nis => .IsNot
  | .isin => .In
  | .nin => .NotIn
def rC (P : Program) (w : World) (K : PySem.W.Frag) : Cop → R2
  | .eq => fun x y H Q => rEq x y H Q ∨ rEqD K x y H Q
  | .ne => fun x y H Q => rNe x y H Q ∨ rNeD K x y H Q
  | .lt => fun x y H Q => rI0 (fun i j => .bl (decide (i < j))) x y H Q ∨ (∃ i j, x = .str i ∧ y = .str j ∧ Q (.bl (decide (i.cps.toList < j.cps.toList))) H) ∨ rLtT K x y H Q
  | .gt => rI0 fun i j => .bl (decide (j < i))
  | .le => rI0 fun i j => .bl (decide (i ≤ j))
  | .ge => rI0 fun i j => .bl (decide (j ≤ i))
  | .is => fun x y H Q => (y = .non ∧ Q (.bl (decide (x = .non))) H) ∨ rIsB x y H Q
  | .nis => fun x y H Q => (y = .non ∧ Q (.bl (!decide (x = .non))) H) ∨ rNotB x y H Q
  | .isin => rInAll P w K id
  | .nin => rInAll P w K not
theorem opC_ok {X : Cx} (hu : X.A.units + 65 < cLine) (op : Cop) : OpR X (compareOp (opC op)) (rC X.prog X.w X.K op) := by
  cases op with
  | eq => exact op_eq.or (op_eqD (by omega))
  | ne => exact op_ne.or (op_neD (by omega))
  | lt => exact op_lt.or (op_lt_str.or (op_ltT (by omega)))
  | gt => exact op_gt
  | le => exact op_le
  | ge => exact op_ge
  | is => exact op_isN.or op_isBl
  | nis => exact op_notN.or op_notBl
  | isin => exact op_in_sign.or (op_in_str.or (op_in_seq.or ((op_inD hu).or (op_inS (by omega)))))
  | nin => exact op_notIn_sign.or (op_notin_str.or (op_notIn_seq.or ((op_notInD hu).or (op_notinS (by omega)))))
theorem ltD_use (r : RS T m H S) {b : Bool} (h : ltD dx dy = some b) (hx : RD T m H dx x) (hy : RD T m H dy y) (k : Q (.bl b) H) : rC T.P T.w T.K .lt x y H Q := by
  cases dx with
  | int i =>
    cases dy with
    | int j =>
      obtain rfl := rd_int hx
      obtain rfl := rd_int hy
      exact .inl ⟨i, j, rfl, rfl, by have e : decide (i < j) = b := Option.some.inj h; show Q (.bl (decide (i < j))) H; rw [e]; exact k⟩
    | _ => simp [ltD] at h
  | str i =>
    cases dy with
    | str j =>
      obtain rfl := rd_str hx
      obtain rfl := rd_str hy
      exact .inr (.inl ⟨i, j, rfl, rfl, by rw [show decide (i.cps.toList < j.cps.toList) = b from Option.some.inj h]; exact k⟩)
    | _ => simp [ltD] at h
  | tup a =>
    cases dy with
    | tup c =>
      obtain ⟨p, vs, rfl, h2, h3⟩ := tup_of hx
      obtain ⟨q, ws, rfl, h5, h6⟩ := tup_of hy
      have h : (match intsOf a, intsOf c with | some m, some n => some (HT.lexLt m n) | _, _ => none) = some b := h
      cases e1 : intsOf a with
      | none =>
        rw [e1] at h
        cases h
      | some m1 =>
        cases e2 : intsOf c with
        | none =>
          rw [e1, e2] at h
          cases h
        | some n1 =>
          rw [e1, e2] at h
          rw [intsOf_use e1 h3] at h2
          rw [intsOf_use e2 h6] at h5
          exact .inr (.inr ⟨p, q, m1, n1, rfl, rfl, h2, h5, by rw [show HT.lexLt m1 n1 = b from Option.some.inj h]; exact k⟩)
    | _ => simp [ltD] at h
  | _ => cases dy <;> simp [ltD] at h
theorem two_ints {op : Cop} {f : Int → Int → Bool} (r : RS T m H S) (hx : RD T m H dx x) (hy : RD T m H dy y) (h : PostK T (match dx, dy with | .int i, .int j => .ok (.bl (f i j)) S | _, _ => .stuck) m H σ W (KQ T Q)) : ∃ i j, x = .int i ∧ y = .int j ∧ Q (.bl (f i j)) H := by
  cases dx with
  | int i =>
    cases dy with
    | int j =>
      obtain rfl := rd_int hx
      obtain rfl := rd_int hy
      exact ⟨i, j, rfl, rfl, ok_use r h rfl⟩
    | _ => exact h.elim
  | _ => exact absurd h (by cases dy <;> simp [PostK])
theorem non_iff {d : D} {v : V} (h : RD T m H d v) : decide (v = .non) = isNon d := by
  cases d with
  | non => simp [show v = .non from h, isNon]
  | tup xs => obtain ⟨p, vs, h1, _⟩ := h; simp [h1, isNon]
  | lst xs => obtain ⟨p, vs, h1, _⟩ := h; simp [h1, isNon]
  | ref l => obtain ⟨p, _, h1⟩ := h; simp [h1, isNon]
  | scr l => obtain ⟨p, h1, _⟩ := h; simp [h1, isNon]
  | tdc ks ds => obtain ⟨p, _, _, h1, _⟩ := h; simp [h1, isNon]
  | bl b => simp [show v = .bl b from h, isNon]
  | int b => simp [show v = .int b from h, isNon]
  | str b => simp [show v = .str b from h, isNon]
  | fn b => simp [show v = .ref (T.fa b) from h, isNon]
theorem rC_ok {op : Cop} (r : RS T m H S) (hx : RD T m H dx x) (hy : RD T m H dy y) (h : PostK T (cmpV op dx dy S) m H σ W (KQ T Q)) : rC T.P T.w T.K op x y H Q := by
  cases op with
  | eq =>
    obtain ⟨b, e, k⟩ := ofB_use r (show PostK T (ofB (eqD S dx dy) S) m H σ W (KQ T Q) from h)
    exact eq_use r e hx hy k
  | ne =>
    obtain ⟨b, e, k⟩ := ofB_use r (show PostK T (ofB ((eqD S dx dy).map (!·)) S) m H σ W (KQ T Q) from h)
    obtain ⟨c, e1, e2⟩ := Option.map_eq_some_iff.mp e
    subst e2
    exact ne_use r e1 hx hy k
  | lt =>
    obtain ⟨b, e, k⟩ := ofB_use r (show PostK T (ofB (ltD dx dy) S) m H σ W (KQ T Q) from h)
    exact ltD_use r e hx hy k
  | gt => exact two_ints (op := .gt) (f := fun i j => decide (j < i)) r hx hy h
  | le => exact two_ints (op := .le) (f := fun i j => decide (i ≤ j)) r hx hy h
  | ge => exact two_ints (op := .ge) (f := fun i j => decide (j ≤ i)) r hx hy h
  | is =>
    cases dy with
    | non =>
      obtain rfl := rd_non hy
      have h : PostK T (.ok (.bl (isNon dx)) S) m H σ W (KQ T Q) := by cases dx <;> exact h
      exact .inl ⟨rfl, by rw [non_iff hx]; exact ok_use r h rfl⟩
    | bl b =>
      cases dx with
      | bl a =>
        obtain rfl := rd_bl hx
        obtain rfl := rd_bl hy
        exact .inr ⟨a, b, rfl, rfl, ok_use r h rfl⟩
      | _ => exact absurd h (by simp [cmpV, PostK])
    | _ => exact absurd h (by cases dx <;> simp [cmpV, PostK])
  | nis =>
    cases dy with
    | non =>
      obtain rfl := rd_non hy
      have h : PostK T (.ok (.bl (!isNon dx)) S) m H σ W (KQ T Q) := by cases dx <;> exact h
      refine .inl ⟨rfl, ?_⟩
      rw [non_iff hx]
      exact ok_use r h rfl
    | bl b =>
      cases dx with
      | bl a =>
        obtain rfl := rd_bl hx
        obtain rfl := rd_bl hy
        exact .inr ⟨a, b, rfl, rfl, ok_use r h rfl⟩
      | _ => exact absurd h (by simp [cmpV, PostK])
    | _ => exact absurd h (by cases dx <;> simp [cmpV, PostK])
  | isin =>
    obtain ⟨b, e, k⟩ := ofB_use r (show PostK T (ofB (inD S dx dy) S) m H σ W (KQ T Q) from h)
    exact in_use r id e hx hy k
  | nin =>
    obtain ⟨b, e, k⟩ := ofB_use r (show PostK T (ofB ((inD S dx dy).map (!·)) S) m H σ W (KQ T Q) from h)
    obtain ⟨c, e1, e2⟩ := Option.map_eq_some_iff.mp e
    subst e2
    exact in_use r not e1 hx hy k
end
end Ev


namespace Ev
open PySem PySem.Spec L2 PyProof.Rows
/-! ### zip of any two of lists, tuples, texts -/
inductive Sc where
  | l (a : Addr) | t (a : Addr) | s (z : Str)
def Sc.foot : Sc → List Addr
  | .l a => [a]
  | .t a => [a]
  | .s _ => []
def Sc.has (K : PySem.W.Frag) : Sc → Hp → List V → Prop
  | .l a, H, xs => SqL K H a xs
  | .t a, H, xs => SqT K H a xs
  | .s z, _, xs => xs = z.cps.toList.map fun c => V.str ⟨#[c]⟩
def Sc.is : Sc → V → Prop
  | .l a, v => v = .ref a
  | .t a, v => v = .ref a
  | .s z, v => v = .str z
def Sc.it : Sc → Nat → Heap → Addr → Prop
  | .l a, i, h, p => h.IsListIter p a i
  | .t a, i, h, p => h.IsTupleIter p a i
  | .s z, i, h, p => ∃ t, h.IsStrIter p (strIterType z) z t i
section
variable {X : Cx} {pins : List (Addr × Obj)} {σ : L2.St} {H : Hp} {s : Shared} {c : Sc} {p : Addr} {i : Nat} {xs ys : List V}
theorem Sc.uniq (I : Inv X pins σ H s) (h1 : c.has X.K H xs) (h2 : c.has X.K H ys) : xs = ys := by
  cases c with
  | l a => exact I.list_inj h1 h2
  | t a => exact I.tuple_inj h1 h2
  | s z => exact h1.trans h2.symm
theorem Sc.it_live {h : Heap} (st : c.it i h p) : ∃ o, h.get? p = some o ∧ ∀ v, o.data ≠ .cell v := by
  cases c with
  | l a => obtain ⟨o, h1, _, h2⟩ := st; exact ⟨o, h1, fun v q => by rw [h2] at q; cases q⟩
  | t a => obtain ⟨o, h1, _, h2⟩ := st; exact ⟨o, h1, fun v q => by rw [h2] at q; cases q⟩
  | s z => obtain ⟨t, o, h1, _, h2⟩ := st; exact ⟨o, h1, fun v q => by rw [h2] at q; cases q⟩
theorem Sc.it_keep {h h' : Heap} (st : c.it i h p) (k : ∀ o, h.get? p = some o → h'.get? p = some o) : c.it i h' p := by
  cases c with
  | l a => exact Heap.IsListIter.at st k
  | t a => exact Heap.IsTupleIter.at st k
  | s z => obtain ⟨t, o, h1, h2, h3⟩ := st; exact ⟨t, o, k o h1, h2, h3⟩
/-- what it draws, as it stands -/
theorem Sc.drw (A' : Around) (I : Inv X pins σ H s) (hh : A'.handled = none) (h : c.has X.K H xs) (hp : p ∉ c.foot) (st : c.it i s.heap p) : ∃ (P : Nat → Value → Prop) (St : Nat → Heap → Prop), Draws X.prog X.w A' p (p :: c.foot) xs.length P St ∧ St i s.heap ∧
    (∀ j v, P j v → ∃ x, xs[j]? = some x ∧ RelV x v) ∧ ∀ j h', St j h' → c.it j h' p := by
  cases c with
  | l a =>
    obtain ⟨its, rv, q, _⟩ := I.list h
    have D := Draws.list (prog := X.prog) (w := X.w) (A := A') hh p a (fun e => hp (by rw [← e]; simp [Sc.foot])) its.toArray
    have en : its.toArray.size = xs.length := by simpa using rv.length.symm
    rw [en] at D
    exact ⟨_, _, D, ⟨st, q.isList⟩, fun j v hv => by
      have hv : its[j]? = some v := by simpa using hv
      have hj := (List.getElem?_eq_some_iff.mp hv).1
      have hj2 : j < xs.length := by rw [rv.length]; exact hj
      obtain ⟨u, hu, ru⟩ := rv.get (List.getElem?_eq_getElem hj2)
      rw [hv] at hu
      cases hu
      exact ⟨_, List.getElem?_eq_getElem hj2, ru⟩, fun j h' z => z.1⟩
  | t a =>
    obtain ⟨its, rv, q, _⟩ := I.tuple h
    have D := Draws.tuple (prog := X.prog) (w := X.w) (A := A') hh p a (fun e => hp (by rw [← e]; simp [Sc.foot])) its.toArray
    have en : its.toArray.size = xs.length := by simpa using rv.length.symm
    rw [en] at D
    exact ⟨_, _, D, ⟨st, q⟩, fun j v hv => by
      have hv : its[j]? = some v := by simpa using hv
      have hj := (List.getElem?_eq_some_iff.mp hv).1
      have hj2 : j < xs.length := by rw [rv.length]; exact hj
      obtain ⟨u, hu, ru⟩ := rv.get (List.getElem?_eq_getElem hj2)
      rw [hv] at hu
      cases hu
      exact ⟨_, List.getElem?_eq_getElem hj2, ru⟩, fun j h' z => z.1⟩
  | s z =>
    obtain ⟨t, st⟩ := st
    have h : xs = z.cps.toList.map fun c => V.str ⟨#[c]⟩ := h
    subst h
    have D := Draws.text (prog := X.prog) (w := X.w) (A := A') hh p z t
    have en : z.cps.size = (z.cps.toList.map fun c => V.str ⟨#[c]⟩).length := by simp
    rw [en] at D
    exact ⟨_, _, D, st, fun j v hv => by
      obtain ⟨c, u, h1, rfl⟩ := hv
      refine ⟨.str ⟨#[c]⟩, ?_, ⟨u, rfl⟩⟩
      rw [List.getElem?_map]
      rw [← Array.getElem?_toList] at h1
      rw [h1]
      rfl, fun j h' z => ⟨t, z⟩⟩
/-- the items in new pairs -/
def ItG (K : PySem.W.Frag) (c1 c2 : Sc) : It :=
  ⟨fun i H => ∃ (xs ys : List V), c1.has K H xs ∧ c2.has K H ys ∧ i < xs.length ∧ i < ys.length,
    fun i H v H' => ∃ T x y, v = .ref T ∧ H T = none ∧ H' = upd H T (.tup [x, y]) ∧ (∀ xs, c1.has K H xs → xs[i]? = some x) ∧ ∀ ys, c2.has K H ys → ys[i]? = some y,
    fun i H => ∃ xs ys : List V, c1.has K H xs ∧ c2.has K H ys ∧ i ≤ xs.length ∧ i ≤ ys.length ∧ (i = xs.length ∨ i = ys.length)⟩
/-- the cells lie apart -/
structure ApG (z TI TO i1 i2 : Addr) (c1 c2 : Sc) : Prop where
  nd : [z, TI, TO, i1, i2].Nodup
  f1 : ∀ b ∈ [z, TI, TO, i1, i2], b ∉ c1.foot
  f2 : ∀ b ∈ [z, TI, TO, i1, i2], b ∉ c2.foot
theorem ApG.sep {z TI TO i1 i2 : Addr} {c1 c2 : Sc} (D : ApG z TI TO i1 i2 c1 c2) : ZipSep2 z TI TO i1 i2 (i1 :: c1.foot) (i2 :: c2.foot) := by
  have n := D.nd
  simp only [List.nodup_cons, List.mem_cons, List.not_mem_nil, or_false, not_or, List.nodup_nil, and_true, not_false_eq_true] at n
  obtain ⟨⟨a1, a2, a3, a4⟩, ⟨b1, b2, b3⟩, ⟨c1, c2⟩, d⟩ := n
  have f1 := fun b hb => D.f1 b hb
  have f2 := fun b hb => D.f2 b hb
  refine ⟨Ne.symm a1, Ne.symm a2, b1, b2, List.mem_cons_self, ?_, ?_, b3, List.mem_cons_self, ?_, ?_, ?_, ?_⟩
  all_goals (intro e; rcases List.mem_cons.mp e with e | e)
  · exact a3 e
  · exact f1 _ (by simp) e
  · exact c1 e
  · exact f1 _ (by simp) e
  · exact a4 e
  · exact f2 _ (by simp) e
  · exact c2 e
  · exact f2 _ (by simp) e
  · exact d e
  · exact f2 _ (by simp) e
  · exact d e.symm
  · exact f1 _ (by simp) e
end
theorem turn_zipG {P : Program} {w : World} {K : PySem.W.Frag} {elts : List Expr} {kk : Nat} {tpos : Pos} {c1 c2 : Sc} {z TI TO i1 i2 : Addr} (D : ApG z TI TO i1 i2 c1 c2) :
    Turn P w K (.Tuple elts kk tpos) (ItG K c1 c2) [z, TI, TO, i1, i2] z (fun i h => IsZip h z TI TO .none ∧ IsPair h TI (.ref i1) (.ref i2) ∧ (∃ x y, IsPair h TO x y) ∧ c1.it i h i1 ∧ c2.it i h i2) where
  mem := by simp
  obj := fun i h st c hc => by
    obtain ⟨hz, hTI, ⟨x, y, hTO⟩, h1, h2⟩ := st
    simp only [List.mem_cons, List.not_mem_nil, or_false] at hc
    rcases hc with rfl | rfl | rfl | rfl | rfl
    · exact ⟨_, hz, fun v q => nomatch q⟩
    · exact ⟨_, hTI, fun v q => nomatch q⟩
    · exact ⟨_, hTO, fun v q => nomatch q⟩
    · exact Sc.it_live h1
    · exact Sc.it_live h2
  keep := fun i h h' st k => by
    obtain ⟨hz, hTI, ⟨x, y, hTO⟩, h1, h2⟩ := st
    exact ⟨k z (by simp) _ hz, k TI (by simp) _ hTI, ⟨x, y, k TO (by simp) _ hTO⟩, Sc.it_keep h1 (k i1 (by simp)), Sc.it_keep h2 (k i2 (by simp))⟩
  item := by
    intro X hP hw hK hc i pins s σ H E I hf st hg
    subst hP hw hK
    obtain ⟨hz, hTI, ⟨x0, y0, hTO⟩, h1, h2⟩ := st
    obtain ⟨xs, ys, hqx, hqy, lx, ly⟩ := hg
    obtain ⟨P1, St1, D1, s1, e1, r1⟩ := Sc.drw X.A.in1 I (I.ok.hd hc) hqx (D.f1 _ (by simp)) h1
    obtain ⟨P2, St2, D2, s2, e2, r2⟩ := Sc.drw X.A.in1 I (I.ok.hd hc) hqy (D.f2 _ (by simp)) h2
    have hzl : z < s.heap.objs.size := Heap.lt_size hz
    refine wpAny_pyNext_zipD2_item D.sep D1 D2 hz hTI hTO s1 s2 lx ly fun u u2 h' tk y1 y2 z' TO' t1 t2 hT hsz hk => ?_
    obtain ⟨x, hx, ru⟩ := e1 _ _ y1
    obtain ⟨y, hy, ru2⟩ := e2 _ _ y2
    have sep := D.sep
    refine ⟨_, rfl, wpAny_letOwnedTupleGo_zip (s := { s with heap := h', toks := tk }) z' fun h'' z'' sb => ?_⟩
    have hT2 : h''.get? s.heap.objs.size = some { cls := .type "tuple", data := .seq #[u, u2] } := (sb.2 _ (Nat.ne_of_gt hzl)).trans hT
    have new : ObjOk X.prog X.w (upd H s.heap.objs.size (.tup [x, y])) h'' s.heap.objs.size (.tup [x, y]) :=
      ⟨by show 2 ≤ sizeLine; decide, [u, u2], .cons ru (.cons ru2 .nil), ⟨_, hT2, rfl, _, rfl⟩⟩
    have I1 : Inv X pins σ (upd H s.heap.objs.size (.tup [x, y])) { s with heap := h'', toks := tk } :=
      I.turnedNew (t' := tk) (ch := [z, TI, TO, i1, i2]) (fun c o hb q => by
        simp only [List.mem_cons, List.not_mem_nil, or_false, not_or] at hb
        exact (sb.2 c hb.1).trans (hk c o hb.1 hb.2.2.1 hb.2.2.2.1 hb.2.2.2.2 q)) hf (Nat.le_refl _) new
    refine ⟨.ref s.heap.objs.size, _, I1, rfl, ⟨_, x, y, rfl, I.hok.fresh (Nat.le_refl _), rfl, fun l hl => by rw [Sc.uniq I hl hqx]; exact hx, fun l hl => by rw [Sc.uniq I hl hqy]; exact hy⟩, ⟨z'', ?_, ⟨u, u2, ?_⟩, ?_, ?_⟩, fun c hcm => ?_⟩
    · exact (sb.2 _ sep.TIz).trans (hk _ _ sep.TIz sep.TITO sep.TIi1 sep.TIi2 hTI)
    · exact (sb.2 _ sep.TOz).trans TO'
    · exact Sc.it_keep (r1 _ _ t1) fun o q => (sb.2 _ sep.zi1.symm).trans q
    · exact Sc.it_keep (r2 _ _ t2) fun o q => (sb.2 _ sep.zi2.symm).trans q
    · have hlt : c < s.heap.objs.size := by
        simp only [List.mem_cons, List.not_mem_nil, or_false] at hcm
        rcases hcm with rfl | rfl | rfl | rfl | rfl
        · exact hzl
        · exact Heap.lt_size hTI
        · exact Heap.lt_size hTO
        · obtain ⟨_, e, _⟩ := Sc.it_live h1; exact Heap.lt_size e
        · obtain ⟨_, e, _⟩ := Sc.it_live h2; exact Heap.lt_size e
      rw [upd_ne (Nat.ne_of_lt hlt)]
      exact (hf c hcm).1
  done := by
    intro X hP hw hK hc i pins s σ H E I hf st hg
    subst hP hw hK
    obtain ⟨hz, hTI, ⟨x0, y0, hTO⟩, h1, h2⟩ := st
    obtain ⟨xs, ys, hqx, hqy, lx, ly, hend⟩ := hg
    obtain ⟨P1, St1, D1, s1, _, _⟩ := Sc.drw X.A.in1 I (I.ok.hd hc) hqx (D.f1 _ (by simp)) h1
    obtain ⟨P2, St2, D2, s2, _, _⟩ := Sc.drw X.A.in1 I (I.ok.hd hc) hqy (D.f2 _ (by simp)) h2
    refine wpAny_pyNext_zipD2_end D.sep D1 D2 hz hTI hTO s1 s2 lx ly hend fun h' tk hk => ⟨rfl, I.turnedL (t' := tk) (ch := [z, TI, TO, i1, i2]) (fun c o hb q => ?_) hf⟩
    simp only [List.mem_cons, List.not_mem_nil, or_false, not_or] at hb
    exact hk c o hb.1 hb.2.2.1 hb.2.2.2.1 hb.2.2.2.2 q
  self := fun A i s Q E st h => wpAny_pyIter_zip st.1 h
/-- iter of a source -/
theorem Sc.beg {X : Cx} {pins : List (Addr × Obj)} {σ : L2.St} {H : Hp} {s : Shared} {c : Sc} {xs : List V} {v : V} {u : Value} (I : Inv X pins σ H s) (h : c.has X.K H xs) (hv : c.is v) (r : RelV v u) :
    ∃ (o : Obj) (G : Heap → Prop), Begins u o G ∧ G s.heap ∧ (∀ b ∈ c.foot, b < s.heap.objs.size) ∧ ∀ h' p, h'.get? p = some o → c.it 0 h' p := by
  cases c with
  | l a =>
    have hv : v = .ref a := hv
    subst hv
    cases r
    obtain ⟨its, rv, q, _⟩ := I.list h
    exact ⟨_, _, begins_list a its.toArray, q.isList, fun b hb => by
      have hb : b = a := by simpa [Sc.foot] using hb
      rw [hb]
      exact q.lt, fun h' p e => ⟨_, e, rfl, rfl⟩⟩
  | t a =>
    have hv : v = .ref a := hv
    subst hv
    cases r
    obtain ⟨its, rv, q, _⟩ := I.tuple h
    obtain ⟨o1, ho1, _⟩ := id q
    exact ⟨_, _, begins_tuple a its.toArray, q, fun b hb => by
      have hb : b = a := by simpa [Sc.foot] using hb
      rw [hb]
      exact Heap.lt_size ho1, fun h' p e => ⟨_, e, rfl, rfl⟩⟩
  | s z =>
    have hv : v = .str z := hv
    subst hv
    obtain ⟨t, rfl⟩ := r
    exact ⟨_, _, begins_text z t, trivial, fun b hb => by simp [Sc.foot] at hb, fun h' p e => ⟨t, _, e, rfl, rfl⟩⟩
def iZipG (K : PySem.W.Frag) (ta : TA) : TI := fun σ H R => ta σ H fun vs H1 => ∃ c1 c2 v1 v2 xs ys, vs = [v1, v2] ∧ Sc.is c1 v1 ∧ Sc.is c2 v2 ∧ c1.has K H1 xs ∧ c2.has K H1 ys ∧ R (ItG K c1 c2) H1
theorem pi_zipG {X : Cx} {e e2 : Expr} {ta : TA} {p pos tpos : Pos} {elts : List Expr} {kk : Nat} (hg : Gl X "zip") (hm : X.mg "zip" = none) (ha : PA X [e, e2] ta)
    (hs : starEach [e, e2] X.env = (false, eval e X.env) :: starEach [e2] X.env := by rfl) (hpl : (backTo pos (starEach [e2] X.env)).any (·.1) = false := by rfl) :
    PI X (.Tuple elts kk tpos) (.Call (.Name "zip" p) [e, e2] [] pos) (iZipG X.K ta) := by
  refine ⟨fun pins s σ H R I h => ?_⟩
  refine Call_ (ld_blt I hg hm PyProof.Rows.boot_zip (PyProof.Rows.callWith_type1 (thn (ha.run pos pins s σ H _ I h) fun us s1 ⟨vs, H1, I1, r1, q1⟩ => ?_) hs hpl))
  obtain ⟨c1, c2, v1, v2, xs, ys, rfl, i1, i2, h1, h2, q⟩ := q1
  cases r1 with
  | cons r rr =>
    cases rr with
    | cons r' rr =>
      cases rr
      obtain ⟨o1, G1, B1, g1, l1, t1⟩ := Sc.beg I1 h1 i1 r
      obtain ⟨o2, G2, B2, g2, l2, t2⟩ := Sc.beg I1 h2 i2 r'
      have mem5 : ∀ c, c ∈ [s1.heap.objs.size + 4, s1.heap.objs.size + 2, s1.heap.objs.size + 3, s1.heap.objs.size, s1.heap.objs.size + 1] → s1.heap.objs.size ≤ c := fun c hc => by
        simp only [List.mem_cons, List.not_mem_nil, or_false] at hc
        omega
      refine zip_begins2 B1 B2 g1 g2 fun h' hz hTI hTO a1 a2 hsz hk => wpAny_pyIter_zip hz ?_
      have I2 : Inv X pins σ H1 { s1 with heap := h' } := I1.kept (t' := s1.toks) hk
      refine ⟨s1.heap.objs.size + 4, [s1.heap.objs.size + 4, s1.heap.objs.size + 2, s1.heap.objs.size + 3, s1.heap.objs.size, s1.heap.objs.size + 1], _, _, H1, rfl, I2, turn_zipG (TI := s1.heap.objs.size + 2) (TO := s1.heap.objs.size + 3) (i1 := s1.heap.objs.size) (i2 := s1.heap.objs.size + 1) ⟨?_, fun b hb z => ?_, fun b hb z => ?_⟩, ⟨hz, hTI, ⟨_, _, hTO⟩, t1 _ _ a1, t2 _ _ a2⟩, fun c hc => I1.fpOk (mem5 c hc) (I1.hok.fresh (mem5 c hc)), q⟩
      · simp
      · exact Nat.lt_irrefl _ (Nat.lt_of_lt_of_le (l1 b z) (mem5 b hb))
      · exact Nat.lt_irrefl _ (Nat.lt_of_lt_of_le (l2 b z) (mem5 b hb))
theorem walk_zipG {K : PySem.W.Frag} {c1 c2 : Sc} {xs ys : List V} {n : Nat} (hn : n = min xs.length ys.length) : Walk (ItG K c1 c2) n (fun H => c1.has K H xs ∧ c2.has K H ys) (YPair (fun i => xs[i]?) (fun i => ys[i]?)) := by
  subst hn
  refine ⟨fun i _ hi q => ⟨xs, ys, q.1, q.2, by omega, by omega⟩, fun _ q => ⟨xs, ys, q.1, q.2, by omega, by omega, by omega⟩, fun i H v H' _ q y => ?_⟩
  obtain ⟨T, x, z, e1, e2, e3, e4, e5⟩ := y
  exact ⟨T, x, z, e1, e2, e3, e4 xs q.1, e5 ys q.2⟩
end Ev


namespace Ev
open PySem PySem.Spec L2 PyProof.Rows
/-! ### sorted of data that are alike -/
def rSortG (K : PySem.W.Frag) : List V → Hp → VK → Prop := fun xs H Q => ∃ (a : Addr) (ps : List (PyData × V)), xs = [.ref a] ∧ SqL K H a (ps.map (·.2)) ∧ (∀ p ∈ ps, Dp K H p.2 p.1) ∧ PySem.W.AllAlike (ps.map (·.1)) ∧ PySem.W.Sortable (ps.map (·.1)) ∧ (∀ p ∈ ps, p.1.depth ≤ 64) ∧
  ∀ l, H l = none → Q (.ref l) (upd H l (.lst ((ps.mergeSort (PySem.W.dataLe false (·.1))).map (·.2))))
theorem each_vals : ∀ {ps : List (PyData × V)} {us : List Value}, Vals (ps.map (·.2)) us → PySem.W.EachIs (fun u (p : PyData × V) => RelV p.2 u) us ps
  | [], _, .nil => .nil
  | p :: ps, _, .cons h t => .cons h (each_vals t)
theorem vals_each : ∀ {ps : List (PyData × V)} {us : List Value}, PySem.W.EachIs (fun u (p : PyData × V) => RelV p.2 u) us ps → Vals (ps.map (·.2)) us
  | _, _, .nil => .nil
  | _, _, .cons h t => .cons h (vals_each t)
theorem each_reads {X : Cx} {pins : List (Addr × Obj)} {σ : L2.St} {H : Hp} {s : Shared} (I : Inv X pins σ H s) : ∀ {ps : List (PyData × V)} {us : List Value}, Vals (ps.map (·.2)) us → (∀ p ∈ ps, Dp X.K H p.2 p.1) → PySem.W.EachIs (fun u (p : PyData × V) => ∃ as, Reads s.heap u p.1 as) us ps
  | [], _, .nil, _ => .nil
  | p :: ps, _, .cons h t, k => .cons (Dp.reads I p.1 p.2 _ (k p List.mem_cons_self) h) (each_reads I t fun q hq => k q (List.mem_cons_of_mem _ hq))
theorem call_sortedG {X : Cx} (hu : X.A.units + 70 < cLine) : CallR X (.builtin "sorted") (rSortG X.K) := by
  intro pins s σ H vs us Q I r h
  obtain ⟨a, ps, rfl, hs, hd, hal, hk, hdp, q⟩ := h
  obtain ⟨its, rv, pl, hz⟩ := I.list hs
  obtain ⟨u, rfl, ru⟩ := vals1 r
  obtain rfl : u = Value.ref a := ru
  have hl : ps.length ≤ sizeLine := by simpa using hz
  refine PySem.W.sorted_data (vs := its) (bs := ps) (enc := fun p : PyData × V => p.1) (R := fun u p => RelV p.2 u) pl.isList (each_vals rv) (each_reads I rv hd) hal hk hl (fun b hb => by have := hdp b hb; omega) fun out hlen he => ?_
  have hv := vals_each he
  have hn := PyProof.Rows.sortedAll_at s.heap its out.toArray
  obtain ⟨n, hn⟩ := hn
  refine ⟨.ref (s.heap.objs.size + 1), _, I.laid (t' := s.toks) (o := .lst ((ps.mergeSort (PySem.W.dataLe false (·.1))).map (·.2))) (fun b o e => PyProof.Rows.sortedAll_old e) (Nat.le_succ _) ⟨?_, out, n, hv, hn⟩, rfl, q _ (I.hok.fresh (Nat.le_succ _))⟩
  rw [List.length_map, List.length_mergeSort]
  exact hl
end Ev


namespace Ev
open PySem PySem.Spec L2 PyProof.Rows
/-! ### enumerate(zip(x, y)): the pairs are kept by the outer tuples, so zip makes new ones from the second on -/
/-- zip's record, its last pair in f0 -/
abbrev ZipR (h : Heap) (z TI TO : Addr) (f0 : Value) (b : Bool) : Prop := h.get? z = some { cls := .type "zip", dict := none, data := .fields #[f0, .bool b, .bool false, .ref TI, .ref TO], slots := #[] }
def ZipS (h : Heap) (z TI TO : Addr) : Prop := ∃ f0 b, ZipR h z TI TO f0 b ∧ (f0 = .none ∨ ∃ T : Addr, f0 = rawInt T)
section
variable {prog : Program} {w : World} {A : Around} {E : Value → Shared → Prop} {s : Shared} {z TI TO i1 i2 : Addr} {fp1 fp2 : List Addr} {n1 n2 i : Nat} {P1 P2 : Nat → Value → Prop} {St1 St2 : Nat → Heap → Prop} {a1 a2 : Value}
theorem alive_ask {M : Model} {a : Addr} {Q : Option Obj → Shared → Prop} (h : Q (s.heap.get? a) s) : wpAny M A (loadIfAlive a) Q E s := fun _ _ _ => h
/-- whether the last pair is gone: nobody asks -/
theorem zip_free (h : ZipS s.heap z TI TO) : wpAny (model prog w) A (Builtin.SmallTypes.ownedTupleIsFree (.ref z)) (fun _ s' => ∃ h', s' = { s with heap := h' } ∧ Heap.SameBut z s.heap h' ∧ ZipS h' z TI TO) E s := by
  obtain ⟨f0, b, hz, hf⟩ := h
  have stay : ∃ h', s = { s with heap := h' } ∧ Heap.SameBut z s.heap h' ∧ ZipS h' z TI TO := ⟨s.heap, rfl, Heap.SameBut.refl _ _, f0, b, hz, hf⟩
  unfold Builtin.SmallTypes.ownedTupleIsFree
  rcases hf with rfl | ⟨T, rfl⟩
  · exact wpAny_bind (wpAny_field hz rfl (x := .none) rfl (wpAny_pure stay))
  · refine wpAny_bind (wpAny_field hz rfl (x := rawInt T) rfl ?_)
    show wpAny _ _ (loadIfAlive ((T : Int).toNat) >>= _) _ _ _; refine wpAny_bind (alive_ask ?_)
    generalize s.heap.get? ((T : Int).toNat) = q
    cases q with
    | none => simp only [Option.isNone_none, if_true]; exact wpAny_pure stay
    | some o =>
      simp only [Option.isNone_some, Bool.false_eq_true, if_false]
      refine wpAny_bind (wpAny_field hz rfl (x := .bool b) rfl ?_)
      cases b with
      | true => exact wpAny_pure stay
      | false => exact wpAny_bind (wpAny_setField_rec hz (by simp) fun h1 hz1 hs1 => wpAny_pure ⟨h1, rfl, hs1, rawInt T, true, hz1, .inr ⟨T, rfl⟩⟩)
theorem pair_put {T : Addr} {x : Value} {k : Nat} {Q : Unit → Shared → Prop} (hT : IsPair s.heap T a1 a2) (hk : k = 0 ∨ k = 1)
    (h : ∀ h' b1 b2, IsPair h' T b1 b2 → (k = 0 → b1 = x ∧ b2 = a2) → (k = 1 → b1 = a1 ∧ b2 = x) → Heap.SameBut T s.heap h' → Q () { s with heap := h' }) :
    wpAny (model prog w) A (updateSeq T (·.setIfInBounds k x)) Q E s := by
  refine wpAny_updateSeq hT rfl ?_
  have g := Heap.get?_update_self (Obj.mapSeq (·.setIfInBounds k x)) hT rfl
  rcases hk with rfl | rfl
  · exact h _ x a2 (g.trans (by simp [Obj.mapSeq])) (fun _ => ⟨rfl, rfl⟩) (fun e => absurd e (by decide)) (Heap.SameBut.update ..)
  · exact h _ a1 x (g.trans (by simp [Obj.mapSeq])) (fun e => absurd e (by decide)) (fun _ => ⟨rfl, rfl⟩) (Heap.SameBut.update ..)
/-- a pair more -/
theorem zipS_item {Q : Value → Shared → Prop} (S : ZipSep2 z TI TO i1 i2 fp1 fp2) (D1 : Draws prog w A i1 fp1 n1 P1 St1) (D2 : Draws prog w A i2 fp2 n2 P2 St2) (hz : ZipS s.heap z TI TO) (hTI : IsPair s.heap TI (.ref i1) (.ref i2)) (hTO : ∃ x y, IsPair s.heap TO x y) (st1 : St1 i s.heap) (st2 : St2 i s.heap) (l1 : i < n1) (l2 : i < n2)
    (hQ : ∀ x1 x2 h' tk, P1 i x1 → P2 i x2 → ZipS h' z TI TO → (∃ x y, IsPair h' TO x y) → St1 (i + 1) h' → St2 (i + 1) h' → IsPair h' s.heap.objs.size x1 x2 → h'.objs.size = s.heap.objs.size + 1 → (∀ c o, c ≠ z → c ≠ TO → c ≠ i1 → c ≠ i2 → s.heap.get? c = some o → h'.get? c = some o) → Q (.ref s.heap.objs.size) { s with heap := h', toks := tk }) :
    wpAny (model prog w) A (Builtin.«zip.__next__» ⟨[.ref z], []⟩) (fun fin s' => ∃ v, fin = .done (.ret v) ∧ Q v s') E s := by
  obtain ⟨f0, b, hz0, hf⟩ := id hz
  show wpAny _ _ (field (.ref z) 2 >>= _) _ _ _; refine wpAny_bind (wpAny_field hz0 rfl (x := .bool false) rfl ?_)
  show wpAny _ _ (field (.ref z) 3 >>= _) _ _ _; refine wpAny_bind (wpAny_field hz0 rfl (x := .ref TI) rfl (wpAny_bind (wpAny_seqItems hTI rfl ?_)))
  show wpAny _ _ (Builtin.SmallTypes.ownedTupleIsFree (.ref z) >>= _) _ _ _
  refine wpAny_bind (wpAny_mono (zip_free hz) (fun r s1 hh => ?_) fun _ _ z => z)
  obtain ⟨h1, rfl, sb, f1, b1, hz1, hf1⟩ := hh
  cases r with
  | true =>
    obtain ⟨y1, y2, hTO⟩ := hTO
    simp only [if_true]
    refine wpAny_bind (wpAny_rule (wpAny_bind (wpAny_field hz1 rfl (x := .ref TO) rfl (wpAny_bind (wpAny_setField_rec hz1 (by simp) fun h2 hz2 b2 => ?_)))))
    replace hz2 : ZipR h2 z TI TO .ellipsis b1 := hz2
    have T2 : IsPair h2 TO y1 y2 := b2.extBut _ _ S.TOz (sb.extBut _ _ S.TOz hTO)
    simp only [List.zipIdx_cons, List.zipIdx_nil, List.forIn_cons, List.forIn_nil]
    refine wpAny_bind (wpAny_bind (wpAny_bind (wpAny_onRaise ?_)))
    show wpAny _ _ (Builtin.SmallTypes.nextOf (.ref i1) >>= _) _ _ _
    refine wpAny_bind (D1.item i _ _ _ l1 (D1.over (D1.over st1 sb S.zf1) b2 S.zf1) fun x1 h3 t3 p1 s1 b3 => wpAny_pure ?_)
    have T3 : IsPair h3 TO y1 y2 := b3.extBut _ _ S.Ti1 T2
    refine wpAny_bind (wpAny_seqItems T3 rfl (wpAny_bind (pair_put T3 (.inl rfl) fun h4 u1 u2 T4 e4 _ b4 => wpAny_bind (wpAny_letGo (wpAny_pure ?_)))))
    obtain ⟨rfl, rfl⟩ := e4 rfl
    refine wpAny_bind (wpAny_bind (wpAny_onRaise ?_))
    show wpAny _ _ (Builtin.SmallTypes.nextOf (.ref i2) >>= _) _ _ _
    refine wpAny_bind (D2.item i _ _ _ l2 (D2.over (D2.over (D2.over (D2.over st2 sb S.zf2) b2 S.zf2) b3 S.sep1_2) b4 S.Tf2) fun x2 h5 t5 p2 s2 b5 => wpAny_pure ?_)
    have T5 : IsPair h5 TO u1 u2 := b5.extBut _ _ S.Ti2 T4
    refine wpAny_bind (wpAny_seqItems T5 rfl (wpAny_bind (pair_put T5 (.inr rfl) fun h6 v1 v2 T6 _ e6 b6 => wpAny_bind (wpAny_letGo (wpAny_pure (wpAny_pure ?_))))))
    obtain ⟨rfl, rfl⟩ := e6 rfl
    refine wpAny_bind (wpAny_seqItems T6 rfl (wpAny_bind (wpAny_newTuple (hsz := (by show 2 ≤ sizeLine; decide)) ?_)))
    have sz : h6.objs.size = s.heap.objs.size := ((((b6.1.trans b5.1).trans b4.1).trans b3.1).trans b2.1).trans sb.1
    have z6 : ZipR h6 z TI TO .ellipsis b1 := b6.extBut _ _ S.TOz.symm (b5.extBut _ _ S.zi2 (b4.extBut _ _ S.TOz.symm (b3.extBut _ _ S.zi1 hz2)))
    have k6 : ∀ c o, c ≠ z → c ≠ TO → c ≠ i1 → c ≠ i2 → s.heap.get? c = some o → h6.get? c = some o := fun c o c1 c2 c3 c4 e =>
      b6.extBut _ _ c2 (b5.extBut _ _ c4 (b4.extBut _ _ c2 (b3.extBut _ _ c3 (b2.extBut _ _ c1 (sb.extBut _ _ c1 e)))))
    have q1 : St1 (i + 1) h6 := D1.over (D1.over (D1.over s1 b4 S.Tf1) b5 S.sep2_1) b6 S.Tf1
    have q2 : St2 (i + 1) h6 := D2.over s2 b6 S.Tf2
    have zlt : z < h6.objs.size := Heap.lt_size z6
    have z7 : ZipR (h6.push { cls := .type "tuple", data := .seq #[v1, v2] }) z TI TO .ellipsis b1 := Heap.get?_push_of_some _ z6
    show wpAny _ _ (Builtin.SmallTypes.ownedTupleHandOut (.ref z) (.ref h6.objs.size) >>= _) _ _ _
    refine wpAny_bind ?_; unfold Builtin.SmallTypes.ownedTupleHandOut
    refine wpAny_bind (wpAny_setField_rec z7 (by simp) fun h8 z8 b8 => ?_)
    replace z8 : ZipR h8 z TI TO (rawInt h6.objs.size) b1 := z8
    refine wpAny_setField_rec z8 (by simp) fun h9 z9 b9 => wpAny_pure ⟨_, rfl, ?_⟩
    replace z9 : ZipR h9 z TI TO (rawInt h6.objs.size) false := z9
    have up : ∀ c o, c ≠ z → (h6.push { cls := .type "tuple", data := .seq #[v1, v2] }).get? c = some o → h9.get? c = some o := fun c o c1 e => b9.extBut _ _ c1 (b8.extBut _ _ c1 e)
    have new : IsPair h9 h6.objs.size v1 v2 := up _ _ (Nat.ne_of_gt zlt) (Heap.get?_push_size _ rfl)
    have szn : h9.objs.size = h6.objs.size + 1 := by rw [b9.1, b8.1, Heap.size_push]
    have up6 : ∀ c o, c ≠ z → h6.get? c = some o → h9.get? c = some o := fun c o c1 e => up c o c1 (Heap.get?_push_of_some _ e)
    show Q (.ref h6.objs.size) { heap := h9, gens := s.gens, drawn := s.drawn, toks := t5, os := s.os }
    rw [sz] at new szn ⊢
    exact hQ v1 v2 h9 t5 p1 p2 ⟨_, false, z9, .inr ⟨_, rfl⟩⟩ ⟨_, _, up6 _ _ S.TOz T6⟩ (D1.frame _ _ _ q1 fun c hc o e => up6 c o (fun y => S.zf1 (y ▸ hc)) e) (D2.frame _ _ _ q2 fun c hc o e => up6 c o (fun y => S.zf2 (y ▸ hc)) e) new szn fun c o c1 c2 c3 c4 e => up6 c o c1 (k6 c o c1 c2 c3 c4 e)
  | false =>
    simp only [Bool.false_eq_true, if_false, List.forIn_toArray, List.forIn_cons, List.forIn_nil]
    refine wpAny_bind (wpAny_bind (wpAny_bind (wpAny_holding ?_)))
    show wpAny _ _ (Builtin.SmallTypes.nextOf (.ref i1) >>= _) _ _ _
    refine wpAny_bind (D1.item i _ _ _ l1 (D1.over st1 sb S.zf1) fun x1 h2 t2 p1 s1 b2 => wpAny_pure (wpAny_pure (wpAny_bind (wpAny_bind (wpAny_holding ?_)))))
    show wpAny _ _ (Builtin.SmallTypes.nextOf (.ref i2) >>= _) _ _ _
    refine wpAny_bind (D2.item i _ _ _ l2 (D2.over (D2.over st2 sb S.zf2) b2 S.sep1_2) fun x2 h3 t3 p2 s2 b3 => wpAny_pure (wpAny_pure (wpAny_pure (wpAny_bind (wpAny_newTuple (hsz := (by show 2 ≤ sizeLine; decide)) ?_)))))
    have sz : h3.objs.size = s.heap.objs.size := (b3.1.trans b2.1).trans sb.1
    have up : ∀ c o, c ≠ z → c ≠ i1 → c ≠ i2 → s.heap.get? c = some o → (h3.push { cls := .type "tuple", data := .seq #[x1, x2] }).get? c = some o := fun c o c1 c2 c3 e => Heap.get?_push_of_some _ (b3.extBut _ _ c3 (b2.extBut _ _ c2 (sb.extBut _ _ c1 e)))
    obtain ⟨y1, y2, hTO⟩ := hTO
    refine wpAny_pure ⟨_, rfl, ?_⟩
    show Q (.ref h3.objs.size) { heap := h3.push { cls := .type "tuple", data := .seq #[x1, x2] }, gens := s.gens, drawn := s.drawn, toks := t3, os := s.os }
    have new := Heap.get?_push_size h3 (o := { cls := .type "tuple", data := .seq #[x1, x2] }) rfl
    have szn := Heap.size_push (h := h3) (o := { cls := .type "tuple", data := .seq #[x1, x2] })
    have D1n := D1.frame _ _ _ (D1.over s1 b3 S.sep2_1) fun c _ o e => Heap.get?_push_of_some { cls := .type "tuple", data := .seq #[x1, x2] } e
    have D2n := D2.frame _ _ _ s2 fun c _ o e => Heap.get?_push_of_some { cls := .type "tuple", data := .seq #[x1, x2] } e
    rw [sz] at new szn ⊢
    exact hQ x1 x2 _ t3 p1 p2 ⟨f1, b1, Heap.get?_push_of_some _ (b3.extBut _ _ S.zi2 (b2.extBut _ _ S.zi1 hz1)), hf1⟩ ⟨y1, y2, up _ _ S.TOz S.Ti1 S.Ti2 hTO⟩ D1n D2n new szn fun c o c1 _ c2 c3 e => up c o c1 c2 c3 e
/-- an end is seen -/
theorem zipS_end {Q : Fin → Shared → Prop} (S : ZipSep2 z TI TO i1 i2 fp1 fp2) (D1 : Draws prog w A i1 fp1 n1 P1 St1) (D2 : Draws prog w A i2 fp2 n2 P2 St2) (hz : ZipS s.heap z TI TO) (hTI : IsPair s.heap TI (.ref i1) (.ref i2)) (hTO : ∃ x y, IsPair s.heap TO x y) (st1 : St1 i s.heap) (st2 : St2 i s.heap) (l1 : i ≤ n1) (l2 : i ≤ n2) (le : i = n1 ∨ i = n2)
    (hE : ∀ h' tk e, (∀ c o, c ≠ z → c ≠ TO → c ≠ i1 → c ≠ i2 → s.heap.get? c = some o → h'.get? c = some o) → (∃ o, h'.get? e = some o ∧ o.cls = .type "StopIteration") → E (.ref e) { s with heap := h', toks := tk }) :
    wpAny (model prog w) A (Builtin.«zip.__next__» ⟨[.ref z], []⟩) Q E s := by
  obtain ⟨f0, b, hz0, hf⟩ := id hz
  obtain ⟨y1, y2, hTO⟩ := hTO
  show wpAny _ _ (field (.ref z) 2 >>= _) _ _ _; refine wpAny_bind (wpAny_field hz0 rfl (x := .bool false) rfl ?_)
  show wpAny _ _ (field (.ref z) 3 >>= _) _ _ _; refine wpAny_bind (wpAny_field hz0 rfl (x := .ref TI) rfl (wpAny_bind (wpAny_seqItems hTI rfl ?_)))
  show wpAny _ _ (Builtin.SmallTypes.ownedTupleIsFree (.ref z) >>= _) _ _ _
  refine wpAny_bind (wpAny_mono (zip_free hz) (fun r s1 hh => ?_) fun _ _ z => z)
  obtain ⟨h1, rfl, sb, f1, b1, hz1, hf1⟩ := hh
  cases r with
  | true =>
    simp only [if_true]
    refine wpAny_bind (wpAny_rule (wpAny_bind (wpAny_field hz1 rfl (x := .ref TO) rfl (wpAny_bind (wpAny_setField_rec hz1 (by simp) fun h2 hz2 b2 => ?_)))))
    replace hz2 : ZipR h2 z TI TO .ellipsis b1 := hz2
    have T2 : IsPair h2 TO y1 y2 := b2.extBut _ _ S.TOz (sb.extBut _ _ S.TOz hTO)
    have gone : ∀ (h : Heap) (e : Addr) (t : Nat), ZipR h z TI TO .ellipsis b1 → (∃ o, h.get? e = some o ∧ o.cls = .type "StopIteration") → (∀ c o, c ≠ z → c ≠ TO → c ≠ i1 → c ≠ i2 → s.heap.get? c = some o → h.get? c = some o) →
        wpAny (model prog w) A (setField (.ref z) 0 .none) (fun _ s' => E (.ref e) s') E { s with heap := h, toks := t } := fun h e t hzh ⟨o, ho, hc⟩ hk => by
      have ez : e ≠ z := fun x => by subst x; rw [hzh] at ho; cases ho; simp at hc
      exact wpAny_setField_rec hzh (by simp) fun h' _ hs' => hE h' t e (fun c o c1 c2 c3 c4 x => hs'.extBut _ _ c1 (hk c o c1 c2 c3 c4 x)) ⟨o, hs'.extBut _ _ ez ho, hc⟩
    simp only [List.zipIdx_cons, List.zipIdx_nil, List.forIn_cons, List.forIn_nil]
    refine wpAny_bind (wpAny_bind (wpAny_bind (wpAny_onRaise ?_)))
    show wpAny _ _ (Builtin.SmallTypes.nextOf (.ref i1) >>= _) _ _ _
    by_cases c : i < n1
    · refine wpAny_bind (D1.item i _ _ _ c (D1.over (D1.over st1 sb S.zf1) b2 S.zf1) fun x1 h3 t3 p1 s1 b3 => wpAny_pure ?_)
      have T3 : IsPair h3 TO y1 y2 := b3.extBut _ _ S.Ti1 T2
      refine wpAny_bind (wpAny_seqItems T3 rfl (wpAny_bind (pair_put T3 (.inl rfl) fun h4 u1 u2 T4 e4 _ b4 => wpAny_bind (wpAny_letGo (wpAny_pure ?_)))))
      refine wpAny_bind (wpAny_bind (wpAny_onRaise ?_))
      show wpAny _ _ (Builtin.SmallTypes.nextOf (.ref i2) >>= _) _ _ _
      have e2 : i = n2 := by omega
      subst e2
      refine wpAny_bind (D2.done _ _ _ (D2.over (D2.over (D2.over (D2.over st2 sb S.zf2) b2 S.zf2) b3 S.sep1_2) b4 S.Tf2) fun h5 e b5 he => gone h5 e t3 (b5 _ _ S.zi2 (b4.extBut _ _ S.TOz.symm (b3.extBut _ _ S.zi1 hz2))) he fun c o c1 c2 c3 c4 x => b5 _ _ c4 (b4.extBut _ _ c2 (b3.extBut _ _ c3 (b2.extBut _ _ c1 (sb.extBut _ _ c1 x)))))
    · have e1 : i = n1 := by omega
      subst e1
      refine wpAny_bind (D1.done _ _ _ (D1.over (D1.over st1 sb S.zf1) b2 S.zf1) fun h3 e b3 he => gone h3 e s.toks (b3 _ _ S.zi1 hz2) he fun c o c1 c2 c3 c4 x => b3 _ _ c3 (b2.extBut _ _ c1 (sb.extBut _ _ c1 x)))
  | false =>
    simp only [Bool.false_eq_true, if_false, List.forIn_toArray, List.forIn_cons, List.forIn_nil]
    refine wpAny_bind (wpAny_bind (wpAny_bind (wpAny_holding ?_)))
    show wpAny _ _ (Builtin.SmallTypes.nextOf (.ref i1) >>= _) _ _ _
    by_cases c : i < n1
    · refine wpAny_bind (D1.item i _ _ _ c (D1.over st1 sb S.zf1) fun x1 h2 t2 p1 s1 b2 => wpAny_pure (wpAny_pure (wpAny_bind (wpAny_bind (wpAny_holding ?_)))))
      show wpAny _ _ (Builtin.SmallTypes.nextOf (.ref i2) >>= _) _ _ _
      have e2 : i = n2 := by omega
      subst e2
      refine wpAny_bind (D2.done _ _ _ (D2.over (D2.over st2 sb S.zf2) b2 S.sep1_2) fun h3 e b3 he => hE h3 t2 e (fun c o c1 c2 c3 c4 x => b3 _ _ c4 (b2.extBut _ _ c3 (sb.extBut _ _ c1 x))) he)
    · have e1 : i = n1 := by omega
      subst e1
      refine wpAny_bind (D1.done _ _ _ (D1.over st1 sb S.zf1) fun h2 e b2 he => hE h2 s.toks e (fun c o c1 c2 c3 c4 x => b2 _ _ c3 (sb.extBut _ _ c1 x)) he)
/-- enumerate's turn over zip -/
theorem enZ_item {e : Addr} {c : Int} {old : Value} {Q : Option Value → Shared → Prop} (S : ZipSep2 z TI TO i1 i2 fp1 fp2) (D1 : Draws prog w A.in1.in1 i1 fp1 n1 P1 St1) (D2 : Draws prog w A.in1.in1 i2 fp2 n2 P2 St2) (he : IsEnum s.heap e z c old) (hz : ZipS s.heap z TI TO) (hTI : IsPair s.heap TI (.ref i1) (.ref i2)) (hTO : ∃ x y, IsPair s.heap TO x y) (st1 : St1 i s.heap) (st2 : St2 i s.heap) (l1 : i < n1) (l2 : i < n2)
    (ez : e ≠ z) (eT : e ≠ TO) (e1 : e ≠ i1) (e2 : e ≠ i2) (ef1 : e ∉ fp1) (ef2 : e ∉ fp2) (eTI : e ≠ TI)
    (hQ : ∀ x1 x2 h' tk tk2, P1 i x1 → P2 i x2 → IsEnumOut h' e z (c + 1) (.ref s.heap.objs.size) (s.heap.objs.size + 1) → ZipS h' z TI TO → (∃ x y, IsPair h' TO x y) → St1 (i + 1) h' → St2 (i + 1) h' → IsPair h' s.heap.objs.size x1 x2 → IsPair h' (s.heap.objs.size + 1) (.int c tk) (.ref s.heap.objs.size) → h'.objs.size = s.heap.objs.size + 2 → (∀ b o, b ≠ e → b ≠ z → b ≠ TO → b ≠ i1 → b ≠ i2 → s.heap.get? b = some o → h'.get? b = some o) → Q (some (.ref (s.heap.objs.size + 1))) { s with heap := h', toks := tk2 }) :
    wpAny (model prog w) A (pyNext (.ref e)) Q E s := by
  have hT : s.TypeIs (.ref e) "enumerate" := ⟨_, he, rfl⟩
  have hT2 : s.TypeIs (.ref z) "zip" := by obtain ⟨f0, b, hz, _⟩ := hz; exact ⟨_, hz, rfl⟩
  unfold pyNext
  refine wpAny_bind (wpAny_attempt (wpAny_callSpecial?_slot (name := Str.ofString "__next__") hT F.slot_enumerate_next (wpAny_call_entry F.slot_enumerate_next hT F.entry_enumerate_next ?_ (F.args_enumerate_next_1 _))))
  show wpAny _ _ (field (.ref e) 2 >>= _) _ _ _; refine wpAny_bind (wpAny_field he rfl (x := .ref z) rfl (wpAny_bind ?_))
  unfold Builtin.SmallTypes.nextOf
  refine wpAny_bind (wpAny_callSpecial?_slot (name := Str.ofString "__next__") hT2 F.slot_zip_next (wpAny_call_entry F.slot_zip_next hT2 F.entry_zip_next (zipS_item S D1 D2 hz hTI hTO st1 st2 l1 l2 fun x1 x2 h1 t1 p1 p2 z1 o1 q1 q2 T1 sz1 k1 => wpAny_pure ?_) (F.args_zip_next_1 _)))
  have g1 : IsEnum h1 e z c old := k1 _ _ ez eT e1 e2 he
  have elt : e < s.heap.objs.size := Heap.lt_size he
  show wpAny _ _ (field (.ref e) 3 >>= _) _ _ _; refine wpAny_bind (wpAny_field g1 rfl (x := rawInt c) rfl ?_)
  show wpAny _ _ (field (.ref e) 4 >>= _) _ _ _; refine wpAny_bind (wpAny_field g1 rfl (x := .none) rfl ?_)
  show wpAny _ _ (mkInt c >>= _) _ _ _; refine wpAny_bind (wpAny_mkInt ?_)
  show wpAny _ _ (setField (.ref e) 3 (rawInt (c + 1)) >>= _) _ _ _; refine wpAny_bind (wpAny_setField_rec g1 (by simp) fun h2 g2 b2 => ?_)
  replace g2 : IsEnum h2 e z (c + 1) old := g2
  show wpAny _ _ (setField (.ref e) 4 .none >>= _) _ _ _; refine wpAny_bind (wpAny_setField_rec g2 (by simp) fun h3 g3 b3 => ?_)
  replace g3 : IsEnum h3 e z (c + 1) old := g3
  show wpAny _ _ (newTuple [.int c t1, .ref s.heap.objs.size] >>= _) _ _ _
  refine wpAny_bind (wpAny_newTuple ?_)
  have sz3 : h3.objs.size = s.heap.objs.size + 1 := (b3.1.trans b2.1).trans sz1
  obtain ⟨h4, hh4⟩ : ∃ h4, h4 = h3.push { cls := .type "tuple", data := .seq #[.int c t1, .ref s.heap.objs.size] } := ⟨_, rfl⟩
  have up4 : ∀ b o, b ≠ e → h1.get? b = some o → h4.get? b = some o := fun b o be x => by rw [hh4]; exact Heap.get?_push_of_some _ (b3.extBut _ _ be (b2.extBut _ _ be x))
  have g4 : IsEnum h4 e z (c + 1) old := by rw [hh4]; exact Heap.get?_push_of_some _ g3
  have n4 : IsPair h4 (s.heap.objs.size + 1) (.int c t1) (.ref s.heap.objs.size) := by rw [hh4, ← sz3]; exact Heap.get?_push_size _ rfl
  have sz4 : h4.objs.size = s.heap.objs.size + 2 := by rw [hh4, Heap.size_push, sz3]
  show wpAny _ _ (Builtin.SmallTypes.ownedTupleIsFree (.ref e) >>= _) _ _ { heap := h3.push { cls := .type "tuple", data := .seq #[.int c t1, .ref s.heap.objs.size] }, gens := s.gens, drawn := s.drawn, toks := t1 + 1, os := s.os }
  rw [sz3, ← hh4]
  refine wpAny_bind ?_; unfold Builtin.SmallTypes.ownedTupleIsFree
  refine wpAny_bind (wpAny_field g4 rfl (x := .none) rfl (wpAny_pure ?_)); simp only [if_true]
  refine wpAny_bind (wpAny_rule (wpAny_bind (wpAny_field g4 rfl (x := old) rfl (wpAny_bind (wpAny_setField_rec g4 (by simp) fun h5 g5 b5 => ?_)))))
  replace g5 : IsEnum h5 e z (c + 1) (.ref s.heap.objs.size) := g5
  show wpAny _ _ (Builtin.SmallTypes.ownedTupleHandOut (.ref e) (.ref (s.heap.objs.size + 1)) >>= _) _ _ _
  refine wpAny_bind ?_; unfold Builtin.SmallTypes.ownedTupleHandOut
  refine wpAny_bind (wpAny_setField_rec g5 (by simp) fun h6 g6 b6 => ?_)
  replace g6 : IsEnumOut h6 e z (c + 1) (.ref s.heap.objs.size) (s.heap.objs.size + 1) := g6
  refine wpAny_setField_rec g6 (by simp) fun h7 g7 b7 => ?_
  replace g7 : IsEnumOut h7 e z (c + 1) (.ref s.heap.objs.size) (s.heap.objs.size + 1) := g7
  have up7 : ∀ b o, b ≠ e → h4.get? b = some o → h7.get? b = some o := fun b o be x => b7.extBut _ _ be (b6.extBut _ _ be (b5.extBut _ _ be x))
  have up : ∀ b o, b ≠ e → h1.get? b = some o → h7.get? b = some o := fun b o be x => up7 b o be (up4 b o be x)
  refine wpAny_bind (wpAny_letGo (wpAny_pure ⟨_, rfl, wpAny_pure ?_⟩))
  obtain ⟨f0, b0, z1, z1'⟩ := z1
  obtain ⟨y1, y2, o1⟩ := o1
  refine hQ x1 x2 h7 t1 (t1 + 1) p1 p2 g7 ⟨f0, b0, up _ _ (Ne.symm ez) z1, z1'⟩ ⟨y1, y2, up _ _ (Ne.symm eT) o1⟩ (D1.frame _ _ _ q1 fun b hb o x => up b o (fun y => ef1 (y ▸ hb)) x) (D2.frame _ _ _ q2 fun b hb o x => up b o (fun y => ef2 (y ▸ hb)) x)
    (up _ _ (Nat.ne_of_gt elt) T1) (up7 _ _ (Nat.ne_of_gt (Nat.lt_succ_of_lt elt)) n4) (by rw [b7.1, b6.1, b5.1, sz4]) fun b o c1 c2 c3 c4 c5 x => up b o c1 (k1 b o c2 c3 c4 c5 x)
/-- enumerate's end over zip -/
theorem enZ_end {e : Addr} {c : Int} {old : Value} {Q : Option Value → Shared → Prop} (S : ZipSep2 z TI TO i1 i2 fp1 fp2) (D1 : Draws prog w A.in1.in1 i1 fp1 n1 P1 St1) (D2 : Draws prog w A.in1.in1 i2 fp2 n2 P2 St2) (he : IsEnum s.heap e z c old) (hz : ZipS s.heap z TI TO) (hTI : IsPair s.heap TI (.ref i1) (.ref i2)) (hTO : ∃ x y, IsPair s.heap TO x y) (st1 : St1 i s.heap) (st2 : St2 i s.heap) (l1 : i ≤ n1) (l2 : i ≤ n2) (le : i = n1 ∨ i = n2)
    (hQ : ∀ h' tk, (∀ b o, b ≠ z → b ≠ TO → b ≠ i1 → b ≠ i2 → s.heap.get? b = some o → h'.get? b = some o) → Q none { s with heap := h', toks := tk }) : wpAny (model prog w) A (pyNext (.ref e)) Q E s := by
  have hT : s.TypeIs (.ref e) "enumerate" := ⟨_, he, rfl⟩
  have hT2 : s.TypeIs (.ref z) "zip" := by obtain ⟨f0, b, hz, _⟩ := hz; exact ⟨_, hz, rfl⟩
  unfold pyNext
  refine wpAny_bind (wpAny_attempt (wpAny_callSpecial?_slot (name := Str.ofString "__next__") hT F.slot_enumerate_next (wpAny_call_entry F.slot_enumerate_next hT F.entry_enumerate_next ?_ (F.args_enumerate_next_1 _))))
  show wpAny _ _ (field (.ref e) 2 >>= _) _ _ _; refine wpAny_bind (wpAny_field he rfl (x := .ref z) rfl (wpAny_bind ?_))
  unfold Builtin.SmallTypes.nextOf
  refine wpAny_bind (wpAny_callSpecial?_slot (name := Str.ofString "__next__") hT2 F.slot_zip_next (wpAny_call_entry F.slot_zip_next hT2 F.entry_zip_next (zipS_end S D1 D2 hz hTI hTO st1 st2 l1 l2 le fun h1 t1 x k1 hx => ?_) (F.args_zip_next_1 _)))
  obtain ⟨o, ho, hc⟩ := hx
  exact wpAny_bind (wpAny_isInstance (T := "StopIteration") (b := true) ⟨o, ho, hc⟩ isSubtype_stop (wpAny_pure (hQ h1 t1 k1)))
/-- enumerate(z), z a new zip -/
theorem enum_newZ (z TI TO : Addr) : Meets (Builtin.«enumerate.__new__» ⟨[.type "enumerate", .ref z], []⟩) (fun _ R s => IsZip s.heap z TI TO .none ∧ R (.ok (.ret (.ref s.heap.objs.size))) { s with heap := s.heap.push { cls := .type "enumerate", data := .fields #[.none, .bool false, .ref z, rawInt 0, .none, .none] } }) :=
  .of_wp fun prog w A R s h => by
    obtain ⟨hp, g, d, tk, os⟩ := s; obtain ⟨hz, h⟩ := h
    have hsub := sub_enumerate
    have hZ : IsZip (Shared.heap ⟨hp, g, d, tk, os⟩) z TI TO .none := hz
    wp_walk using wpAny_loadPart' hz
    refine wpAny_stack_any fun st => wpAny_pure ?_
    split
    · rename_i c _ _ _ _ _
      cases (c == Value.type "enumerate")
      · wp_walk using wpAny_loadPart' hz, wpAny_pyIter_zip hZ; exact ⟨_, rfl, h⟩
      · wp_walk using wpAny_loadPart' hz, wpAny_pyIter_zip hZ; exact ⟨_, rfl, h⟩
    · wp_walk using wpAny_loadPart' hz, wpAny_pyIter_zip hZ; exact ⟨_, rfl, h⟩
theorem call_enumZ {Q : Value → Shared → Prop} (hz : IsZip s.heap z TI TO .none) (h : ∀ h', IsEnum h' s.heap.objs.size z 0 .none → (∀ b o, s.heap.get? b = some o → h'.get? b = some o) → Q (.ref s.heap.objs.size) { s with heap := h' }) : wpAny (model prog w) A (call (.type "enumerate") [.ref z]) Q E s := by
  refine callType_new F.called_enumerate (by decide) (F.typeCall_enumerate_1 _) (F.newCall_enumerate_1 _) (fun obj => F.args_object_init_2 obj _) F.entry_enumerate_new (enum_newZ z TI TO) ⟨hz, ?_⟩
  have he : IsEnum (s.heap.push { cls := .type "enumerate", data := .fields #[.none, .bool false, .ref z, rawInt 0, .none, .none] }) s.heap.objs.size z 0 .none := Heap.get?_push_size _ rfl
  exact ⟨⟨_, he, rfl⟩, h _ he fun b o x => Heap.get?_push_of_some _ x⟩
end
/-- iterators have turned, new things lie behind the old end -/
theorem inv_grown {X : Cx} {pins : List (Addr × Obj)} {σ : L2.St} {H H' : Hp} {s : Shared} {h' : Heap} {t' : Nat} {ch : List Addr} (I : Inv X pins σ H s) (k : ∀ b o, b ∉ ch → s.heap.get? b = some o → h'.get? b = some o) (hf : ∀ b ∈ ch, FpOk X pins H b) (old : ∀ b, b < s.heap.objs.size → H' b = H b)
    (new : ∀ b u, s.heap.objs.size ≤ b → H' b = some u → ObjOk X.prog X.w H' h' b u) : Inv X pins σ H' { s with heap := h', toks := t' } := by
  have lt : ∀ {b u}, H b = some u → b < s.heap.objs.size := fun {b u} e => Nat.lt_of_not_le fun z => by rw [I.hok.fresh z] at e; cases e
  have out : ∀ b u, H b = some u → b ∉ ch := fun b u e z => by rw [(hf b z).1] at e; cases e
  have same : ∀ {b u}, H b = some u → H' b = some u := fun {b u} e => (old b (lt e)).trans e
  refine I.step (H' := H') (g' := s.gens) (d' := s.drawn) (t' := t') (ch := ch) (fun b hb => let q := hf b hb; ⟨q.2.2.2.1, q.2.1, q.2.2.2.2.1, q.2.2.2.2.2⟩) (fun b o _ _ hc e _ => k b o hc e) (fun b o _ _ hc e _ => ⟨_, k b o hc e⟩)
    (fun b o _ e n => (old b (Heap.lt_size e)).trans n) (fun b o hc e => ⟨_, k b o hc e⟩) (fun b xs e => same e) (fun b o u e => same e) (fun b ps e => ⟨#[], by rw [Array.append_empty]; exact same e⟩) (fun m ⟨o, es, ep, ho, r⟩ => ⟨o, es, ep, k _ o (fun z => (hf _ z).2.1 rfl) ho, r⟩) (fun b u e => ?_) I.bare
  by_cases hb : b < s.heap.objs.size
  · have e' : H b = some u := (old b hb).symm.trans e
    exact (I.hok b u e').stay (fun c v hc q => k c v (hc.elim (fun z => z ▸ out b u e') fun z => out c _ z) q) (fun c q => same q) fun c xs q => same q
  · exact new b u (Nat.le_of_not_lt hb) e
/-- the items in new pairs, each in a new pair with its number -/
def ItE (K : PySem.W.Frag) (c1 c2 : Sc) : It :=
  ⟨(ItG K c1 c2).go,
    fun i H v H' => ∃ T Tp x y, v = .ref T ∧ H Tp = none ∧ H T = none ∧ Tp ≠ T ∧ H' = upd (upd H Tp (.tup [x, y])) T (.tup [.int (i : Nat), .ref Tp]) ∧ (∀ xs, c1.has K H xs → xs[i]? = some x) ∧ ∀ ys, c2.has K H ys → ys[i]? = some y,
    (ItG K c1 c2).stop⟩
theorem turn_enZ {P : Program} {w : World} {K : PySem.W.Frag} {elts : List Expr} {kk : Nat} {tpos : Pos} {c1 c2 : Sc} {e z TI TO i1 i2 : Addr} (D : ApG z TI TO i1 i2 c1 c2) (en : e ∉ [z, TI, TO, i1, i2]) (ef1 : e ∉ c1.foot) (ef2 : e ∉ c2.foot) :
    Turn P w K (.Tuple elts kk tpos) (ItE K c1 c2) [e, z, TI, TO, i1, i2] e (fun i h => (∃ old, IsEnum h e z ((i : Nat) : Int) old) ∧ ZipS h z TI TO ∧ IsPair h TI (.ref i1) (.ref i2) ∧ (∃ x y, IsPair h TO x y) ∧ c1.it i h i1 ∧ c2.it i h i2) where
  mem := by simp
  obj := fun i h st c hc => by
    obtain ⟨⟨old, he⟩, ⟨f0, b0, hz, _⟩, hTI, ⟨x, y, hTO⟩, h1, h2⟩ := st
    simp only [List.mem_cons, List.not_mem_nil, or_false] at hc
    rcases hc with rfl | rfl | rfl | rfl | rfl | rfl
    · exact ⟨_, he, fun v q => nomatch q⟩
    · exact ⟨_, hz, fun v q => nomatch q⟩
    · exact ⟨_, hTI, fun v q => nomatch q⟩
    · exact ⟨_, hTO, fun v q => nomatch q⟩
    · exact Sc.it_live h1
    · exact Sc.it_live h2
  keep := fun i h h' st k => by
    obtain ⟨⟨old, he⟩, ⟨f0, b0, hz, hf⟩, hTI, ⟨x, y, hTO⟩, h1, h2⟩ := st
    exact ⟨⟨old, k e (by simp) _ he⟩, ⟨f0, b0, k z (by simp) _ hz, hf⟩, k TI (by simp) _ hTI, ⟨x, y, k TO (by simp) _ hTO⟩, Sc.it_keep h1 (k i1 (by simp)), Sc.it_keep h2 (k i2 (by simp))⟩
  item := by
    intro X hP hw hK hc i pins s σ H E I hf st hg
    subst hP hw hK
    obtain ⟨⟨old, he⟩, hz, hTI, hTO, h1, h2⟩ := st
    obtain ⟨xs, ys, hqx, hqy, lx, ly⟩ := hg
    obtain ⟨P1, St1, D1, s1, e1, r1⟩ := Sc.drw X.A.in1.in1 I (I.ok.hd hc) hqx (D.f1 _ (by simp)) h1
    obtain ⟨P2, St2, D2, s2, e2, r2⟩ := Sc.drw X.A.in1.in1 I (I.ok.hd hc) hqy (D.f2 _ (by simp)) h2
    have sep := D.sep
    simp only [List.mem_cons, List.not_mem_nil, or_false, not_or] at en
    obtain ⟨n1, n2, n3, n4, n5⟩ := en
    have elt : e < s.heap.objs.size := Heap.lt_size he
    refine enZ_item sep D1 D2 he hz hTI hTO s1 s2 lx ly n1 n3 n4 n5 (fun q => (List.mem_cons.mp q).elim n4 ef1) (fun q => (List.mem_cons.mp q).elim n5 ef2) n2 fun u u2 h' tk tk2 y1 y2 g' z' TO' t1 t2 hT hT2 hsz hk => ?_
    obtain ⟨x, hx, ru⟩ := e1 _ _ y1
    obtain ⟨y, hy, ru2⟩ := e2 _ _ y2
    refine ⟨_, rfl, wpAny_letOwnedTupleGo_enum (s := { s with heap := h', toks := tk2 }) g' fun h'' g'' sb => ?_⟩
    have up : ∀ b o, b ≠ e → h'.get? b = some o → h''.get? b = some o := fun b o be q => sb.extBut _ _ be q
    have T1 : IsPair h'' s.heap.objs.size u u2 := up _ _ (Nat.ne_of_gt elt) hT
    have T2 : IsPair h'' (s.heap.objs.size + 1) (.int i tk) (.ref s.heap.objs.size) := up _ _ (Nat.ne_of_gt (Nat.lt_succ_of_lt elt)) hT2
    have kept : ∀ b ∉ [e, z, TI, TO, i1, i2], ∀ o, s.heap.get? b = some o → h''.get? b = some o := fun b hb o q => by
      simp only [List.mem_cons, List.not_mem_nil, or_false, not_or] at hb
      exact up _ _ hb.1 (hk b o hb.1 hb.2.1 hb.2.2.2.1 hb.2.2.2.2.1 hb.2.2.2.2.2 q)
    have nn : s.heap.objs.size ≠ s.heap.objs.size + 1 := by omega
    have I1 : Inv X pins σ (upd (upd H s.heap.objs.size (.tup [x, y])) (s.heap.objs.size + 1) (.tup [.int (i : Nat), .ref s.heap.objs.size])) { s with heap := h'', toks := tk2 } := by
      refine inv_grown I (fun b o hb q => kept b hb o q) hf (fun b hb => by rw [upd_ne (Nat.ne_of_lt (Nat.lt_succ_of_lt hb)), upd_ne (Nat.ne_of_lt hb)]) fun b v hb q => ?_
      by_cases b2 : b = s.heap.objs.size + 1
      · subst b2
        rw [upd_same] at q
        cases q
        exact ⟨by show 2 ≤ sizeLine; decide, [.int i tk, .ref s.heap.objs.size], .cons ⟨_, rfl⟩ (.cons rfl .nil), ⟨_, T2, rfl, _, rfl⟩⟩
      · rw [upd_ne b2] at q
        by_cases b1 : b = s.heap.objs.size
        · subst b1
          rw [upd_same] at q
          cases q
          exact ⟨by show 2 ≤ sizeLine; decide, [u, u2], .cons ru (.cons ru2 .nil), ⟨_, T1, rfl, _, rfl⟩⟩
        · rw [upd_ne b1, I.hok.fresh hb] at q
          cases q
    refine ⟨.ref (s.heap.objs.size + 1), _, I1, rfl, ⟨s.heap.objs.size + 1, s.heap.objs.size, x, y, rfl, I.hok.fresh (Nat.le_refl _), I.hok.fresh (Nat.le_succ _), nn, rfl, fun l hl => by rw [Sc.uniq I hl hqx]; exact hx, fun l hl => by rw [Sc.uniq I hl hqy]; exact hy⟩, ⟨⟨.ref s.heap.objs.size, ?_⟩, ?_, up _ _ (Ne.symm n2) (hk _ _ (Ne.symm n2) sep.TIz sep.TITO sep.TIi1 sep.TIi2 hTI), ?_, ?_, ?_⟩, fun b hb => ?_⟩
    · have e1 : ((i + 1 : Nat) : Int) = (i : Int) + 1 := by omega
      rw [e1]
      exact g''
    · obtain ⟨f0, b0, z1, z2⟩ := z'
      exact ⟨f0, b0, up _ _ (Ne.symm n1) z1, z2⟩
    · obtain ⟨v1, v2, z1⟩ := TO'
      exact ⟨v1, v2, up _ _ (Ne.symm n3) z1⟩
    · exact Sc.it_keep (r1 _ _ t1) fun o q => up _ _ (Ne.symm n4) q
    · exact Sc.it_keep (r2 _ _ t2) fun o q => up _ _ (Ne.symm n5) q
    · have hlt : b < s.heap.objs.size := by
        simp only [List.mem_cons, List.not_mem_nil, or_false] at hb
        rcases hb with rfl | rfl | rfl | rfl | rfl | rfl
        · exact elt
        · obtain ⟨_, _, q, _⟩ := hz; exact Heap.lt_size q
        · exact Heap.lt_size hTI
        · obtain ⟨_, _, q⟩ := hTO; exact Heap.lt_size q
        · obtain ⟨_, q, _⟩ := Sc.it_live h1; exact Heap.lt_size q
        · obtain ⟨_, q, _⟩ := Sc.it_live h2; exact Heap.lt_size q
      rw [upd_ne (Nat.ne_of_lt (Nat.lt_succ_of_lt hlt)), upd_ne (Nat.ne_of_lt hlt)]
      exact (hf b hb).1
  done := by
    intro X hP hw hK hc i pins s σ H E I hf st hg
    subst hP hw hK
    obtain ⟨⟨old, he⟩, hz, hTI, hTO, h1, h2⟩ := st
    obtain ⟨xs, ys, hqx, hqy, lx, ly, hend⟩ := hg
    obtain ⟨P1, St1, D1, s1, _, _⟩ := Sc.drw X.A.in1.in1 I (I.ok.hd hc) hqx (D.f1 _ (by simp)) h1
    obtain ⟨P2, St2, D2, s2, _, _⟩ := Sc.drw X.A.in1.in1 I (I.ok.hd hc) hqy (D.f2 _ (by simp)) h2
    refine enZ_end D.sep D1 D2 he hz hTI hTO s1 s2 lx ly hend fun h' tk hk => ⟨rfl, I.turnedL (t' := tk) (ch := [e, z, TI, TO, i1, i2]) (fun c o hb q => ?_) hf⟩
    simp only [List.mem_cons, List.not_mem_nil, or_false, not_or] at hb
    exact hk c o hb.2.1 hb.2.2.2.1 hb.2.2.2.2.1 hb.2.2.2.2.2 q
  self := fun A i s Q E st h => let ⟨⟨_, he⟩, _⟩ := st; wpAny_pyIter_enum he h
def iEnZ (K : PySem.W.Frag) (ta : TA) : TI := fun σ H R => ta σ H fun vs H1 => ∃ c1 c2 v1 v2 xs ys, vs = [v1, v2] ∧ Sc.is c1 v1 ∧ Sc.is c2 v2 ∧ c1.has K H1 xs ∧ c2.has K H1 ys ∧ R (ItE K c1 c2) H1
theorem pi_enZ {X : Cx} {e e2 : Expr} {ta : TA} {p p2 pos pos2 tpos : Pos} {elts : List Expr} {kk : Nat} (hg : Gl X "zip") (hm : X.mg "zip" = none) (hge : Gl X "enumerate") (hme : X.mg "enumerate" = none) (ha : PA X [e, e2] ta)
    (hs : starEach [e, e2] X.env = (false, eval e X.env) :: starEach [e2] X.env) (hpl : (backTo pos (starEach [e2] X.env)).any (·.1) = false) :
    PI X (.Tuple elts kk tpos) (.Call (.Name "enumerate" p2) [.Call (.Name "zip" p) [e, e2] [] pos] [] pos2) (iEnZ X.K ta) := by
  refine ⟨fun pins s σ H R I h => ?_⟩
  refine Call_ (ld_blt I hge hme boot_enumerate (PyProof.Rows.callWith_type1 (e := .Call (.Name "zip" p) [e, e2] [] pos) (rest := []) (show wpAny _ _ (spliced ((false, eval (.Call (.Name "zip" p) [e, e2] [] pos) X.env) :: [])) _ _ s from Calls.spliced_cons ?_) rfl rfl))
  refine Call_ (ld_blt I hg hm PyProof.Rows.boot_zip (PyProof.Rows.callWith_type1 (thn (ha.run pos pins s σ H _ I h) fun us s1 ⟨vs, H1, I1, r1, q1⟩ => ?_) hs hpl))
  obtain ⟨c1, c2, v1, v2, xs, ys, rfl, i1, i2, h1, h2, q⟩ := q1
  cases r1 with
  | cons r rr =>
  cases rr with
  | cons r' rr =>
  cases rr
  obtain ⟨o1, G1, B1, g1, l1, t1⟩ := Sc.beg I1 h1 i1 r
  obtain ⟨o2, G2, B2, g2, l2, t2⟩ := Sc.beg I1 h2 i2 r'
  refine zip_begins2 B1 B2 g1 g2 fun h' hz hTI hTO a1 a2 hsz hk => Calls.spliced_nil ?_
  refine call_enumZ hz fun h2' he hk2 => wpAny_pyIter_enum he ?_
  obtain ⟨N, hN⟩ : ∃ N, N = s1.heap.objs.size := ⟨_, rfl⟩
  have I2 : Inv X pins σ H1 { s1 with heap := h2' } := I1.kept (t' := s1.toks) fun b o x => hk2 b o (hk b o x)
  have he : IsEnum h2' (N + 5) (N + 4) 0 .none := by
    have := he
    rw [show ({ s1 with heap := h' } : Shared).heap.objs.size = N + 5 from by show h'.objs.size = _; rw [hsz, hN]] at this
    rw [← hN] at this
    exact this
  have eN : ({ s1 with heap := h' } : Shared).heap.objs.size = N + 5 := by show h'.objs.size = _; rw [hsz, hN]
  rw [eN]
  rw [← hN] at hz hTI hTO a1 a2 l1 l2
  have mem : ∀ c, c ∈ [N + 5, N + 4, N + 2, N + 3, N, N + 1] → N ≤ c := fun c hc => by
    simp only [List.mem_cons, List.not_mem_nil, or_false] at hc
    omega
  have mem5 : ∀ c, c ∈ [N + 4, N + 2, N + 3, N, N + 1] → N ≤ c := fun c hc => mem c (List.mem_cons_of_mem _ hc)
  refine ⟨N + 5, [N + 5, N + 4, N + 2, N + 3, N, N + 1], _, _, H1, rfl, I2, turn_enZ (TI := N + 2) (TO := N + 3) (i1 := N) (i2 := N + 1) ⟨?_, fun b hb z => ?_, fun b hb z => ?_⟩ ?_ (fun z => ?_) (fun z => ?_),
    ⟨⟨.none, he⟩, ⟨.none, false, hk2 _ _ hz, .inl rfl⟩, hk2 _ _ hTI, ⟨_, _, hk2 _ _ hTO⟩, t1 _ _ (hk2 _ _ a1), t2 _ _ (hk2 _ _ a2)⟩, fun c hc => I1.fpOk (hN ▸ mem c hc) (I1.hok.fresh (hN ▸ mem c hc)), q⟩
  · simp
  · exact Nat.lt_irrefl _ (Nat.lt_of_lt_of_le (l1 b z) (mem5 b hb))
  · exact Nat.lt_irrefl _ (Nat.lt_of_lt_of_le (l2 b z) (mem5 b hb))
  · simp
  · exact Nat.lt_irrefl _ (Nat.lt_of_lt_of_le (l1 _ z) (mem _ List.mem_cons_self))
  · exact Nat.lt_irrefl _ (Nat.lt_of_lt_of_le (l2 _ z) (mem _ List.mem_cons_self))
/-- a new pair of the number and a new pair -/
def YEnZ (xs ys : List V) : Nat → Hp → V → Hp → Prop := fun i H v H' => ∃ T Tp x y, v = .ref T ∧ H Tp = none ∧ H T = none ∧ Tp ≠ T ∧ H' = upd (upd H Tp (.tup [x, y])) T (.tup [.int (i : Nat), .ref Tp]) ∧ xs[i]? = some x ∧ ys[i]? = some y
theorem walk_enZ {K : PySem.W.Frag} {c1 c2 : Sc} {xs ys : List V} {n : Nat} (hn : n = min xs.length ys.length) : Walk (ItE K c1 c2) n (fun H => c1.has K H xs ∧ c2.has K H ys) (YEnZ xs ys) := by
  subst hn
  refine ⟨fun i _ hi q => ⟨xs, ys, q.1, q.2, by omega, by omega⟩, fun _ q => ⟨xs, ys, q.1, q.2, by omega, by omega, by omega⟩, fun i H v H' _ q y => ?_⟩
  obtain ⟨T, Tp, x, z, e1, e2, e3, e4, e5, e6, e7⟩ := y
  exact ⟨T, Tp, x, z, e1, e2, e3, e4, e5, e6 xs q.1, e7 ys q.2⟩
end Ev


namespace Ev
open PySem PySem.Spec L2 PyProof.Rows HotX
/-! ### a list's iterator and zip at their ends, while an exception is handled -/
section
variable {prog : Program} {w : World} {A : Around} {E : Value → Shared → Prop} {s : Shared} {x1 : Addr}
theorem hotAt_in {h : Heap} (hot : HotAt A x1 h) : HotAt A.in1 x1 h := hot
theorem hotAt_keep {h h' : Heap} (hot : HotAt A x1 h) (k : ∀ o, h.get? x1 = some o → h'.get? x1 = some o) : HotAt A x1 h' := by
  obtain ⟨hh, o, vs, e, d, c⟩ := hot
  exact ⟨hh, o, vs, k o e, d, c⟩
theorem hot_stop {it l : Addr} {i : Nat} {its : Array Value} {Q : Value → Shared → Prop} (hot : HotAt A x1 s.heap) (hne : x1 ≠ it) (hit : s.heap.IsListIter it l i) (hl : s.heap.IsList l its) (hx : its[i]? = none)
    (hE : ∀ h' e, Heap.ExtBut it s.heap h' → (∃ o, h'.get? e = some o ∧ o.cls = .type "StopIteration") → E (.ref e) { s with heap := h' }) : wpAny (model prog w) A (Builtin.SmallTypes.nextOf (.ref it)) Q E s := by
  obtain ⟨oi, hoi, hci, hdi⟩ := id hit
  obtain ⟨ol, hol, _, nl, hdl⟩ := hl
  unfold Builtin.SmallTypes.nextOf
  refine wpAny_bind (wpAny_callSpecial?_slot (name := Str.ofString "__next__") hit.typeIs slot_listiter_next (wpAny_call_entry slot_listiter_next hit.typeIs entry_listiter_next ?_ (args_listiter_next _)))
  show wpAny _ _ (field (.ref it) 0 >>= _) _ _ s; refine wpAny_bind (wpAny_field hoi hdi (x := .ref l) rfl ?_)
  show wpAny _ _ (if (Value.ref l == Value.none) = true then _ else _) _ _ s; rw [if_neg (show ¬ ((Value.ref l == Value.none) = true) from Bool.false_ne_true)]
  show wpAny _ _ (field (.ref it) 1 >>= _) _ _ s; refine wpAny_bind (wpAny_field hoi hdi (x := .int i 0) rfl ?_)
  show wpAny _ _ (seqItems? (.ref l) >>= _) _ _ s; refine wpAny_bind (wpAny_seqItems hol hdl ?_)
  simp only [Int.toNat_natCast, hx]; refine wpAny_bind (wpAny_rule (wpAny_bind (wpAny_setField hoi hdi (by simp) ?_)))
  show wpAny _ _ (newExc (.type "StopIteration") [] >>= _) _ _ _; refine wpAny_bind ?_; simp only [newExc, newTuple]
  refine wpAny_bind (wpAny_newObj_type ?_ (by size_fits)); refine wpAny_bind (m := firstArgMember _ _) (wpAny_of_eq (a := Value.none) (by first | rfl | (simp only [firstArgMember]; rfl)) ?_); refine wpAny_newObj_type ?_ (by size_fits)
  have k1 : ∀ o, s.heap.get? x1 = some o → (s.heap.update it (Obj.mapFields (·.setIfInBounds 0 Value.none))).get? x1 = some o := fun o e => (Heap.get?_update_other _ _ (Ne.symm hne)).trans e
  obtain ⟨hh, o1, vs1, h1, d1, c1⟩ := hot
  have g1 := Heap.get?_push_of_some { cls := .type "tuple", data := .seq ([] : List Value).toArray } (k1 _ h1)
  refine raiseNew_hot ⟨hh, o1, vs1, Heap.get?_push_of_some _ g1, d1, c1⟩ (Nat.ne_of_lt (Heap.lt_size g1)) (Heap.get?_push_size _ rfl) rfl (by first | (simp; done) | (simp; omega) | (simp only [Array.size_append]; simp; omega)) ?_
  refine hE _ _ (fun b o hb e => ?_) ⟨_, Heap.get?_update_self _ (Heap.get?_push_size _ rfl) rfl, rfl⟩
  have e1 : (s.heap.update it (Obj.mapFields (·.setIfInBounds 0 Value.none))).get? b = some o := (Heap.get?_update_other _ _ (Ne.symm hb)).trans e
  have e2 := Heap.get?_push_of_some { cls := .type "tuple", data := .seq ([] : List Value).toArray } e1
  rw [Heap.get?_update_other _ _ (Nat.ne_of_gt (Heap.lt_size e2))]
  exact Heap.get?_push_of_some _ e2
theorem hot_zip {z TI TO i1 i2 l1 l2 : Addr} {k1 : Nat} {xs : Array Value} {Q : Option Value → Shared → Prop} (hot : HotAt A x1 s.heap) (nz : x1 ≠ z) (n1 : x1 ≠ i1) (D : ZipApart z TI TO i1 i2 l1 l2) (hz : IsZip s.heap z TI TO .none) (hTI : IsPair s.heap TI (.ref i1) (.ref i2))
    (h1 : s.heap.IsListIter i1 l1 k1) (hl1 : s.heap.IsList l1 xs) (hend : xs[k1]? = none)
    (hQ : ∀ h', (∀ c o, c ≠ z → c ≠ TO → c ≠ i1 → c ≠ i2 → s.heap.get? c = some o → h'.get? c = some o) → Q none { s with heap := h' }) : wpAny (model prog w) A (pyNext (.ref z)) Q E s := by
  have hT : s.TypeIs (.ref z) "zip" := ⟨_, hz, rfl⟩
  unfold pyNext
  refine wpAny_bind (wpAny_attempt (wpAny_callSpecial?_slot (name := Str.ofString "__next__") hT F.slot_zip_next (wpAny_call_entry F.slot_zip_next hT F.entry_zip_next ?_ (F.args_zip_next_1 _))))
  have fin : ∀ h' e, (∀ c o, c ≠ z → c ≠ TO → c ≠ i1 → c ≠ i2 → s.heap.get? c = some o → h'.get? c = some o) → (∃ o, h'.get? e = some o ∧ o.cls = .type "StopIteration") →
      wpAny (model prog w) A (do if ← isInstance (.ref e) (.type "StopIteration") then pure none else throw (.ref e)) Q E { s with heap := h' } := fun h' e hk ⟨o, ho, hc⟩ => wpAny_bind (wpAny_isInstance (T := "StopIteration") (b := true) ⟨o, ho, hc⟩ isSubtype_stop (wpAny_pure (hQ _ hk)))
  show wpAny _ _ (field (.ref z) 2 >>= _) _ _ _; refine wpAny_bind (wpAny_field hz rfl (x := .bool false) rfl ?_)
  show wpAny _ _ (field (.ref z) 3 >>= _) _ _ _; refine wpAny_bind (wpAny_field hz rfl (x := .ref TI) rfl (wpAny_bind (wpAny_seqItems hTI rfl ?_)))
  show wpAny _ _ (Builtin.SmallTypes.ownedTupleIsFree (.ref z) >>= _) _ _ _; refine wpAny_bind ?_; unfold Builtin.SmallTypes.ownedTupleIsFree
  refine wpAny_bind (wpAny_field hz rfl (x := .none) rfl (wpAny_pure ?_)); simp only [if_true]
  refine wpAny_bind (wpAny_rule (wpAny_bind (wpAny_field hz rfl (x := .ref TO) rfl (wpAny_bind (wpAny_setField_rec hz (by simp) fun h₁ hz₁ hs₁ => wpAny_bind ?_)))))
  replace hz₁ : IsZip h₁ z TI TO .ellipsis := hz₁
  simp only [List.zipIdx_cons, List.zipIdx_nil, List.forIn_cons, List.forIn_nil]
  refine wpAny_bind (wpAny_bind (wpAny_onRaise ?_)); show wpAny _ _ (Builtin.SmallTypes.nextOf (.ref i1) >>= _) _ _ _
  have hot1 : HotAt A x1 h₁ := hotAt_keep hot fun o e => hs₁.extBut _ _ nz e
  refine wpAny_bind (hot_stop hot1 n1 (h1.extBut hs₁.extBut D.i1z) (hl1.extBut hs₁.extBut D.l1z) hend fun h₂ e hs₂ he => ?_)
  obtain ⟨oe, hoe, hce⟩ := he
  have hz₂ : IsZip h₂ z TI TO .ellipsis := hs₂ _ _ D.i1z.symm hz₁
  have hez : e ≠ z := fun q => by subst q; rw [hz₂] at hoe; cases hoe; simp at hce
  refine wpAny_setField_rec hz₂ (by simp) fun h₃ _ hs₃ => ?_
  exact fin h₃ e (fun c o c1 _ c3 _ q => hs₃.extBut _ _ c1 (hs₂ _ _ c3 (hs₁.extBut _ _ c1 q))) ⟨oe, hs₃.extBut _ _ hez hoe, hce⟩
end
end Ev


namespace Ev
open PySem PySem.Spec L2 PyProof.Rows HotX
/-! ### a list comprehension over zip of two lists, within an except suite -/
/-- the exception that the suite holds, its context None -/
structure HotP (X : Cx) (x1 : Addr) (o1 : Obj) : Prop where
  m : (x1, o1) ∈ X.pn
  h : X.A.handled = some (.ref x1)
  d : ∃ vs : Array Value, o1.data = .fields vs ∧ vs[2]? = some .none
theorem HotP.at {X : Cx} {pins : List (Addr × Obj)} {σ : L2.St} {H : Hp} {s : Shared} {x1 : Addr} {o1 : Obj} (p : HotP X x1 o1) (I : Inv X pins σ H s) : HotAt X.A x1 s.heap := by
  obtain ⟨vs, d, c⟩ := p.d
  exact ⟨p.h, o1, vs, (I.pin (x1, o1) (List.mem_append_left _ p.m)).1, d, c⟩
abbrev ztn (a b z TI TO i1 i2 : Addr) : Nat → Heap → Prop := fun i h => IsZip h z TI TO .none ∧ IsPair h TI (.ref i1) (.ref i2) ∧ (∃ x y, IsPair h TO x y) ∧ h.IsListIter i1 a i ∧ h.IsListIter i2 b i
section
variable {X : Cx} {pins : List (Addr × Obj)} {σ : L2.St} {H : Hp} {s : Shared} {E : Value → Shared → Prop} {elts : List Expr} {kk : Nat} {tpos : Pos} {a b z TI TO i1 i2 : Addr} {i : Nat} {x1 : Addr}
theorem z_five {c : Addr} (h : c ∈ [z, TI, TO, i1, i2]) : c = z ∨ c = TI ∨ c = TO ∨ c = i1 ∨ c = i2 := by simpa using h
theorem z_obj {h : Heap} (st : ztn a b z TI TO i1 i2 i h) : ∀ c ∈ [z, TI, TO, i1, i2], ∃ o, h.get? c = some o ∧ ∀ v, o.data ≠ .cell v := fun c hc => by
  obtain ⟨p1, p2, ⟨x, y, p3⟩, ⟨o4, q4, _, d4⟩, ⟨o5, q5, _, d5⟩⟩ := st
  rcases z_five hc with e | e | e | e | e <;> rw [e]
  · exact ⟨_, p1, fun v q => nomatch q⟩
  · exact ⟨_, p2, fun v q => nomatch q⟩
  · exact ⟨_, p3, fun v q => nomatch q⟩
  · exact ⟨o4, q4, fun v q => by rw [d4] at q; cases q⟩
  · exact ⟨o5, q5, fun v q => by rw [d5] at q; cases q⟩
theorem z_keep {h h' : Heap} (st : ztn a b z TI TO i1 i2 i h) (k : ∀ c ∈ [z, TI, TO, i1, i2], ∀ o, h.get? c = some o → h'.get? c = some o) : ztn a b z TI TO i1 i2 i h' := by
  obtain ⟨p1, p2, ⟨x, y, p3⟩, p4, p5⟩ := st
  exact ⟨k z (by simp) _ p1, k TI (by simp) _ p2, ⟨x, y, k TO (by simp) _ p3⟩, p4.at fun o q => k i1 (by simp) o q, p5.at fun o q => k i2 (by simp) o q⟩
theorem z_item (D : ZipApart z TI TO i1 i2 a b) (I : Inv X pins σ H s) (hf : ∀ c ∈ [z, TI, TO, i1, i2], FpOk X pins H c) (st : ztn a b z TI TO i1 i2 i s.heap) (hg : (Itz X.K a b).go i H) :
    wpAny (model X.prog X.w) X.A (pyNext (.ref z)) (fun r s1 => ∃ u, r = some u ∧ wpAny (model X.prog X.w) X.A (letOwnedTupleGo (.Tuple elts kk tpos) (.ref z) u) (fun _ s2 => ∃ x H', Inv X pins σ H' s2 ∧ RelV x u ∧ (Itz X.K a b).yld i H x H' ∧ ztn a b z TI TO i1 i2 (i + 1) s2.heap ∧ ∀ c ∈ [z, TI, TO, i1, i2], H' c = none) E s1) E s := by
  have lts : ∀ c ∈ [z, TI, TO, i1, i2], c < s.heap.objs.size := fun c hc => let ⟨o, e, _⟩ := z_obj st c hc; Heap.lt_size e
  obtain ⟨p1, p2, ⟨x0, y0, p3⟩, p4, p5⟩ := st
  obtain ⟨xs, ys, x, y, hqx, hqy, hx, hy⟩ := hg
  obtain ⟨as, rv, q1, _⟩ := I.list hqx
  obtain ⟨bs, rw_, q2, _⟩ := I.list hqy
  obtain ⟨u, hu, ru⟩ := rv.get hx
  obtain ⟨v, hv, rv2⟩ := rw_.get hy
  have hzl := lts z (by simp)
  refine wpAny_pyNext_zip_item D p1 p2 p3 p4 p5 q1.isList q2.isList (x := u) (y := v) (by simpa using hu) (by simpa using hv) fun h1 r1 r3 r4 r5 hT hsz hk => ⟨_, rfl, wpAny_letOwnedTupleGo_zip (s := { s with heap := h1 }) r1 fun h2 w1 sb => ?_⟩
  have hT2 : h2.get? s.heap.objs.size = some { cls := .type "tuple", data := .seq #[u, v] } := (sb.2 _ (Nat.ne_of_gt hzl)).trans hT
  have nw : ObjOk X.prog X.w (upd H s.heap.objs.size (.tup [x, y])) h2 s.heap.objs.size (.tup [x, y]) := ⟨by show 2 ≤ sizeLine; decide, [u, v], .cons ru (.cons rv2 .nil), ⟨_, hT2, rfl, _, rfl⟩⟩
  have J : Inv X pins σ (upd H s.heap.objs.size (.tup [x, y])) { s with heap := h2 } := I.turnedNew (t' := s.toks) (ch := [z, TI, TO, i1, i2]) (fun c o hb q => by
    have n : ∀ d ∈ [z, TI, TO, i1, i2], c ≠ d := fun d hd e => hb (e ▸ hd)
    exact (sb.2 c (n z (by simp))).trans (hk c o (n z (by simp)) (n TO (by simp)) (n i1 (by simp)) (n i2 (by simp)) q)) hf (Nat.le_refl _) nw
  refine ⟨.ref s.heap.objs.size, _, J, rfl, ⟨_, x, y, rfl, I.hok.fresh (Nat.le_refl _), rfl, fun l hl => by rw [I.list_inj hl hqx]; exact hx, fun l hl => by rw [I.list_inj hl hqy]; exact hy⟩, ⟨w1, (sb.2 _ D.TIz).trans (hk _ _ D.TIz D.TITO D.TIi1 D.TIi2 p2), ⟨u, v, (sb.2 _ D.TOz).trans r3⟩, r4.at fun o q => (sb.2 _ D.i1z).trans q, r5.at fun o q => (sb.2 _ D.i2z).trans q⟩, fun c hc => ?_⟩
  rw [upd_ne (Nat.ne_of_lt (lts c hc))]
  exact (hf c hc).1
theorem z_done (D : ZipApart z TI TO i1 i2 a b) (hot : HotAt X.A x1 s.heap) (nx : x1 ∉ [z, TI, TO, i1, i2]) (I : Inv X pins σ H s) (hf : ∀ c ∈ [z, TI, TO, i1, i2], FpOk X pins H c) (st : ztn a b z TI TO i1 i2 i s.heap) {xs : List V} (hq : SqL X.K H a xs) (hl : xs.length ≤ i) :
    wpAny (model X.prog X.w) X.A (pyNext (.ref z)) (fun r s1 => r = none ∧ Inv X pins σ H s1) E s := by
  obtain ⟨p1, p2, ⟨x0, y0, p3⟩, p4, p5⟩ := st
  obtain ⟨as, rv, q1, _⟩ := I.list hq
  have l1 := rv.length
  refine hot_zip hot (fun e => nx (by simp [e])) (fun e => nx (by simp [e])) D p1 p2 p4 q1.isList (by simp; omega) fun h' hk => ⟨rfl, I.turnedL (t' := s.toks) (ch := [z, TI, TO, i1, i2]) (fun c o hb q => ?_) hf⟩
  have n : ∀ d ∈ [z, TI, TO, i1, i2], c ≠ d := fun d hd e => hb (e ▸ hd)
  exact hk c o (n z (by simp)) (n TO (by simp)) (n i1 (by simp)) (n i2 (by simp)) q
end
end Ev


namespace Ev
open PySem PySem.Spec L2 PyProof.Rows HotX
/-- zip of the lists at a and b: it ends with the first -/
def ItzF (K : PySem.W.Frag) (a b : Addr) : It := ⟨(Itz K a b).go, (Itz K a b).yld, fun i H => ∃ xs : List V, SqL K H a xs ∧ xs.length ≤ i⟩
def iZipF (K : PySem.W.Frag) (ta : TA) : TI := fun σ H R => ta σ H fun vs H1 => ∃ a b xs ys, vs = [.ref a, .ref b] ∧ SqL K H1 a xs ∧ SqL K H1 b ys ∧ R (ItzF K a b) H1
theorem walk_zipF {K : PySem.W.Frag} {a b : Addr} {xs ys : List V} (h : xs.length ≤ ys.length) : Walk (ItzF K a b) xs.length (fun H => SqL K H a xs ∧ SqL K H b ys) (YPair (fun i => xs[i]?) (fun i => ys[i]?)) := by
  have w := walk_zip (K := K) (a := a) (b := b) (xs := xs) (ys := ys) rfl
  rw [Nat.min_eq_left h] at w
  exact ⟨w.goes, fun H q => ⟨xs, q.1, Nat.le_refl _⟩, w.yields⟩
section
variable {X : Cx} {x1 : Addr} {o1 : Obj} {elts : List Expr} {kk : Nat} {tpos p1 p2 pos : Pos} {e1 e2 elt : Expr} {ifs : List Expr} {scope : Scope} {own : List (Str × Nat)} {ta : TA} {g : TG} {tt : TT} {te : TE}
/-- [elt for (..) in zip(e1, e2) if ..], where an exception is handled -/
theorem pe_lcZ (hp : HotP X x1 o1) (hN : X.N.Nodup) (ok : BlkOk X.N X.env.scope scope own) (hgz : Gl X "zip") (hmz : X.mg "zip" = none) (ha : PA X [e1, e2] ta)
    (hs2 : starEach [e1, e2] X.env = (false, eval e1 X.env) :: starEach [e2] X.env) (hpl : (backTo p2 (starEach [e2] X.env)).any (·.1) = false) (hfs : ∀ x, foldedSetIterable (.Call (.Name "zip" p1) [e1, e2] [] p2) X.env x = pure x)
    (hg : ∀ (s : Shared) (H : Hp) (C : Addr) (cl : List (Str × Addr)) (fp : List Addr), (∀ (pins : List (Addr × Obj)) (σ' : L2.St) (H' : Hp) (s' : Shared), Inv (X.blk s H scope (compEnvC scope cl C X.env) fp) pins σ' H' s' → HotAt X.A x1 s'.heap) → PG (X.blk s H scope (compEnvC scope cl C X.env) fp) (.Tuple elts kk tpos) g) (ht : ∀ (s : Shared) (H : Hp) (C : Addr) (cl : List (Str × Addr)) (fp : List Addr), PTs (X.blk s H scope (compEnvC scope cl C X.env) fp) ifs tt)
    (he : ∀ (s : Shared) (H : Hp) (C : Addr) (cl : List (Str × Addr)) (fp : List Addr), PE (X.blk s H scope (compEnvC scope cl C X.env) fp) elt te) :
    PE X (.ListComp elt [⟨.Tuple elts kk tpos, .Call (.Name "zip" p1) [e1, e2] [] p2, ifs, 0⟩] scope pos) (tLc (iZipF X.K ta) g tt te (own.map (·.2))) := by
  refine ⟨fun pins s σ H Q I h => ?_⟩
  rw [eval_ListComp]
  have free_ : ∀ y ∈ scope.names, y.2 = .free → ∃ c, X.env.cells.lookup y.1 = some c := fun y hy e => (ok.free y hy e).elim (fun k => I.ok.has _ (.inl k)) fun k => I.ok.has _ (.inr k)
  refine wpAny_comprehension_free (use := none) rfl hfs (closure_ok free_) ok.kind (fun y hy e => by rw [ok.uniq y hy, e]) ?_
  refine Call_ (ld_blt I hgz hmz boot_zip (callWith_type1 (thn (ha.run p2 pins s σ H _ I h) fun us s1 ⟨vs, H1, I1, r1, q1⟩ => ?_) hs2 hpl))
  obtain ⟨a, b, xs, ys, rfl, hqx, hqy, q⟩ := q1
  cases r1 with
  | cons ra rr =>
  cases rr with
  | cons rb rr =>
  cases rr
  cases ra
  cases rb
  obtain ⟨as, rv, pa, _⟩ := I1.list hqx
  obtain ⟨bs, rv2, pb, _⟩ := I1.list hqy
  have D := PySem.W.ktu_apart s1.heap.objs.size a b pa.lt pb.lt
  refine call_zip_2 pa.isList pb.isList fun h' hz hTI hTO hi1 hi2 hsz hk => wpAny_pyIter_zip hz ?_
  have I2 : Inv X pins σ H1 { s1 with heap := h' } := I1.kept (t' := s1.toks) hk
  obtain ⟨fp, hfp⟩ : ∃ fp, fp = [s1.heap.objs.size + 4, s1.heap.objs.size + 2, s1.heap.objs.size + 3, s1.heap.objs.size, s1.heap.objs.size + 1] := ⟨_, rfl⟩
  have old : ∀ c ∈ fp, s1.heap.objs.size ≤ c := fun c hc => by
    rw [hfp] at hc
    rcases z_five hc with e | e | e | e | e <;> rw [e] <;> omega
  have f2 : ∀ c ∈ fp, FpOk X pins H1 c := fun c hc => I1.fpOk (old c hc) (I1.hok.fresh (old c hc))
  have nx1 : x1 ∉ fp := fun hc => (f2 x1 hc).2.2.2.2.2 (x1, o1) (List.mem_append_left _ hp.m) rfl
  have st2 : ztn a b (s1.heap.objs.size + 4) (s1.heap.objs.size + 2) (s1.heap.objs.size + 3) s1.heap.objs.size (s1.heap.objs.size + 1) 0 h' := ⟨hz, hTI, ⟨_, _, hTO⟩, hi1, hi2⟩
  obtain ⟨tn, htn⟩ : ∃ tn, tn = ztn a b (s1.heap.objs.size + 4) (s1.heap.objs.size + 2) (s1.heap.objs.size + 3) s1.heap.objs.size (s1.heap.objs.size + 1) := ⟨_, rfl⟩
  have tobj : ∀ {i : Nat} {h : Heap}, tn i h → ∀ c ∈ fp, ∃ o, h.get? c = some o ∧ ∀ v, o.data ≠ .cell v := fun {i h} st => by
    rw [htn] at st
    rw [hfp]
    exact z_obj st
  have tkeep : ∀ {i : Nat} {h h' : Heap}, tn i h → (∀ c ∈ fp, ∀ o, h.get? c = some o → h'.get? c = some o) → tn i h' := fun {i h h'} st k => by
    rw [htn] at st ⊢
    rw [hfp] at k
    exact z_keep st k
  rw [← htn] at st2
  obtain ⟨it, hit⟩ : ∃ it, it = s1.heap.objs.size + 4 := ⟨_, rfl⟩
  obtain ⟨s2, hs2e⟩ : ∃ s2, s2 = ({ s1 with heap := h' } : Shared) := ⟨_, rfl⟩
  rw [← hs2e] at I2
  have st2 : tn 0 s2.heap := by rw [hs2e]; exact st2
  show wpAny _ _ _ _ _ _
  rw [← hit, ← hs2e]
  refine wpAny_newObj_type (newEnv_comp ?_) (by show 0 ≤ sizeLine; decide)
  obtain ⟨L, hL⟩ : ∃ L, L = s2.heap.objs.size := ⟨_, rfl⟩
  rw [← hL]
  have hLn : H1 L = none := I2.hok.fresh (Nat.le_of_eq hL.symm)
  obtain ⟨W, ⟨m0, w0⟩, turn⟩ := q L hLn
  obtain ⟨s3, hs3⟩ : ∃ s3, s3 = ({ s2 with heap := s2.heap.push { cls := .type "list", data := .seq ([] : List Value).toArray } } : Shared) := ⟨_, rfl⟩
  have h3 : s3.heap = s2.heap.push { cls := .type "list", data := .seq ([] : List Value).toArray } := by rw [hs3]
  have I3 : Inv X pins σ (upd H1 L (.lst [])) s3 := by
    rw [hs3]
    exact I2.laid (t' := s2.toks) (fun b o e => Heap.get?_push_of_some _ e) (Nat.le_of_eq hL.symm) ⟨Nat.zero_le _, [], 0, .nil, by rw [hL]; exact Heap.get?_push_size _ rfl⟩
  have ltf : ∀ c ∈ fp, c < s2.heap.objs.size := fun c hc => let ⟨o, e, _⟩ := tobj st2 c hc; Heap.lt_size e
  have f3 : ∀ c ∈ fp, FpOk X pins (upd H1 L (.lst [])) c ∧ c < s3.heap.objs.size := fun c hc => by
    have := ltf c hc
    refine ⟨⟨?_, (f2 c hc).2⟩, by rw [h3, Heap.size_push]; omega⟩
    rw [upd_ne (show c ≠ L by omega)]
    exact (f2 c hc).1
  have st3 : tn 0 s3.heap := tkeep st2 fun c _ o e => by rw [h3]; exact Heap.get?_push_of_some _ e
  have I4 := block_start I3 ok hN f3
  obtain ⟨cl, hcl⟩ : ∃ cl, cl = cellsFrom (s3.heap.objs.size + 1) scope.names (cloFrom X.env.cells scope.names []) := ⟨_, rfl⟩
  rw [← hcl] at I4
  have pt := ht s3 (upd H1 L (.lst [])) s3.heap.objs.size cl fp
  have pe := he s3 (upd H1 L (.lst [])) s3.heap.objs.size cl fp
  rw [← hs3]
  show codeAny _ _ (.compStart (.ListComp elt [⟨.Tuple elts kk tpos, .Call (.Name "zip" p1) [e1, e2] [] p2, ifs, 0⟩] scope pos) 0 (.ref it) (.ref L) (compEnvC scope (cellsFrom (s3.heap.objs.size + 1) scope.names (cloFrom X.env.cells scope.names [])) s3.heap.objs.size X.env)) _ { s3 with heap := pushCells (s3.heap.push { cls := .type "dict", data := .dict #[] }) scope.names }
  rw [← hcl]
  have nfp : ∀ c ∈ fp, (upd H1 L (.lst [])) c = none := fun c hc => (f3 c hc).1.1
  obtain ⟨hx1, hHx1, _, nfs1, _⟩ := I3.pin (x1, o1) (List.mem_append_left _ hp.m)
  have nst1 : x1 ∉ frs X.stack := fun hm => by
    rcases List.mem_cons.mp (I3.stkSub _ hm) with e | e
    · exact (I3.pin (x1, o1) (List.mem_append_left _ hp.m)).2.2.1 e
    · exact nfs1 e
  have hotA : ∀ (pins : List (Addr × Obj)) (σ' : L2.St) (H' : Hp) (s' : Shared), Inv (X.blk s3 (upd H1 L (.lst [])) scope (compEnvC scope cl s3.heap.objs.size X.env) fp) pins σ' H' s' → HotAt X.A x1 s'.heap := fun pins σ' H' s' I' => by
    obtain ⟨vs, d, c⟩ := hp.d
    exact ⟨hp.h, o1, vs, I'.base.keep x1 o1 hx1 hHx1 nst1 nx1, d, c⟩
  have pg := hg s3 (upd H1 L (.lst [])) s3.heap.objs.size cl fp hotA
  generalize hce : compEnvC scope cl s3.heap.objs.size X.env = ce at I4 pg pt pe hotA ⊢
  have cL : ce.locals = s3.heap.objs.size := by subst hce; rfl
  generalize hH3 : upd H1 L (.lst []) = H3 at I3 I4 pg pt pe w0 nfp f3 hHx1 hotA
  generalize hs4 : ({ s3 with heap := pushCells (s3.heap.push { cls := .type "dict", data := .dict #[] }) scope.names } : Shared) = s4 at I4 ⊢
  have st4 : tn 0 s4.heap := tkeep st3 fun c _ o e => by rw [← hs4]; exact pushCells_keeps _ _ _ _ (Heap.get?_push_of_some _ e)
  have hotB : ∀ {σ' : L2.St} {H' : Hp} {s' : Shared}, Inv (X.blk s3 H3 scope ce fp) [] σ' H' s' → HotAt X.A x1 s'.heap := fun {σ' H' s'} I' => hotA [] σ' H' s' I'
  have stat : ∀ {σ' : L2.St} {H' : Hp} {s' : Shared}, Inv (X.blk s3 H3 scope ce fp) [] σ' H' s' → (∀ c ∈ fp, H' c = none) → ∀ c ∈ fp, FpOk (X.blk s3 H3 scope ce fp) [] H' c := fun {σ' H' s'} I' hn c hc =>
    ⟨hn c hc, (I'.ok.exf c hc).1, I'.ok.exfs c hc, .inl hc, fun x d e => (I'.ok.exf c hc).2 x d e, fun q hq => absurd (show q ∈ ([] : List (Addr × Obj)) ++ [] from hq) (by simp)⟩
  have loop : codeAny (model X.prog X.w) X.A (.compLoop (.ListComp elt [⟨.Tuple elts kk tpos, .Call (.Name "zip" p1) [e1, e2] [] p2, ifs, 0⟩] scope pos) 0 (.ref it) (.ref L) ce) (compPost (model X.prog X.w) X.A X.xe none (EP X pins σ Q) (.ref L) s3.heap.objs.size) s4 := by
    refine compLoop_any (fun n s' => ∃ i H', Inv (X.blk s3 H3 scope ce fp) [] (wipe σ (own.map (·.2))) H' s' ∧ tn i s'.heap ∧ (∀ c ∈ fp, H' c = none) ∧ W i n H') ?_ m0 ⟨0, H3, I4, st4, nfp, w0⟩
    rintro n s5 ⟨i, H5, I5, st5, n5, w5⟩
    rcases turn i n H5 w5 with ⟨⟨zs, hzs, hle⟩, qq⟩ | ⟨go, Nx, hNx, step⟩
    · have td : wpAny (model X.prog X.w) X.A (pyNext (.ref it)) (fun r s1 => r = none ∧ Inv (X.blk s3 H3 scope ce fp) [] (wipe σ (own.map (·.2))) H5 s1) (fun _ _ => False) s5 := by
        rw [hit]
        rw [htn] at st5
        have st' : ∀ c ∈ [s1.heap.objs.size + 4, s1.heap.objs.size + 2, s1.heap.objs.size + 3, s1.heap.objs.size, s1.heap.objs.size + 1], FpOk (X.blk s3 H3 scope ce fp) [] H5 c := fun c hc => stat I5 n5 c (by rw [hfp]; exact hc)
        exact z_done (X := X.blk s3 H3 scope ce fp) D (hotB I5) (by rw [← hfp]; exact nx1) I5 st' st5 hzs hle
      refine thnF td fun r s6 ⟨hr, I6⟩ => ?_
      subst hr
      have I7 : Inv X pins σ H5 s6 := I3.call' (ch := fp) I6.os I6.base I6.hok I6.bare fun c hc => ⟨(f3 c hc).1.2.2.2.1, (f3 c hc).1.2.1, (f3 c hc).1.2.2.2.2.1, (f3 c hc).1.2.2.2.2.2⟩
      have nC : H5 s3.heap.objs.size = none := by
        have e : H5 ce.locals = none := I6.free
        rwa [cL] at e
      obtain ⟨m, hn, _⟩ := I6.loc
      have hn : s6.heap.Ns s3.heap.objs.size m := cL ▸ (show s6.heap.Ns ce.locals m from hn)
      have fC := I3.fpOk (H' := H5) (Nat.le_refl s3.heap.objs.size) nC
      refine ⟨m, hn, fun h'' sb => ?_⟩
      obtain ⟨c0, c1, c2, c3, c4, c5⟩ := fC
      exact ⟨.ref L, H5, I7.turned (t' := s6.toks) (fun b o hb e => (sb.2 b hb).trans e) c0 c1 c3 c4 c5, rfl, qq⟩
    · have ti : wpAny (model X.prog X.w) X.A (pyNext (.ref it)) (fun r s1 => ∃ u, r = some u ∧ wpAny (model X.prog X.w) X.A (letOwnedTupleGo (.Tuple elts kk tpos) (.ref it) u) (fun _ s2 => ∃ x H', Inv (X.blk s3 H3 scope ce fp) [] (wipe σ (own.map (·.2))) H' s2 ∧ RelV x u ∧ (Itz X.K a b).yld i H5 x H' ∧ tn (i + 1) s2.heap ∧ ∀ c ∈ fp, H' c = none) (fun _ _ => False) s1) (fun _ _ => False) s5 := by
        rw [htn] at st5
        have st' : ∀ c ∈ [s1.heap.objs.size + 4, s1.heap.objs.size + 2, s1.heap.objs.size + 3, s1.heap.objs.size, s1.heap.objs.size + 1], FpOk (X.blk s3 H3 scope ce fp) [] H5 c := fun c hc => stat I5 n5 c (by rw [hfp]; exact hc)
        have zi := z_item (X := X.blk s3 H3 scope ce fp) (E := fun _ _ => False) (elts := elts) (kk := kk) (tpos := tpos) D I5 st' st5 go
        rw [hit]
        refine thnF zi fun r s1 ⟨u, hr, hu⟩ => ⟨u, hr, thnF hu fun _ s2 ⟨x, H', j1, j2, j3, j4, j5⟩ => ⟨x, H', j1, j2, j3, by rw [htn]; exact j4, fun c hc => j5 c (by rw [← hfp]; exact hc)⟩⟩
      refine thnF ti fun r s6 ⟨u, hr, h6⟩ => ?_
      subst hr
      refine thnF h6 fun _ s7 ⟨x, H7, I7, r7, y7, st7, n7⟩ => ?_
      have P7 := I7.pinned (stat I7 n7) (tobj st7)
      refine thnF (pg.run _ s7 _ H7 x u _ P7 r7 (step x H7 y7)) fun _ s8 ⟨σ8, H8, I8, hw8, q8⟩ => thnF (pt.run _ s8 σ8 H8 _ I8 q8) fun k s9 ⟨H9, I9, q9⟩ => ?_
      have fin : ∀ {s' : Shared} {H' : Hp}, Inv (X.blk s3 H3 scope ce fp) ([] ++ pinsAt fp s7.heap) σ8 H' s' → Nx H' → ∃ m, m < n ∧ ∃ i H', Inv (X.blk s3 H3 scope ce fp) [] (wipe σ (own.map (·.2))) H' s' ∧ tn i s'.heap ∧ (∀ c ∈ fp, H' c = none) ∧ W i m H' := fun {s' H'} I' nx => by
        obtain ⟨m', hm, w'⟩ := hNx H' nx
        have pk : ∀ c ∈ fp, ∀ o, s7.heap.get? c = some o → s'.heap.get? c = some o ∧ H' c = none := fun c hc o e => ⟨(I'.pin (c, o) (List.mem_append_right _ (List.mem_append_right _ (mem_pinsAt hc e)))).1, (I'.pin (c, o) (List.mem_append_right _ (List.mem_append_right _ (mem_pinsAt hc e)))).2.1⟩
        refine ⟨m', hm, i + 1, H', (I'.unpinned (pins := [])).weak (by rw [← hw8, wipe_length]) (fun j v e => ?_), tkeep st7 fun c hc o e => (pk c hc o e).1, fun c hc => ?_, w'⟩
        · rw [← hw8] at e
          exact (wipe_some e).1
        · obtain ⟨o, e, _⟩ := tobj st7 c hc
          exact (pk c hc o e).2
      cases k with
      | false => exact fin I9 q9
      | true =>
        refine thnF (pe.run _ s9 σ8 H9 _ I9 q9) fun z s10 ⟨yv, H10, I10, r10, acc, hD10, hz10, nx⟩ => ?_
        exact app_ok (X := X.blk s3 H3 scope ce fp) I10 hD10 hz10 r10 fun s11 I11 => fin I11 nx
  refine codeAny_compStart_list loop ?_
  rw [htn] at st4
  rw [hit]
  exact wpAny_pyIter_zip st4.1 (hit ▸ loop)
end
end Ev


namespace Ev
open PySem PySem.Spec L2 PyProof.Rows HotX
/-! ### a tuple unpacked, while an exception is handled -/
section
variable {prog : Program} {w : World} {A : Around} {E : Value → Shared → Prop} {s : Shared} {x1 : Addr}
theorem hot_tupEnd {it t : Addr} {i : Nat} {its : Array Value} {Q : Option Value → Shared → Prop} (hot : HotAt A x1 s.heap) (hne : x1 ≠ it) (hit : IsTupIter s.heap it t i) (ht : IsTup s.heap t its) (hx : its[i]? = none)
    (hQ : ∀ h', Heap.ExtBut it s.heap h' → Q none { s with heap := h' }) : wpAny (model prog w) A (pyNext (.ref it)) Q E s := by
  obtain ⟨oi, hoi, hci, hdi⟩ := id hit
  obtain ⟨ol, hol, _, nl, hdl⟩ := ht
  unfold pyNext
  refine wpAny_bind (wpAny_attempt (wpAny_callSpecial?_slot (name := Str.ofString "__next__") hit.typeIs slot_tupleiter_next (wpAny_call_entry slot_tupleiter_next hit.typeIs entry_tupleiter_next ?_ (args_tupleiter_next _))))
  show wpAny _ _ (field (.ref it) 0 >>= _) _ _ s; refine wpAny_bind (wpAny_field hoi hdi (x := .ref t) rfl ?_)
  show wpAny _ _ (if (Value.ref t == Value.none) = true then _ else _) _ _ s; rw [if_neg (show ¬ ((Value.ref t == Value.none) = true) from Bool.false_ne_true)]
  show wpAny _ _ (field (.ref it) 1 >>= _) _ _ s; refine wpAny_bind (wpAny_field hoi hdi (x := .int i 0) rfl ?_)
  show wpAny _ _ (seqItems? (.ref t) >>= _) _ _ s; refine wpAny_bind (wpAny_seqItems hol hdl ?_)
  simp only [Int.toNat_natCast, hx]; refine wpAny_bind (wpAny_rule (wpAny_bind (wpAny_setField hoi hdi (by simp) ?_)))
  show wpAny _ _ (newExc (.type "StopIteration") [] >>= _) _ _ _; refine wpAny_bind ?_; simp only [newExc, newTuple]
  refine wpAny_bind (wpAny_newObj_type ?_ (by size_fits)); refine wpAny_bind (m := firstArgMember _ _) (wpAny_of_eq (a := Value.none) (by first | rfl | (simp only [firstArgMember]; rfl)) ?_); refine wpAny_newObj_type ?_ (by size_fits)
  have k1 : ∀ o, s.heap.get? x1 = some o → (s.heap.update it (Obj.mapFields (·.setIfInBounds 0 Value.none))).get? x1 = some o := fun o e => (Heap.get?_update_other _ _ (Ne.symm hne)).trans e
  obtain ⟨hh, o1, vs1, h1, d1, c1⟩ := hot
  have g1 := Heap.get?_push_of_some { cls := .type "tuple", data := .seq ([] : List Value).toArray } (k1 _ h1)
  refine raiseNew_hot ⟨hh, o1, vs1, Heap.get?_push_of_some _ g1, d1, c1⟩ (Nat.ne_of_lt (Heap.lt_size g1)) (Heap.get?_push_size _ rfl) rfl (by first | (simp; done) | (simp; omega) | (simp only [Array.size_append]; simp; omega)) ?_
  refine wpAny_bind (wpAny_isInstance (T := "StopIteration") (b := true) ⟨_, Heap.get?_update_self _ (Heap.get?_push_size _ rfl) rfl, rfl⟩ isSubtype_stop (wpAny_pure (hQ _ fun b o hb e => ?_)))
  have e1 : (s.heap.update it (Obj.mapFields (·.setIfInBounds 0 Value.none))).get? b = some o := (Heap.get?_update_other _ _ (Ne.symm hb)).trans e
  have e2 := Heap.get?_push_of_some { cls := .type "tuple", data := .seq ([] : List Value).toArray } e1
  rw [Heap.get?_update_other _ _ (Nat.ne_of_gt (Heap.lt_size e2))]
  exact Heap.get?_push_of_some _ e2
theorem hot_unpack {env : PySem.Env} {elts : List Expr} {k : Nat} {pos : Pos} {t : Addr} {its : Array Value} {Q : Unit → Shared → Prop} (hot : HotAt A x1 s.heap) (ht : IsTup s.heap t its) (hn : (assignEach elts env).length = its.size) (hstar : (assignEach elts env).findIdx? (·.1) = none)
    (h : ∀ h', Heap.ExtBut s.heap.objs.size s.heap h' → wpAny (model prog w) A (assignInOrder ((assignEach elts env).map (·.2)) its.toList) Q E { s with heap := h' }) : wpAny (model prog w) A (assign (.Tuple elts k pos) env (.ref t)) Q E s := by
  obtain ⟨hh, o1, vs1, g1, d1, c1⟩ := id hot
  have hx1 : x1 ≠ s.heap.objs.size := Nat.ne_of_lt (Heap.lt_size g1)
  have hlt : t ≠ s.heap.objs.size := by obtain ⟨o, ho, _⟩ := ht; exact Nat.ne_of_lt (Heap.lt_size ho)
  rw [assign_Tuple]
  refine wpAny_bind (wpAny_standAt ?_)
  unfold unpack
  rw [hn, hstar]
  refine wpAny_bind (wpAny_holding ?_)
  unfold unpackItems notIterableAtAll
  refine wpAny_bind (wpAny_bind (wpAny_specialOf ht.typeIs slot_tuple_iter.lookup (wpAny_pure ?_)))
  simp only [Bool.false_eq_true, if_false]
  refine wpAny_bind (wpAny_holding (iter_tuple ht (wpAny_bind (wpAny_holding (draw_tuple hlt its.size 0 _ _ ⟨_, Heap.get?_push_size _ rfl, rfl, rfl⟩ (ht.push _) (by omega) fun h₁ hit₁ hs₁ => ?_)))))
  rw [show List.take its.size (List.drop 0 its.toList) = its.toList by rw [List.drop_zero]; exact List.take_of_length_le (by simp), if_neg (by simp)]
  have hot1 : HotAt A x1 h₁ := ⟨hh, o1, vs1, hs₁.extBut _ _ hx1 (Heap.get?_push_of_some _ g1), d1, c1⟩
  refine wpAny_bind (wpAny_holding (hot_tupEnd hot1 hx1 hit₁ ((ht.push _).extBut hs₁.extBut hlt) (by simp) fun h₂ he₂ => ?_))
  simp only [Option.isSome_none, Bool.false_eq_true, if_false]
  exact wpAny_pure (h h₂ fun b o hb e => he₂ b o hb (hs₁.extBut b o hb (Heap.get?_push_of_some _ e)))
end
section
variable {X : Cx} {x1 : Addr} {pos : Pos}
theorem pg_tupH {es : List Expr} {k : Nat} {t : TGs} {n : Nat} (hot : ∀ (pins : List (Addr × Obj)) (σ' : L2.St) (H' : Hp) (s' : Shared), Inv X pins σ' H' s' → HotAt X.A x1 s'.heap) (h : PGs X es t) (hn : (assignEach es X.env).length = n) (hst : (assignEach es X.env).findIdx? (·.1) = none) : PG X (.Tuple es k pos) (gTup X.K n t) := by
  refine ⟨fun pins s σ H v u Q I r hw => ?_⟩
  obtain ⟨a, xs, rfl, hq, hl, hw⟩ := hw
  cases r
  obtain ⟨its, rv, ht, hz⟩ := I.tuple hq
  refine hot_unpack (hot _ _ _ _ I) ht (by simp [hn, ← hl, rv.length]) hst fun h' hx => h.run pins _ σ H xs _ Q (I.kept (t' := s.toks) fun b o e => hx b o (Nat.ne_of_lt (Heap.lt_size e)) e) (by simpa using rv) hw
end
end Ev


namespace Ev
open PySem PySem.Spec L2 PyProof.Rows
section
variable {X : Cx}
/-! ### repr of what stands in the heap -/
def rReprD (K : PySem.W.Frag) : List V → Hp → VK → Prop := fun xs H Q => (∃ a d, xs = [V.ref a] ∧ Dp K H (.ref a) d ∧ d.showable = true ∧ d.hasDict = false ∧ d.depth ≤ 64 ∧ d.shown.length ≤ sizeLine ∧ Q (.str d.shown) H) ∨ (xs = [V.non] ∧ Q (.str "None") H)
theorem call_reprD (hg : X.A.guards = some []) (hu : X.A.units + 65 < cLine) : CallR X (.builtin "repr") (rReprD X.K) := by
  intro pins s σ H xs us Q I r h
  rcases h with ⟨a, d, rfl, hd, h1, h2, h3, h4, q⟩ | ⟨rfl, q⟩
  rotate_left
  · obtain ⟨u, rfl, ru⟩ := r.one
    cases ru
    exact PySem.P.repr_of_none ⟨.str "None", H, I.tok _, ⟨_, rfl⟩, q⟩
  obtain ⟨u, rfl, ru⟩ := r.one
  obtain ⟨as, rr⟩ := Dp.reads I d _ _ hd ru
  cases ru
  exact PySem.repr_of_reads' rr h1 (PyData.noDict_hsm h2) hg (by omega) (fun _ _ e => e) (fun h' t tk hk => ⟨.str _, H, I.kept (t' := tk) hk, ⟨t, rfl⟩, q⟩) h4
end
section
variable {T : Ad} {m : Mp} {H : Hp} {σ : L2.St} {W : WX} {S : Store} {Q : VK} {dx dy : D} {x y : V}

/-! ### an item, a slice -/
theorem ixN_at {α β : Type} {xs : List α} {vs : List β} (e : vs.length = xs.length) {i : Int} {a : α} (h : atI xs i = some a) : ∃ j : Nat, xs[j]? = some a ∧ ∀ b : β, vs[j]? = some b → atI vs i = some b := by
  unfold atI at h ⊢
  rw [e]
  cases hj : ixN xs.length i with
  | none =>
    rw [hj] at h
    cases h
  | some j =>
    rw [hj] at h
    exact ⟨j, h, fun b hb => hb⟩
theorem RDs.atI {ds : List D} {vs : List V} {i : Int} {d : D} (h : RDs T m H ds vs) (e : L2.atI ds i = some d) : ∃ v, L2.atI vs i = some v ∧ RD T m H d v := by
  obtain ⟨j, h1, h2⟩ := ixN_at h.length e
  obtain ⟨v, h3, h4⟩ := h.get h1
  exact ⟨v, h2 v h3, h4⟩
theorem some_L {o : Option (List D)} {f : List D → R D} {k : D → Store → Mp → Hp → Prop} (h : PostK T (match o with | some a => f a | none => .stuck) m H σ W k) : ∃ a, o = some a ∧ PostK T (f a) m H σ W k := by
  cases o with
  | none => exact h.elim
  | some a => exact ⟨a, rfl, h⟩
theorem some_D {o : Option (D)} {f : D → R D} {k : D → Store → Mp → Hp → Prop} (h : PostK T (match o with | some a => f a | none => .stuck) m H σ W k) : ∃ a, o = some a ∧ PostK T (f a) m H σ W k := by
  cases o with
  | none => exact h.elim
  | some a => exact ⟨a, rfl, h⟩
theorem some_N {o : Option (Nat)} {f : Nat → R D} {k : D → Store → Mp → Hp → Prop} (h : PostK T (match o with | some a => f a | none => .stuck) m H σ W k) : ∃ a, o = some a ∧ PostK T (f a) m H σ W k := by
  cases o with
  | none => exact h.elim
  | some a => exact ⟨a, rfl, h⟩
theorem some_I {o : Option (Int)} {f : Int → R D} {k : D → Store → Mp → Hp → Prop} (h : PostK T (match o with | some a => f a | none => .stuck) m H σ W k) : ∃ a, o = some a ∧ PostK T (f a) m H σ W k := by
  cases o with
  | none => exact h.elim
  | some a => exact ⟨a, rfl, h⟩
theorem some_LI {o : Option (List Int)} {f : List Int → R D} {k : D → Store → Mp → Hp → Prop} (h : PostK T (match o with | some a => f a | none => .stuck) m H σ W k) : ∃ a, o = some a ∧ PostK T (f a) m H σ W k := by
  cases o with
  | none => exact h.elim
  | some a => exact ⟨a, rfl, h⟩
theorem some_LB {o : Option (List Bool)} {f : List Bool → R D} {k : D → Store → Mp → Hp → Prop} (h : PostK T (match o with | some a => f a | none => .stuck) m H σ W k) : ∃ a, o = some a ∧ PostK T (f a) m H σ W k := by
  cases o with
  | none => exact h.elim
  | some a => exact ⟨a, rfl, h⟩
theorem ix_use0 (r : RS T m H S) (hx : RD T m H dx x) (hy : RD T m H dy y) (h : PostK T (ixV0 dx dy S) m H σ W (KQ T Q)) : rIx T.K x y H Q := by
  cases dy with
  | int i =>
    obtain rfl := rd_int hy
    have lists : PostK T (match lstOf S dx with | some xs => (match L2.atI xs i with | some d => .ok d S | none => .stuck) | none => .stuck) m H σ W (KQ T Q) → rIx T.K x (.int i) H Q := fun h => by
      obtain ⟨xs, e, h⟩ := some_L h
      obtain ⟨d, e2, h⟩ := some_D h
      obtain ⟨p, vs, rfl, h2, h3⟩ := lst_of r e hx
      obtain ⟨v, h4, h5⟩ := h3.atI e2
      exact .inl ⟨p, vs, i, v, rfl, rfl, SqL.of h2, h4, ok_use r h h5⟩
    cases dx with
    | tup xs =>
      obtain ⟨d, e2, h⟩ := some_D (show PostK T (match L2.atI xs i with | some d => .ok d S | none => .stuck) m H σ W (KQ T Q) from h)
      obtain ⟨p, vs, rfl, h2, h3⟩ := tup_of hx
      obtain ⟨v, h4, h5⟩ := h3.atI e2
      exact .inr (.inl ⟨p, vs, i, v, rfl, rfl, h2, h4, ok_use r h h5⟩)
    | str z =>
      obtain rfl := rd_str hx
      obtain ⟨hz, h⟩ := ite_use (show PostK T (if isz z.length then (match L2.atI z.cps.toList i with | some c => .ok (.str ⟨#[c]⟩) S | none => .stuck) else .stuck) m H σ W (KQ T Q) from h)
      obtain ⟨c, e2, h⟩ := some_N h
      exact .inr (.inr ⟨z, i, c, rfl, rfl, isz_of hz, e2, ok_use r h rfl⟩)
    | scr ns =>
      obtain ⟨n, e2, h⟩ := some_I (show PostK T (match L2.atI ns i with | some n => .ok (.int n) S | none => .stuck) m H σ W (KQ T Q) from h)
      obtain ⟨p, rfl, h2⟩ := scr_of hx
      obtain ⟨j, h3, h4⟩ := ixN_at (vs := ns.map V.int) (by simp) e2
      exact .inl ⟨p, _, i, .int n, rfl, rfl, h2, h4 _ (by simp [h3]), ok_use r h rfl⟩
    | _ => exact lists h
  | _ => exact absurd h (by cases dx <;> simp [ixV0, PostK])
/-- an item of a dict -/
def rIxDt : R2 := fun x y H Q => ∃ a v, x = .ref a ∧ DGet H a y (some v) ∧ Q v H
theorem ix_dict {X : Cx} (hu : X.A.units + 1 < cLine) : IxR X rIxDt := by
  intro value slice pins s σ H x y v u Q I rx ry h hs
  obtain ⟨a, r, rfl, g, q⟩ := h
  cases rx
  exact tail_any (dict_typeIs I g) PySem.F.slot_dict_getitem.lookup (d_getItem hu I g ry fun w' s' I' rw' => ⟨r, H, I', rw', q⟩) hs
theorem dctOf_ref {S : Store} {d : D} {kvs : List (D × D)} (h : dctOf S d = some kvs) : ∃ l, d = .ref l ∧ S[l]? = some (.dct kvs) := by
  cases d with
  | ref l =>
    refine ⟨l, rfl, ?_⟩
    have h : (match S[l]? with | some (.dct kvs) => some kvs | _ => none) = some kvs := h
    cases e : S[l]? with
    | none =>
      rw [e] at h
      cases h
    | some ob =>
      rw [e] at h
      cases ob with
      | lst _ => cases h
      | dct _ =>
        cases h
        rfl
  | _ => cases h
def rIxA (P : Program) (w : World) (K : PySem.W.Frag) : R2 := fun x y H Q => rIx K x y H Q ∨ rIxDt x y H Q ∨ rIxS P w K x y H Q
theorem ix_useT (r : RS T m H S) (hx : RD T m H dx x) (hy : RD T m H dy y) (h : PostK T (ixT dx dy S) m H σ W (KQ T Q)) : rIx T.K x y H Q ∨ rIxS T.P T.w T.K x y H Q := by
  cases dx with
  | tdc ks ds =>
    have h : PostK T (match tkD dy with | some k => (match tAt ks ds k with | some d => .ok d S | none => .stuck) | none => .stuck) m H σ W (KQ T Q) := h
    cases ek : tkD dy with
    | none =>
      rw [ek] at h
      exact h.elim
    | some k =>
      rw [ek] at h
      obtain ⟨d, e3, h⟩ := some_D h
      obtain ⟨a, o, e1, e2, e4⟩ := tdc_ask hx ek hy
      rcases e4 with ⟨e4, _⟩ | ⟨d', v, e4, rfl, hv⟩
      · rw [e3] at e4
        cases e4
      · rw [e3] at e4
        cases e4
        exact .inr ⟨a, v, e1, e2, ok_use r h hv⟩
  | _ => exact .inl (ix_use0 r hx hy h)
theorem ix_use (r : RS T m H S) (hx : RD T m H dx x) (hy : RD T m H dy y) (h : PostK T (ixV dx dy S) m H σ W (KQ T Q)) : rIxA T.P T.w T.K x y H Q := by
  unfold ixV at h
  cases e : dctOf S dx with
  | none =>
    rw [e] at h
    rcases ix_useT r hx hy h with h | h
    · exact .inl h
    · exact .inr (.inr h)
  | some kvs =>
    rw [e] at h
    obtain ⟨l, rfl, e2⟩ := dctOf_ref e
    obtain ⟨p, vs, h1, h2, h3⟩ := r.dct e2
    obtain ⟨p', h4, rfl⟩ := hx
    rw [h1] at h4
    cases h4
    have h : PostK T (dctIx kvs dy S) m H σ W (KQ T Q) := h
    unfold dctIx at h
    cases ek : kD dy with
    | none =>
      rw [ek] at h
      exact h.elim
    | some k =>
      rw [ek] at h
      obtain ⟨d, e3, h⟩ := some_D h
      obtain ⟨v, h5, h6⟩ := h3.at_ e3
      refine .inr (.inl ⟨p, v, rfl, ?_, ok_use r h h6⟩)
      rw [rd_key ek hy, ← h5]
      exact DGet.k h2
abbrev R3 := V → Option Int → Option Int → Hp → VK → Prop
def rCut (K : PySem.W.Frag) : R3 := fun x lo hi H Q => rSlL K x lo hi H Q ∨ rSlA K x lo hi H Q ∨ rSlS x lo hi H Q
theorem sl_all {X : Cx} : SlR X (rCut X.K) := sl_list.or (sl_tupA.or sl_str)
theorem scr_cut (ns : List Int) (lo hi : Option Int) : L2.cutV (ns.map V.int) lo hi = (cutD ns lo hi).map V.int := by
  unfold L2.cutV cutD
  rw [List.length_map, ← List.map_drop, ← List.map_take]
theorem cut_use {new : Bool} {lo hi : Option Int} (r : RS T m H S) (hx : RD T m H dx x) (h : PostK T (Ev.cutV new dx lo hi S) m H σ W (KQ T Q)) : rCut T.K x lo hi H Q := by
  have lists : PostK T (match lstOf S dx with | some xs => mkL new (cutD xs lo hi) S | none => .stuck) m H σ W (KQ T Q) → rCut T.K x lo hi H Q := fun h => by
    obtain ⟨xs, e, h⟩ := some_L h
    obtain ⟨p, vs, rfl, h2, h3⟩ := lst_of r e hx
    exact .inl ⟨p, vs, rfl, SqL.of h2, (mkL_use r h (h3.cut lo hi)).2⟩
  cases dx with
  | tup xs =>
    obtain ⟨p, vs, rfl, h2, h3⟩ := tup_of hx
    have h : PostK T (.ok (.tup (cutD xs lo hi)) S) m H σ W (KQ T Q) := h
    refine .inr (.inl ⟨p, vs, rfl, h2, fun hw => ok_use r h ⟨p, vs, rfl, h2, ?_⟩, fun hw q hq => ?_⟩)
    · have e := h3.cut lo hi
      have e2 : L2.cutV vs lo hi = vs := by
        unfold L2.cutV
        rw [hw.1, hw.2, List.drop_zero, Nat.sub_zero, List.take_length]
      rw [e2] at e
      exact e
    · exact h _ _ (Ext.new r hq) (r.new hq) _ ⟨q, _, rfl, .inl (.inl upd_same), RDs.ext (Ext.new r hq) _ _ (h3.cut lo hi)⟩
  | str z =>
    obtain rfl := rd_str hx
    obtain ⟨hz, h⟩ := ite_use (show PostK T (if isz z.length then .ok (.str (cutS z lo hi)) S else .stuck) m H σ W (KQ T Q) from h)
    exact .inr (.inr ⟨z, rfl, isz_of hz, ok_use r h rfl⟩)
  | scr ns =>
    obtain ⟨p, rfl, h2⟩ := scr_of hx
    have h : PostK T (mkL new ((cutD ns lo hi).map .int) S) m H σ W (KQ T Q) := h
    exact .inl ⟨p, _, rfl, h2, by rw [scr_cut]; exact (mkL_use r h (RDs.ints _)).2⟩
  | _ => exact lists h
theorem rev_use {new : Bool} (r : RS T m H S) (hx : RD T m H dx x) (h : PostK T (match lstOf S dx with | some xs => mkL new xs.reverse S | none => .stuck) m H σ W (KQ T Q)) :
    ∃ a xs, x = .ref a ∧ SqL T.K H a xs ∧ ∀ p, H p = none → Q (.ref p) (upd H p (.lst xs.reverse)) := by
  obtain ⟨xs, e, h⟩ := some_L h
  obtain ⟨p, vs, rfl, h2, h3⟩ := lst_of r e hx
  exact ⟨p, vs, rfl, SqL.of h2, (mkL_use r h h3.reverse).2⟩

/-! ### built-in functions of one value -/
def bfNm : Bfn → Str
  | .len => "len"
  | .int => "int"
  | .abs => "abs"
  | .sum => "sum"
  | .all => "all"
  | .any => "any"
  | .list => "list"
  | .tuple => "tuple"
  | .repr => "repr"
  | .sorted => "sorted"
  | .max => "max"
  | .dict => "dict"
def rLenS (P : Program) (w : World) (K : PySem.W.Frag) : List V → Hp → VK → Prop := fun xs H Q => ∃ (p : Addr) (tvs : TVs), xs = [.ref p] ∧ H p = some (DictS P w p tvs) ∧ (∀ q ∈ tvs, SqT K H q.2.1 (q.1.map kV)) ∧ (tvs.length : Int) < 2 ^ 63 ∧ Q (.int ((tvs.length : Nat) : Int)) H
def rDictS (P : Program) (w : World) (K : PySem.W.Frag) : List V → Hp → VK → Prop := fun xs H Q => ∃ (a : Addr) (ps : List Addr) (kvs : TVs), xs = [.ref a] ∧
    SqL K H a (ps.map V.ref) ∧ Paired (fun p kv => SqT K H p [.ref kv.2.1, kv.2.2] ∧ SqT K H kv.2.1 (kv.1.map kV)) ps kvs ∧
    ∀ p, H p = none → Q (.ref p) (upd H p (DictS P w p (foldV [] kvs)))
def rLen (P : Program) (w : World) (K : PySem.W.Frag) : List V → Hp → VK → Prop := fun xs H Q => ((∃ p ys, xs = [.ref p] ∧ (SqL K H p ys ∨ SqT K H p ys) ∧ Q (.int ys.length) H) ∨ rLenS P w K xs H Q) ∨ ∃ z, xs = [.str z] ∧ z.length ≤ sizeLine ∧ Q (.int z.length) H
def rInt : List V → Hp → VK → Prop := fun xs H Q => ((∃ i, xs = [.int i] ∧ Q (.int i) H) ∨ ∃ k, xs = [.bl k] ∧ Q (.int (if k then 1 else 0)) H) ∨ ∃ a n, xs = [.str a] ∧ PySem.intText? a = some n ∧ a.length ≤ 640 ∧ Q (.int n) H
def rBf (P : Program) (w : World) (K : PySem.W.Frag) : Bfn → List V → Hp → VK → Prop
  | .len => rLen P w K
  | .int => rInt
  | .abs => fun xs H Q => ∃ i, xs = [.int i] ∧ Q (.int (if i < 0 then -i else i)) H
  | .sum => rSum K
  | .all => rAll K
  | .any => rAny K
  | .list => fun xs H Q => ∃ p ys, xs = [.ref p] ∧ (SqL K H p ys ∨ SqT K H p ys) ∧ ∀ l, H l = none → Q (.ref l) (upd H l (.lst ys))
  | .tuple => fun xs H Q => ∃ p ys, xs = [.ref p] ∧ ((SqL K H p ys ∧ ∀ l, H l = none → Q (.ref l) (upd H l (.tup ys))) ∨ (SqT K H p ys ∧ Q (.ref p) H))
  | .repr => rReprD K
  | .sorted => rSortG K
  | .max => rMax K
  | .dict => rDictS P w K
def bfTy : Bfn → Bool
  | .int => true
  | .list => true
  | .tuple => true
  | .dict => true
  | _ => false
def bfId : Bfn → String
  | .len => "len"
  | .int => "int"
  | .abs => "abs"
  | .sum => "sum"
  | .all => "all"
  | .any => "any"
  | .list => "list"
  | .tuple => "tuple"
  | .repr => "repr"
  | .sorted => "sorted"
  | .max => "max"
  | .dict => "dict"
def bfVal (f : Bfn) : Value := if bfTy f then .type (bfId f) else .builtin (bfId f)
theorem bf_boot (f : Bfn) : bootBuiltins (bfNm f) = some (bfVal f) := by
  cases f <;> decide +kernel
theorem bf_rule {X : Cx} (hc : X.calm = true) (hg : X.A.guards = some []) (hu : X.A.units + 70 < cLine) (f : Bfn) : CallR X (bfVal f) (rBf X.prog X.w X.K f) := by
  cases f with
  | len => exact (call_len_seq.or call_lenS).or call_len_str
  | int => exact call_int1.or call_int_str
  | abs => exact call_abs
  | sum => exact cr_sum hc
  | all => exact cr_all hc
  | any => exact cr_any hc
  | list => exact call_list_of
  | tuple => exact call_tuple_of
  | repr => exact call_reprD hg (by omega)
  | sorted => exact call_sortedG hu
  | max => exact cr_max hc
  | dict => exact call_dictS hc (by show X.A.units + 2 < cLine; omega)
theorem okRepr_use {d : D} (h : okRepr d = true) : d.plain = true ∧ d.pd.showable = true ∧ d.pd.hasDict = false ∧ d.pd.depth ≤ 64 ∧ d.pd.shown.length ≤ sizeLine := by
  unfold okRepr at h
  simp only [Bool.and_eq_true, decide_eq_true_eq, Bool.not_eq_true'] at h
  exact ⟨h.1.1.1.1, h.1.1.1.2, h.1.1.2, h.1.2, h.2⟩
theorem plains_mem : ∀ {xs : List D}, D.plains xs = true → ∀ d ∈ xs, d.plain = true
  | x :: xs, h, d, hd => by
    rw [D.plains, Bool.and_eq_true] at h
    rcases List.mem_cons.mp hd with rfl | hd
    · exact h.1
    · exact plains_mem h.2 d hd
theorem zip_fst : ∀ {xs : List D} {vs : List V}, vs.length = xs.length → (xs.zip vs).map (·.1) = xs ∧ (xs.zip vs).map (·.2) = vs
  | [], [], _ => ⟨rfl, rfl⟩
  | x :: xs, v :: vs, h => by
    have := zip_fst (xs := xs) (vs := vs) (by simpa using h)
    exact ⟨by simp [this.1], by simp [this.2]⟩
  | [], _ :: _, h => by simp at h
  | _ :: _, [], h => by simp at h
theorem RDs.mem : ∀ {xs : List D} {vs : List V}, RDs T m H xs vs → ∀ p ∈ xs.zip vs, RD T m H p.1 p.2
  | [], vs, h, p, hp => by simp at hp
  | x :: xs, vs, h, p, hp => by
    obtain ⟨v, r, rfl, h2, h3⟩ := h
    rw [List.zip_cons_cons] at hp
    rcases List.mem_cons.mp hp with rfl | hp
    · exact h2
    · exact RDs.mem h3 p hp
theorem RDs.of_pairs : ∀ {ps : List (D × V)}, (∀ p ∈ ps, RD T m H p.1 p.2) → RDs T m H (ps.map (·.1)) (ps.map (·.2))
  | [], _ => rfl
  | p :: ps, h => ⟨_, _, rfl, h p List.mem_cons_self, RDs.of_pairs fun q hq => h q (List.mem_cons_of_mem _ hq)⟩
theorem sort_use {new : Bool} {xs : List D} {vs : List V} {p : Addr} (r : RS T m H S) (h1 : SqL T.K H p vs) (h2 : RDs T m H xs vs) (ok : okSort xs = true) (h : PostK T (mkL new (xs.mergeSort leD) S) m H σ W (KQ T Q)) : rSortG T.K [.ref p] H Q := by
  unfold okSort at ok
  simp only [Bool.and_eq_true, List.all_eq_true, Bool.or_eq_true] at ok
  obtain ⟨⟨o1, o2⟩, o3⟩ := ok
  obtain ⟨e1, e2⟩ := zip_fst h2.length
  have hp : ∀ q ∈ (xs.zip vs).map (fun q => (q.1.pd, q.2)), ∃ d ∈ xs, q.1 = d.pd ∧ RD T m H d q.2 := fun q hq => by
    obtain ⟨a, ha, rfl⟩ := List.mem_map.mp hq
    exact ⟨a.1, (List.of_mem_zip ha).1, rfl, h2.mem a ha⟩
  have f1 : ((xs.zip vs).map (fun q => (q.1.pd, q.2))).map (·.1) = xs.map D.pd := by
    rw [List.map_map]
    conv => rhs; rw [← e1, List.map_map]
    rfl
  have f2 : ((xs.zip vs).map (fun q => (q.1.pd, q.2))).map (·.2) = vs := by
    rw [List.map_map]
    conv => rhs; rw [← e2]
    rfl
  refine ⟨p, (xs.zip vs).map fun q => (q.1.pd, q.2), rfl, by rw [f2]; exact h1, fun q hq => ?_, ?_, ?_, fun q hq => ?_, fun l hl => ?_⟩
  · obtain ⟨d, hd, e, hr⟩ := hp q hq
    rw [e]
    exact RD.dp _ _ hr (plains_mem o1 d hd)
  · rw [f1]
    intro a ha b hb
    obtain ⟨d, hd, rfl⟩ := List.mem_map.mp ha
    obtain ⟨d', hd', rfl⟩ := List.mem_map.mp hb
    exact (o2 d hd).2 d' hd'
  · rw [f1]
    rcases o3 with o3 | o3
    · refine .inl fun a ha => ?_
      obtain ⟨d, hd, rfl⟩ := List.mem_map.mp ha
      have t := o3 d hd
      match d, t with
      | .tup (a :: r), _ => exact ⟨_, _, rfl⟩
    · refine .inr fun a ha => ?_
      obtain ⟨d, hd, rfl⟩ := List.mem_map.mp ha
      have t := o3 d hd
      have pl := plains_mem o1 d hd
      cases d <;> first | (cases t; done) | (cases pl; done) | exact ⟨fun z => (by rw [D.pd] at z; cases z), fun xs z => (by rw [D.pd] at z; cases z)⟩
  · obtain ⟨d, hd, e, hr⟩ := hp q hq
    rw [e]
    exact SeqAt.depth_of_shaped (o2 d hd).1
  · have g : ((xs.zip vs).map (fun q => (q.1.pd, q.2))).mergeSort (PySem.W.dataLe false (·.1)) = ((xs.zip vs).mergeSort fun a b => leD a.1 b.1).map fun q => (q.1.pd, q.2) := by
      rw [← List.map_mergeSort]
      intro a _ b _
      rfl
    have g2 : xs.mergeSort leD = ((xs.zip vs).mergeSort fun a b => leD a.1 b.1).map (·.1) := by
      conv => lhs; rw [← e1]
      rw [← List.map_mergeSort]
      intro a _ b _
      rfl
    rw [g, List.map_map]
    refine (mkL_use r h ?_).2 l hl
    rw [g2]
    exact RDs.of_pairs fun q hq => h2.mem q ((List.mergeSort_perm _ _).mem_iff.mp hq)
/-- a pair of a dict's list -/
theorem pairT_use {d : D} {q : List Key × D} {v : V} (e : pairT d = some q) (h : RD T m H d v) : ∃ p b u, v = .ref p ∧ SqT T.K H p [.ref b, u] ∧ SqT T.K H b (q.1.map kV) ∧ RD T m H q.2 u := by
  unfold pairT at e
  split at e
  · rename_i k x
    obtain ⟨ks, e1, rfl⟩ := Option.map_eq_some_iff.mp e
    obtain ⟨p, vs, h1, h2, u, r, h3, h4, w, r2, h5, h6, h7⟩ := h
    cases (show r2 = [] from h7)
    subst h3
    subst h5
    obtain ⟨b, e2, e3⟩ := tkD_use e1 h4
    subst e2
    exact ⟨p, b, w, h1, h2, e3, h6⟩
  · cases e
theorem pairsT_use : ∀ {ds : List D} {vs : List V} {l : List (List Key × D)}, pairsT ds = some l → RDs T m H ds vs →
    ∃ (ps as : List Addr) (us : List V), vs = ps.map V.ref ∧ as.length = l.length ∧ us.length = l.length ∧ Paired (fun p kv => SqT T.K H p [.ref kv.2.1, kv.2.2] ∧ SqT T.K H kv.2.1 (kv.1.map kV)) ps (tvs (l.map (·.1)) as us) ∧ RDs T m H (l.map (·.2)) us
  | [], vs, l, e, h => by
    cases e
    exact ⟨[], [], [], h, rfl, rfl, .nil, rfl⟩
  | d :: ds, vs, l, e, h => by
    obtain ⟨v, r, h1, h2, h3⟩ := h
    unfold pairsT at e
    cases e1 : pairT d with
    | none =>
      rw [e1] at e
      cases e
    | some q =>
      cases e2 : pairsT ds with
      | none =>
        rw [e1, e2] at e
        cases e
      | some l2 =>
        rw [e1, e2] at e
        cases e
        obtain ⟨p, b, u, k1, k2, k3, k4⟩ := pairT_use e1 h2
        obtain ⟨ps, as, us, j1, j2, j3, j4, j5⟩ := pairsT_use e2 h3
        refine ⟨p :: ps, b :: as, u :: us, by rw [h1, k1, j1]; rfl, by simp [j2], by simp [j3], ?_, ⟨u, us, rfl, k4, j5⟩⟩
        show Paired _ (p :: ps) ((q.1, b, u) :: tvs (l2.map (·.1)) as us)
        exact .cons ⟨k2, k3⟩ j4
/-- a dict's keys and values, told three ways -/
structure TT3 (T : Ad) (m : Mp) (H : Hp) (l : List (List Key × D)) (t : TVs) : Prop where
  k : t.map (·.1) = l.map (·.1)
  v : RDs T m H (l.map (·.2)) (t.map (·.2.2))
  s : ∀ q ∈ t, SqT T.K H q.2.1 (q.1.map kV)
theorem RDs.setAt {k : List Key} {d : D} {v : V} (hv : RD T m H d v) : ∀ {l : List (List Key × D)} {t : TVs}, t.map (·.1) = l.map (·.1) → RDs T m H (l.map (·.2)) (t.map (·.2.2)) →
    RDs T m H ((l.map fun q => if q.1 = k then (q.1, d) else q).map (·.2)) ((t.map fun q => if q.1 = k then (q.1, q.2.1, v) else q).map (·.2.2))
  | [], [], _, _ => rfl
  | [], _ :: _, h, _ => by simp at h
  | _ :: _, [], h, _ => by simp at h
  | a :: l, b :: t, h, r => by
    rw [List.map_cons, List.map_cons] at h
    injection h with h1 h2
    obtain ⟨w, r2, e1, e2, e3⟩ := r
    rw [List.map_cons] at e1
    injection e1 with e4 e5
    subst e5
    have ih := RDs.setAt (k := k) hv h2 e3
    simp only [List.map_cons]
    by_cases c : a.1 = k
    · rw [if_pos c, if_pos (h1.trans c)]
      exact ⟨v, _, rfl, hv, ih⟩
    · rw [if_neg c, if_neg (fun z => c (h1.symm.trans z))]
      exact ⟨w, _, by rw [e4], e2, ih⟩
theorem any_keys {k : List Key} : ∀ {l : List (List Key × D)} {t : TVs}, t.map (·.1) = l.map (·.1) → (t.any fun q => decide (q.1 = k)) = l.any fun q => decide (q.1 = k)
  | [], [], _ => rfl
  | [], _ :: _, h => by simp at h
  | _ :: _, [], h => by simp at h
  | a :: l, b :: t, h => by
    rw [List.map_cons, List.map_cons] at h
    injection h with h1 h2
    rw [List.any_cons, List.any_cons, any_keys h2, h1]
theorem TT3.set {l : List (List Key × D)} {t : TVs} {k : List Key} {d : D} {v : V} {b : Addr} (h : TT3 T m H l t) (hv : RD T m H d v) (hb : SqT T.K H b (k.map kV)) : TT3 T m H (setT l k d) (setTV t k b v) := by
  unfold setT setTV
  rw [any_keys h.k]
  split
  · refine ⟨?_, RDs.setAt hv h.k h.v, fun q hq => ?_⟩
    · have e1 : ∀ t : TVs, (t.map fun q => if q.1 = k then (q.1, q.2.1, v) else q).map (·.1) = t.map (·.1) := fun t => by
        rw [List.map_map]
        exact List.map_congr_left fun q _ => by by_cases c : q.1 = k <;> simp [c]
      have e2 : (l.map fun q => if q.1 = k then (q.1, d) else q).map (·.1) = l.map (·.1) := by
        rw [List.map_map]
        exact List.map_congr_left fun q _ => by by_cases c : q.1 = k <;> simp [c]
      rw [e1, e2, h.k]
    · obtain ⟨q0, h0, rfl⟩ := List.mem_map.mp hq
      have := h.s q0 h0
      by_cases c : q0.1 = k <;> simp only [c, if_true, if_false] at this ⊢ <;> exact this
  · refine ⟨by rw [List.map_append, List.map_append, h.k]; rfl, ?_, fun q hq => ?_⟩
    · rw [List.map_append, List.map_append]
      exact h.v.append (RDs.one hv)
    · rcases List.mem_append.mp hq with hq | hq
      · exact h.s q hq
      · cases (show q = (k, b, v) by simpa using hq)
        exact hb
theorem TT3.fold : ∀ {r : List (List Key × D)} {as : List Addr} {us : List V} {ps : List Addr} {l : List (List Key × D)} {t : TVs}, as.length = r.length → us.length = r.length → Paired (fun p kv => SqT T.K H p [.ref kv.2.1, kv.2.2] ∧ SqT T.K H kv.2.1 (kv.1.map kV)) ps (tvs (r.map (·.1)) as us) → RDs T m H (r.map (·.2)) us →
    TT3 T m H l t → TT3 T m H (foldT l r) (foldV t (tvs (r.map (·.1)) as us))
  | [], as, us, ps, l, t, _, _, _, _, h => h
  | q :: r, [], us, ps, l, t, h, _, _, _, _ => by simp at h
  | q :: r, a :: as, [], ps, l, t, _, h, _, _, _ => by simp at h
  | q :: r, a :: as, u :: us, ps, l, t, h1, h2, pr, hv, h => by
    obtain ⟨w, r2, e1, e2, e3⟩ := hv
    cases e1
    have pr : Paired (fun p kv => SqT T.K H p [.ref kv.2.1, kv.2.2] ∧ SqT T.K H kv.2.1 (kv.1.map kV)) ps ((q.1, a, u) :: tvs (r.map (·.1)) as us) := pr
    cases pr with
    | cons p1 p2 => exact TT3.fold (r := r) (as := as) (us := us) (by simpa using h1) (by simpa using h2) p2 e3 (h.set e2 p1.2)
theorem tvs_of {T : Ad} {m : Mp} {H : Hp} {l : List (List Key × D)} {t : TVs} (h : TT3 T m H l t) : tvs (l.map (·.1)) (t.map (·.2.1)) (t.map (·.2.2)) = t := by
  rw [← h.k]
  unfold tvs
  clear h
  induction t with
  | nil => rfl
  | cons a t ih =>
    simp only [List.map_cons, List.zip_cons_cons]
    rw [ih]
theorem dict_use {xs : List D} {vs : List V} {p : Addr} {l : List (List Key × D)} (r : RS T m H S) (h1 : SqL T.K H p vs) (h2 : RDs T m H xs vs) (e : pairsT xs = some l) (h : PostK T (.ok (mkTdc (foldT [] l)) S) m H σ W (KQ T Q)) : rDictS T.P T.w T.K [.ref p] H Q := by
  obtain ⟨ps, as, us, j1, j2, j3, j4, j5⟩ := pairsT_use e h2
  subst j1
  refine ⟨p, ps, _, rfl, h1, j4, fun q hq => ?_⟩
  have t3 : TT3 T m H (foldT [] l) (foldV [] (tvs (l.map (·.1)) as us)) := TT3.fold j2 j3 j4 j5 ⟨rfl, rfl, fun q hq => by simp at hq⟩
  have en := Ext.new (o := DictS T.P T.w q (foldV [] (tvs (l.map (·.1)) as us))) r hq
  refine h _ _ en (r.new hq) _ ⟨q, (foldV [] (tvs (l.map (·.1)) as us)).map (·.2.1), (foldV [] (tvs (l.map (·.1)) as us)).map (·.2.2), rfl, ?_, ?_, ?_, fun z hz => ?_, RDs.ext en _ _ t3.v⟩
  · rw [tvs_of t3]
    exact upd_same
  · rw [List.length_map, ← List.length_map (f := (·.1)), t3.k]
  · rw [List.length_map, ← List.length_map (f := (·.1)), t3.k]
  · rw [tvs_of t3] at hz
    exact en.toExt0.sqt (t3.s z hz)
theorem bf_use {new : Bool} {f : Bfn} (r : RS T m H S) (hx : RD T m H dx x) (h : PostK T (bfV new f dx S) m H σ W (KQ T Q)) : rBf T.P T.w T.K f [x] H Q := by
  cases f with
  | len =>
    have lists : PostK T (match lstOf S dx with | some xs => .ok (.int xs.length) S | none => .stuck) m H σ W (KQ T Q) → rBf T.P T.w T.K .len [x] H Q := fun h => by
      obtain ⟨xs, e, h⟩ := some_L h
      obtain ⟨p, vs, rfl, h2, h3⟩ := lst_of r e hx
      exact .inl (.inl ⟨p, vs, rfl, .inl (SqL.of h2), by rw [h3.length]; exact ok_use r h rfl⟩)
    cases dx with
    | tup xs =>
      obtain ⟨p, vs, rfl, h2, h3⟩ := tup_of hx
      exact .inl (.inl ⟨p, vs, rfl, .inr h2, by rw [h3.length]; exact ok_use r h rfl⟩)
    | str z =>
      obtain rfl := rd_str hx
      obtain ⟨hz, h⟩ := ite_use (show PostK T (if isz z.length then .ok (.int z.length) S else .stuck) m H σ W (KQ T Q) from h)
      exact .inr ⟨z, rfl, isz_of hz, ok_use r h rfl⟩
    | scr ns =>
      obtain ⟨p, rfl, h2⟩ := scr_of hx
      exact .inl (.inl ⟨p, _, rfl, .inl h2, by rw [List.length_map]; exact ok_use r h rfl⟩)
    | tdc ks ds =>
      obtain ⟨hz, h⟩ := ite_use (show PostK T (if isz (ks.zip ds).length then .ok (.int (ks.zip ds).length) S else .stuck) m H σ W (KQ T Q) from h)
      obtain ⟨p, as, vs, h1, h2, h3, h4, h5, h6⟩ := hx
      have hl : (tvs ks as vs).length = (ks.zip ds).length := by
        unfold tvs
        rw [List.length_map, List.length_zip, List.length_zip, List.length_zip, h3, h4, ← h6.length, h4]
        simp
      have hz := isz_of hz
      rw [← hl] at hz
      rw [sizeLine_eq] at hz
      exact .inl (.inr ⟨p, _, by rw [h1], h2, h5, by omega, by rw [hl]; exact ok_use r h rfl⟩)
    | _ => exact lists h
  | int =>
    cases dx with
    | int i =>
      obtain rfl := rd_int hx
      exact .inl (.inl ⟨i, rfl, ok_use r h rfl⟩)
    | bl b =>
      obtain rfl := rd_bl hx
      exact .inl (.inr ⟨b, rfl, ok_use r h rfl⟩)
    | str a =>
      obtain rfl := rd_str hx
      obtain ⟨n, e, h⟩ := some_I (show PostK T (match PySem.intText? a with | some n => if decide (a.length ≤ 640) then .ok (.int n) S else .stuck | none => .stuck) m H σ W (KQ T Q) from h)
      obtain ⟨hz, h⟩ := ite_use h
      exact .inr ⟨a, n, rfl, e, of_decide_eq_true hz, ok_use r h rfl⟩
    | _ => exact absurd h (by simp [bfV, PostK])
  | abs =>
    cases dx with
    | int i =>
      obtain rfl := rd_int hx
      exact ⟨i, rfl, ok_use r h rfl⟩
    | _ => exact absurd h (by simp [bfV, PostK])
  | sum =>
    obtain ⟨xs, e, h⟩ := some_L (show PostK T (match lstOf S dx with | some xs => (match intsOf xs with | some ns => .ok (.int ns.sum) S | none => .stuck) | none => .stuck) m H σ W (KQ T Q) from h)
    obtain ⟨ns, e2, h⟩ := some_LI h
    obtain ⟨p, vs, rfl, h2, h3⟩ := lst_of r e hx
    rw [intsOf_use e2 h3] at h2
    exact ⟨p, ns, rfl, SqL.of h2, ok_use r h rfl⟩
  | max =>
    obtain ⟨xs, e, h⟩ := some_L (show PostK T (match lstOf S dx with | some xs => (match intsOf xs with | some ns => (match ns.max? with | some m => .ok (.int m) S | none => .stuck) | none => .stuck) | none => .stuck) m H σ W (KQ T Q) from h)
    obtain ⟨ns, e2, h⟩ := some_LI h
    obtain ⟨p, vs, rfl, h2, h3⟩ := lst_of r e hx
    rw [intsOf_use e2 h3] at h2
    cases em : ns.max? with
    | none =>
      rw [em] at h
      exact h.elim
    | some mx =>
      rw [em] at h
      obtain ⟨m1, m2⟩ := List.max?_eq_some_iff.mp em
      refine ⟨p, ns, rfl, SqL.of h2, List.length_pos_of_mem m1, fun y hy hle => ?_⟩
      have : y = mx := Int.le_antisymm (m2 y hy) (hle mx m1)
      rw [this]
      exact ok_use r h rfl
  | all =>
    obtain ⟨xs, e, h⟩ := some_L (show PostK T (match lstOf S dx with | some xs => (match blsOf xs with | some ns => .ok (.bl (ns.all id)) S | none => .stuck) | none => .stuck) m H σ W (KQ T Q) from h)
    obtain ⟨ns, e2, h⟩ := some_LB h
    obtain ⟨p, vs, rfl, h2, h3⟩ := lst_of r e hx
    rw [blsOf_use e2 h3] at h2
    exact ⟨p, ns, rfl, SqL.of h2, ok_use r h rfl⟩
  | any =>
    obtain ⟨xs, e, h⟩ := some_L (show PostK T (match lstOf S dx with | some xs => (match blsOf xs with | some ns => .ok (.bl (ns.any id)) S | none => .stuck) | none => .stuck) m H σ W (KQ T Q) from h)
    obtain ⟨ns, e2, h⟩ := some_LB h
    obtain ⟨p, vs, rfl, h2, h3⟩ := lst_of r e hx
    rw [blsOf_use e2 h3] at h2
    exact ⟨p, ns, rfl, SqL.of h2, ok_use r h rfl⟩
  | list =>
    have lists : PostK T (match lstOf S dx with | some xs => mkL new xs S | none => .stuck) m H σ W (KQ T Q) → rBf T.P T.w T.K .list [x] H Q := fun h => by
      obtain ⟨xs, e, h⟩ := some_L h
      obtain ⟨p, vs, rfl, h2, h3⟩ := lst_of r e hx
      exact ⟨p, vs, rfl, .inl (SqL.of h2), (mkL_use r h h3).2⟩
    cases dx with
    | tup xs =>
      obtain ⟨p, vs, rfl, h2, h3⟩ := tup_of hx
      exact ⟨p, vs, rfl, .inr h2, (mkL_use r (show PostK T (mkL new xs S) m H σ W (KQ T Q) from h) h3).2⟩
    | _ => exact lists h
  | tuple =>
    have lists : PostK T (match lstOf S dx with | some xs => mkT xs S | none => .stuck) m H σ W (KQ T Q) → rBf T.P T.w T.K .tuple [x] H Q := fun h => by
      obtain ⟨xs, e, h⟩ := some_L h
      obtain ⟨p, vs, rfl, h2, h3⟩ := lst_of r e hx
      exact ⟨p, vs, rfl, .inl ⟨SqL.of h2, (mkT_use r h h3).2⟩⟩
    cases dx with
    | tup xs =>
      obtain ⟨p, vs, rfl, h2, h3⟩ := tup_of hx
      exact ⟨p, vs, rfl, .inr ⟨h2, ok_use r (show PostK T (.ok (.tup xs) S) m H σ W (KQ T Q) from h) ⟨p, vs, rfl, h2, h3⟩⟩⟩
    | _ => exact lists h
  | dict =>
    obtain ⟨xs, e, h⟩ := some_L (show PostK T (match lstOf S dx with | some xs => (match pairsT xs with | some l => .ok (mkTdc (foldT [] l)) S | none => .stuck) | none => .stuck) m H σ W (KQ T Q) from h)
    cases ep : pairsT xs with
    | none =>
      rw [ep] at h
      exact h.elim
    | some l =>
      rw [ep] at h
      obtain ⟨p, vs, rfl, h2, h3⟩ := lst_of r e hx
      exact dict_use r (SqL.of h2) h3 ep h
  | sorted =>
    obtain ⟨xs, e, h⟩ := some_L (show PostK T (match lstOf S dx with | some xs => (if okSort xs then mkL new (xs.mergeSort leD) S else .stuck) | none => .stuck) m H σ W (KQ T Q) from h)
    obtain ⟨c, h⟩ := ite_use h
    obtain ⟨p, vs, rfl, h2, h3⟩ := lst_of r e hx
    exact sort_use r (SqL.of h2) h3 c h
  | repr =>
    have go : ∀ {e : D} {p : Addr}, x = .ref p → RD T m H e x → PostK T (if okRepr e then .ok (.str e.pd.shown) S else .stuck) m H σ W (KQ T Q) → rBf T.P T.w T.K .repr [x] H Q := fun {e p} ex he h => by
      obtain ⟨c, h⟩ := ite_use h
      obtain ⟨c1, c2, c3, c4, c5⟩ := okRepr_use c
      subst ex
      exact .inl ⟨p, _, rfl, RD.dp _ _ he c1, c2, c3, c4, c5, ok_use r h rfl⟩
    cases dx with
    | tup xs =>
      obtain ⟨p, vs, e, _⟩ := id hx
      exact go e hx h
    | lst xs =>
      obtain ⟨p, vs, e, _⟩ := id hx
      exact go e hx h
    | ref l =>
      unfold bfV at h
      simp only [view] at h
      cases e : S[l]? with
      | none =>
        rw [e] at h
        exact h.elim
      | some ob =>
        rw [e] at h
        cases ob with
        | dct _ => exact h.elim
        | lst xs =>
          have h : PostK T (if okRepr (.lst xs) then .ok (.str (D.pd (.lst xs)).shown) S else .stuck) m H σ W (KQ T Q) := h
          obtain ⟨c, h⟩ := ite_use h
          obtain ⟨c1, c2, c3, c4, c5⟩ := okRepr_use c
          obtain ⟨p, q1, q2⟩ := id hx
          subst q2
          have hv := view_dp (T := T) r hx (show (view S (.ref l)).plain = true by simp only [view, e]; exact c1)
          simp only [view, e] at hv
          exact .inl ⟨p, _, rfl, hv, c2, c3, c4, c5, ok_use r h rfl⟩
    | non =>
      cases (show x = V.non from hx)
      exact .inr ⟨rfl, ok_use r (show PostK T (.ok (.str "None") S) m H σ W (KQ T Q) from h) rfl⟩
    | _ => exact absurd h (by simp [bfV, view, PostK])

/-! ### isinstance -/
def tyNm : Ty → Str
  | .bool => "bool"
  | .int => "int"
  | .str => "str"
  | .list => "list"
  | .tuple => "tuple"
  | .dict => "dict"
def tyId : Ty → String
  | .bool => "bool"
  | .int => "int"
  | .str => "str"
  | .list => "list"
  | .tuple => "tuple"
  | .dict => "dict"
theorem ty_boot (t : Ty) : bootBuiltins (tyNm t) = some (.type (tyId t)) := by
  cases t <;> decide +kernel
theorem lst_tyx {p : Addr} {vs : List V} (h : SqL T.K H p vs) : TyX T.K H (.ref p) (.type "list") := by
  rcases h with (h | ⟨o, h⟩) | h
  · exact .base (.lst h)
  · exact .base (.frz h)
  · obtain ⟨o, its, n, h1, h2, _⟩ := h
    exact .kList h1 h2
theorem tup_tyx {p : Addr} {vs : List V} (h : SqT T.K H p vs) : TyX T.K H (.ref p) (.type "tuple") := by
  rcases h with (h | ⟨o, h⟩) | h
  · exact .base (.tup h)
  · exact .fTuple h
  · obtain ⟨o, its, n, h1, h2, _⟩ := h
    exact .kTuple h1 h2
theorem isi_use {t : Ty} (r : RS T m H S) (hx : RD T m H dx x) (h : PostK T (ofB (isiD S t dx) S) m H σ W (KQ T Q)) : rIsi T.K [x, .ty (tyId t)] H Q := by
  obtain ⟨b, e, k⟩ := ofB_use r h
  have go : ∀ {u : Value}, TyX T.K H x u → PySem.W.kitOne T.K u (.type (tyId t)) = some b → rIsi T.K [x, .ty (tyId t)] H Q := fun tx kk => ⟨x, _, _, _, b, rfl, .ty _, tx, kk, k⟩
  cases dx with
  | non =>
    obtain rfl := rd_non hx
    refine go (.base .non) ?_
    cases t <;> cases e <;> rfl
  | bl y =>
    obtain rfl := rd_bl hx
    refine go (.base (.bl y)) ?_
    cases t <;> cases e <;> rfl
  | int y =>
    obtain rfl := rd_int hx
    refine go (.base (.int y)) ?_
    cases t <;> cases e <;> rfl
  | str y =>
    obtain rfl := rd_str hx
    refine go (.base (.str y)) ?_
    cases t <;> cases e <;> rfl
  | tup xs =>
    obtain ⟨p, vs, rfl, h2, h3⟩ := tup_of hx
    refine go (tup_tyx h2) ?_
    cases t <;> cases e <;> rfl
  | lst xs =>
    obtain ⟨p, vs, rfl, h2, h3⟩ := lst_of r rfl hx
    refine go (lst_tyx (SqL.of h2)) ?_
    cases t <;> cases e <;> rfl
  | scr ns =>
    obtain ⟨p, rfl, h2⟩ := scr_of hx
    refine go (lst_tyx h2) ?_
    cases t <;> cases e <;> rfl
  | fn _ => cases e
  | tdc _ _ => cases e
  | ref l =>
    unfold isiD at e
    simp only at e
    cases e2 : S[l]? with
    | none =>
      rw [e2] at e
      cases e
    | some ob =>
      cases ob with
      | lst xs =>
        rw [e2] at e
        obtain ⟨p, vs, rfl, h2, h3⟩ := lst_of (xs := xs) r (by simp only [lstOf, e2]) hx
        refine go (lst_tyx (SqL.of h2)) ?_
        cases t <;> cases e <;> rfl
      | dct kvs =>
        obtain ⟨p, q1, q2⟩ := hx
        obtain ⟨o, q4, ws, q3, _⟩ := r.at_ l _ p e2 q1
        subst q3
        subst q2
        rw [e2] at e
        refine go (.base (.dK q4)) ?_
        cases t <;> cases e <;> rfl
end
end Ev


namespace Ev
open PySem PySem.Spec L2 PyProof.Rows
section
variable {T : Ad} {m : Mp} {H : Hp} {σ : L2.St} {W : WX} {S : Store} {Q : VK} {dx dy : D} {x y : V}

/-! ### methods -/
def mtNm : Mt → Str
  | .append => "append"
  | .extend => "extend"
  | .clear => "clear"
  | .join => "join"
  | .split => "split"
  | .sindex => "index"
  | .lindex => "index"
def mtId : Mt → String
  | .append => "list.append"
  | .extend => "list.extend"
  | .clear => "list.clear"
  | .join => "str.join"
  | .split => "str.split"
  | .sindex => "str.index"
  | .lindex => "list.index"
def mtTy : Mt → String
  | .append => "list"
  | .extend => "list"
  | .clear => "list"
  | .join => "str"
  | .split => "str"
  | .sindex => "str"
  | .lindex => "list"
abbrev RM := V → List V → Hp → VK → Prop
def rM (K : PySem.W.Frag) : Mt → RM
  | .append => rAppend
  | .extend => rExtend
  | .clear => rClear
  | .join => fun x xs H Q => ∃ a p, ∃ ys : List Str, x = .str a ∧ xs = [.ref p] ∧ (SqL K H p (ys.map V.str) ∨ SqT K H p (ys.map V.str)) ∧ (ys.map (·.length)).sum + ys.length * a.length ≤ 16777216 ∧ Q (.str (Txt.join a ys)) H
  | .split => fun x xs H Q => ∃ a b, x = .str a ∧ xs = [.str b] ∧ (b.length == 0) = false ∧ a.length + 2 ≤ sizeLine ∧ rNewStrs (Txt.split a b) H Q
  | .sindex => fun x xs H Q => ∃ a b i rest, x = .str a ∧ xs = [.str b] ∧ Builtin.Str.occurrences a b 0 a.length 1 = i :: rest ∧ Q (.int (i : Nat)) H
  | .lindex => fun _ _ _ _ => False
structure MtF (X : Cx) (m : Mt) : Prop where
  pa : PlainAttrs (mtTy m)
  slot : Slot (mtTy m) (mtNm m) (mtId m)
  hty : typeOf (.builtin (mtId m)) = pure (.type "method_descriptor")
  hm : MtR X (mtId m) (rM X.K m)
theorem mtF {X : Cx} : ∀ m : Mt, MtF X m
  | .append => ⟨PySem.F.plainAttrs_list, PySem.F.slot_list_append, PySem.F.type_list_append, mt_append⟩
  | .extend => ⟨PySem.F.plainAttrs_list, PySem.F.slot_list_extend, PySem.F.type_list_extend, mt_extend⟩
  | .clear => ⟨PySem.F.plainAttrs_list, PySem.F.slot_list_clear, PySem.F.type_list_clear, mt_clear⟩
  | .join => ⟨PySem.F.plainAttrs_str, PySem.F.slot_str_join, PySem.F.type_str_join, mt_join⟩
  | .split => ⟨PySem.F.plainAttrs_str, PySem.F.slot_str_split, PySem.F.type_str_split, mt_split⟩
  | .sindex => ⟨PySem.F.plainAttrs_str, PySem.F.slot_str_index, PySem.F.type_str_index, mt_sindex⟩
  | .lindex => ⟨PySem.F.plainAttrs_list, PySem.F.slot_list_index, PySem.F.type_list_index, fun _ _ _ _ _ _ _ _ _ _ _ _ h => h.elim⟩
theorem isStr_of {o : D} (h : mtOk.isStr o = true) : ∃ a, o = .str a := by
  cases o <;> simp [mtOk.isStr] at h
  exact ⟨_, rfl⟩
theorem isCell_of {o : D} (h : mtOk.isCell o S = true) : ∃ l xs, o = .ref l ∧ S[l]? = some (.lst xs) := by
  cases o <;> simp [mtOk.isCell] at h
  rename_i l
  cases e : S[l]? with
  | none =>
    rw [e] at h
    cases h
  | some ob =>
    rw [e] at h
    cases ob with
    | lst xs => exact ⟨l, xs, rfl, e⟩
    | dct _ => cases h
theorem mtOk_use {mt : Mt} (r : RS T m H S) (h : mtOk mt dx S = true) (hx : RD T m H dx x) : tyV T.K (mtTy mt) x H := by
  have st : mtOk.isStr dx = true → tyV T.K "str" x H := fun h => by
    obtain ⟨a, rfl⟩ := isStr_of h
    obtain rfl := rd_str hx
    rfl
  have ce : mtOk.isCell dx S = true → tyV T.K "list" x H := fun h => by
    obtain ⟨l, xs, rfl, e⟩ := isCell_of h
    obtain ⟨p, vs, rfl, h2, h3⟩ := lst_of r (show lstOf S (.ref l) = some xs by simp only [lstOf, e]) hx
    exact .inl ⟨rfl, vs, SqL.of h2⟩
  cases mt with
  | append => exact ce h
  | extend => exact ce h
  | clear => exact ce h
  | join => exact st h
  | split => exact st h
  | sindex => exact st h
  | lindex => cases h
theorem cell_set {l : Nat} {ys : List D} {p : Addr} {vs ws : List V} (r : RS T m H S) (hp : m.c[l]? = some p) (hw : H p = some (.lst vs)) (hy : RDs T m H ys ws) (h : PostK T (.ok .non (S.set l (.lst ys))) m H σ W (KQ T Q)) : Q .non (upd H p (.lst ws)) :=
  h m _ (Ext.upd r hp hw Mu.lst) (r.upd hp hw hy) .non rfl
theorem cell_of {l : Nat} {f : List D → R D} {k : D → Store → Mp → Hp → Prop} (h : PostK T (match S[l]? with | some (.lst xs) => f xs | _ => .stuck) m H σ W k) : ∃ xs, S[l]? = some (.lst xs) ∧ PostK T (f xs) m H σ W k := by
  cases e : S[l]? with
  | none =>
    rw [e] at h
    exact h.elim
  | some ob =>
    rw [e] at h
    cases ob with
    | lst xs => exact ⟨xs, rfl, h⟩
    | dct _ => exact h.elim
theorem RDs.strs : ∀ (ys : List Str), RDs T m H (ys.map D.str) (ys.map V.str)
  | [] => rfl
  | n :: ns => ⟨_, _, rfl, rfl, RDs.strs ns⟩
theorem some_LS {o : Option (List Str)} {f : List Str → R D} {k : D → Store → Mp → Hp → Prop} (h : PostK T (match o with | some a => f a | none => .stuck) m H σ W k) : ∃ a, o = some a ∧ PostK T (f a) m H σ W k := by
  cases o with
  | none => exact h.elim
  | some a => exact ⟨a, rfl, h⟩
theorem mth1_use {mt : Mt} (r : RS T m H S) (hx : RD T m H dx x) (hy : RD T m H dy y) (h : PostK T (mthV mt dx [dy] S) m H σ W (KQ T Q)) : rM T.K mt x [y] H Q := by
  cases mt with
  | append =>
    cases dx with
    | ref l =>
      obtain ⟨xs, e, h⟩ := cell_of (f := fun xs => if decide (xs.length < sizeLine) then .ok .non (S.set l (.lst (xs ++ [dy]))) else .stuck) h
      obtain ⟨c, h⟩ := ite_use h
      obtain ⟨p, vs, h1, h2, h3⟩ := r.lst e
      obtain ⟨p', q1, rfl⟩ := hx
      rw [h1] at q1
      cases q1
      exact ⟨p, vs, y, rfl, rfl, h2, by rw [h3.length]; exact of_decide_eq_true c, cell_set r h1 h2 (h3.append (RDs.one hy)) h⟩
    | _ => exact absurd h (by simp [mthV, PostK])
  | extend =>
    cases dx with
    | ref l =>
      unfold mthV at h
      simp only at h
      cases e : S[l]? with
      | none =>
        rw [e] at h
        exact h.elim
      | some ob =>
      cases ob with
      | dct _ =>
        rw [e] at h
        exact h.elim
      | lst xs =>
      rw [e] at h
      simp only at h
      cases dy with
      | lst ys =>
        obtain ⟨c, h⟩ := ite_use h
        obtain ⟨p, vs, h1, h2, h3⟩ := r.lst e
        obtain ⟨p', q1, rfl⟩ := hx
        rw [h1] at q1
        cases q1
        obtain ⟨b, ws, rfl, k2, k3⟩ := hy
        exact ⟨p, b, vs, ws, rfl, rfl, h2, k2.1, by rw [h3.length, k3.length]; exact isz_of c, cell_set r h1 h2 (h3.append k3) h⟩
      | _ => exact h.elim
    | _ => exact absurd h (by simp [mthV, PostK])
  | clear => exact absurd h (by simp [mthV, PostK])
  | join =>
    cases dx with
    | str a =>
      obtain rfl := rd_str hx
      have h : PostK T (match (match dy with | .tup xs => some xs | x => lstOf S x) with | some xs => (match strsOf xs with | some ys => if decide (joinLen a ys ≤ 16777216) then .ok (.str (Txt.join a ys)) S else .stuck | none => .stuck) | none => .stuck) m H σ W (KQ T Q) := h
      obtain ⟨xs, e, h⟩ := some_L h
      obtain ⟨ys, e2, h⟩ := some_LS h
      obtain ⟨c, h⟩ := ite_use h
      have go : ∃ p vs, y = .ref p ∧ (SqL T.K H p vs ∨ SqT T.K H p vs) ∧ RDs T m H xs vs := by
        cases dy with
        | tup zs =>
          cases e
          obtain ⟨p, vs, h1, h2, h3⟩ := tup_of hy
          exact ⟨p, vs, h1, .inr h2, h3⟩
        | _ =>
          obtain ⟨p, vs, h1, h2, h3⟩ := lst_of r e hy
          exact ⟨p, vs, h1, .inl (SqL.of h2), h3⟩
      obtain ⟨p, vs, h1, h2, h3⟩ := go
      have := strsOf_use e2 h3
      subst this
      exact ⟨a, p, ys, rfl, by rw [h1], h2, of_decide_eq_true c, ok_use r h rfl⟩
    | _ => exact absurd h (by simp [mthV, PostK])
  | split =>
    cases dx with
    | str a =>
      cases dy with
      | str b =>
        obtain rfl := rd_str hx
        obtain rfl := rd_str hy
        obtain ⟨c, h⟩ := ite_use (show PostK T (if !(b.length == 0) && isz (a.length + 2) then .ok (.lst ((Txt.split a b).map .str)) S else .stuck) m H σ W (KQ T Q) from h)
        rw [Bool.and_eq_true, Bool.not_eq_true'] at c
        refine ⟨a, b, rfl, rfl, c.1, isz_of c.2, fun p hp => ?_⟩
        exact h _ _ (Ext.new r hp) (r.new hp) _ ⟨p, _, rfl, ⟨upd_same, r.notin hp⟩, RDs.strs _⟩
      | _ => exact absurd h (by simp [mthV, PostK])
    | _ => exact absurd h (by simp [mthV, PostK])
  | sindex =>
    cases dx with
    | str a =>
      cases dy with
      | str b =>
        obtain rfl := rd_str hx
        obtain rfl := rd_str hy
        have h : PostK T (match Builtin.Str.occurrences a b 0 a.length 1 with | i :: _ => .ok (.int (i : Nat)) S | [] => .stuck) m H σ W (KQ T Q) := h
        cases e : Builtin.Str.occurrences a b 0 a.length 1 with
        | nil =>
          rw [e] at h
          exact h.elim
        | cons i rest =>
          rw [e] at h
          exact ⟨a, b, i, rest, rfl, rfl, e, ok_use r h rfl⟩
      | _ => exact absurd h (by simp [mthV, PostK])
    | _ => exact absurd h (by simp [mthV, PostK])
  | lindex => exact absurd h (by simp [mthV, PostK])
theorem mth0_use {mt : Mt} (r : RS T m H S) (hx : RD T m H dx x) (h : PostK T (mthV mt dx [] S) m H σ W (KQ T Q)) : rM T.K mt x [] H Q := by
  cases mt with
  | clear =>
    cases dx with
    | ref l =>
      obtain ⟨xs, e, h⟩ := cell_of (f := fun xs => .ok .non (S.set l (.lst []))) h
      obtain ⟨p, vs, h1, h2, h3⟩ := r.lst e
      obtain ⟨p', q1, rfl⟩ := hx
      rw [h1] at q1
      cases q1
      exact ⟨p, vs, rfl, rfl, h2, cell_set r h1 h2 (ys := []) (ws := []) rfl h⟩
    | _ => exact absurd h (by simp [mthV, PostK])
  | _ => exact absurd h (by simp [mthV, PostK])

/-! ### a cell's item set -/
theorem put_use0 {o i v : D} {xo xi xv : V} {S1 : Store} {Q : Hp → Prop} (r : RS T m H S) (ho : RD T m H o xo) (hi : RD T m H i xi) (hv : RD T m H v xv) (h : putV0 o i v S = some S1) (k : ∀ H', Ext m H m H' → RS T m H' S1 → Q H') : rSetL xo xi xv H Q := by
  cases o with
  | ref l =>
    cases i with
    | int j =>
      obtain rfl := rd_int hi
      obtain ⟨p, hp, rfl⟩ := ho
      have h : (match S[l]? with | some (.lst xs) => (match ixN xs.length j with | some j => some (S.set l (.lst (xs.set j v))) | none => none) | _ => none) = some S1 := h
      cases e : S[l]? with
      | none =>
        rw [e] at h
        cases h
      | some ob =>
        cases ob with
        | dct _ =>
          rw [e] at h
          cases h
        | lst xs =>
          rw [e] at h
          simp only at h
          obtain ⟨p', vs, h1, h2, h3⟩ := r.lst e
          rw [hp] at h1
          cases h1
          cases e2 : ixN xs.length j with
          | none =>
            rw [e2] at h
            cases h
          | some n =>
            rw [e2] at h
            cases h
            exact ⟨p, vs, j, n, rfl, rfl, h2, by rw [h3.length]; exact e2, k _ (Ext.upd r hp h2 Mu.lst) (r.upd hp h2 (h3.set n hv))⟩
    | _ => simp [putV0] at h
  | _ => cases i <;> simp [putV0] at h
def rSetA : V → V → V → Hp → (Hp → Prop) → Prop := fun o i v H Q => rSetL o i v H Q ∨ rSetD o i v H Q
theorem set_any {X : Cx} (hu : X.A.units + 1 < cLine) : PSet X rSetA := by
  intro pins s σ H o i v ov iv u Q I ro ri rv h
  rcases h with h | h
  · exact set_list pins s σ H o i v ov iv u Q I ro ri rv h
  · exact set_dict hu pins s σ H o i v ov iv u Q I ro ri rv h
theorem put_use {o i v : D} {xo xi xv : V} {S1 : Store} {Q : Hp → Prop} (r : RS T m H S) (ho : RD T m H o xo) (hi : RD T m H i xi) (hv : RD T m H v xv) (h : putV o i v S = some S1) (k : ∀ H', Ext m H m H' → RS T m H' S1 → Q H') : rSetA xo xi xv H Q := by
  unfold putV at h
  cases e : dctOf S o with
  | none =>
    rw [e] at h
    exact .inl (put_use0 r ho hi hv h k)
  | some kvs =>
    rw [e] at h
    obtain ⟨l, rfl, e2⟩ := dctOf_ref e
    obtain ⟨p, vs, h1, h2, h3⟩ := r.dct e2
    obtain ⟨p', h4, rfl⟩ := ho
    rw [h1] at h4
    cases h4
    cases ek : kD i with
    | none =>
      rw [ek] at h
      cases h
    | some kk =>
      rw [ek] at h
      have h : (if decide (kvs.length < sizeLine) then some (S.set l (.dct (dPut kvs i kk v))) else none) = some S1 := h
      split at h
      · rename_i c
        cases h
        refine .inr ⟨p, _, rfl, ?_, k _ (Ext.upd r h1 h2 Mu.dK) (r.updO h1 h2 Mu.dK ⟨_, rfl, h3.put ek hv⟩)⟩
        rw [rd_key ek hi]
        exact DPut.k h2 (by rw [h3.length]; exact of_decide_eq_true c)
      · cases h

/-! ### targets -/
end
mutual
def gT (K : PySem.W.Frag) : T → TG
  | .nm i => gName i
  | .tp ts => fun v σ H Q => gTup K (Ts.len ts) (gTs K ts) v σ H Q ∨ gLst K (Ts.len ts) (gTs K ts) v σ H Q
def gTs (K : PySem.W.Frag) : Ts → TGs
  | .nil => gNil
  | .cons t ts => gCons (gT K t) (gTs K ts)
def Ts.len : Ts → Nat
  | .nil => 0
  | .cons _ ts => Ts.len ts + 1
end
section
variable {T : Ad} {m : Mp} {H : Hp} {σ : L2.St} {W : WX} {S : Store} {Q : VK} {dx dy : D} {x y : V}
/-- two states that differ only at some places -/
def Same (vs : List Nat) (σ σ' : L2.St) : Prop := σ'.length = σ.length ∧ ∀ i, i ∉ vs → σ'[i]? = σ[i]?
theorem Same.refl {vs : List Nat} : Same vs σ σ := ⟨rfl, fun _ _ => rfl⟩
theorem Same.trans {vs : List Nat} {σ1 σ2 σ3 : L2.St} (a : Same vs σ1 σ2) (b : Same vs σ2 σ3) : Same vs σ1 σ3 := ⟨b.1.trans a.1, fun i h => (b.2 i h).trans (a.2 i h)⟩
theorem Same.mono {vs ws : List Nat} {σ1 σ2 : L2.St} (a : Same vs σ1 σ2) (h : ∀ i ∈ vs, i ∈ ws) : Same ws σ1 σ2 := ⟨a.1, fun i q => a.2 i fun z => q (h i z)⟩
theorem Same.set {i : Nat} {v : Option V} : Same [i] σ (σ.set i v) := ⟨by rw [List.length_set], fun j h => by rw [List.getElem?_set_ne (by simpa using fun e => h (by simp [e]))]⟩
theorem wipe_at (σ : L2.St) : ∀ (vs : List Nat) (i : Nat), (L2.wipe σ vs)[i]? = if i ∈ vs ∧ i < σ.length then some none else σ[i]?
  | [], i => by simp [L2.wipe]
  | v :: vs, i => by
    rw [L2.wipe]
    by_cases hv : v = i
    · subst hv
      by_cases hl : v < σ.length
      · rw [List.getElem?_set_self (by rw [wipe_length]; exact hl)]
        simp [hl]
      · rw [List.getElem?_eq_none (by rw [List.length_set, wipe_length]; omega)]
        simp [hl]
    · rw [List.getElem?_set_ne hv, wipe_at σ vs i]
      have : (i ∈ v :: vs) ↔ i ∈ vs := by simp [Ne.symm hv]
      simp only [this]
theorem Same.wipe {vs : List Nat} {σ1 σ2 : L2.St} (a : Same vs (L2.wipe σ1 vs) σ2) : L2.wipe σ2 vs = L2.wipe σ1 vs := by
  have hl : σ2.length = σ1.length := by rw [a.1, wipe_length]
  refine List.ext_getElem? fun i => ?_
  rw [wipe_at, wipe_at, hl]
  by_cases h : i ∈ vs
  · by_cases h2 : i < σ1.length
    · rw [if_pos ⟨h, h2⟩, if_pos ⟨h, h2⟩]
    · rw [if_neg fun q => h2 q.2, if_neg fun q => h2 q.2, List.getElem?_eq_none (by omega), List.getElem?_eq_none (by omega)]
  · rw [if_neg fun q => h q.1, if_neg fun q => h q.1, a.2 i h, wipe_at, if_neg fun q => h q.1]
theorem REnv.set {env : Env} {i : Nat} (h : REnv T m H env σ) (hv : RD T m H dx x) : REnv T m H (env.set i (some dx)) (σ.set i (some x)) := by
  refine ⟨by rw [List.length_set, List.length_set]; exact h.len, fun j e q => ?_⟩
  by_cases hj : i = j
  · subst hj
    have hl : i < env.length := by
      have := (List.getElem?_eq_some_iff.mp q).1
      rwa [List.length_set] at this
    rw [List.getElem?_set_self hl] at q
    cases q
    exact ⟨x, by rw [List.getElem?_set_self (by rw [← h.len]; exact hl)], hv⟩
  · rw [List.getElem?_set_ne hj] at q
    obtain ⟨v, h1, h2⟩ := h.at_ j e q
    exact ⟨v, by rw [List.getElem?_set_ne hj]; exact h1, h2⟩
theorem wipeD_len (env : Env) : ∀ vs : List Nat, (wipeD env vs).length = env.length
  | [] => rfl
  | v :: vs => by rw [wipeD, List.length_set, wipeD_len env vs]
theorem REnv.wipe {env : Env} (h : REnv T m H env σ) : ∀ vs : List Nat, REnv T m H (wipeD env vs) (L2.wipe σ vs)
  | [] => h
  | v :: vs => by
    have ih := REnv.wipe h vs
    rw [wipeD, L2.wipe]
    refine ⟨by rw [List.length_set, List.length_set]; exact ih.len, fun j e q => ?_⟩
    by_cases hj : v = j
    · subst hj
      have hl : v < (wipeD env vs).length := by
        have := (List.getElem?_eq_some_iff.mp q).1
        rwa [List.length_set] at this
      rw [List.getElem?_set_self hl] at q
      cases q
    · rw [List.getElem?_set_ne hj] at q
      obtain ⟨w, h1, h2⟩ := ih.at_ j e q
      exact ⟨w, by rw [List.getElem?_set_ne hj]; exact h1, h2⟩
mutual
theorem T.use : ∀ (t : Ev.T) (d : D) (v : V) (env env1 : Env) (σ : L2.St) (Q : L2.St → Hp → Prop), Ev.T.asg t d env = some env1 → RD T m H d v → REnv T m H env σ → (∀ σ', REnv T m H env1 σ' → Same t.slots σ σ' → Q σ' H) → gT T.K t v σ H Q
  | .nm i, d, v, env, env1, σ, Q, h, hv, he, k => by
    cases h
    exact k _ (he.set hv) Same.set
  | .tp ts, d, v, env, env1, σ, Q, h, hv, he, k => by
    cases d with
    | tup xs =>
      obtain ⟨p, vs, h1, h2, h3⟩ := hv
      have h : Ts.asg ts xs env = some env1 := h
      refine .inl ⟨p, vs, h1, h2, ?_, Ts.use ts xs vs env env1 σ Q h h3 he k⟩
      rw [h3.length]
      exact Ts.asg_len ts xs env env1 h
    | lst xs =>
      obtain ⟨p, vs, h1, h2, h3⟩ := hv
      have h : Ts.asg ts xs env = some env1 := h
      refine .inr ⟨p, vs, h1, SqL.of h2.1, ?_, Ts.use ts xs vs env env1 σ Q h h3 he k⟩
      rw [h3.length]
      exact Ts.asg_len ts xs env env1 h
    | _ => simp [Ev.T.asg] at h
theorem Ts.use : ∀ (ts : Ts) (ds : List D) (vs : List V) (env env1 : Env) (σ : L2.St) (Q : L2.St → Hp → Prop), Ts.asg ts ds env = some env1 → RDs T m H ds vs → REnv T m H env σ → (∀ σ', REnv T m H env1 σ' → Same ts.slots σ σ' → Q σ' H) → gTs T.K ts vs σ H Q
  | .nil, [], vs, env, env1, σ, Q, h, hv, he, k => by
    cases h
    exact ⟨hv, k _ he Same.refl⟩
  | .cons t ts, d :: ds, vs, env, env1, σ, Q, h, hv, he, k => by
    obtain ⟨v, r, h1, h2, h3⟩ := hv
    rw [Ts.asg] at h
    cases e : Ev.T.asg t d env with
    | none =>
      rw [e] at h
      cases h
    | some env2 =>
      rw [e] at h
      refine ⟨v, r, h1, T.use t d v env env2 σ _ e h2 he fun σ1 he1 s1 => ?_⟩
      exact Ts.use ts ds r env2 env1 σ1 Q h h3 he1 fun σ2 he2 s2 => k σ2 he2 ((s1.mono fun i hi => List.mem_append_left _ hi).trans (s2.mono fun i hi => List.mem_append_right _ hi))
  | .nil, _ :: _, vs, env, env1, σ, Q, h, hv, he, k => by simp [Ts.asg] at h
  | .cons t ts, [], vs, env, env1, σ, Q, h, hv, he, k => by simp [Ts.asg] at h
theorem Ts.asg_len : ∀ (ts : Ts) (ds : List D) (env env1 : Env), Ts.asg ts ds env = some env1 → ds.length = Ts.len ts
  | .nil, [], _, _, _ => by rw [Ts.len]; rfl
  | .cons t ts, d :: ds, env, env1, h => by
    rw [Ts.asg] at h
    cases e : Ev.T.asg t d env with
    | none =>
      rw [e] at h
      cases h
    | some env2 =>
      rw [e] at h
      rw [Ts.len, List.length_cons, Ts.asg_len ts ds env2 env1 h]
  | .nil, _ :: _, _, _, h => by simp [Ts.asg] at h
  | .cons t ts, [], _, _, h => by simp [Ts.asg] at h
end

/-! ### what is walked -/
end
/-- turns over some items -/
structure Wk (T : Ad) (its : Items) (m : Mp) (H : Hp) (J : It) : Prop where
  ex : ∃ (G : Hp → Prop) (Y : Nat → Hp → V → Hp → Prop), Walk J its.xs.length G Y ∧ (∀ m' H' S', Ext0 m H m' H' → RS T m' H' S' → gOk its.g S' = true → G H') ∧
    ∀ i m' H' S' v H'', i < its.xs.length → Ext0 m H m' H' → RS T m' H' S' → gOk its.g S' = true → Y i H' v H'' → Ext m' H' m' H'' ∧ RS T m' H'' S' ∧ ∃ d, its.xs[i]? = some d ∧ RD T m' H'' d v
def tI (T : Ad) (W : WX) (f : Env → Store → R Items) : TI := fun σ H R => ∃ env m S, REnv T m H env σ ∧ RS T m H S ∧ PostK T (f env S) m H σ W fun its _ m' H' => ∀ J, Wk T its m' H' J → R J H'
section
variable {T : Ad} {m : Mp} {H : Hp} {σ : L2.St} {W : WX} {S : Store} {Q : VK} {dx dy : D} {x y : V}
theorem wk_at {xs : List D} {vs : List V} {J : It} {G : Hp → Prop} {g : Option (Nat × List D)} (hr : RDs T m H xs vs) (w : Walk J vs.length G (YAt vs)) (hg : ∀ m' H' S', Ext0 m H m' H' → RS T m' H' S' → gOk g S' = true → G H') : Wk T ⟨xs, g⟩ m H J := by
  refine ⟨G, _, by rw [← hr.length]; exact w, hg, fun i m' H' S' v H'' hi e r _ y => ?_⟩
  obtain ⟨rfl, hv⟩ := y
  refine ⟨Ext.refl, r, xs[i], List.getElem?_eq_getElem hi, ?_⟩
  obtain ⟨w, h1, h2⟩ := hr.get (List.getElem?_eq_getElem hi)
  rw [hv] at h1
  cases h1
  exact RD.ext0 e _ _ h2
theorem Ext0.sql {m' : Mp} {H' : Hp} {p : Addr} {vs : List V} (e : Ext0 m H m' H') (h : LV m H p vs) {K : PySem.W.Frag} : SqL K H' p vs := SqL.of (e.lv h).1
theorem wk_tup {xs : List D} {p : Addr} {vs : List V} (h2 : SqT T.K H p vs) (h3 : RDs T m H xs vs) : Wk T ⟨xs, none⟩ m H (Itt T.K p) :=
  wk_at h3 walk_tup fun _ _ _ e _ _ => e.sqt h2
theorem wk_lst {xs : List D} {p : Addr} {vs : List V} (h2 : LV m H p vs) (h3 : RDs T m H xs vs) : Wk T ⟨xs, none⟩ m H (Itl T.K p) :=
  wk_at h3 walk_list fun _ _ _ e _ _ => e.sql h2
theorem wk_cell {xs : List D} {l : Nat} (r : RS T m H S) (h : S[l]? = some (.lst xs)) : ∃ p vs, m.c[l]? = some p ∧ H p = some (.lst vs) ∧ Wk T ⟨xs, some (l, xs)⟩ m H (Itl T.K p) := by
  obtain ⟨p, vs, h1, h2, h3⟩ := r.lst h
  refine ⟨p, vs, h1, h2, ?_⟩
  have at_ : ∀ {m' H' S'}, Ext0 m H m' H' → RS T m' H' S' → gOk (some (l, xs)) S' = true → ∃ ws, H' p = some (.lst ws) ∧ RDs T m' H' xs ws := fun {m' H' S'} e r' g => by
    obtain ⟨p', ws, k1, k2, k3⟩ := r'.lst (of_decide_eq_true (show decide (S'[l]? = some (.lst xs)) = true from g))
    rw [e.get h1] at k1
    cases k1
    exact ⟨ws, k2, k3⟩
  refine ⟨fun H' => ∃ ws, H' p = some (.lst ws) ∧ ws.length = xs.length, fun i H' v H'' => H'' = H' ∧ ∀ ws, H' p = some (.lst ws) → ws[i]? = some v, ?_, fun m' H' S' e r' g => ?_, fun i m' H' S' v H'' hi e r' g y => ?_⟩
  · refine ⟨fun i H' hi q => ?_, fun H' q => ?_, fun i H' v H'' hi q y => ?_⟩
    · obtain ⟨ws, q, q2⟩ := q
      exact ⟨ws, ws[i]'(by rw [q2]; exact hi), SqL.of q, by simp [q2, hi]⟩
    · obtain ⟨ws, q, q2⟩ := q
      exact ⟨ws, SqL.of q, by rw [q2]; exact Nat.le_refl _⟩
    · exact ⟨y.1, fun ws q => y.2 ws (SqL.of q)⟩
  · obtain ⟨ws, q, q2⟩ := at_ e r' g
    exact ⟨ws, q, q2.length⟩
  · obtain ⟨rfl, y⟩ := y
    obtain ⟨ws, q, q2⟩ := at_ e r' g
    refine ⟨Ext.refl, r', xs[i], List.getElem?_eq_getElem hi, ?_⟩
    obtain ⟨w, k1, k2⟩ := q2.get (List.getElem?_eq_getElem hi)
    rw [y ws q] at k1
    cases k1
    exact k2
end
end Ev


namespace Ev
open PySem PySem.Spec L2 PyProof.Rows
/-! ### what is walked -/
section
variable {X : Cx} {tg : Expr}
/-- a list, a tuple, a text -/
def iSeq (K : PySem.W.Frag) (te : TE) : TI := fun σ H R => te σ H fun x H1 => (∃ a xs, x = .ref a ∧ SqL K H1 a xs ∧ R (Itl K a) H1) ∨ (∃ a xs, x = .ref a ∧ SqT K H1 a xs ∧ R (Itt K a) H1) ∨ ∃ z, x = .str z ∧ R (Its z) H1
theorem pi_seqG {e : Expr} {te : TE} (he : PE X e te) : PI X tg e (iSeq X.K te) := by
  refine ⟨fun pins s σ H R I h => ?_⟩
  refine thn (he.run pins s σ H _ I h) fun v s1 ⟨x, H1, I1, r1, q1⟩ => ?_
  rcases q1 with ⟨a, xs, rfl, hq, q⟩ | ⟨a, xs, rfl, hq, q⟩ | ⟨z, rfl, q⟩
  · cases r1
    obtain ⟨its, rv, p, hz⟩ := I1.list hq
    exact wpAny_pyIter_list p.isList (pi_one (tk := s1.toks) I1 _ (turn_list a _) ⟨_, Heap.get?_push_size _ rfl, rfl, rfl⟩ q)
  · cases r1
    obtain ⟨its, rv, p, hz⟩ := I1.tuple hq
    exact wpAny_pyIter_tuple (show s1.heap.IsTuple a its.toArray from p) (pi_one (tk := s1.toks) I1 _ (turn_tuple a _) ⟨_, Heap.get?_push_size _ rfl, rfl, rfl⟩ q)
  · obtain ⟨t, rfl⟩ := r1
    cases ha : z.cps.all (· < 128)
    · exact wpAny_pyIter_wide ha (pi_one (tk := s1.toks) I1 _ (turn_str _ z t "str_iterator" (.inr rfl)) ⟨_, Heap.get?_push_size _ rfl, rfl, rfl⟩ q)
    · exact wpAny_pyIter_ascii ha (pi_one (tk := s1.toks) I1 _ (turn_str _ z t "str_ascii_iterator" (.inl rfl)) ⟨_, Heap.get?_push_size _ rfl, rfl, rfl⟩ q)
end
section
variable {T : Ad} {m : Mp} {H : Hp} {σ : L2.St} {W : WX} {S : Store} {Q : VK} {dx dy : D} {x y : V} {R : It → Hp → Prop}
theorem wk_str (z : Str) : Wk T ⟨z.cps.toList.map fun c => .str ⟨#[c]⟩, none⟩ m H (Its z) := by
  refine ⟨fun _ => True, fun i H v H' => H' = H ∧ ∃ c, z.cps[i]? = some c ∧ v = .str ⟨#[c]⟩, ?_, fun _ _ _ _ _ _ => True.intro, fun i m' H' S' v H'' hi e r _ y => ?_⟩
  · have := (walk_str (z := z))
    rw [show z.cps.size = (z.cps.toList.map fun c => D.str ⟨#[c]⟩).length by simp] at this
    exact this
  · obtain ⟨rfl, c, hc, rfl⟩ := y
    refine ⟨Ext.refl, r, .str ⟨#[c]⟩, ?_, rfl⟩
    rw [List.getElem?_map]
    rw [← Array.getElem?_toList] at hc
    rw [hc]
    rfl
theorem wk_scr {ns : List Int} {p : Addr} (h : SC T H p (ns.map V.int)) : Wk T ⟨ns.map .int, none⟩ m H (Itl T.K p) := by
  refine wk_at (vs := ns.map V.int) (RDs.ints ns) walk_list fun m' H' S' e _ _ => ?_
  rcases e.sc h with ⟨o, h⟩ | h
  · exact .inl (.inr ⟨o, h⟩)
  · exact .inr h
theorem seq_use {its : Items} (r : RS T m H S) (h : seqItems S dx = some its) (hx : RD T m H dx x) (k : ∀ J, Wk T its m H J → R J H) :
    (∃ a xs, x = .ref a ∧ SqL T.K H a xs ∧ R (Itl T.K a) H) ∨ (∃ a xs, x = .ref a ∧ SqT T.K H a xs ∧ R (Itt T.K a) H) ∨ ∃ z, x = .str z ∧ R (Its z) H := by
  cases dx with
  | tup xs =>
    cases h
    obtain ⟨p, vs, h1, h2, h3⟩ := hx
    exact .inr (.inl ⟨p, vs, h1, h2, k _ (wk_tup h2 h3)⟩)
  | lst xs =>
    cases h
    obtain ⟨p, vs, h1, h2, h3⟩ := hx
    exact .inl ⟨p, vs, h1, SqL.of h2.1, k _ (wk_lst h2 h3)⟩
  | str z =>
    cases h
    exact .inr (.inr ⟨z, hx, k _ (wk_str z)⟩)
  | ref l =>
    have h : (match S[l]? with | some (.lst xs) => some (Items.mk xs (some (l, xs))) | _ => none) = some its := h
    cases e : S[l]? with
    | none =>
      rw [e] at h
      cases h
    | some ob =>
      rw [e] at h
      cases ob with
      | dct _ => cases h
      | lst xs =>
        cases h
        obtain ⟨p, vs, h1, h2, w⟩ := wk_cell r e
        obtain ⟨p', q1, rfl⟩ := hx
        rw [h1] at q1
        cases q1
        exact .inl ⟨p, vs, rfl, SqL.of h2, k _ w⟩
  | scr ns =>
    cases h
    obtain ⟨p, h1, h2⟩ := id hx
    obtain ⟨p', h3, h4⟩ := scr_of hx
    rw [h1] at h3
    cases h3
    exact .inl ⟨p, _, h1, h4, k _ (wk_scr h2)⟩
  | _ => cases h
theorem wk_fn {n : Nat} {f : Nat → D} {g : Nat → V} {J : It} (w : Walk J n (fun _ => True) (YFn g)) (hf : ∀ i, RD T m H (f i) (g i)) (hf2 : ∀ i m' H', RD T m' H' (f i) (g i)) : Wk T ⟨(List.range n).map f, none⟩ m H J := by
  refine ⟨fun _ => True, YFn g, ?_, fun _ _ _ _ _ _ => True.intro, fun i m' H' S' v H'' hi e r _ y => ?_⟩
  · rw [show ((List.range n).map f).length = n by simp]
    exact w
  · obtain ⟨rfl, rfl⟩ := y
    have hi : i < n := by simpa using hi
    exact ⟨Ext.refl, r, f i, by simp [hi], hf2 i _ _⟩
theorem rngs_use {ds ys : List D} (h : rngs ds = some ys) :
    (∃ j : Int, ds = [.int j] ∧ -(2 ^ 62) ≤ j ∧ j < 2 ^ 62 ∧ ∀ m H, Wk T ⟨ys, none⟩ m H (Itr 0 j.toNat)) ∨
    (∃ i j : Int, ds = [.int i, .int j] ∧ (-(2 ^ 62) ≤ i ∧ i < 2 ^ 62 ∧ -(2 ^ 62) ≤ j ∧ j < 2 ^ 62) ∧ ∀ m H, Wk T ⟨ys, none⟩ m H (Itr i (j - i).toNat)) ∨
    ∃ i j c : Int, ∃ n : Nat, ds = [.int i, .int j, .int c] ∧ RgC i j c n ∧ ∀ m H, Wk T ⟨ys, none⟩ m H (Itc i c n) := by
  unfold rngs at h
  split at h
  · rename_i j
    split at h
    · rename_i c
      obtain ⟨c1, c2⟩ := of_decide_eq_true c
      cases h
      exact .inl ⟨j, rfl, c1, c2, fun m H => wk_fn walk_range (fun _ => rfl) fun _ _ _ => rfl⟩
    · cases h
  · rename_i i j
    split at h
    · rename_i c
      cases h
      exact .inr (.inl ⟨i, j, rfl, of_decide_eq_true c, fun m H => wk_fn walk_range (fun _ => rfl) fun _ _ _ => rfl⟩)
    · cases h
  · rename_i i j k
    split at h
    · rename_i c
      obtain ⟨rfl, c1, c2, c3, c4⟩ := of_decide_eq_true c
      cases h
      exact .inr (.inr ⟨i, j, -1, _, rfl, RgC.neg c1 c2 c3 c4, fun m H => wk_fn walk_rangeC (fun _ => rfl) fun _ _ _ => rfl⟩)
    · cases h
  · cases h
theorem wk_pairs {xs ys : List D} {vs ws : List V} {J : It} {G : Hp → Prop} (hx : RDs T m H xs vs) (hy : RDs T m H ys ws) (w : ∀ n, n = min vs.length ws.length → Walk J n G (YPair (fun i => vs[i]?) (fun i => ws[i]?))) (hg : ∀ m' H' S', Ext0 m H m' H' → RS T m' H' S' → G H') :
    Wk T ⟨(xs.zip ys).map fun p => .tup [p.1, p.2], none⟩ m H J := by
  refine ⟨G, _, w _ ?_, fun m' H' S' e r _ => hg m' H' S' e r, fun i m' H' S' v H'' hi e r _ y => ?_⟩
  · rw [List.length_map, List.length_zip, hx.length, hy.length]
  · obtain ⟨t, a, b, rfl, ht, rfl, ha, hb⟩ := y
    rw [List.length_map, List.length_zip] at hi
    have h1 : i < xs.length := by omega
    have h2 : i < ys.length := by omega
    obtain ⟨a', ka, ra⟩ := hx.get (List.getElem?_eq_getElem h1)
    obtain ⟨b', kb, rb⟩ := hy.get (List.getElem?_eq_getElem h2)
    have ha : vs[i]? = some a := ha
    have hb : ws[i]? = some b := hb
    rw [ha] at ka
    cases ka
    rw [hb] at kb
    cases kb
    have en := Ext.new (o := .tup [a, b]) r ht
    refine ⟨en, r.new ht, .tup [xs[i], ys[i]], ?_, ?_⟩
    · rw [List.getElem?_map, List.getElem?_eq_getElem (by rw [List.length_zip]; omega), List.getElem_zip]
      rfl
    · exact ⟨t, [a, b], rfl, .inl (.inl upd_same), a, [b], rfl, RD.ext en _ _ (RD.ext0 e _ _ ra), b, [], rfl, RD.ext en _ _ (RD.ext0 e _ _ rb), rfl⟩
end

/-! ### a list under way -/
structure Acc (T : Ad) (m0 : Mp) (H0 : Hp) (D : Addr) (ys : List Ev.D) (S : Store) (m : Mp) (H : Hp) : Prop where
  at_ : ∃ acc, H D = some (.lst acc) ∧ RDs T m H ys acc
  rs : RS T m H S
  e : Ext0 m0 H0 m H
  h : m.h = m0.h
  q : ∀ q ∈ m0.h, q ≠ D → H q = H0 q
section
variable {T : Ad} {m0 m m' : Mp} {H0 H H' : Hp} {D : Addr} {ys zs : List Ev.D} {S S' : Store}
theorem Acc.ext (a : Acc T m0 H0 D ys S m H) (hD : D ∈ m0.h) (e : Ext m H m' H') (r : RS T m' H' S') : Acc T m0 H0 D ys S' m' H' := by
  obtain ⟨acc, h1, h2⟩ := a.at_
  exact ⟨⟨acc, by rw [e.hid D (a.h ▸ hD)]; exact h1, RDs.ext e _ _ h2⟩, r, a.e.trans e.toExt0, e.eqh.trans a.h, fun q hq hn => (e.hid q (a.h ▸ hq)).trans (a.q q hq hn)⟩
theorem Acc.push {acc : List V} {y : Ev.D} {v : V} (a : Acc T m0 H0 D ys S m H) (hD : D ∈ m0.h) (h : H D = some (.lst acc)) (hv : RD T m H y v) : Acc T m0 H0 D (ys ++ [y]) S m (upd H D (.lst (acc ++ [v]))) := by
  obtain ⟨acc', h1, h2⟩ := a.at_
  rw [h] at h1
  cases h1
  have hm : D ∈ m.h := by rw [a.h]; exact hD
  have e : Ext0 m H m (upd H D (.lst (acc ++ [v]))) := Ext0.upd (.inr hm) h Mu.lst
  exact ⟨⟨_, upd_same, RDs.ext0 e _ _ (h2.append (RDs.one hv))⟩, a.rs.updh hm (fun _ => HO.noConfusion) e, a.e.trans e, a.h, fun q hq hn => by rw [upd_ne hn]; exact a.q q hq hn⟩
theorem Acc.start {p : Addr} (r : RS T m H S) (hp : H p = none) : Acc T (m.hide p) (upd H p (.lst [])) p [] S (m.hide p) (upd H p (.lst [])) :=
  ⟨⟨[], upd_same, rfl⟩, r.hide hp (fun _ => HO.noConfusion), Ext0.refl, rfl, fun _ _ _ => rfl⟩
/-- it is done: the list is anybody's -/
theorem Acc.fin {σ : L2.St} {W : WX} {Q : VK} {new : Bool} {S0 : Store} (r : RS T m0 H0 S0) (hD : H0 D = none) (a : Acc T (m0.hide D) (upd H0 D (.lst [])) D ys S m H) (h : PostK T (mkL new ys S) m0 H0 σ W (KQ T Q)) : Q (.ref D) H := by
  obtain ⟨acc, h1, h2⟩ := a.at_
  have eh : m.h = D :: m0.h := a.h
  have nD : D ∉ m.c := (a.rs.hid D (by rw [eh]; exact List.mem_cons_self)).1
  have nD2 : D ∉ m0.h := fun z => (r.hid D z).2 hD
  have e0 : Ext0 m0 H0 m H := (Ext0.hide hD).trans a.e
  have q0 : ∀ q ∈ m0.h, H q = H0 q := fun q hq => by
    have hn : q ≠ D := by rintro rfl; exact nD2 hq
    rw [a.q q (List.mem_cons_of_mem _ hq) hn, upd_ne hn]
  unfold mkL at h
  obtain ⟨_, h⟩ := ite_use h
  cases new with
  | false =>
    rw [if_neg Bool.false_ne_true] at h
    refine h ⟨m.c, m0.h, m.t⟩ H ⟨e0.trans (Ext0.show_ eh), rfl, q0⟩ (a.rs.show_ eh) _ ⟨D, acc, rfl, ⟨h1, ?_⟩, RDs.ext0 (Ext0.show_ eh) _ _ h2⟩
    rintro (z | z)
    · exact nD z
    · exact nD2 z
  | true =>
    rw [if_pos rfl] at h
    have es : Ext0 m H ⟨m.c ++ [D], m0.h, m.t⟩ H := ⟨⟨[D], rfl⟩, fun _ _ h => h, fun q vs hq n => ⟨hq, by
      rintro (z | z)
      · rcases List.mem_append.mp z with z | z
        · exact n (.inl z)
        · exact n (.inr (by rw [eh]; simp at z; simp [z]))
      · exact n (.inr (by rw [eh]; exact List.mem_cons_of_mem _ z))⟩, fun _ _ _ h => h, fun _ _ h => h, rfl, fun h => h⟩
    refine h ⟨m.c ++ [D], m0.h, m.t⟩ H ⟨e0.trans es, rfl, q0⟩ ?_ _ ?_
    · refine ⟨by simp [a.rs.len], ?_, fun q hq => ⟨?_, (a.rs.hid q (by rw [eh]; exact List.mem_cons_of_mem _ hq)).2⟩, fun q hq => a.rs.hnt q (by rw [eh]; exact List.mem_cons_of_mem _ hq), a.rs.tt, a.rs.tab, fun l ob p k1 k2 => ?_⟩
      · rw [List.nodup_append]
        refine ⟨a.rs.nd, by simp, fun x hx b hb => ?_⟩
        have : b = D := by simpa using hb
        rintro rfl
        exact nD (this ▸ hx)
      · intro z
        rcases List.mem_append.mp z with z | z
        · exact (a.rs.hid q (by rw [eh]; exact List.mem_cons_of_mem _ hq)).1 z
        · have : q = D := by simpa using z
          exact nD2 (this ▸ hq)
      · have k2 : (m.c ++ [D])[l]? = some p := k2
        by_cases hl : l < m.c.length
        · rw [List.getElem?_append_left (by rw [a.rs.len]; exact hl)] at k1
          rw [List.getElem?_append_left hl] at k2
          obtain ⟨u, k3, k4⟩ := a.rs.at_ l ob p k1 k2
          exact ⟨u, k3, k4.ext0 es⟩
        · have hl2 : l < (m.c ++ [D]).length := (List.getElem?_eq_some_iff.mp k2).1
          rw [List.length_append, List.length_singleton] at hl2
          have el : l = m.c.length := by omega
          subst el
          rw [List.getElem?_append_right (Nat.le_refl _)] at k2
          have eq : p = D := by simpa using k2.symm
          subst eq
          rw [List.getElem?_append_right (Nat.le_of_eq a.rs.len), a.rs.len] at k1
          have eo : ob = .lst ys := by simpa using k1.symm
          subst eo
          exact ⟨_, h1, acc, rfl, RDs.ext0 es _ _ h2⟩
    · exact ⟨D, by show (m.c ++ [D])[S.length]? = some D; rw [a.rs.len, List.getElem?_append_right (Nat.le_refl _)]; simp, rfl⟩
end
section
variable {T : Ad} {m0 : Mp} {H0 : Hp} {D : Addr} {its : Items} {J : It} {t : Ev.T} {vs : List Nat} {env : Env} {σ : L2.St} {ev : Env → Store → R (List Ev.D)} {Nx : Hp → Prop}
theorem Wk.ext0 {m : Mp} {H : Hp} (w : Wk T its m H J) (e : Ext0 m H m0 H0) : Wk T its m0 H0 J := by
  obtain ⟨G, Y, w1, w2, w3⟩ := w.ex
  exact ⟨G, Y, w1, fun m' H' S' e' => w2 m' H' S' (e.trans e'), fun i m' H' S' v H'' hi e' => w3 i m' H' S' v H'' hi (e.trans e')⟩
theorem colGo_ok {g : Option (Nat × List Ev.D)} {xs zs : List Ev.D} {S Sf : Store} (h : colGo t g ev env xs S = .ok zs Sf) : gOk g S = true ∧ ((xs = [] ∧ zs = [] ∧ Sf = S) ∨ ∃ x r env1 ys S2 ws, xs = x :: r ∧ t.asg x env = some env1 ∧ ev env1 S = .ok ys S2 ∧ colGo t g ev env r S2 = .ok ws Sf ∧ zs = ys ++ ws) := by
  cases xs with
  | nil =>
    rw [colGo] at h
    cases hg : gOk g S with
    | false =>
      rw [hg] at h
      cases h
    | true =>
      rw [hg] at h
      cases h
      exact ⟨rfl, .inl ⟨rfl, rfl, rfl⟩⟩
  | cons x r =>
    rw [colGo] at h
    cases hg : gOk g S with
    | false =>
      rw [hg] at h
      cases h
    | true =>
      rw [hg, if_pos rfl] at h
      refine ⟨rfl, .inr ?_⟩
      cases e1 : t.asg x env with
      | none =>
        rw [e1] at h
        cases h
      | some env1 =>
        rw [e1] at h
        simp only at h
        cases e2 : ev env1 S with
        | exc _ _ =>
          rw [e2] at h
          cases h
        | stuck =>
          rw [e2] at h
          cases h
        | ok ys S2 =>
          rw [e2] at h
          simp only at h
          cases e3 : colGo t g ev env r S2 with
          | exc _ _ =>
            rw [e3] at h
            cases h
          | stuck =>
            rw [e3] at h
            cases h
          | ok ws S3 =>
            rw [e3] at h
            cases h
            exact ⟨x, r, env1, ys, S2, ws, rfl, e1, e2, e3, rfl⟩
theorem colGo_noexc {g : Option (Nat × List Ev.D)} {x : Ex} : ∀ {xs : List Ev.D} {S Sf : Store}, colGo t g ev env xs S = .exc x Sf → False
  | [], S, Sf, h => by
    rw [colGo] at h
    split at h <;> cases h
  | y :: ys, S, Sf, h => by
    rw [colGo] at h
    split at h
    · split at h
      · split at h
        · split at h <;> cases h
        · cases h
      · cases h
    · cases h
/-- the turns -/
theorem acc_loop {S0 Sf : Store} {zs : List Ev.D} {Hs : Hp} {ms : Mp} {ys0 : List Ev.D} {B : L2.St → Hp → (Hp → Prop) → Prop} (wk : Wk T its m0 H0 J) (hD : D ∈ m0.h) (he : REnv T m0 H0 (wipeD env vs) (wipe σ vs)) (hsl : ∀ i ∈ t.slots, i ∈ vs) (h : colGo t its.g ev (wipeD env vs) its.xs S0 = .ok zs Sf) (h0 : Acc T m0 H0 D ys0 S0 ms Hs)
    (hz : (ys0 ++ zs).length ≤ sizeLine)
    (body : ∀ env1 S1 S2 ys ws m1 H1 σ1 (N : Hp → Prop), ev env1 S1 = .ok ws S2 → Acc T m0 H0 D ys S1 m1 H1 → REnv T m1 H1 env1 σ1 → (ys ++ ws).length ≤ sizeLine → (∀ m2 H2, Acc T m0 H0 D (ys ++ ws) S2 m2 H2 → N H2) → B σ1 H1 N)
    (hd : ∀ m' H', Acc T m0 H0 D (ys0 ++ zs) Sf m' H' → Nx H') :
    ∃ W : Nat → Nat → Hp → Prop, (∃ k, W 0 k Hs) ∧ ∀ i k H, W i k H → (J.stop i H ∧ Nx H) ∨ (J.go i H ∧ ∃ N1 : Hp → Prop, (∀ H', N1 H' → ∃ k', k' < k ∧ W (i + 1) k' H') ∧
      ∀ x H', J.yld i H x H' → gT T.K t x (wipe σ vs) H' fun σ2 H2 => wipe σ2 vs = wipe σ vs ∧ B σ2 H2 N1) := by
  obtain ⟨G, Y, w1, w2, w3⟩ := wk.ex
  let Pv : Nat → Hp → Prop := fun i H => ∃ ys S1 m1 ws, Acc T m0 H0 D ys S1 m1 H ∧ colGo t its.g ev (wipeD env vs) (its.xs.drop i) S1 = .ok ws Sf ∧ ys ++ ws = ys0 ++ zs
  refine ⟨fun i k H => k = its.xs.length - i ∧ i ≤ its.xs.length ∧ Pv i H, ⟨its.xs.length, by simp, Nat.zero_le _, ys0, S0, ms, zs, h0, h, rfl⟩, ?_⟩
  rintro i k H ⟨rfl, hi, ys, S1, m1, ws, a, hgo, etot⟩
  obtain ⟨hg, hgo⟩ := colGo_ok hgo
  have hG := w2 m1 H S1 a.e a.rs hg
  by_cases hlt : i < its.xs.length
  · refine .inr ⟨w1.goes i H hlt hG, Pv (i + 1), fun H' p' => ⟨its.xs.length - (i + 1), by omega, rfl, hlt, p'⟩, fun x H' y => ?_⟩
    obtain ⟨ey, ry, d, hd1, hd2⟩ := w3 i m1 H S1 x H' hlt a.e a.rs hg (w1.yields i H x H' hlt hG y)
    rcases hgo with ⟨z, _, _⟩ | ⟨x0, r, env1, ys1, S2, ws1, e1, e2, e3, e4, e5⟩
    · exact absurd z (by simp; omega)
    · have e6 := List.drop_eq_getElem_cons hlt
      rw [e6] at e1
      injection e1 with e7 e8
      rw [List.getElem?_eq_getElem hlt] at hd1
      have e9 : d = x0 := by rw [← e7]; exact (Option.some.inj hd1).symm
      subst e9
      have a2 := a.ext hD ey ry
      refine Ev.T.use t d x _ env1 _ _ e2 hd2 (he.ext0 a2.e) fun σ2 he2 sm => ⟨Same.wipe (sm.mono hsl), ?_⟩
      refine body env1 S1 S2 ys ys1 m1 H' σ2 _ e3 a2 he2 ?_ fun m2 H2 a3 => ⟨ys ++ ys1, S2, m2, ws1, a3, by rw [e8]; exact e4, by rw [List.append_assoc, ← e5, etot]⟩
      have : (ys ++ ys1).length ≤ (ys0 ++ zs).length := by
        rw [← etot, e5]
        simp
      omega
  · have ei : i = its.xs.length := by omega
    subst ei
    rcases hgo with ⟨_, e1, e2⟩ | ⟨x0, r, _, _, _, _, e1, _⟩
    · refine .inl ⟨w1.stops H hG, hd m1 H ?_⟩
      rw [e2, ← etot, e1, List.append_nil]
      exact a
    · rw [List.drop_length] at e1
      cases e1
end
end Ev


namespace Ev
open PySem PySem.Spec L2 PyProof.Rows
section
variable {T : Ad} {m : Mp} {H : Hp} {σ : L2.St} {W W1 : WX} {S : Store} {Q : VK} {env : Env} {new : Bool} {fI : Env → Store → R Items} {t : Ev.T} {okf : Env → Store → R Bool} {evf : Env → Store → R D} {vs : List Nat}

/-! ### comprehensions -/
theorem Acc.trans {m0 m1 m' : Mp} {H0 H1 H' : Hp} {L : Addr} {ys zs : List D} {S1 S' : Store} (a : Acc T m0 H0 L ys S1 m1 H1) (b : Acc T m1 H1 L zs S' m' H') : Acc T m0 H0 L zs S' m' H' :=
  ⟨b.at_, b.rs, a.e.trans b.e, b.h.trans a.h, fun q hq hn => (b.q q (a.h ▸ hq) hn).trans (a.q q hq hn)⟩
theorem step1_ok {env1 : Env} {S1 S2 : Store} {ws : List D} (h : step1 okf evf env1 S1 = .ok ws S2) : ∃ b Sa, okf env1 S1 = .ok b Sa ∧ if b = true then ∃ y, evf env1 Sa = .ok y S2 ∧ ws = [y] else ws = [] ∧ S2 = Sa := by
  unfold step1 at h
  cases e1 : okf env1 S1 with
  | exc _ _ =>
    rw [e1] at h
    cases h
  | stuck =>
    rw [e1] at h
    cases h
  | ok b Sa =>
    rw [e1] at h
    refine ⟨b, Sa, rfl, ?_⟩
    cases b with
    | false =>
      cases h
      exact ⟨rfl, rfl⟩
    | true =>
      simp only [if_true] at h ⊢
      cases e2 : evf env1 Sa with
      | exc _ _ =>
        rw [e2] at h
        cases h
      | stuck =>
        rw [e2] at h
        cases h
      | ok y Sb =>
        rw [e2] at h
        cases h
        exact ⟨y, rfl, rfl⟩
abbrev bodyB (T : Ad) (W1 : WX) (L : Addr) (okf : Env → Store → R Bool) (evf : Env → Store → R D) (σ2 : L2.St) (H2 : Hp) (N : Hp → Prop) : Prop :=
  tB T W1 okf σ2 H2 fun b H3 => if b = true then tE T W1 evf σ2 H3 fun y H4 => ∃ acc, H4 L = some (.lst acc) ∧ acc.length < sizeLine ∧ N (upd H4 L (.lst (acc ++ [y]))) else N H3
theorem body_ok {m0 : Mp} {H0 : Hp} {L : Addr} (hD : L ∈ m0.h) (env1 : Env) (S1 S2 : Store) (ys ws : List D) (m1 : Mp) (H1 : Hp) (σ1 : L2.St) (N : Hp → Prop) (h : step1 okf evf env1 S1 = .ok ws S2) (a : Acc T m0 H0 L ys S1 m1 H1) (he : REnv T m1 H1 env1 σ1) (hz : (ys ++ ws).length ≤ sizeLine)
    (k : ∀ m2 H2, Acc T m0 H0 L (ys ++ ws) S2 m2 H2 → N H2) : bodyB T W1 L okf evf σ1 H1 N := by
  obtain ⟨b, Sa, e1, h⟩ := step1_ok h
  refine ⟨env1, m1, S1, he, a.rs, ?_⟩
  rw [e1]
  intro m2 H2 x2 r2
  have a2 := a.ext hD x2 r2
  cases b with
  | false =>
    simp only [Bool.false_eq_true, if_false] at h ⊢
    obtain ⟨rfl, rfl⟩ := h
    exact k m2 H2 (by rw [List.append_nil]; exact a2)
  | true =>
    simp only [if_true] at h ⊢
    obtain ⟨y, e2, rfl⟩ := h
    refine ⟨env1, m2, Sa, he.ext x2, r2, ?_⟩
    rw [e2]
    intro m3 H3 x3 r3 v hv
    have a3 := a2.ext hD x3 r3
    obtain ⟨acc, h1, h2⟩ := a3.at_
    refine ⟨acc, h1, ?_, k m3 _ (a3.push hD h1 hv)⟩
    rw [h2.length]
    rw [List.length_append, List.length_singleton] at hz
    omega
theorem wkIn {its : Items} {J : It} {L : Addr} (w : Wk T its m H J) (hL : H L = none) : Wk T its (m.hide L) (upd H L (.lst [])) J := w.ext0 (Ext0.hide hL)
theorem isz_mkL {ys : List D} {k : D → Store → Mp → Hp → Prop} (h : PostK T (mkL new ys S) m H σ W k) : ys.length ≤ sizeLine := by
  unfold mkL at h
  exact isz_of (ite_use h).1
theorem lc_use (hsl : ∀ i ∈ t.slots, i ∈ vs) (he : REnv T m H env σ) (r : RS T m H S)
    (h : PostK T ((fI env S).bind fun its S => (compGo t its.g okf evf (wipeD env vs) its.xs S).bind fun ys S => mkL new ys S) m H σ W (KQ T Q)) :
    tLc (tI T W fI) (gT T.K t) (tB T W1 okf) (tE T W1 evf) vs σ H Q := by
  refine ⟨env, m, S, he, r, h.bind.imp fun its S1 m1 H1 _ x1 r1 h1 J wk L hL => ?_⟩
  cases e : compGo t its.g okf evf (wipeD env vs) its.xs S1 with
  | stuck =>
    rw [e] at h1
    exact h1.elim
  | exc _ _ => exact (colGo_noexc e).elim
  | ok ys Sf =>
    have h1 : PostK T (mkL new ys Sf) m1 H1 σ W (KQ T Q) := by
      rw [e] at h1
      exact h1
    exact acc_loop (B := bodyB T W1 L okf evf) (wkIn wk hL) List.mem_cons_self ((he.ext x1).wipe vs |>.ext0 (Ext0.hide hL)) hsl e (Acc.start r1 hL) (isz_mkL h1) (body_ok List.mem_cons_self) fun m' H' a => a.fin r1 hL h1
theorem lc2_use {fJ : Env → Store → R Items} {t2 : Ev.T} (hsl : ∀ i ∈ t.slots, i ∈ vs) (he : REnv T m H env σ) (r : RS T m H S)
    (h : PostK T ((fI env S).bind fun its S => (colGo t its.g (fun env S => (fJ env S).bind fun js S => compGo t2 js.g okf evf (wipeD env t2.slots) js.xs S) (wipeD env vs) its.xs S).bind fun ys S => mkL new ys S) m H σ W (KQ T Q)) :
    tLc2 (tI T W fI) (gT T.K t) tYes (tI T W1 fJ) (gT T.K t2) (tB T W1 okf) (tE T W1 evf) vs t2.slots σ H Q := by
  refine ⟨env, m, S, he, r, h.bind.imp fun its S1 m1 H1 _ x1 r1 h1 J wk L hL => ?_⟩
  cases e : colGo t its.g (fun env S => (fJ env S).bind fun js S => compGo t2 js.g okf evf (wipeD env t2.slots) js.xs S) (wipeD env vs) its.xs S1 with
  | stuck =>
    rw [e] at h1
    exact h1.elim
  | exc _ _ => exact (colGo_noexc e).elim
  | ok ys Sf =>
    have h1 : PostK T (mkL new ys Sf) m1 H1 σ W (KQ T Q) := by
      rw [e] at h1
      exact h1
    have hL1 : L ∈ (m1.hide L).h := List.mem_cons_self
    refine acc_loop (B := fun σ2 H2 Nx => tYes σ2 H2 fun b H3 => if b = true then tI T W1 fJ σ2 H3 fun J1 H4 => ∃ W1' : Nat → Nat → Hp → Prop, (∃ m, W1' 0 m H4) ∧ ∀ j k H, W1' j k H →
      (J1.stop j H ∧ Nx H) ∨ (J1.go j H ∧ ∃ Nx1 : Hp → Prop, (∀ H', Nx1 H' → ∃ k', k' < k ∧ W1' (j + 1) k' H') ∧ ∀ x H', J1.yld j H x H' → gT T.K t2 x (L2.wipe σ2 t2.slots) H' fun σ3 H5 => L2.wipe σ3 t2.slots = L2.wipe σ2 t2.slots ∧ bodyB T W1 L okf evf σ3 H5 Nx1) else Nx H3)
      (wkIn wk hL) hL1 ((he.ext x1).wipe vs |>.ext0 (Ext0.hide hL)) hsl e (Acc.start r1 hL) (isz_mkL h1) (fun env1 Sa Sb ys1 ws m2 H2 σ2 N hgo a he2 hz k => ?_) fun m' H' a => a.fin r1 hL h1
    show tI T W1 fJ σ2 H2 _
    refine ⟨env1, m2, Sa, he2, a.rs, ?_⟩
    cases e2 : fJ env1 Sa with
    | stuck =>
      rw [e2] at hgo
      cases hgo
    | exc _ _ =>
      rw [e2] at hgo
      cases hgo
    | ok js Sc =>
      rw [e2] at hgo
      have hgo : compGo t2 js.g okf evf (wipeD env1 t2.slots) js.xs Sc = .ok ws Sb := hgo
      intro m3 H3 x3 r3 J1 wk1
      have a3 := a.ext hL1 x3 r3
      have hL3 : L ∈ m3.h := by rw [a3.h]; exact hL1
      exact acc_loop (B := bodyB T W1 L okf evf) wk1 hL3 ((he2.ext x3).wipe t2.slots) (fun _ h => h) hgo ⟨a3.at_, a3.rs, Ext0.refl, rfl, fun _ _ _ => rfl⟩ hz (body_ok hL3) fun m' H' b => k m' H' (a3.trans b)

/-! ### for, while -/
variable {body : Env → Store → SR} {E : Ends}
theorem for_use (he : REnv T m H env σ) (r : RS T m H S) (h : PostS T ((fI env S).st env fun its S => forGo t its.g body its.xs env S) m H W E) : tFor (tI T W fI) (gT T.K t) (tS T W body) E σ H := by
  refine ⟨env, m, S, he, r, (PostK.st he h).imp fun its S1 m1 H1 _ x1 r1 h1 J wk => ?_⟩
  obtain ⟨G, Y, w1, w2, w3⟩ := wk.ex
  let Pv : Nat → L2.St → Hp → Prop := fun i σ' H' => ∃ env' S' m', REnv T m' H' env' σ' ∧ RS T m' H' S' ∧ Ext0 m1 H1 m' H' ∧ PostS T (forGo t its.g body (its.xs.drop i) env' S') m' H' W E
  refine ⟨fun i k σ' H' => k = its.xs.length - i ∧ i ≤ its.xs.length ∧ Pv i σ' H', ⟨its.xs.length, by simp, Nat.zero_le _, env, S1, m1, he.ext x1, r1, Ext0.refl, h1⟩, ?_⟩
  rintro i k σ' H' ⟨rfl, hi, env', S', m', he', r', x', hp⟩
  have hg : gOk its.g S' = true := by
    cases hd : its.xs.drop i with
    | nil =>
      rw [hd, forGo] at hp
      split at hp
      · assumption
      · exact hp.elim
    | cons _ _ =>
      rw [hd, forGo] at hp
      split at hp
      · assumption
      · exact hp.elim
  have hG := w2 m' H' S' x' r' hg
  by_cases hlt : i < its.xs.length
  · refine .inr ⟨w1.goes i H' hlt hG, Pv (i + 1), fun σ2 H2 p' => ⟨its.xs.length - (i + 1), by omega, rfl, hlt, p'⟩, fun x H2 y => ?_⟩
    obtain ⟨ey, ry, d, hd1, hd2⟩ := w3 i m' H' S' x H2 hlt x' r' hg (w1.yields i H' x H2 hlt hG y)
    rw [List.getElem?_eq_getElem hlt] at hd1
    cases hd1
    rw [List.drop_eq_getElem_cons hlt, forGo, if_pos hg] at hp
    cases e1 : t.asg its.xs[i] env' with
    | none =>
      rw [e1] at hp
      exact hp.elim
    | some env1 =>
      rw [e1] at hp
      simp only at hp
      refine Ev.T.use t _ x env' env1 _ _ e1 hd2 (he'.ext ey) fun σ2 he2 _ => ⟨env1, m', S', he2, ry, ?_⟩
      have hp := PostS.ext hp ey
      cases e2 : body env1 S' with
      | nx e2' Sb =>
        rw [e2] at hp
        exact fun m3 H3 σ3 x3 r3 he3 => ⟨e2', Sb, m3, he3, r3, (x'.trans ey.toExt0).trans x3.toExt0, PostS.ext hp x3⟩
      | ct e2' Sb =>
        rw [e2] at hp
        exact fun m3 H3 σ3 x3 r3 he3 => ⟨e2', Sb, m3, he3, r3, (x'.trans ey.toExt0).trans x3.toExt0, PostS.ext hp x3⟩
      | bk e2' Sb =>
        rw [e2] at hp
        exact hp
      | rt d Sb =>
        rw [e2] at hp
        exact hp
      | exc x e2' Sb =>
        rw [e2] at hp
        exact hp
      | stuck =>
        rw [e2] at hp
        exact hp
  · have ei : i = its.xs.length := by omega
    subst ei
    rw [List.drop_length, forGo, if_pos hg] at hp
    exact .inl ⟨w1.stops H' hG, hp m' H' σ' Ext.refl r' he'⟩
theorem whl_use {test : Env → Store → R Bool} {n : Nat} (he : REnv T m H env σ) (r : RS T m H S) (h : PostS T (whlGo test body n env S) m H W E) : tWhile (tB T W test) (tS T W body) E σ H := by
  refine ⟨fun k σ' H' => ∃ env' S' m', REnv T m' H' env' σ' ∧ RS T m' H' S' ∧ PostS T (whlGo test body k env' S') m' H' W E, ⟨n, env, S, m, he, r, h⟩, ?_⟩
  rintro k σ' H' ⟨env', S', m', he', r', hp⟩
  cases k with
  | zero => exact hp.elim
  | succ k =>
    rw [whlGo] at hp
    refine ⟨env', m', S', he', r', (PostK.st he' hp).imp fun b S1 m1 H1 _ x1 r1 h1 => ?_⟩
    cases b with
    | false =>
      simp only [Bool.false_eq_true, if_false] at h1 ⊢
      exact h1 m1 H1 σ' Ext.refl r1 (he'.ext x1)
    | true =>
      simp only [if_true] at h1 ⊢
      refine ⟨fun σ2 H2 => ∃ env' S' m', REnv T m' H2 env' σ2 ∧ RS T m' H2 S' ∧ PostS T (whlGo test body k env' S') m' H2 W E, fun σ2 H2 p => ⟨k, Nat.lt_succ_self k, p⟩, env', m1, S1, he'.ext x1, r1, ?_⟩
      cases e2 : body env' S1 with
      | nx e2' Sb =>
        rw [e2] at h1
        exact fun m3 H3 σ3 x3 r3 he3 => ⟨e2', Sb, m3, he3, r3, PostS.ext h1 x3⟩
      | ct e2' Sb =>
        rw [e2] at h1
        exact fun m3 H3 σ3 x3 r3 he3 => ⟨e2', Sb, m3, he3, r3, PostS.ext h1 x3⟩
      | bk e2' Sb =>
        rw [e2] at h1
        exact h1
      | rt d Sb =>
        rw [e2] at h1
        exact h1
      | exc x e2' Sb =>
        rw [e2] at h1
        exact h1
      | stuck =>
        rw [e2] at h1
        exact h1
end

/-! ### a call of a function of the table -/
section
variable {X : Cx} {k : Nat} {f : Addr} {fd : FuncData} {ps : List Str} {sp : Sp} {E : L2.St → XK} {x : Str} {p pos : Pos} {e : Expr} {es : List Expr} {t : TA}
theorem run_fnG {pins : List (Addr × Obj)} {σ : L2.St} {H : Hp} {s : Shared} {Q : VK} {us : List Value} {vs : List V} (F : FnG X.prog X.w X.K X.mg X.base (L2N.CX X.prog X.w) k f fd ps sp) (hr : Rm k X.A) (hb : Binds X.K fd ps []) (hx : PassesAt (L2N.CX X.prog X.w) X σ (E σ))
    (I : Inv X pins σ H s) (r : Vals vs us) (h : sp vs H Q (E σ)) : wpAny (model X.prog X.w) X.A (call (.ref f) us) (EP X pins σ Q) X.xe s := by
  have hl : us.length = ps.length := by rw [← r.length]; exact F.len _ _ _ _ h
  have b := hb s us I.kIn (by rw [List.append_nil]; exact hl)
  rw [List.append_nil] at b
  refine wpAny_call (codeAny_mono (F.run X.A X.stack s H ⟨us, []⟩ us vs Q (E σ) hr I.env0 b r h) fun r s' hq => ?_)
  cases r with
  | error e => exact hx pins H s e s' I hq
  | ok fl =>
    cases fl with
    | ret u => exact I.after hq
    | next => exact False.elim hq
    | brk => exact False.elim hq
    | cont => exact False.elim hq
theorem pe_callG (F : FnG X.prog X.w X.K X.mg X.base (L2N.CX X.prog X.w) k f fd ps sp) (hr : Rm k X.A) (hg : Gl X x) (hm : X.mg x = some (.ref f)) (hk : PySem.W.keepIn X.K (.ref f) = true) (hb : Binds X.K fd ps []) (hx : ∀ σ, PassesAt (L2N.CX X.prog X.w) X σ (E σ))
    (ha : PA X (e :: es) t) (hdb : (x == ("__debug__" : Str)) = false) (he : starEach (e :: es) X.env = (false, eval e X.env) :: starEach es X.env) (hpl : (backTo pos (starEach es X.env)).any (·.1) = false) :
    PE X (.Call (.Name x p) (e :: es) [] pos) (tCallS sp E t) := by
  refine ⟨fun pins s σ H Q I h => ?_⟩
  refine wpAny_Call_Name_kw (ld_glob I hg hm ?_ hdb)
  refine PySem.W.callWith_K (h₀ := X.base) I.ok.mod.kin hk (thn (ha.run pos pins s σ H _ I h) fun us s1 ⟨vs, H1, I1, r, q⟩ => ⟨I1.kIn, ?_⟩) he hpl
  exact run_fnG F hr hb (hx σ) I1 r q
theorem pe_callG0 (F : FnG X.prog X.w X.K X.mg X.base (L2N.CX X.prog X.w) k f fd ps sp) (hr : Rm k X.A) (hg : Gl X x) (hm : X.mg x = some (.ref f)) (hk : PySem.W.keepIn X.K (.ref f) = true) (hb : Binds X.K fd ps []) (hx : ∀ σ, PassesAt (L2N.CX X.prog X.w) X σ (E σ))
    (hdb : (x == ("__debug__" : Str)) = false) : PE X (.Call (.Name x p) [] [] pos) (tCallS sp E tNil) := by
  refine ⟨fun pins s σ H Q I h => ?_⟩
  refine wpAny_Call_Name_kw (ld_glob I hg hm ?_ hdb)
  exact PySem.W.callWith_K0 I.kIn hk (run_fnG (us := []) F hr hb (hx σ) I .nil h)
end
section
variable {T : Ad} {m : Mp} {H : Hp} {σ : L2.St} {W : WX} {S : Store} {Q : VK} {ds : List D} {vs : List V}
theorem call_use {c : List D → Store → R D} {n : Nat} (r : RS T m H S) (hv : RDs T m H ds vs) (hl : c ds S ≠ .stuck → ds.length = n) (h : PostK T (c ds S) m H σ W (KQ T Q)) : spC T c n vs H Q (WE W σ) := by
  refine ⟨?_, m, ds, S, r, hv, ?_⟩
  · rw [hv.length]
    exact hl fun e => by rw [e] at h; exact h
  · cases e : c ds S with
    | ok d S1 =>
      rw [e] at h
      exact fun v m' H' x r1 hv => h m' H' x r1 v hv
    | exc x S1 =>
      rw [e] at h
      exact h
    | stuck =>
      rw [e] at h
      exact h
end
end Ev


namespace Ev
open PySem PySem.Spec L2 PyProof.Rows LamX
def saidCs : Scope := { kind := ScopeKind.function, names := [(".0", .local), ("_law_name", .local), ("_law_is_so", .local)], isGenerator := false, isCoroutine := false, more := [] }
def EhS (T : Ad) (R c0 c1 c2 c3 : Addr) (Q : VK) : XK := fun cls d H' => ∃ D b0 b1 b2 b3, cls = .ref D ∧ d = none ∧ SaidC T.K R c0 c1 c2 c3 D b0 b1 b2 b3 ∧ ∃ m S, RS T m H' S ∧ ∀ v m2 H2, Ext m H' m2 H2 → RS T m2 H2 S → RD T m2 H2 (.tup [.str "refused", .lst ((saidT saidX [b0, b1, b2, b3]).map Ev.D.str)]) v → Q v H2
def TTs (T : Ad) (R c0 c1 c2 c3 : Addr) (tl : XK → Hp → VK → Prop) (H : Hp) (Q : VK) : Prop := tl (EhS T R c0 c1 c2 c3 Q) H fun v H' => 2 ≤ sizeLine ∧ ∀ p, H' p = none → Q (.ref p) (L2.upd H' p (.tup [.str "told", v]))
theorem takes_len {X : Cx} {W : WX} {n : Nat} (hn : X.N.length = n) (t : L2N.Takes X W) : L2N.Takes X (fun c d σ H => σ.length = n → W c d σ H) := fun u s' ⟨a, B, sI, pins, σ, H, cls, d, e, I, nb, up, sky, na, os, ag, w⟩ =>
  t u s' ⟨a, B, sI, pins, σ, H, cls, d, e, I, nb, up, sky, na, os, ag, w (I.len.trans hn)⟩
theorem takes0N {X : Cx} : L2N.Takes X (fun _ _ _ _ => False) := fun _ _ x => by
  obtain ⟨_, _, _, _, _, _, _, _, _, _, _, _, _, _, _, _, z⟩ := x
  exact z.elim
theorem saidT_len : ∀ (xs : List Str) (bs : List Bool), (saidT xs bs).length ≤ xs.length
  | [], _ => by simp [saidT]
  | x :: xs, [] => by simp [saidT]
  | x :: xs, true :: bs => by simpa [saidT] using saidT_len xs bs
  | x :: xs, false :: bs => by
    have := saidT_len xs bs
    simp only [saidT, List.length_cons]
    show (saidT xs bs).length ≤ _
    omega
theorem saidT_step {b0 b1 b2 b3 : Bool} {xv yv : V} : ∀ i, i < 4 → (saidX.map V.str)[i]? = some xv → ([b0, b1, b2, b3].map V.bl)[i]? = some yv → ∃ x b, xv = .str x ∧ yv = .bl b ∧ saidT (saidX.take (i + 1)) ([b0, b1, b2, b3].take (i + 1)) = saidT (saidX.take i) ([b0, b1, b2, b3].take i) ++ (if b = true then [x] else [])
  | 0, _, hx, hy => by
    cases hx
    cases hy
    refine ⟨_, _, rfl, rfl, ?_⟩
    cases b0 <;> rfl
  | 1, _, hx, hy => by
    cases hx
    cases hy
    refine ⟨_, _, rfl, rfl, ?_⟩
    cases b0 <;> cases b1 <;> rfl
  | 2, _, hx, hy => by
    cases hx
    cases hy
    refine ⟨_, _, rfl, rfl, ?_⟩
    cases b0 <;> cases b1 <;> cases b2 <;> rfl
  | 3, _, hx, hy => by
    cases hx
    cases hy
    refine ⟨_, _, rfl, rfl, ?_⟩
    cases b0 <;> cases b1 <;> cases b2 <;> cases b3 <;> rfl
  | n + 4, h, _, _ => absurd h (by omega)
section
variable {X : Cx} {T : Ad}
/-- the suite: what the exception is told as -/
def tSaid (T : Ad) (R c0 c1 c2 c3 : Addr) (a : Addr) (cls : Value) (d : Option Addr) : TS := fun D σ H => σ.length = 6 ∧ EhS T R c0 c1 c2 c3 D.rt cls d H ∧ H a = none ∧ σ[1]? = some (some (.ref a))
def saidS (q : Nat → Pos) : List Stmt := match saidB q with
  | [.Try _ [.ExceptHandler _ _ b _] _ _ _] => b
  | _ => []
theorem said_suite {Y : Cx} {R c0 c1 c2 c3 a : Addr} {cls : Value} {d : Option Addr} {oe : Obj} {pn : List (Addr × Obj)} {q : Nat → Pos} (hK : T.K = Y.K) (hN : Y.N = saidN) (hsc : Y.env.scope = saidSc) (hfn : Y.fn = fun _ => true)
    (m0 : Y.mg "NoCondition" = some (.ref c0)) (m1 : Y.mg "NoValues" = some (.ref c1)) (m2 : Y.mg "NoThrough" = some (.ref c2)) (m3 : Y.mg "NoNumber" = some (.ref c3)) (mi : Y.mg "isinstance" = none) (mz : Y.mg "zip" = none)
    (hz : L2N.Zn cls d oe) (hf : ∃ vs, oe.data = .fields vs) : PSs (Y.suite a ((a, oe) :: pn)) (saidS q) (tSaid T R c0 c1 c2 c3 a cls d) := by
  refine ⟨fun pins s σ H D I ⟨hl, hE, hna, hs1⟩ => ?_⟩
  obtain ⟨Da, b0, b1, b2, b3, rfl, rfl, C, m, S, rs, fin⟩ := hE
  have C' : ExcC Y.K Da := hK ▸ C.ec
  have e0 : PySem.W.kitOne Y.K (.ref Da) (.ref c0) = some b0 := hK ▸ C.k0
  have e1 : PySem.W.kitOne Y.K (.ref Da) (.ref c1) = some b1 := hK ▸ C.k1
  have e2 : PySem.W.kitOne Y.K (.ref Da) (.ref c2) = some b2 := hK ▸ C.k2
  have e3 : PySem.W.kitOne Y.K (.ref Da) (.ref c3) = some b3 := hK ▸ C.k3
  obtain ⟨X', hX'⟩ : ∃ X', X' = Y.suite a ((a, oe) :: pn) := ⟨_, rfl⟩
  have gl : ∀ x, saidSc.names.lookup x = some .globalImplicit → Gl X' x := fun x h => by
    subst hX'
    show Y.env.kindOf x = _
    unfold PySem.Env.kindOf
    rw [hsc]
    exact h
  have vis : ∀ x, saidSc.names.lookup x = some .local → Vis X'.env.scope x := fun x h => .inl (by subst hX'; show Y.env.scope.names.lookup x = _; rw [hsc]; exact h)
  have loc : ∀ x, saidSc.names.lookup x = some .local → Loc X'.env.scope x := fun x h => .inl (by subst hX'; show Y.env.scope.names.lookup x = _; rw [hsc]; exact h)
  have N' : X'.N = saidN := by subst hX'; exact hN
  have nd : X'.N.Nodup := by rw [N']; decide
  have iN : ∀ (i : Nat) x, saidN[i]? = some x → X'.N[i]? = some x := fun i x h => by rw [N']; exact h
  have cis : CallR X' (.builtin "isinstance") (rIsE Y.K Da a) := by subst hX'; exact call_isE C' hz.zc hf
  have M0 : X'.mg "NoCondition" = some (.ref c0) := by subst hX'; exact m0
  have M1 : X'.mg "NoValues" = some (.ref c1) := by subst hX'; exact m1
  have M2 : X'.mg "NoThrough" = some (.ref c2) := by subst hX'; exact m2
  have M3 : X'.mg "NoNumber" = some (.ref c3) := by subst hX'; exact m3
  have MI : X'.mg "isinstance" = none := by subst hX'; exact mi
  have MZ : X'.mg "zip" = none := by subst hX'; exact mz
  have fn' : ∀ x, X'.fn x = true := fun x => by subst hX'; show Y.fn x = true; rw [hfn]
  have one : ∀ (x : Str) (c : Addr) (p1 p2 p3 p4 : Pos), Gl X' x → X'.mg x = some (.ref c) → (x == ("__debug__" : Str)) = false → PE X' (.Call (.Name "isinstance" p1) [.Name "e" p2, .Name x p3] [] p4) (tCB (rIsE Y.K Da a) (tCons (tVar 1) (tCons (tC (.ref c)) tNil))) := fun x c p1 p2 p3 p4 g mg db =>
    pe_callB cis (gl _ rfl) MI rfl (pa_cons (pe_var (i := 1) (iN 1 _ rfl) (vis _ rfl)) (pa_cons (pe_glob g mg rfl db) pa_nil))
  have S1 := ps_set (pos := q 24) (pos' := q 6) (i := 2) nd (iN 2 "_law_marks" rfl) (loc _ rfl) (pe_lst (pos := q 23) (pa_cons (one _ _ (q 7) (q 8) (q 9) (q 10) (gl "NoCondition" rfl) M0 rfl) (pa_cons (one _ _ (q 11) (q 12) (q 13) (q 14) (gl "NoValues" rfl) M1 rfl) (pa_cons (one _ _ (q 15) (q 16) (q 17) (q 18) (gl "NoThrough" rfl) M2 rfl) (pa_cons (one _ _ (q 19) (q 20) (q 21) (q 22) (gl "NoNumber" rfl) M3 rfl) pa_nil))))) (hf := .inl (fn' _))
  have S2 := ps_set (pos := q 31) (pos' := q 25) (i := 3) nd (iN 3 "_law_names" rfl) (loc _ rfl) (pe_lst (pos := q 30) (pa_cons (pe_str (x := "condition") (j := 0) (pos := q 26)) (pa_cons (pe_str (x := "values") (j := 0) (pos := q 27)) (pa_cons (pe_str (x := "through") (j := 0) (pos := q 28)) (pa_cons (pe_str (x := "number") (j := 0) (pos := q 29)) pa_nil))))) (hf := .inl (fn' _))
  have hp : HotP X' a oe := by
    subst hX'
    obtain ⟨vs, hvs⟩ := hf
    exact ⟨List.mem_cons_self, rfl, vs, hvs, hz.2.2 vs hvs⟩
  have ok : BlkOk X'.N X'.env.scope saidCs [("_law_name", 4), ("_law_is_so", 5)] := by
    rw [N']
    refine ⟨rfl, by decide, by decide, fun y hy e => ?_, by decide⟩
    have hy : y ∈ ([(".0", .local), ("_law_name", .local), ("_law_is_so", .local)] : List (Str × NameKind)) := hy
    simp only [List.mem_cons, List.not_mem_nil, or_false] at hy
    rcases hy with rfl | rfl | rfl <;> cases e
  have lc := pe_lcZ (X := X') (scope := saidCs) (own := [("_law_name", 4), ("_law_is_so", 5)]) (elt := .Name "_law_name" (q 33)) (elts := [.Name "_law_name" (q 34), .Name "_law_is_so" (q 35)]) (kk := 0) (tpos := q 36) (p1 := q 37) (p2 := q 40) (pos := q 42) (e1 := .Name "_law_names" (q 38)) (e2 := .Name "_law_marks" (q 39)) (ifs := [.Name "_law_is_so" (q 41)])
    (g := gTup X'.K 2 (gCons (gName 4) (gCons (gName 5) gNil))) (tt := fun σ H Q => tVar 5 σ H fun x H' => ∃ k, TruV X'.K x H' k ∧ Q k H') (te := tVar 4)
    hp nd ok (gl "zip" rfl) MZ (pa_cons (pe_var (i := 3) (iN 3 _ rfl) (vis _ rfl)) (pa_cons (pe_var (i := 2) (iN 2 _ rfl) (vis _ rfl)) pa_nil)) rfl rfl (fun _ => rfl)
    (fun s H C cl fp hot => pg_tupH hot (pgs_cons (pg_name nd (iN 4 _ rfl) (.inl rfl) (.inr rfl)) (pgs_cons (pg_name nd (iN 5 _ rfl) (.inl rfl) (.inr rfl)) pgs_nil)) rfl rfl)
    (fun s H C cl fp => pts_one (pt_truth (pe_var (i := 5) (iN 5 _ rfl) (.inl rfl)) fun _ => rfl))
    (fun s H C cl fp => pe_var (i := 4) (iN 4 _ rfl) (.inl rfl))
  have S3 := ps_ret (pos := q 44) (pe_tup (x1 := 0) (pos := q 43) (pa_cons (pe_str (x := "refused") (j := 0) (pos := q 32)) (pa_cons lc pa_nil)))
  have all := pss_cons S1 (pss_cons S2 (pss_cons S3 pss_nil))
  subst hX'
  refine all.run pins s σ H D I ?_
  clear all S3 S2 S1 lc ok hp one cis
  match σ, hl with
  | [x0, x1, x2, x3, x4, x5], _ =>
  have hs1 : x1 = some (.ref a) := Option.some.inj hs1
  subst hs1
  have one : ∀ (c : Addr) (v : V) (u : Value), V.ref c = v → RelV v u → u = Value.ref c := fun c v u e r => by subst e; exact r
  refine ⟨.ref a, rfl, .ref c0, .ref c0, b0, rfl, fun u r => r, e0, ?_⟩
  refine ⟨.ref a, rfl, .ref c1, .ref c1, b1, rfl, fun u r => r, e1, ?_⟩
  refine ⟨.ref a, rfl, .ref c2, .ref c2, b2, rfl, fun u r => r, e2, ?_⟩
  refine ⟨.ref a, rfl, .ref c3, .ref c3, b3, rfl, fun u r => r, e3, ?_⟩
  refine ⟨by show 4 ≤ sizeLine; decide, fun p1 h1 => ?_⟩
  refine ⟨by show 4 ≤ sizeLine; decide, fun p2 h2 => ?_⟩
  obtain ⟨H1, hH1⟩ : ∃ H1, H1 = L2.upd H p1 (.lst [V.bl b0, V.bl b1, V.bl b2, V.bl b3]) := ⟨_, rfl⟩
  have h2 : H1 p2 = none := by rw [hH1]; exact h2
  obtain ⟨H2, hH2⟩ : ∃ H2, H2 = L2.upd H1 p2 (.lst (saidX.map V.str)) := ⟨_, rfl⟩
  have rs1 : RS T m H1 S := hH1 ▸ rs.new h1
  have rs2 : RS T m H2 S := hH2 ▸ rs1.new h2
  have ex2 : Ext m H m H2 := (hH1 ▸ Ext.new rs h1 : Ext m H m H1).trans (hH2 ▸ Ext.new rs1 h2)
  have n12 : p1 ≠ p2 := by rintro rfl; rw [hH1, upd_same] at h2; cases h2
  have g1 : H2 p1 = some (.lst ([b0, b1, b2, b3].map V.bl)) := by rw [hH2, upd_ne n12, hH1]; exact upd_same
  have g2 : H2 p2 = some (.lst (saidX.map V.str)) := by rw [hH2]; exact upd_same
  have f1 : ¬ m.has p1 := rs.notin h1
  have f2 : ¬ m.has p2 := rs1.notin h2
  unfold gName
  dsimp only [tSeq, tRet, tTup, tCons, tC, tNil]
  rw [show L2.upd (L2.upd H p1 (.lst [V.bl b0, V.bl b1, V.bl b2, V.bl b3])) p2 (.lst [V.str (Str.ofString "condition"), V.str (Str.ofString "values"), V.str (Str.ofString "through"), V.str (Str.ofString "number")]) = H2 from by rw [hH2, hH1]; rfl]
  refine ⟨.ref p2, rfl, .ref p1, rfl, p2, p1, saidX.map V.str, [b0, b1, b2, b3].map V.bl, rfl, SqL.of g2, SqL.of g1, fun L hL => ?_⟩
  have nL1 : p1 ≠ L := by rintro rfl; rw [g1] at hL; cases hL
  have nL2 : p2 ≠ L := by rintro rfl; rw [g2] at hL; cases hL
  have kp : ∀ {ys : List Ev.D} {m' : Mp} {H' : Hp}, Acc T (m.hide L) (L2.upd H2 L (.lst [])) L ys S m' H' → SqL Y.K H' p2 (saidX.map V.str) ∧ SqL Y.K H' p1 ([b0, b1, b2, b3].map V.bl) := fun {ys m' H'} ac =>
    ⟨SqL.of (ac.e.lst p2 _ (by rw [upd_ne nL2]; exact g2) (by
      rintro (z | z)
      · exact f2 (.inl z)
      · rcases List.mem_cons.mp z with z | z
        · exact nL2 z
        · exact f2 (.inr z))).1, SqL.of (ac.e.lst p1 _ (by rw [upd_ne nL1]; exact g1) (by
      rintro (z | z)
      · exact f1 (.inl z)
      · rcases List.mem_cons.mp z with z | z
        · exact nL1 z
        · exact f1 (.inr z))).1⟩
  have wk := walk_zipF (K := Y.K) (a := p2) (b := p1) (xs := saidX.map V.str) (ys := [b0, b1, b2, b3].map V.bl) (Nat.le_refl _)
  refine ⟨fun i k H' => k = 4 - i ∧ i ≤ 4 ∧ ∃ m', Acc T (m.hide L) (L2.upd H2 L (.lst [])) L ((saidT (saidX.take i) ([b0, b1, b2, b3].take i)).map Ev.D.str) S m' H', ⟨4, rfl, Nat.zero_le _, _, Acc.start rs2 hL⟩, ?_⟩
  rintro i k H' ⟨rfl, hi, m', ac⟩
  by_cases hi4 : i = 4
  · subst hi4
    refine .inl ⟨wk.stops H' (kp ac), ?_⟩
    refine ac.fin (σ := []) (W := fun _ _ _ _ => True) (new := false) (Q := fun v H1 => [V.str "refused", v].length ≤ sizeLine ∧ ∀ p : Addr, H1 p = none → D.rt (V.ref p) (L2.upd H1 p (.tup [V.str "refused", v]))) rs2 hL ?_
    have hle : isz ((saidT saidX [b0, b1, b2, b3]).map Ev.D.str).length = true := by
      rw [List.length_map]
      exact decide_eq_true (Nat.le_trans (saidT_len _ _) (by show 4 ≤ sizeLine; decide))
    have em : mkL false ((saidT (saidX.take 4) ([b0, b1, b2, b3].take 4)).map Ev.D.str) S = .ok (.lst ((saidT saidX [b0, b1, b2, b3]).map Ev.D.str)) S := by
      unfold mkL
      rw [show (saidX.take 4) = saidX from rfl, show ([b0, b1, b2, b3].take 4) = [b0, b1, b2, b3] from rfl, if_pos hle]
      rfl
    rw [em]
    intro m3 H3 e3 r3 v rv
    refine ⟨by show 2 ≤ sizeLine; decide, fun p hp => fin (.ref p) m3 _ ((ex2.trans e3).trans (Ext.new r3 hp)) (r3.new hp) ⟨p, [.str "refused", v], rfl, .inl (.inl upd_same), .str "refused", [v], rfl, rfl, v, [], rfl, ?_, rfl⟩⟩
    exact RD.ext (Ext.new r3 hp) _ _ rv
  · refine .inr ⟨wk.goes i H' (show i < 4 by omega) (kp ac), fun H'' => ∃ m', Acc T (m.hide L) (L2.upd H2 L (.lst [])) L ((saidT (saidX.take (i + 1)) ([b0, b1, b2, b3].take (i + 1))).map Ev.D.str) S m' H'', fun H'' hn => ⟨4 - (i + 1), by omega, rfl, by omega, hn⟩, fun x H'' y => ?_⟩
    obtain ⟨Tp, xv, yv, rfl, hT, rfl, hx, hy⟩ := wk.yields i H' x H'' (show i < 4 by omega) (kp ac) y
    obtain ⟨xs, b, rfl, rfl, st⟩ := saidT_step i (show i < 4 by omega) hx hy
    have ac2 := ac.ext List.mem_cons_self (Ext.new (o := .tup [V.str xs, V.bl b]) ac.rs hT) (ac.rs.new hT)
    refine ⟨Tp, [V.str xs, V.bl b], rfl, .inl (.inl upd_same), rfl, V.str xs, [V.bl b], rfl, V.bl b, [], rfl, rfl, rfl, V.bl b, rfl, b, rfl, ?_⟩
    rw [st]
    cases b with
    | false =>
      rw [if_neg (by decide), if_neg (by decide), List.append_nil]
      exact ⟨m', ac2⟩
    | true =>
      rw [if_pos rfl, if_pos rfl]
      obtain ⟨acc, h5, h6⟩ := ac2.at_
      refine ⟨V.str xs, rfl, acc, h5, ?_, m', ?_⟩
      · have e6 : acc.length = ((saidT (saidX.take i) ([b0, b1, b2, b3].take i)).map Ev.D.str).length := by
          first | exact h6.length | exact (RDs.length h6) | exact RDs.len h6
        rw [e6, List.length_map]
        have l1 := saidT_len (saidX.take i) ([b0, b1, b2, b3].take i)
        have l2 : (saidX.take i).length ≤ 4 := by
          rw [List.length_take]
          exact Nat.le_trans (Nat.min_le_right _ _) (by decide)
        have l3 : 4 < sizeLine := by decide
        omega
      · rw [List.map_append]
        exact ac2.push List.mem_cons_self h5 (by first | rfl | exact rfl)
/-- the def gives what it is told -/
theorem said_gives {R c0 c1 c2 c3 g : Addr} {cdg : Value} {x qn : Str} {q : Nat → Pos} (hK : T.K = X.K) (mR : X.mg "RanError" = some (.ref R))
    (m0 : X.mg "NoCondition" = some (.ref c0)) (m1 : X.mg "NoValues" = some (.ref c1)) (m2 : X.mg "NoThrough" = some (.ref c2)) (m3 : X.mg "NoNumber" = some (.ref c3)) (mi : X.mg "isinstance" = none) (mz : X.mg "zip" = none) :
    GivesN X saidN x saidSc g cdg (saidB q) "_law_ask" qn (TTs T R c0 c1 c2 c3) := by
  intro f c' s H Q tl act hc h
  refine ⟨_, pss_one (L2N.ps_try_as (X := (toldCx X saidN x saidSc g cdg s H).nox) (c := .ref R) (i := 1) (n := "e")
      (tb := fun W D σ H => ∃ Ech : XK, (∀ cls d σ' H', Ech cls d H' → σ'.length = 6 → W cls d σ' H') ∧ σ[0]? = some (some (.ref f)) ∧ H c' = some (CodeO c' qn) ∧ tl Ech H fun v H1 => 2 ≤ sizeLine ∧ ∀ p, H1 p = none → D.rt (.ref p) (L2.upd H1 p (.tup [.str "told", v])))
      rfl rfl (show saidN.Nodup by decide) rfl rfl ⟨rfl, rfl, .inl mR⟩ takes0N (fun W pn xe tk _ => ?_) (fun a oe cls d pn hz hf => said_suite (T := T) (R := R) (q := q) hK rfl rfl rfl m0 m1 m2 m3 mi mz hz hf)), ?_⟩
  · refine ⟨fun pins s' σ H' D I h' => ?_⟩
    obtain ⟨Ech, hW, h1, h2, h3⟩ := h'
    have hp := act (fun c d σ H => σ.length = 6 → W c d σ H) pn xe Ech (q 1) (q 2) (takes_len rfl tk) hW
    have hq := pss_one (ps_ret (pos := q 4) (pe_tup (x1 := 0) (pos := q 3) (pa_cons (pe_str (x := "told") (j := 0) (pos := q 0)) (pa_cons hp pa_nil))))
    exact hq.run pins s' σ H' D I ⟨h1, h2, h3⟩
  · refine ⟨EhS T R c0 c1 c2 c3 Q, fun cls d σ' H' hE hl => ?_, rfl, hc, ?_⟩
    · obtain ⟨D, b0, b1, b2, b3, rfl, rfl, C, r⟩ := hE
      refine ⟨true, hK ▸ C.rn, fun _ a ha => ?_, fun z => Bool.noConfusion z⟩
      match σ', hl with
      | [x0, x1, x2, x3, x4, x5], _ => exact ⟨rfl, ⟨D, b0, b1, b2, b3, rfl, rfl, C, r⟩, ha, rfl⟩
    · exact h
end
end Ev


namespace Ev
open PySem PySem.Spec L2 PyProof.Rows

/-! ### small facts of the written program -/
/-- neither starred, nor a set, a slice, a call of nothing -/
def okX : Expr → Bool
  | .Starred .. => false
  | .Set .. => false
  | .Slice .. => false
  | .Call (.Name id _) [] [] _ => !(id == "super")
  | _ => true
def noIf : Expr → Bool
  | .IfExp .. => false
  | _ => true
def isBo : Expr → Bool
  | .BoolOp .. => true
  | _ => false
/-- a test by its value's truth -/
def plX : Expr → Bool
  | .UnaryOp .Not _ _ => false
  | .BoolOp .. => false
  | .IfExp .. => false
  | .Compare .. => false
  | _ => true
theorem star_of {e : Expr} {es : List Expr} {env : PySem.Env} (h : okX e = true) : starEach (e :: es) env = (false, eval e env) :: starEach es env := by
  cases e <;> first | rfl | (cases h)
theorem each_of {e : Expr} {es : List Expr} {env : PySem.Env} (h : okX e = true) : (assignEach (e :: es) env).map (·.2) = assign e env :: (assignEach es env).map (·.2) := by
  cases e <;> first | rfl | (cases h)
theorem base_of {e : Expr} {x : Str} {env : PySem.Env} (h : okX e = true) : attributeBase e x env (eval e env) = eval e env := by
  unfold attributeBase
  split
  · rename_i id _ _
    have h : (!(id == "super")) = true := h
    rw [Bool.not_eq_true'] at h
    have h2 : (id != "super") = true := by rw [bne, h]; rfl
    rw [h2, Bool.true_or, Bool.true_or, Bool.true_or]
    rfl
  · rfl
theorem fold_of {e : Expr} (h : okX e = true) (env : PySem.Env) (x : Value) : foldedSetIterable e env x = pure x := by
  cases e <;> first | rfl | (cases h)
theorem ix_of {e : Expr} (h : okX e = true) : PlainIx e := fun o i => by
  cases e <;> first | rfl | (cases h)
theorem mark_of {op : CmpOp} {e : Expr} (h : okX e = true) : behindInMarks op e = false := by
  cases e <;> first | rfl | (cases h)
theorem pl_of {e : Expr} {env : PySem.Env} (h : plX e = true) (whole : Sem Value) : isTrue e env whole = (do let v ← whole; standAt e.pos; holding [v] (truthy v)) := by
  cases e <;> first | rfl | (cases h) | (rename_i op x p; cases op <;> first | rfl | cases h)
theorem back_any {pos : Pos} : ∀ l : List (Bool × Sem Value), (backTo pos l).any (·.1) = l.any (·.1)
  | [] => rfl
  | a :: l => by
    show (a.1 || (backTo pos l).any (·.1)) = _
    rw [back_any l]
    rfl
theorem stars_no {env : PySem.Env} : ∀ {es : List Expr}, es.all okX = true → (starEach es env).any (·.1) = false
  | [], _ => rfl
  | e :: es, h => by
    rw [List.all_cons, Bool.and_eq_true] at h
    rw [star_of h.1]
    show (false || (starEach es env).any (·.1)) = false
    rw [stars_no h.2]
    rfl
theorem stars_any {pos : Pos} {env : PySem.Env} {es : List Expr} (h : es.all okX = true) : (backTo pos (starEach es env)).any (·.1) = false := by
  rw [back_any, stars_no h]
theorem few_one {cpos : Pos} {env : PySem.Env} {e : Expr} (h : okX e = true) : ((backTo cpos (starEach [e] env)).all (fun x => !x.1) && (backToKw cpos (keywordEach [] env)).all (fun x => x.1.isSome)
      && decide ([e].length + ([] : List Keyword).length + (if ([] : List Keyword).isEmpty then 0 else 1) < 30)) = true := by
  rw [star_of h]
  rfl

/-! ### the checker: a term is the written expression -/
def chkC : D → Const → Bool
  | .non, .none => true
  | .bl a, .bool b => a == b
  | .int i, .int j => decide (i = j)
  | .str a, .str b => decide (a = b)
  | _, _ => false
def chkB (op : Bop) (o : Operator) : Bool := decide (o = opB op)
def chkO (op : Cop) (o : CmpOp) : Bool := decide (o = opC op)
def stO (so : Scope) (x : Str) : Bool := decide (so.names.lookup x = some .local) || decide (so.names.lookup x = some .cell)
section
variable (nm : Names) (N : List Str)
mutual
def chkT (so : Scope) : Ev.T → Expr → Bool
  | .nm i, .Name x _ => decide (N[i]? = some x) && stO so x
  | .tp ts, .Tuple es _ _ => chkTs so ts es
  | _, _ => false
def chkTs (so : Scope) : Ts → List Expr → Bool
  | .nil, [] => true
  | .cons t ts, e :: es => okX e && chkT so t e && chkTs so ts es
  | _, _ => false
end
def isTup : Expr → Bool
  | .Tuple .. => true
  | _ => false
/-- a name of a built-in -/
def bltN (sc : Scope) (x : Str) : Bool := isGl sc x && nm.blt.contains x && noDbg x
def ownP (own : List Nat) : List (Str × Nat) := own.map fun i => (N.getD i "", i)
def rngArgs : Expr → Option (Str × List Expr)
  | .Call (.Name y _) as [] _ => some (y, as)
  | _ => none
def gens1 : List Comprehension → Option (Expr × Expr × List Expr)
  | [⟨tg, iter, ifx, 0⟩] => some (tg, iter, ifx)
  | _ => none
theorem gens1_eq {gs : List Comprehension} {a b : Expr} {c : List Expr} (h : gens1 gs = some (a, b, c)) : gs = [⟨a, b, c, 0⟩] := by
  unfold gens1 at h
  split at h
  · cases h
    rfl
  · cases h
def gens2 : List Comprehension → Option (Expr × Expr × Expr × Expr)
  | [⟨tg, iter, [], 0⟩, ⟨tg2, iter2, [], 0⟩] => some (tg, iter, tg2, iter2)
  | _ => none
/-- one to three -/
def few : List Expr → Bool
  | [_] => true
  | [_, _] => true
  | [_, _, _] => true
  | _ => false
theorem rngArgs_eq {w : Expr} {y : Str} {as : List Expr} (h : rngArgs w = some (y, as)) : ∃ p q, w = .Call (.Name y p) as [] q := by
  unfold rngArgs at h
  split at h
  · cases h
    exact ⟨_, _, rfl⟩
  · cases h
theorem gens2_eq {gs : List Comprehension} {a b c d : Expr} (h : gens2 gs = some (a, b, c, d)) : gs = [⟨a, b, [], 0⟩, ⟨c, d, [], 0⟩] := by
  unfold gens2 at h
  split at h
  · cases h
    rfl
  · cases h
/-- no parameters -/
def noArgs : Arguments → Bool
  | ⟨[], [], none, [], [], none, []⟩ => true
  | _ => false
theorem noArgs_eq {a : Arguments} (h : noArgs a = true) : a = ⟨[], [], none, [], [], none, []⟩ := by
  unfold noArgs at h
  split at h
  · rfl
  · cases h
mutual
def chkE (nm : Names) (N : List Str) (sc so : Scope) : E → Expr → Bool
  | .var i, .Name x _ => decide (N[i]? = some x) && isVis sc x && noDbg x
  | .con d, .Constant c _ _ => chkC d c
  | .glb k, .Name x _ => decide (nm.gls[k]? = some x) && isGl sc x && noDbg x
  | .tup es, .Tuple xs _ _ => chkEs nm N sc so es xs
  | .lst _ es, .List xs _ => chkEs nm N sc so es xs
  | .dct0, .Dict [] [] _ => true
  | .dct2 a b c d, .Dict [some (.Constant (.str a') _ _), some (.Constant (.str c') _ _)] [.Constant (.str b') _ _, .Constant (.str d') _ _] _ => decide (a = a') && decide (b = b') && decide (c = c') && decide (d = d')
  | .told a, .Call (.Name x _) [.Lambda params body scope _] [] _ => decide (nm.tld = some N) && decide (x = "_law_said") && isGl sc x && LamX.lamSB sc scope && noArgs params && chkE { nm with tld := none } N scope scope a body
  | .bin _ op a b, .BinOp x o y _ => chkB op o && chkE nm N sc so a x && chkE nm N sc so b y
  | .neg a, .UnaryOp .USub x _ => chkE nm N sc so a x
  | .nt a, .UnaryOp .Not x _ => noIf x && chkE nm N sc so a x
  | .cmp op a b, .Compare x [o] [y] _ => okX y && chkO op o && chkE nm N sc so a x && chkE nm N sc so b y
  | .cmp2 o1 o2 a b c, .Compare x [p1, p2] [y, z] _ => okX y && okX z && chkO o1 p1 && chkO o2 p2 && chkE nm N sc so a x && chkE nm N sc so b y && chkE nm N sc so c z
  | .and a b, .BoolOp .And (x :: y :: r) p => noIf x && chkE nm N sc so a x && (match r with
    | [] => noIf y && chkE nm N sc so b y
    | z :: r' => chkE nm N sc so b (.BoolOp .And (y :: z :: r') p))
  | .or a b, .BoolOp .Or (x :: y :: r) p => noIf x && chkE nm N sc so a x && (match r with
    | [] => noIf y && chkE nm N sc so b y
    | z :: r' => chkE nm N sc so b (.BoolOp .Or (y :: z :: r') p))
  | .ife c a b, .IfExp x y z _ => noIf x && chkE nm N sc so c x && chkE nm N sc so a y && chkE nm N sc so b z
  | .ix a b, .Subscript x y _ => okX y && chkE nm N sc so a x && chkE nm N sc so b y
  | .cutA _ a lo, .Subscript x (.Slice (some y) none none _) _ => chkE nm N sc so a x && chkE nm N sc so lo y
  | .cutB _ a hi, .Subscript x (.Slice none (some y) none _) _ => chkE nm N sc so a x && chkE nm N sc so hi y
  | .cutC _ a lo hi, .Subscript x (.Slice (some y) (some z) none _) _ => chkE nm N sc so a x && chkE nm N sc so lo y && chkE nm N sc so hi z
  | .rev _ a, .Subscript x (.Slice none none (some (.UnaryOp .USub (.Constant (.int j) _ _) _)) _) _ => decide (j = 1) && chkE nm N sc so a x
  | .call k es, .Call (.Name x _) xs [] _ => decide (nm.fns[k]? = some x) && isGl sc x && noDbg x && chkEs nm N sc so es xs
  | .bf _ f a, .Call (.Name x _) [y] [] _ => decide (x = bfNm f) && bltN nm sc x && okX y && chkE nm N sc so a y
  | .isi a t, .Call (.Name x _) [y, .Name z _] [] _ => decide (x = "isinstance") && bltN nm sc x && decide (z = tyNm t) && bltN nm sc z && okX y && chkE nm N sc so a y
  | .lrng1 _ e, .Call (.Name x _) [w] [] _ => match rngArgs w with
    | some (y, [a]) => decide (x = "list") && bltN nm sc x && decide (y = "range") && bltN nm sc y && okX a && chkE nm N sc so e a
    | _ => false
  | .lrng2 _ e f, .Call (.Name x _) [w] [] _ => match rngArgs w with
    | some (y, [a, b]) => decide (x = "list") && bltN nm sc x && decide (y = "range") && bltN nm sc y && okX a && okX b && chkE nm N sc so e a && chkE nm N sc so f b
    | _ => false
  | .mth0 m o, .Call (.Attribute x f p1) [] [] p2 => decide (f = mtNm m) && decide (p1.endLine = p2.line) && okX x && chkE nm N sc so o x
  | .mth1 m o a, .Call (.Attribute x f p1) [y] [] p2 => decide (f = mtNm m) && decide (p1.endLine = p2.line) && okX x && okX y && chkE nm N sc so o x && chkE nm N sc so a y
  | .comp _ own elt t it ifs, .ListComp ex gens scope _ => match gens1 gens with
    | some (tg, iter, ifx) => blkC N sc scope (ownP N own) && okX iter && t.slots.all own.contains && chkT N scope t tg && chkI nm N sc so it tg iter && chkW nm N (relS scope sc) scope ifs ifx && chkE nm N (relS scope sc) scope elt ex
    | none => false
  | .comp2 _ own elt t1 i1 t2 i2, .ListComp ex gens scope _ => match gens2 gens with
    | some (tg, iter, tg2, iter2) => blkC N sc scope (ownP N own) && okX iter && okX iter2 && t1.slots.all own.contains && t2.slots.all own.contains && chkT N scope t1 tg && chkT N scope t2 tg2 && chkI nm N sc so i1 tg iter && chkI nm N (relS scope sc) scope i2 tg2 iter2 && chkE nm N (relS scope sc) scope elt ex
    | none => false
  | _, _ => false
def chkEs (nm : Names) (N : List Str) (sc so : Scope) : Es → List Expr → Bool
  | .nil, [] => true
  | .cons e es, x :: xs => okX x && chkE nm N sc so e x && chkEs nm N sc so es xs
  | _, _ => false
/-- the tests of a clause -/
def chkW (nm : Names) (N : List Str) (sc so : Scope) : Es → List Expr → Bool
  | .nil, [] => true
  | .cons e .nil, [x] => noIf x && chkE nm N sc so e x
  | _, _ => false
def chkI (nm : Names) (N : List Str) (sc so : Scope) : I → Expr → Expr → Bool
  | .seq e, _, x => chkE nm N sc so e x
  | .rng es, _, .Call (.Name x _) xs [] _ => decide (x = "range") && bltN nm sc x && few xs && chkEs nm N sc so es xs
  | .zip a b, tg, .Call (.Name x _) [y, z] [] _ => decide (x = "zip") && bltN nm sc x && isTup tg && okX y && okX z && chkE nm N sc so a y && chkE nm N sc so b z
  | .enz a b, tg, .Call (.Name u _) [.Call (.Name x _) [y, z] [] _] [] _ => decide (u = "enumerate") && bltN nm sc u && decide (x = "zip") && bltN nm sc x && isTup tg && okX y && okX z && chkE nm N sc so a y && chkE nm N sc so b z
  | _, _, _ => false
end
theorem enz_call_of {nm : Names} {N : List Str} {sc so : Scope} {a b : E} {tg x : Expr} (h : chkI nm N sc so (.enz a b) tg x = true) : ∃ u p1 v p2 y z p3 p4, x = .Call (.Name u p1) [.Call (.Name v p2) [y, z] [] p3] [] p4 ∧
    (decide (u = "enumerate") && bltN nm sc u && decide (v = "zip") && bltN nm sc v && isTup tg && okX y && okX z && chkE nm N sc so a y && chkE nm N sc so b z) = true := by
  unfold chkI at h
  split at h <;> first | (cases h; done) | skip
  all_goals (first | (rename_i h1; cases h1; exact ⟨_, _, _, _, _, _, _, _, rfl, h⟩) | simp_all)
end
end Ev


namespace Ev
open PySem PySem.Spec L2 PyProof.Rows
def tstOf (f : Env → Store → R D) (env : Env) (S : Store) : R Bool := (f env S).bind fun x S => match truth S x with
  | some b => .ok b S
  | none => .stuck
/-- an expression is served by a term's reading -/
structure Snd (X : Cx) (T : Ad) (W : WX) (x : Expr) (f : Env → Store → R D) : Prop where
  pe : PE X x (tE T W f)
  pt : noIf x = true → PT X x (tB T W (tstOf f))
  pw : isBo x = true → PW X x (tB T W (tstOf f))
section
variable {T : Ad} {m : Mp} {H : Hp} {σ : L2.St} {W : WX} {S : Store} {Q : VK} {env : Env} {dx dy : D} {x y : V}
theorem truth_use {b : Bool} (r : RS T m H S) (hx : RD T m H dx x) (h : truth S dx = some b) : TruV T.K x H b := by
  cases dx with
  | non =>
    obtain rfl := rd_non hx
    cases h
    rfl
  | bl c =>
    obtain rfl := rd_bl hx
    cases h
    rfl
  | int i =>
    obtain rfl := rd_int hx
    cases h
    rfl
  | str z =>
    obtain rfl := rd_str hx
    have h : (if isz z.length then some ((z.length : Int) != 0) else none) = some b := h
    split at h
    · rename_i c
      cases h
      exact ⟨isz_of c, rfl⟩
    · cases h
  | tup xs =>
    cases h
    obtain ⟨p, vs, rfl, h2, h3⟩ := tup_of hx
    refine .inr (.inl ⟨vs, h2, ?_⟩)
    cases xs <;> cases vs <;> first | rfl | simp [RDs] at h3
  | lst xs =>
    cases h
    obtain ⟨p, vs, rfl, h2, h3⟩ := lst_of r rfl hx
    refine .inl ⟨vs, SqL.of h2, ?_⟩
    cases xs <;> cases vs <;> first | rfl | simp [RDs] at h3
  | scr ns =>
    cases h
    obtain ⟨p, rfl, h2⟩ := scr_of hx
    refine .inl ⟨_, h2, ?_⟩
    cases ns <;> rfl
  | fn k => cases h
  | tdc _ _ => cases h
  | ref l =>
    have h : (match S[l]? with | some (.lst xs) => some (!xs.isEmpty) | _ => none) = some b := h
    cases e : S[l]? with
    | none =>
      rw [e] at h
      cases h
    | some ob =>
      rw [e] at h
      cases ob with
      | dct _ => cases h
      | lst xs =>
        cases h
        obtain ⟨p, vs, rfl, h2, h3⟩ := lst_of (xs := xs) r (by simp only [lstOf, e]) hx
        refine .inl ⟨vs, SqL.of h2, ?_⟩
        cases xs <;> cases vs <;> first | rfl | simp [RDs] at h3
theorem some_B {o : Option Bool} {f : Bool → R D} {k : D → Store → Mp → Hp → Prop} (h : PostK T (match o with | some b => f b | none => .stuck) m H σ W k) : ∃ b, o = some b ∧ PostK T (f b) m H σ W k := by
  cases o with
  | none => exact h.elim
  | some b => exact ⟨b, rfl, h⟩
theorem some_Bt {o : Option Bool} {f : Bool → R Bool} {k : Bool → Store → Mp → Hp → Prop} (h : PostK T (match o with | some b => f b | none => .stuck) m H σ W k) : ∃ b, o = some b ∧ PostK T (f b) m H σ W k := by
  cases o with
  | none => exact h.elim
  | some b => exact ⟨b, rfl, h⟩
theorem tst_k {f : Env → Store → R D} {k : Bool → Store → Mp → Hp → Prop} (h : PostK T (tstOf f env S) m H σ W k) : PostK T (f env S) m H σ W fun d S1 m1 H1 => ∃ b, truth S1 d = some b ∧ k b S1 m1 H1 :=
  (PostK.bind h).imp fun d S1 m1 H1 _ x1 r1 h1 => by
    obtain ⟨b, e, h1⟩ := some_Bt h1
    exact ⟨b, e, h1 m1 H1 Ext.refl r1⟩
/-- one more expression -/
theorem seqE {f : Env → Store → R D} {k : D → Store → Mp → Hp → Prop} {Q' : VK} (he : REnv T m H env σ) (r : RS T m H S) (h : PostK T (f env S) m H σ W k) (next : ∀ dx S1 m1 H1, Ext m H m1 H1 → RS T m1 H1 S1 → k dx S1 m1 H1 → ∀ v, RD T m1 H1 dx v → Q' v H1) : tE T W f σ H Q' :=
  ⟨env, m, S, he, r, h.imp fun dx S1 m1 H1 _ x1 r1 h1 v hv => next dx S1 m1 H1 x1 r1 h1 v hv⟩
theorem seqA {f : Env → Store → R (List D)} {k : List D → Store → Mp → Hp → Prop} {Q' : List V → Hp → Prop} (he : REnv T m H env σ) (r : RS T m H S) (h : PostK T (f env S) m H σ W k) (next : ∀ ds S1 m1 H1, Ext m H m1 H1 → RS T m1 H1 S1 → k ds S1 m1 H1 → ∀ vs, RDs T m1 H1 ds vs → Q' vs H1) : tA T W f σ H Q' :=
  ⟨env, m, S, he, r, h.imp fun dx S1 m1 H1 _ x1 r1 h1 v hv => next dx S1 m1 H1 x1 r1 h1 v hv⟩
theorem seqB {f : Env → Store → R Bool} {k : Bool → Store → Mp → Hp → Prop} {Q' : Bool → Hp → Prop} (he : REnv T m H env σ) (r : RS T m H S) (h : PostK T (f env S) m H σ W k) (next : ∀ b S1 m1 H1, Ext m H m1 H1 → RS T m1 H1 S1 → k b S1 m1 H1 → Q' b H1) : tB T W f σ H Q' :=
  ⟨env, m, S, he, r, h.imp fun dx S1 m1 H1 _ x1 r1 h1 => next dx S1 m1 H1 x1 r1 h1⟩
/-- what was reached is as it stands -/
theorem PostK.now {α : Type} {a : α} {k : α → Store → Mp → Hp → Prop} (h : PostK T (.ok a S) m H σ W k) (r : RS T m H S) : k a S m H := h m H Ext.refl r
end
section
variable {T : Ad} {X : Cx} {W : WX} {x : Expr} {f : Env → Store → R D}
/-- a plain expression -/
theorem Snd.plain (hK : X.K = T.K) (h : plX x = true) (pe : PE X x (tE T W f)) : Snd X T W x f := by
  refine ⟨pe, fun _ => ?_, fun z => ?_⟩
  · refine ptImp (pt_truth pe (pl_of h)) fun σ H Q q => ?_
    obtain ⟨env, m, S, he, r, q⟩ := q
    refine ⟨env, m, S, he, r, (tst_k q).imp fun d S1 m1 H1 _ x1 r1 ⟨b, e, q⟩ v hv => ⟨b, ?_, q⟩⟩
    rw [hK]
    exact truth_use r1 hv e
  · cases x <;> first | (cases z; done) | (cases h)
end

/-! ### a comprehension's context -/
theorem Good.blk {T : Tb} {n : Nat} {N : List Str} {sc so : Scope} {X : Cx} {W : WX} (g : Good T n N sc so X W) (s : Shared) (H : Hp) (scope : Scope) (C : Addr) (cl : List (Str × Addr)) (fp : List Addr) :
    Good T n N (relS scope sc) scope (X.blk s H scope (compEnvC scope cl C X.env) fp) (fun _ _ _ _ => False) where
  hK := g.hK
  hmg := g.hmg
  hP := g.hP
  hw := g.hw
  hb := g.hb
  hN := g.hN
  nd := g.nd
  scp := by
    rw [← g.scp]
    rfl
  calm := g.calm
  rm := g.rm
  tk := fun u s' h => by
    obtain ⟨_, _, _, _, _, _, _, _, _, _, _, _, _, _, _, _, z⟩ := h
    exact z
  po := PassesOwn.never
  lam := fun h => ⟨(g.lam h).rm, (g.lam h).cd⟩
  st := fun x h => by
    have keep : ∀ {k : NameKind}, k ≠ .free → scope.names.lookup x = some k → (relS scope X.env.scope).names.lookup x = some k := fun hk e => lookup_relS_keep hk e
    rcases h with h | h
    · have := keep (by decide) h
      exact ⟨.inl this, .inr this⟩
    · have := keep (by decide) h
      refine ⟨.inr this, .inl ?_⟩
      show (scope.names.lookup x == some NameKind.cell) = true
      rw [h]
      rfl
section
variable {T : Tb} {n : Nat} {N : List Str} {sc so : Scope} {X : Cx} {W : WX}
theorem Good.hu7 (g : Good T n N sc so X W) : X.A.units + 70 < cLine := by
  have := g.rm.room.un
  omega
theorem Good.hu (g : Good T n N sc so X W) : X.A.units + 65 < cLine := by
  have := g.rm.room.un
  omega
theorem stO_of {x : Str} (h : stO so x = true) : so.names.lookup x = some .local ∨ so.names.lookup x = some .cell := by
  unfold stO at h
  simpa using h
theorem pg_either {e : Expr} {t u : TG} (h1 : PG X e t) (h2 : PG X e u) : PG X e (fun v σ H Q => t v σ H Q ∨ u v σ H Q) :=
  ⟨fun pins s σ H v w Q I r h => h.elim (h1.run pins s σ H v w Q I r) (h2.run pins s σ H v w Q I r)⟩
mutual
theorem sndT (g : Good T n N sc so X W) : ∀ (t : Ev.T) (x : Expr), chkT N so t x = true → PG X x (gT T.K t)
  | .nm i, x, h => by
    cases x <;> first | (cases h; done) | skip
    rename_i x p
    simp only [chkT, Bool.and_eq_true, decide_eq_true_eq] at h
    obtain ⟨h1, h2⟩ := g.st x (stO_of h.2)
    exact pg_name g.nd (by rw [g.hN]; exact h.1) h1 h2
  | .tp ts, x, h => by
    cases x <;> first | (cases h; done) | skip
    rename_i es k p
    have h : chkTs N so ts es = true := h
    obtain ⟨h1, h2, h3⟩ := sndTs g ts es h
    rw [gT, ← g.hK]
    rw [← g.hK] at h1
    exact pg_either (pg_tup g.calm h1 h2 h3) (pg_lst g.calm h1 h2 h3)
theorem sndTs (g : Good T n N sc so X W) : ∀ (ts : Ts) (es : List Expr), chkTs N so ts es = true → PGs X es (gTs T.K ts) ∧ (assignEach es X.env).length = Ts.len ts ∧ (assignEach es X.env).findIdx? (·.1) = none
  | .nil, es, h => by
    cases es with
    | nil => exact ⟨pgs_nil, rfl, rfl⟩
    | cons _ _ => cases h
  | .cons t ts, es, h => by
    cases es with
    | nil => cases h
    | cons e es =>
      simp only [chkTs, Bool.and_eq_true] at h
      obtain ⟨h1, h2, h3⟩ := sndTs g ts es h.2
      have e0 : assignEach (e :: es) X.env = (false, assign e X.env) :: assignEach es X.env := by
        have := h.1.1
        cases e <;> first | rfl | (cases this)
      refine ⟨pgs_cons (sndT g t e h.1.2) h1 (each_of h.1.1), ?_, ?_⟩
      · rw [e0, List.length_cons, h2]
        rfl
      · rw [e0, List.findIdx?_cons, h3]
        rfl
end
end
end Ev


namespace Ev
open PySem PySem.Spec L2 PyProof.Rows
section
variable {T : Tb} {n : Nat} {N : List Str} {sc so : Scope} {X : Cx} {W : WX} {call : Call}
theorem blt_of {x : Str} (g : Good T n N sc so X W) (tb : TbOk T n call) (h : bltN T.nm sc x = true) : Gl X x ∧ X.mg x = none ∧ x ≠ ("__name__" : Str) ∧ (x == ("__debug__" : Str)) = false := by
  unfold bltN at h
  simp only [Bool.and_eq_true] at h
  refine ⟨gl_of g h.1.1, ?_, noDbg_3 h.2, noDbg_1 h.2⟩
  rw [g.hmg]
  exact tb.bl x (List.contains_iff_mem.mp h.1.2)
theorem PA.nil (g : Good T n N sc so X W) : PA X [] (tA T.toAd W fun _ S => .ok [] S) := paImp pa_nil fun σ H Q q => by
  obtain ⟨env, m, S, he, r, q⟩ := q
  exact q.now r [] rfl
/-- an argument list -/
theorem PA.cons {x : Expr} {xs : List Expr} {f : Env → Store → R D} {fs : Env → Store → R (List D)} (ha : PE X x (tE T.toAd W f)) (hr : PA X xs (tA T.toAd W fs)) (h : okX x = true) :
    PA X (x :: xs) (tA T.toAd W fun env S => (f env S).bind fun d S => (fs env S).bind fun ds S => .ok (d :: ds) S) := paImp (pa_cons ha hr (star_of h)) fun σ H Q q => by
  obtain ⟨env, m, S, he, r, q⟩ := q
  refine seqE he r q.bind fun dx S1 m1 H1 x1 r1 h1 v hv => seqA (he.ext x1) r1 h1.bind fun ds S2 m2 H2 x2 r2 h2 vs hvs => ?_
  exact h2.now r2 _ ⟨v, vs, rfl, RD.ext x2 _ _ hv, hvs⟩
theorem PA.one {x : Expr} {f : Env → Store → R D} (ha : PE X x (tE T.toAd W f)) (h : okX x = true) :
    PA X [x] (tA T.toAd W fun env S => (f env S).bind fun d S => .ok [d] S) := paImp (pa_cons ha pa_nil (star_of h)) fun σ H Q q => by
  obtain ⟨env, m, S, he, r, q⟩ := q
  exact seqE he r q.bind fun dx S1 m1 H1 x1 r1 h1 v hv => h1.now r1 _ ⟨v, [], rfl, hv, rfl⟩
theorem RDs.two {T : Ad} {m : Mp} {H : Hp} {a b : D} {vs : List V} (h : RDs T m H [a, b] vs) : ∃ v w, vs = [v, w] ∧ RD T m H a v ∧ RD T m H b w := by
  obtain ⟨v, r, h1, h2, w, r', h3, h4, h5⟩ := h
  cases (show r' = [] from h5)
  exact ⟨v, w, by rw [h1, h3], h2, h4⟩
theorem RDs.one' {T : Ad} {m : Mp} {H : Hp} {a : D} {vs : List V} (h : RDs T m H [a] vs) : ∃ v, vs = [v] ∧ RD T m H a v := by
  obtain ⟨v, r, h1, h2, h3⟩ := h
  cases (show r = [] from h3)
  exact ⟨v, h1, h2⟩
theorem RDs.three {T : Ad} {m : Mp} {H : Hp} {a b c : D} {vs : List V} (h : RDs T m H [a, b, c] vs) : ∃ v w u, vs = [v, w, u] ∧ RD T m H a v ∧ RD T m H b w ∧ RD T m H c u := by
  obtain ⟨v, r, h1, h2, w, r', h3, h4, u, r'', h5, h6, h7⟩ := h
  cases (show r'' = [] from h7)
  exact ⟨v, w, u, by rw [h1, h3, h5], h2, h4, h6⟩
abbrev sE (T : Tb) (call : Call) (e : E) : Env → Store → R D := fun env S => E.ev call T.G e env S
abbrev sEs (T : Tb) (call : Call) (e : Es) : Env → Store → R (List D) := fun env S => Es.ev call T.G e env S
abbrev sI (T : Tb) (call : Call) (e : I) : Env → Store → R Items := fun env S => I.ev call T.G e env S

theorem bind_ok {α β : Type} {r : R α} {f : α → Store → R β} {b : β} {S : Store} (h : r.bind f = .ok b S) : ∃ a S1, r = .ok a S1 ∧ f a S1 = .ok b S := by
  cases r with
  | ok a S1 => exact ⟨a, S1, rfl, h⟩
  | exc _ _ => cases h
  | stuck => cases h
theorem ofB_bl {o : Option Bool} {S S1 : Store} {d : D} (h : ofB o S = .ok d S1) : ∃ k, d = .bl k := by
  cases o with
  | none => cases h
  | some b =>
    cases h
    exact ⟨b, rfl⟩
theorem cmpV_bl {op : Cop} {dx dy d : D} {S S1 : Store} (h : cmpV op dx dy S = .ok d S1) : ∃ k, d = .bl k := by
  cases op with
  | eq => exact ofB_bl (show ofB (eqD S dx dy) S = .ok d S1 from h)
  | ne => exact ofB_bl (show ofB ((eqD S dx dy).map (!·)) S = .ok d S1 from h)
  | lt => exact ofB_bl (show ofB (ltD dx dy) S = .ok d S1 from h)
  | isin => exact ofB_bl (show ofB (inD S dx dy) S = .ok d S1 from h)
  | nin => exact ofB_bl (show ofB ((inD S dx dy).map (!·)) S = .ok d S1 from h)
  | gt => unfold cmpV at h; simp only at h; split at h <;> cases h; exact ⟨_, rfl⟩
  | le => unfold cmpV at h; simp only at h; split at h <;> cases h; exact ⟨_, rfl⟩
  | ge => unfold cmpV at h; simp only at h; split at h <;> cases h; exact ⟨_, rfl⟩
  | is => unfold cmpV at h; simp only at h; split at h <;> cases h <;> exact ⟨_, rfl⟩
  | nis => unfold cmpV at h; simp only at h; split at h <;> cases h <;> exact ⟨_, rfl⟩

/-! ### rules, one by one -/
variable {a b c : E} {x y z : Expr} {pos : Pos}
theorem s_bin {new : Bool} {op : Bop} {o : Operator} (g : Good T n N sc so X W) (ho : chkB op o = true) (ha : PE X x (tE T.toAd W (sE T call a))) (hb : PE X y (tE T.toAd W (sE T call b))) : PE X (.BinOp x o y pos) (tE T.toAd W (sE T call (.bin new op a b))) := by
  cases of_decide_eq_true ho
  refine peImp (pe_op (opB_ok op) ha hb) fun σ H Q q => ?_
  obtain ⟨env, m, S, he, r, q⟩ := q
  rw [g.hK]
  exact seqE he r (PostK.bind q) fun dx S1 m1 H1 x1 r1 h1 v hv => seqE (he.ext x1) r1 h1.bind fun dy S2 m2 H2 x2 r2 h2 w hw => rB_ok r2 (RD.ext x2 _ _ hv) hw h2
theorem s_cmp {op : Cop} {o : CmpOp} (g : Good T n N sc so X W) (ho : chkO op o = true) (hy : okX y = true) (ha : PE X x (tE T.toAd W (sE T call a))) (hb : PE X y (tE T.toAd W (sE T call b))) : Snd X T.toAd W (.Compare x [o] [y] pos) (sE T call (.cmp op a b)) := by
  cases of_decide_eq_true ho
  have go : ∀ {σ H Q}, tE T.toAd W (sE T call (.cmp op a b)) σ H Q → tOp (rC X.prog X.w X.K op) (tE T.toAd W (sE T call a)) (tE T.toAd W (sE T call b)) σ H Q := fun {σ H Q} q => by
    obtain ⟨env, m, S, he, r, q⟩ := q
    rw [g.hK, g.hP, g.hw]
    exact seqE he r (PostK.bind q) fun dx S1 m1 H1 x1 r1 h1 v hv => seqE (he.ext x1) r1 h1.bind fun dy S2 m2 H2 x2 r2 h2 w hw => rC_ok r2 (RD.ext x2 _ _ hv) hw h2
  refine ⟨peImp (pe_cmpR (opC_ok g.hu op) ha hb (mark_of hy)) fun σ H Q q => go q, fun _ => ptImp (pt_cmpR (opC_ok g.hu op) ha hb (mark_of hy)) fun σ H Q q => go ?_, fun z => by cases z⟩
  obtain ⟨env, m, S, he, r, q⟩ := q
  refine ⟨env, m, S, he, r, (tst_k q).imp fun d S1 m1 H1 e1 x1 r1 ⟨k, e, q⟩ v hv => ?_⟩
  obtain ⟨_, _, _, e1⟩ := bind_ok e1
  obtain ⟨_, _, _, e1⟩ := bind_ok e1
  obtain ⟨k', rfl⟩ := cmpV_bl e1
  have e2 : k' = k := Option.some.inj e
  subst e2
  exact ⟨k', rd_bl hv, q⟩

theorem lm_of {o1 o2 : CmpOp} (hz : okX z = true) : lastMarks [o1, o2] [y, z] = false := mark_of hz
theorem s_cmp2 {p1 p2 : Cop} {o1 o2 : CmpOp} (g : Good T n N sc so X W) (h1 : chkO p1 o1 = true) (h2 : chkO p2 o2 = true) (hz : okX z = true) (ha : PE X x (tE T.toAd W (sE T call a))) (hb : PE X y (tE T.toAd W (sE T call b))) (hc : PE X z (tE T.toAd W (sE T call c))) :
    Snd X T.toAd W (.Compare x [o1, o2] [y, z] pos) (sE T call (.cmp2 p1 p2 a b c)) := by
  cases of_decide_eq_true h1
  cases of_decide_eq_true h2
  have go : ∀ {σ H Q}, tE T.toAd W (sE T call (.cmp2 p1 p2 a b c)) σ H Q → tChain (rC X.prog X.w X.K p1) (rC X.prog X.w X.K p2) (tE T.toAd W (sE T call a)) (tE T.toAd W (sE T call b)) (tE T.toAd W (sE T call c)) σ H Q := fun {σ H Q} q => by
    obtain ⟨env, m, S, he, r, q⟩ := q
    rw [g.hK, g.hP, g.hw]
    refine seqE he r (PostK.bind q) fun dx S1 m1 H1 x1 r1 q1 v hv => seqE (he.ext x1) r1 q1.bind fun dy S2 m2 H2 x2 r2 q2 w hw => ?_
    refine rC_ok (Q := fun z H3 => ∃ k, z = .bl k ∧ (if k = true then tE T.toAd W (sE T call c) σ H3 fun w' H4 => rC T.P T.w T.K p2 w w' H4 Q else Q (.bl false) H3)) r2 (RD.ext x2 _ _ hv) hw (q2.bind.imp fun dz S3 m3 H3 e3 x3 r3 q3 u hu => ?_)
    obtain ⟨k, rfl⟩ := cmpV_bl e3
    obtain rfl := rd_bl hu
    refine ⟨k, rfl, ?_⟩
    cases k with
    | true => exact seqE (((he.ext x1).ext x2).ext x3) r3 (PostK.bind q3) fun dw S4 m4 H4 x4 r4 q4 t ht => rC_ok r4 (RD.ext (x3.trans x4) _ _ hw) ht q4
    | false => exact ok_use r3 q3 rfl
  refine ⟨peImp (pe_chain (opC_ok g.hu p1) (opC_ok g.hu p2) ha hb hc (lm_of hz)) fun σ H Q q => go q, fun _ => ptImp (pt_chain (opC_ok g.hu p1) (opC_ok g.hu p2) ha hb hc (lm_of hz)) fun σ H Q q => go ?_, fun z => by cases z⟩
  obtain ⟨env, m, S, he, r, q⟩ := q
  refine ⟨env, m, S, he, r, (tst_k q).imp fun d S1 m1 H1 e1 x1 r1 ⟨k, e, q⟩ v hv => ?_⟩
  obtain ⟨_, _, _, e1⟩ := bind_ok e1
  obtain ⟨_, _, _, e1⟩ := bind_ok e1
  obtain ⟨z1, _, _, e1⟩ := bind_ok e1
  have : ∃ k', d = .bl k' := by
    cases z1 with
    | bl t =>
      cases t with
      | true =>
        obtain ⟨_, _, _, e1⟩ := bind_ok (show (R.bind _ _) = R.ok d S1 from e1)
        exact cmpV_bl e1
      | false =>
        cases e1
        exact ⟨_, rfl⟩
    | _ => cases e1
  obtain ⟨k', rfl⟩ := this
  have e2 : k' = k := Option.some.inj e
  subst e2
  exact ⟨k', rd_bl hv, q⟩
theorem tst_nt (env : Env) (S : Store) : tstOf (sE T call (.nt a)) env S = (tstOf (sE T call a) env S).bind fun b S => .ok (!b) S := by
  show ((E.ev call T.G a env S).bind fun x S => match truth S x with | some b => R.ok (D.bl (!b)) S | none => .stuck).bind (fun x S => match truth S x with | some b => R.ok b S | none => .stuck) = ((E.ev call T.G a env S).bind fun x S => match truth S x with | some b => R.ok b S | none => .stuck).bind fun b S => .ok (!b) S
  cases E.ev call T.G a env S with
  | ok d S1 =>
    simp only [R.bind]
    cases truth S1 d <;> rfl
  | exc _ _ => rfl
  | stuck => rfl
theorem tst_and (env : Env) (S : Store) : tstOf (sE T call (.and a b)) env S = (tstOf (sE T call a) env S).bind fun k S => if k = true then tstOf (sE T call b) env S else .ok false S := by
  show ((E.ev call T.G a env S).bind fun x S => match truth S x with | some true => E.ev call T.G b env S | some false => .ok x S | none => .stuck).bind (fun x S => match truth S x with | some b => R.ok b S | none => .stuck) = ((E.ev call T.G a env S).bind fun x S => match truth S x with | some b => R.ok b S | none => .stuck).bind fun k S => if k = true then tstOf (sE T call b) env S else .ok false S
  cases E.ev call T.G a env S with
  | ok d S1 =>
    simp only [R.bind]
    cases e : truth S1 d with
    | none => rfl
    | some k =>
      cases k with
      | true => rfl
      | false =>
        simp only [e]
        rfl
  | exc _ _ => rfl
  | stuck => rfl
theorem tst_or (env : Env) (S : Store) : tstOf (sE T call (.or a b)) env S = (tstOf (sE T call a) env S).bind fun k S => if k = true then .ok true S else tstOf (sE T call b) env S := by
  show ((E.ev call T.G a env S).bind fun x S => match truth S x with | some true => .ok x S | some false => E.ev call T.G b env S | none => .stuck).bind (fun x S => match truth S x with | some b => R.ok b S | none => .stuck) = ((E.ev call T.G a env S).bind fun x S => match truth S x with | some b => R.ok b S | none => .stuck).bind fun k S => if k = true then .ok true S else tstOf (sE T call b) env S
  cases E.ev call T.G a env S with
  | ok d S1 =>
    simp only [R.bind]
    cases e : truth S1 d with
    | none => rfl
    | some k =>
      cases k with
      | false => rfl
      | true =>
        simp only [e]
        rfl
  | exc _ _ => rfl
  | stuck => rfl
theorem s_nt (g : Good T n N sc so X W) (hx : noIf x = true) (ha : Snd X T.toAd W x (sE T call a)) : Snd X T.toAd W (.UnaryOp .Not x pos) (sE T call (.nt a)) := by
  refine ⟨peImp (pe_notT ha.pe) fun σ H Q q => ?_, fun _ => ptImp (pt_not (ha.pt hx)) fun σ H Q q => ?_, fun z => by cases z⟩
  · obtain ⟨env, m, S, he, r, q⟩ := q
    refine seqE he r (PostK.bind q) fun dx S1 m1 H1 x1 r1 q1 v hv => ?_
    obtain ⟨k, e, q1⟩ := some_B q1
    rw [g.hK]
    exact ⟨k, truth_use r1 hv e, ok_use (W := W) (σ := σ) r1 q1 rfl⟩
  · obtain ⟨env, m, S, he, r, q⟩ := q
    rw [tst_nt] at q
    exact seqB he r q.bind fun k S1 m1 H1 x1 r1 q1 => q1.now r1
theorem and_k {S1 : Store} {dx : D} {env : Env} {m1 : Mp} {H1 : Hp} {σ : L2.St} {k : D → Store → Mp → Hp → Prop} (q : PostK T.toAd (match truth S1 dx with | some true => E.ev call T.G b env S1 | some false => .ok dx S1 | none => .stuck) m1 H1 σ W k) :
    ∃ t, truth S1 dx = some t ∧ if t = true then PostK T.toAd (E.ev call T.G b env S1) m1 H1 σ W k else PostK T.toAd (.ok dx S1) m1 H1 σ W k := by
  cases e : truth S1 dx with
  | none =>
    rw [e] at q
    exact q.elim
  | some t =>
    rw [e] at q
    cases t <;> exact ⟨_, rfl, q⟩
theorem or_k {S1 : Store} {dx : D} {env : Env} {m1 : Mp} {H1 : Hp} {σ : L2.St} {k : D → Store → Mp → Hp → Prop} (q : PostK T.toAd (match truth S1 dx with | some true => .ok dx S1 | some false => E.ev call T.G b env S1 | none => .stuck) m1 H1 σ W k) :
    ∃ t, truth S1 dx = some t ∧ if t = true then PostK T.toAd (.ok dx S1) m1 H1 σ W k else PostK T.toAd (E.ev call T.G b env S1) m1 H1 σ W k := by
  cases e : truth S1 dx with
  | none =>
    rw [e] at q
    exact q.elim
  | some t =>
    rw [e] at q
    cases t <;> exact ⟨_, rfl, q⟩
theorem s_and {rest : List Expr} (g : Good T n N sc so X W) (hx : noIf x = true) (ha : Snd X T.toAd W x (sE T call a)) (hb : PE X (.BoolOp .And (y :: rest) pos) (tE T.toAd W (sE T call b))) (hw : PW X (.BoolOp .And (y :: rest) pos) (tB T.toAd W (tstOf (sE T call b)))) :
    Snd X T.toAd W (.BoolOp .And (x :: y :: rest) pos) (sE T call (.and a b)) := by
  have pw : PW X (.BoolOp .And (x :: y :: rest) pos) (tB T.toAd W (tstOf (sE T call (.and a b)))) := by
    refine ⟨fun wh pins s σ H Q I q => (pw_and (ha.pt hx) hw).run wh pins s σ H Q I ?_⟩
    obtain ⟨env, m, S, he, r, q⟩ := q
    rw [tst_and] at q
    refine seqB he r q.bind fun k S1 m1 H1 x1 r1 q1 => ?_
    cases k with
    | true => exact seqB (he.ext x1) r1 q1 fun k2 S2 m2 H2 x2 r2 q2 => q2
    | false => exact q1.now r1
  refine ⟨peImp (pe_andT ha.pe hb) fun σ H Q q => ?_, fun _ => pw.pt, fun _ => pw⟩
  obtain ⟨env, m, S, he, r, q⟩ := q
  refine seqE he r (PostK.bind q) fun dx S1 m1 H1 x1 r1 q1 v hv => ?_
  obtain ⟨t, e, q1⟩ := and_k q1
  rw [g.hK]
  refine ⟨t, truth_use r1 hv e, ?_⟩
  cases t with
  | true => exact seqE (he.ext x1) r1 q1 fun dy S2 m2 H2 x2 r2 q2 w hw => q2 w hw
  | false => exact ok_use (W := W) (σ := σ) r1 q1 hv
theorem s_or {rest : List Expr} (g : Good T n N sc so X W) (hx : noIf x = true) (ha : Snd X T.toAd W x (sE T call a)) (hb : PE X (.BoolOp .Or (y :: rest) pos) (tE T.toAd W (sE T call b))) (hw : PW X (.BoolOp .Or (y :: rest) pos) (tB T.toAd W (tstOf (sE T call b)))) :
    Snd X T.toAd W (.BoolOp .Or (x :: y :: rest) pos) (sE T call (.or a b)) := by
  have pw : PW X (.BoolOp .Or (x :: y :: rest) pos) (tB T.toAd W (tstOf (sE T call (.or a b)))) := by
    refine ⟨fun wh pins s σ H Q I q => (pw_or (ha.pt hx) hw).run wh pins s σ H Q I ?_⟩
    obtain ⟨env, m, S, he, r, q⟩ := q
    rw [tst_or] at q
    refine seqB he r q.bind fun k S1 m1 H1 x1 r1 q1 => ?_
    cases k with
    | false => exact seqB (he.ext x1) r1 q1 fun k2 S2 m2 H2 x2 r2 q2 => q2
    | true => exact q1.now r1
  refine ⟨peImp (pe_orT ha.pe hb) fun σ H Q q => ?_, fun _ => pw.pt, fun _ => pw⟩
  obtain ⟨env, m, S, he, r, q⟩ := q
  refine seqE he r (PostK.bind q) fun dx S1 m1 H1 x1 r1 q1 v hv => ?_
  obtain ⟨t, e, q1⟩ := or_k q1
  rw [g.hK]
  refine ⟨t, truth_use r1 hv e, ?_⟩
  cases t with
  | false => exact seqE (he.ext x1) r1 q1 fun dy S2 m2 H2 x2 r2 q2 w hw => q2 w hw
  | true => exact ok_use (W := W) (σ := σ) r1 q1 hv
theorem s_ife (g : Good T n N sc so X W) (hx : noIf x = true) (hc : Snd X T.toAd W x (sE T call c)) (ha : PE X y (tE T.toAd W (sE T call a))) (hb : PE X z (tE T.toAd W (sE T call b))) : PE X (.IfExp x y z pos) (tE T.toAd W (sE T call (.ife c a b))) := by
  refine peImp (pe_ifExp (hc.pt hx) ha hb) fun σ H Q q => ?_
  obtain ⟨env, m, S, he, r, q⟩ := q
  have e : E.ev call T.G (.ife c a b) env S = (tstOf (sE T call c) env S).bind fun k S => if k = true then E.ev call T.G a env S else E.ev call T.G b env S := by
    show ((E.ev call T.G c env S).bind fun x S => match truth S x with | some true => E.ev call T.G a env S | some false => E.ev call T.G b env S | none => .stuck) = ((E.ev call T.G c env S).bind fun x S => match truth S x with | some b => R.ok b S | none => .stuck).bind fun k S => if k = true then E.ev call T.G a env S else E.ev call T.G b env S
    cases E.ev call T.G c env S with
    | ok d S1 =>
      simp only [R.bind]
      cases truth S1 d with
      | none => rfl
      | some k => cases k <;> rfl
    | exc _ _ => rfl
    | stuck => rfl
  have q : PostK T.toAd (E.ev call T.G (.ife c a b) env S) m H σ W _ := q
  rw [e] at q
  refine seqB he r q.bind fun k S1 m1 H1 x1 r1 q1 => ?_
  cases k with
  | true => exact seqE (he.ext x1) r1 q1 fun dy S2 m2 H2 x2 r2 q2 w hw => q2 w hw
  | false => exact seqE (he.ext x1) r1 q1 fun dy S2 m2 H2 x2 r2 q2 w hw => q2 w hw
theorem s_dct0 : PE X (.Dict [] [] pos) (tE T.toAd W (sE T call .dct0)) := by
  refine peImp pe_dnewK fun σ H Q q => ?_
  obtain ⟨env, m, S, he, r, q⟩ := q
  intro p hp
  have q : PostK T.toAd (.ok (.ref S.length) (S ++ [.dct []])) m H σ W (fun d _ m' H' => ∀ v, RD T.toAd m' H' d v → Q v H') := q
  refine q _ _ (Ext.cell r hp) (r.cellO hp ⟨[], rfl, rfl⟩) _ ⟨p, ?_, rfl⟩
  show (m.c ++ [p])[S.length]? = some p
  rw [r.len, List.getElem?_append_right (Nat.le_refl _)]
  simp
theorem s_dct2 {a b c d : Str} {j1 j2 j3 j4 : Nat} {p1 p2 p3 p4 : Pos} : PE X (.Dict [some (.Constant (.str a) j1 p1), some (.Constant (.str c) j2 p2)] [.Constant (.str b) j3 p3, .Constant (.str d) j4 p4] pos) (tE T.toAd W (sE T call (.dct2 a b c d))) := by
  refine peImp (pe_disp (pps_cons pe_str pe_str (pps_cons pe_str pe_str pps_nil)) rfl rfl (by simp) (by simp)) fun σ H Q q => ?_
  obtain ⟨env, m, S, he, r, q⟩ := q
  intro p hp
  have q : PostK T.toAd (if decide (a = c) then .stuck else .ok (.ref S.length) (S ++ [.dct [(.str a, .str b), (.str c, .str d)]])) m H σ W (fun d _ m' H' => ∀ v, RD T.toAd m' H' d v → Q v H') := q
  by_cases hac : a = c
  · rw [if_pos (decide_eq_true hac)] at q
    exact q.elim
  · rw [if_neg (by rw [decide_eq_false hac]; decide)] at q
    show upd H p (.dK []) p = some (.dK []) ∧ _
    refine ⟨upd_same, [(.inr a, .str b), (.inr c, .str d)], rfl, by simp, ?_⟩
    rw [upd_upd]
    have hm : mergeK [] [((.inr a : Key), V.str b), (.inr c, V.str d)] = [(.inr a, V.str b), (.inr c, V.str d)] := by
      simp [mergeK, putK, hac]
    rw [hm]
    refine q _ _ (Ext.cell r hp) (r.cellO hp ⟨[(.inr a, V.str b), (.inr c, V.str d)], rfl, ⟨.inr a, _, _, rfl, rfl, rfl, ⟨.inr c, _, _, rfl, rfl, rfl, rfl⟩⟩⟩) _ ⟨p, ?_, rfl⟩
    show (m.c ++ [p])[S.length]? = some p
    rw [r.len, List.getElem?_append_right (Nat.le_refl _)]
    simp
theorem s_ix (g : Good T n N sc so X W) (hy : okX y = true) (ha : PE X x (tE T.toAd W (sE T call a))) (hb : PE X y (tE T.toAd W (sE T call b))) : PE X (.Subscript x y pos) (tE T.toAd W (sE T call (.ix a b))) := by
  refine peImp (pe_ix (ix_seq.or ((ix_dict (by have := g.rm.room.un; omega)).or (ix_dS (by have := g.rm.room.un; omega)))) ha hb (ix_of hy)) fun σ H Q q => ?_
  obtain ⟨env, m, S, he, r, q⟩ := q
  rw [g.hK, g.hP, g.hw]
  exact seqE he r (PostK.bind q) fun dx S1 m1 H1 x1 r1 h1 v hv => seqE (he.ext x1) r1 h1.bind fun dy S2 m2 H2 x2 r2 h2 w hw => ix_use r2 (RD.ext x2 _ _ hv) hw h2
theorem int_k {S : Store} {d : D} {f : Int → R D} {m : Mp} {H : Hp} {σ : L2.St} {k : D → Store → Mp → Hp → Prop} (h : PostK T.toAd (match d with | .int i => f i | _ => .stuck) m H σ W k) : ∃ i, d = .int i ∧ PostK T.toAd (f i) m H σ W k := by
  cases d with
  | int i => exact ⟨i, rfl, h⟩
  | _ => exact h.elim
theorem int_k2 {S : Store} {d e : D} {f : Int → Int → R D} {m : Mp} {H : Hp} {σ : L2.St} {k : D → Store → Mp → Hp → Prop} (h : PostK T.toAd (match d, e with | .int i, .int j => f i j | _, _ => .stuck) m H σ W k) : ∃ i j, d = .int i ∧ e = .int j ∧ PostK T.toAd (f i j) m H σ W k := by
  cases d with
  | int i =>
    cases e with
    | int j => exact ⟨i, j, rfl, rfl, h⟩
    | _ => exact h.elim
  | _ => exact absurd h (by cases e <;> exact fun z => z)
variable {p2 : Pos} {new : Bool}
theorem s_cutA (g : Good T n N sc so X W) (ha : PE X x (tE T.toAd W (sE T call a))) (hb : PE X y (tE T.toAd W (sE T call b))) : PE X (.Subscript x (.Slice (some y) none none p2) pos) (tE T.toAd W (sE T call (.cutA new a b))) := by
  refine peImp (pe_slice sl_all ha (po_some hb) po_none) fun σ H Q q => ?_
  obtain ⟨env, m, S, he, r, q⟩ := q
  rw [g.hK]
  refine seqE he r (PostK.bind q) fun dx S1 m1 H1 x1 r1 h1 v hv => seqE (he.ext x1) r1 h1.bind fun dy S2 m2 H2 x2 r2 h2 w hw => ?_
  obtain ⟨i, rfl, h2⟩ := int_k (S := S2) h2
  exact ⟨i, rd_int hw, cut_use r2 (RD.ext x2 _ _ hv) h2⟩
theorem s_cutB (g : Good T n N sc so X W) (ha : PE X x (tE T.toAd W (sE T call a))) (hb : PE X y (tE T.toAd W (sE T call b))) : PE X (.Subscript x (.Slice none (some y) none p2) pos) (tE T.toAd W (sE T call (.cutB new a b))) := by
  refine peImp (pe_slice sl_all ha po_none (po_some hb)) fun σ H Q q => ?_
  obtain ⟨env, m, S, he, r, q⟩ := q
  rw [g.hK]
  refine seqE he r (PostK.bind q) fun dx S1 m1 H1 x1 r1 h1 v hv => ?_
  refine seqE (he.ext x1) r1 h1.bind fun dy S2 m2 H2 x2 r2 h2 w hw => ?_
  obtain ⟨i, rfl, h2⟩ := int_k (S := S2) h2
  exact ⟨i, rd_int hw, cut_use r2 (RD.ext x2 _ _ hv) h2⟩
theorem s_cutC (g : Good T n N sc so X W) (ha : PE X x (tE T.toAd W (sE T call a))) (hb : PE X y (tE T.toAd W (sE T call b))) (hc : PE X z (tE T.toAd W (sE T call c))) : PE X (.Subscript x (.Slice (some y) (some z) none p2) pos) (tE T.toAd W (sE T call (.cutC new a b c))) := by
  refine peImp (pe_slice sl_all ha (po_some hb) (po_some hc)) fun σ H Q q => ?_
  obtain ⟨env, m, S, he, r, q⟩ := q
  rw [g.hK]
  refine seqE he r (PostK.bind q) fun dx S1 m1 H1 x1 r1 h1 v hv => seqE (he.ext x1) r1 h1.bind fun dy S2 m2 H2 x2 r2 h2 w hw => ?_
  obtain ⟨i, rfl, h2⟩ := int_k (S := S2) h2
  refine ⟨i, rd_int hw, seqE ((he.ext x1).ext x2) r2 h2.bind fun dz S3 m3 H3 x3 r3 h3 u hu => ?_⟩
  obtain ⟨j, rfl, h3⟩ := int_k (S := S3) h3
  exact ⟨j, rd_int hu, cut_use r3 (RD.ext (x2.trans x3) _ _ hv) h3⟩
theorem s_rev {j : Nat} {q1 q2 q3 : Pos} (g : Good T n N sc so X W) (ha : PE X x (tE T.toAd W (sE T call a))) : PE X (.Subscript x (.Slice none none (some (.UnaryOp .USub (.Constant (.int 1) j q1) q2)) q3) pos) (tE T.toAd W (sE T call (.rev new a))) := by
  refine peImp (pe_revL ha) fun σ H Q q => ?_
  obtain ⟨env, m, S, he, r, q⟩ := q
  rw [g.hK]
  exact seqE he r (PostK.bind q) fun dx S1 m1 H1 x1 r1 h1 v hv => rev_use r1 hv h1
theorem s_neg (ha : PE X x (tE T.toAd W (sE T call a))) : PE X (.UnaryOp .USub x pos) (tE T.toAd W (sE T call (.neg a))) := by
  refine peImp (pe_un un_neg ha) fun σ H Q q => ?_
  obtain ⟨env, m, S, he, r, q⟩ := q
  refine seqE he r (PostK.bind q) fun dx S1 m1 H1 x1 r1 h1 v hv => ?_
  obtain ⟨i, rfl, h1⟩ := int_k (S := S1) h1
  exact ⟨i, rd_int hv, ok_use (W := W) (σ := σ) r1 h1 rfl⟩
theorem s_con {d : D} {k : Const} {j : Nat} (h : chkC d k = true) : PE X (.Constant k j pos) (tE T.toAd W (sE T call (.con d))) := by
  have go : ∀ {v : V}, PE X (.Constant k j pos) (tC v) → (∀ m H, RD T.toAd m H d v) → PE X (.Constant k j pos) (tE T.toAd W (sE T call (.con d))) := fun p hv => peImp p fun σ H Q q => by
    obtain ⟨env, m, S, he, r, q⟩ := q
    exact ok_use (W := W) (σ := σ) r q (hv _ _)
  cases d <;> cases k <;> first | (cases h; done) | skip
  · exact go pe_non fun _ _ => rfl
  · rename_i a b
    cases (beq_iff_eq.mp (show (a == b) = true from h))
    exact go pe_bl fun _ _ => rfl
  · rename_i a b
    cases (of_decide_eq_true (show decide (a = b) = true from h))
    exact go pe_int fun _ _ => rfl
  · rename_i a b
    cases (of_decide_eq_true (show decide (a = b) = true from h))
    exact go pe_str fun _ _ => rfl
theorem s_var {i : Nat} {v : Str} (g : Good T n N sc so X W) (h1 : N[i]? = some v) (h2 : isVis sc v = true) (h3 : noDbg v = true) : PE X (.Name v pos) (tE T.toAd W (sE T call (.var i))) := by
  refine peImp (pe_var (by rw [g.hN]; exact h1) (by rw [g.scp]; exact isVis_of h2) (noDbg_1 h3) (noDbg_2 h3)) fun σ H Q q => ?_
  obtain ⟨env, m, S, he, r, q⟩ := q
  have q : PostK T.toAd (match env[i]? with | some (some d) => .ok d S | _ => .stuck) m H σ W (KQ T.toAd Q) := q
  cases e : env[i]? with
  | none =>
    rw [e] at q
    exact q.elim
  | some o =>
    cases o with
    | none =>
      rw [e] at q
      exact q.elim
    | some d =>
      rw [e] at q
      obtain ⟨v, k1, k2⟩ := he.at_ i d e
      exact ⟨v, k1, ok_use r q k2⟩
theorem s_glb {k : Nat} {v : Str} (g : Good T n N sc so X W) (tb : TbOk T n call) (h1 : T.nm.gls[k]? = some v) (h2 : isGl sc v = true) (h3 : noDbg v = true) : PE X (.Name v pos) (tE T.toAd W (sE T call (.glb k))) := by
  cases e : T.G.glbs[k]? with
  | none =>
    refine ⟨fun pins s σ H Q I q => ?_⟩
    obtain ⟨env, m, S, he, r, q⟩ := q
    have q : PostK T.toAd (match T.G.glbs[k]? with | some d => .ok d S | none => .stuck) m H σ W (KQ T.toAd Q) := q
    rw [e] at q
    exact q.elim
  | some d =>
    obtain ⟨w, u, k1, k2, k3⟩ := tb.gl k v d h1 e
    refine peImp (pe_glob (v := w) (gl_of g h2) (by rw [g.hmg]; exact k1) k2 (noDbg_1 h3)) fun σ H Q q => ?_
    obtain ⟨env, m, S, he, r, q⟩ := q
    have q : PostK T.toAd (match T.G.glbs[k]? with | some d => .ok d S | none => .stuck) m H σ W (KQ T.toAd Q) := q
    rw [e] at q
    exact ok_use (W := W) (σ := σ) r q (k3 _ _)
variable {es : Es} {xs : List Expr}
theorem s_tup {j : Nat} (ha : PA X xs (tA T.toAd W (sEs T call es))) : PE X (.Tuple xs j pos) (tE T.toAd W (sE T call (.tup es))) := by
  refine peImp (pe_tup ha) fun σ H Q q => ?_
  obtain ⟨env, m, S, he, r, q⟩ := q
  exact seqA he r (PostK.bind q) fun ds S1 m1 H1 x1 r1 h1 vs hv => mkT_use r1 h1 hv
theorem s_lst (ha : PA X xs (tA T.toAd W (sEs T call es))) : PE X (.List xs pos) (tE T.toAd W (sE T call (.lst new es))) := by
  refine peImp (pe_lst ha) fun σ H Q q => ?_
  obtain ⟨env, m, S, he, r, q⟩ := q
  exact seqA he r (PostK.bind q) fun ds S1 m1 H1 x1 r1 h1 vs hv => mkL_use r1 h1 hv
theorem s_call {k : Nat} {v : Str} {p : Pos} (g : Good T n N sc so X W) (tb : TbOk T n call) (h1 : T.nm.fns[k]? = some v) (h2 : isGl sc v = true) (h3 : noDbg v = true) (hxs : xs.all okX = true) (h0 : xs = [] → es = .nil) (ha : PA X xs (tA T.toAd W (sEs T call es))) : PE X (.Call (.Name v p) xs [] pos) (tE T.toAd W (sE T call (.call k es))) := by
  obtain ⟨k1, k2, k3, k4, k5⟩ := tb.fn k v h1
  have F := k4
  rw [← g.hP, ← g.hw, ← g.hK, ← g.hmg, ← g.hb] at F
  rw [← g.hK] at k2 k3
  rw [← g.hmg] at k1
  have go : ∀ {σ H Q}, tE T.toAd W (sE T call (.call k es)) σ H Q → tCallS (spC T.toAd (call k) (T.ps k).length) (WE W) (tA T.toAd W (sEs T call es)) σ H Q := fun {σ H Q} q => by
    obtain ⟨env, m, S, he, r, q⟩ := q
    exact seqA he r (PostK.bind q) fun ds S1 m1 H1 x1 r1 h1 vs hv => call_use r1 hv (k5 ds S1) h1
  cases xs with
  | nil =>
    refine peImp (pe_callG0 F g.rm (gl_of g h2) k1 k2 k3 (L2N.passAt g.tk) (noDbg_1 h3)) fun σ H Q q => ?_
    cases h0 rfl
    obtain ⟨env, m, S, he, r, q⟩ := go q
    exact q.now r [] rfl
  | cons e xs =>
    rw [List.all_cons, Bool.and_eq_true] at hxs
    exact peImp (pe_callG F g.rm (gl_of g h2) k1 k2 k3 (L2N.passAt g.tk) ha (noDbg_1 h3) (star_of hxs.1) (stars_any hxs.2)) fun σ H Q q => go q
theorem s_bf {f : Bfn} {v : Str} {p : Pos} (g : Good T n N sc so X W) (tb : TbOk T n call) (h1 : v = bfNm f) (h2 : bltN T.nm sc v = true) (hx : okX x = true) (ha : PE X x (tE T.toAd W (sE T call a))) : PE X (.Call (.Name v p) [x] [] pos) (tE T.toAd W (sE T call (.bf new f a))) := by
  obtain ⟨k1, k2, k3, k4⟩ := blt_of g tb h2
  have R := bf_rule (X := X) g.calm g.rm.gd g.hu7 f
  have hb := bf_boot f
  rw [← h1] at hb
  have go : ∀ {σ H Q}, tE T.toAd W (sE T call (.bf new f a)) σ H Q → tCB (rBf X.prog X.w X.K f) (tCons (tE T.toAd W (sE T call a)) tNil) σ H Q := fun {σ H Q} q => by
    obtain ⟨env, m, S, he, r, q⟩ := q
    rw [g.hK, g.hP, g.hw]
    exact seqE he r (PostK.bind q) fun dx S1 m1 H1 x1 r1 h1 v hv => bf_use r1 hv h1
  unfold bfVal at R hb
  cases ht : bfTy f with
  | true =>
    rw [ht, if_pos rfl] at R hb
    exact peImp (pe_callTy R k1 k2 hb (pa_cons ha pa_nil (star_of hx)) k3 k4 (star_of hx) (stars_any rfl)) fun σ H Q q => go q
  | false =>
    rw [ht, if_neg Bool.false_ne_true] at R hb
    exact peImp (pe_callB R k1 k2 hb (pa_cons ha pa_nil (star_of hx)) k3 k4 (star_of hx) (stars_any rfl)) fun σ H Q q => go q
theorem boot_isi : bootBuiltins "isinstance" = some (.builtin "isinstance") := by decide +kernel
theorem s_isi {t : Ty} {v u : Str} {p p' : Pos} (g : Good T n N sc so X W) (tb : TbOk T n call) (h1 : v = "isinstance") (h2 : bltN T.nm sc v = true) (h3 : u = tyNm t) (h4 : bltN T.nm sc u = true) (hx : okX x = true) (ha : PE X x (tE T.toAd W (sE T call a))) :
    PE X (.Call (.Name v p) [x, .Name u p'] [] pos) (tE T.toAd W (sE T call (.isi a t))) := by
  obtain ⟨k1, k2, k3, k4⟩ := blt_of g tb h2
  obtain ⟨j1, j2, j3, j4⟩ := blt_of g tb h4
  have hb := boot_isi
  rw [← h1] at hb
  have hu := ty_boot t
  rw [← h3] at hu
  have hn : okX (.Name u p') = true := rfl
  refine peImp (pe_callB (call_isi (X := X)) k1 k2 hb (pa_cons ha (pa_cons (pe_bltn (v := .ty (tyId t)) j1 j2 hu rfl j3 j4) pa_nil (star_of hn)) (star_of hx)) k3 k4 (star_of hx) (stars_any rfl)) fun σ H Q q => ?_
  obtain ⟨env, m, S, he, r, q⟩ := q
  rw [g.hK]
  exact seqE he r (PostK.bind q) fun dx S1 m1 H1 x1 r1 h1 v hv => isi_use r1 hv h1
theorem s_mth0 {mt : Mt} {f : Str} {p1 : Pos} (g : Good T n N sc so X W) (h1 : f = mtNm mt) (h2 : p1.endLine = pos.line) (hx : okX x = true) (ha : PE X x (tE T.toAd W (sE T call a))) : PE X (.Call (.Attribute x f p1) [] [] pos) (tE T.toAd W (sE T call (.mth0 mt a))) := by
  subst h1
  have F := mtF (X := X) mt
  refine peImp (pe_bm0 F.pa F.slot F.hty F.hm ha (base_of hx) (by rw [h2]; exact beq_self_eq_true _)) fun σ H Q q => ?_
  obtain ⟨env, m, S, he, r, q⟩ := q
  rw [g.hK]
  refine seqE he r (PostK.bind q) fun dx S1 m1 H1 x1 r1 h1 v hv => ?_
  obtain ⟨c, h1⟩ := ite_use h1
  exact ⟨mtOk_use r1 c hv, mth0_use r1 hv h1⟩
theorem s_mth1 {mt : Mt} {f : Str} {p1 : Pos} (g : Good T n N sc so X W) (h1 : f = mtNm mt) (h2 : p1.endLine = pos.line) (hx : okX x = true) (hy : okX y = true) (ha : PE X x (tE T.toAd W (sE T call a))) (hb : PE X y (tE T.toAd W (sE T call b))) : PE X (.Call (.Attribute x f p1) [y] [] pos) (tE T.toAd W (sE T call (.mth1 mt a b))) := by
  subst h1
  have F := mtF (X := X) mt
  refine peImp (pe_bm F.pa F.slot F.hty F.hm ha (pa_cons hb pa_nil (star_of hy)) (base_of hx) (few_one hy) (by rw [h2]; exact beq_self_eq_true _) (star_of hy) (stars_any rfl)) fun σ H Q q => ?_
  obtain ⟨env, m, S, he, r, q⟩ := q
  rw [g.hK]
  refine seqE he r (PostK.bind q) fun dx S1 m1 H1 x1 r1 h1 v hv => ?_
  obtain ⟨c, h1⟩ := ite_use h1
  exact ⟨mtOk_use r1 c hv, seqE (he.ext x1) r1 h1.bind fun dy S2 m2 H2 x2 r2 h2 w hw => mth1_use r2 (RD.ext x2 _ _ hv) hw h2⟩

/-! ### what is walked -/
theorem pi_imp {tg : Expr} {t t' : TI} (p : PI X tg x t) (h : ∀ σ H R, t' σ H R → t σ H R) : PI X tg x t' := ⟨fun pins s σ H R I q => p.run pins s σ H R I (h σ H R q)⟩
theorem i_seq {tg : Expr} (g : Good T n N sc so X W) (ha : PE X x (tE T.toAd W (sE T call a))) : PI X tg x (tI T.toAd W (sI T call (.seq a))) := by
  refine pi_imp (pi_seqG ha) fun σ H R q => ?_
  obtain ⟨env, m, S, he, r, q⟩ := q
  rw [g.hK]
  refine seqE he r (PostK.bind q) fun dx S1 m1 H1 x1 r1 h1 v hv => ?_
  cases e : seqItems S1 dx with
  | none =>
    rw [e] at h1
    exact h1.elim
  | some its =>
    rw [e] at h1
    exact seq_use r1 e hv (h1.now r1)
theorem rng_k {S : Store} {ds : List D} {m : Mp} {H : Hp} {σ : L2.St} {k : Items → Store → Mp → Hp → Prop} (h : PostK T.toAd (match rngs ds with | some ys => .ok ⟨ys, none⟩ S | none => .stuck) m H σ W k) (r : RS T.toAd m H S) : ∃ ys, rngs ds = some ys ∧ k ⟨ys, none⟩ S m H := by
  cases e : rngs ds with
  | none =>
    rw [e] at h
    exact h.elim
  | some ys =>
    rw [e] at h
    exact ⟨ys, rfl, h.now r⟩
theorem one_ints {m : Mp} {H : Hp} {i : Int} {vs : List V} (h : RDs T.toAd m H [.int i] vs) : vs = [.int i] := by
  obtain ⟨v, rfl, h1⟩ := h.one'
  rw [rd_int h1]
theorem two_ints' {m : Mp} {H : Hp} {i j : Int} {vs : List V} (h : RDs T.toAd m H [.int i, .int j] vs) : vs = [.int i, .int j] := by
  obtain ⟨v, w, rfl, h1, h2⟩ := h.two
  rw [rd_int h1, rd_int h2]
theorem three_ints {m : Mp} {H : Hp} {i j k : Int} {vs : List V} (h : RDs T.toAd m H [.int i, .int j, .int k] vs) : vs = [.int i, .int j, .int k] := by
  obtain ⟨v, w, u, rfl, h1, h2, h3⟩ := h.three
  rw [rd_int h1, rd_int h2, rd_int h3]
theorem Es.len_ev {call : Call} {G : Cfg} : ∀ {es : Es} {env : Env} {S S1 : Store} {ds : List D}, Es.ev call G es env S = .ok ds S1 → ds.length = es.len'
  | .nil, env, S, S1, ds, h => by
    cases h
    rfl
  | .cons e es, env, S, S1, ds, h => by
    obtain ⟨d, S2, _, h⟩ := bind_ok (show (R.bind _ _) = R.ok ds S1 from h)
    obtain ⟨r, S3, h3, h⟩ := bind_ok h
    cases h
    show r.length + 1 = _
    rw [Es.len_ev h3]
    rfl
end
end Ev


namespace Ev
open PySem PySem.Spec L2 PyProof.Rows
section
variable {T : Tb} {n : Nat} {N : List Str} {sc so : Scope} {X : Cx} {W : WX} {call : Call} {a b c : E} {x y z : Expr} {pos : Pos} {new : Bool} {es : Es} {xs : List Expr}
theorem i_rng1 {tg : Expr} {p : Pos} {v : Str} (g : Good T n N sc so X W) (tb : TbOk T n call) (h1 : v = "range") (h2 : bltN T.nm sc v = true) (hx : okX x = true) (hl : es.len' = 1) (ha : PA X [x] (tA T.toAd W (sEs T call es))) :
    PI X tg (.Call (.Name v p) [x] [] pos) (tI T.toAd W (sI T call (.rng es))) := by
  subst h1
  obtain ⟨k1, k2, k3, k4⟩ := blt_of g tb h2
  refine pi_imp (pi_range1 k1 k2 ha (star_of hx)) fun σ H R q => ?_
  obtain ⟨env, m, S, he, r, q⟩ := q
  refine ⟨env, m, S, he, r, (PostK.bind q).imp fun ds S1 m1 H1 e1 x1 r1 q1 vs hv => ?_⟩
  have hn := Es.len_ev e1
  rw [hl] at hn
  obtain ⟨ys, e, q3⟩ := rng_k q1 r1
  rcases rngs_use e with ⟨j, rfl, c1, c2, w⟩ | ⟨i, j, rfl, _⟩ | ⟨i, j, c, k, rfl, _⟩
  · exact ⟨j, one_ints hv, c1, c2, q3 _ (w _ _)⟩
  · cases hn
  · cases hn
theorem i_rng2 {tg : Expr} {p : Pos} {v : Str} (g : Good T n N sc so X W) (tb : TbOk T n call) (h1 : v = "range") (h2 : bltN T.nm sc v = true) (hx : okX x = true) (hy : okX y = true) (hl : es.len' = 2) (ha : PA X [x, y] (tA T.toAd W (sEs T call es))) :
    PI X tg (.Call (.Name v p) [x, y] [] pos) (tI T.toAd W (sI T call (.rng es))) := by
  subst h1
  obtain ⟨k1, k2, k3, k4⟩ := blt_of g tb h2
  refine pi_imp (pi_range2 k1 k2 ha (by rw [star_of hx, star_of hy]; rfl) (star_of hy)) fun σ H R q => ?_
  obtain ⟨env, m, S, he, r, q⟩ := q
  refine ⟨env, m, S, he, r, (PostK.bind q).imp fun ds S1 m1 H1 e1 x1 r1 q1 vs hv => ?_⟩
  have hn := Es.len_ev e1
  rw [hl] at hn
  obtain ⟨ys, e, q3⟩ := rng_k q1 r1
  rcases rngs_use e with ⟨j, rfl, _⟩ | ⟨i, j, rfl, c, w⟩ | ⟨i, j, c, k, rfl, _⟩
  · cases hn
  · exact ⟨i, j, two_ints' hv, c, q3 _ (w _ _)⟩
  · cases hn
theorem i_rng3 {tg : Expr} {p : Pos} {v : Str} (g : Good T n N sc so X W) (tb : TbOk T n call) (h1 : v = "range") (h2 : bltN T.nm sc v = true) (hx : okX x = true) (hy : okX y = true) (hz : okX z = true) (hl : es.len' = 3) (ha : PA X [x, y, z] (tA T.toAd W (sEs T call es))) :
    PI X tg (.Call (.Name v p) [x, y, z] [] pos) (tI T.toAd W (sI T call (.rng es))) := by
  subst h1
  obtain ⟨k1, k2, k3, k4⟩ := blt_of g tb h2
  refine pi_imp (pi_range3 k1 k2 ha (star_of hx) (stars_any (by simp [hy, hz]))) fun σ H R q => ?_
  obtain ⟨env, m, S, he, r, q⟩ := q
  refine ⟨env, m, S, he, r, (PostK.bind q).imp fun ds S1 m1 H1 e1 x1 r1 q1 vs hv => ?_⟩
  have hn := Es.len_ev e1
  rw [hl] at hn
  obtain ⟨ys, e, q3⟩ := rng_k q1 r1
  rcases rngs_use e with ⟨j, rfl, _⟩ | ⟨i, j, rfl, _⟩ | ⟨i, j, c, k, rfl, w1, w⟩
  · cases hn
  · cases hn
  · exact ⟨i, j, c, k, three_ints hv, w1, q3 _ (w _ _)⟩
theorem srcD_use {T : Ad} {m : Mp} {H : Hp} {d : D} {xs : List D} {v : V} (h : srcD d = some xs) (hv : RD T m H d v) : ∃ c vs, Sc.is c v ∧ RDs T m H xs vs ∧ ∀ m' H', Ext0 m H m' H' → c.has T.K H' vs := by
  cases d with
  | lst ds =>
    cases h
    obtain ⟨p, vs, rfl, h1, h2⟩ := hv
    exact ⟨.l p, vs, rfl, h2, fun m' H' e => e.sql h1⟩
  | tup ds =>
    cases h
    obtain ⟨p, vs, rfl, h1, h2⟩ := hv
    exact ⟨.t p, vs, rfl, h2, fun m' H' e => e.sqt h1⟩
  | str z =>
    cases h
    refine ⟨.s z, z.cps.toList.map fun c => V.str ⟨#[c]⟩, hv, ?_, fun m' H' e => rfl⟩
    generalize z.cps.toList = l
    induction l with
    | nil => rfl
    | cons a l ih => exact ⟨_, _, rfl, rfl, ih⟩
  | scr ns =>
    cases h
    obtain ⟨p, rfl, h1⟩ := hv
    refine ⟨.l p, ns.map V.int, rfl, RDs.ints _, fun m' H' e => ?_⟩
    rcases e.sc h1 with ⟨o, h⟩ | h
    · exact .inl (.inr ⟨o, h⟩)
    · exact .inr h
  | _ => cases h
theorem zip_k {m : Mp} {H : Hp} {σ : L2.St} {T : Ad} {W : WX} {o o2 : Option (List D)} {f : List D → List D → R Items} {k : Items → Store → Mp → Hp → Prop} (h : PostK T (match o, o2 with | some a, some b => f a b | _, _ => .stuck) m H σ W k) : ∃ a b, o = some a ∧ o2 = some b ∧ PostK T (f a b) m H σ W k := by
  cases o with
  | none => exact h.elim
  | some a =>
    cases o2 with
    | none => exact h.elim
    | some b => exact ⟨a, b, rfl, rfl, h⟩
theorem i_zip {elts : List Expr} {kk : Nat} {tpos p : Pos} {v : Str} (g : Good T n N sc so X W) (tb : TbOk T n call) (h1 : v = "zip") (h2 : bltN T.nm sc v = true) (hx : okX x = true) (hy : okX y = true) (ha : PE X x (tE T.toAd W (sE T call a))) (hb : PE X y (tE T.toAd W (sE T call b))) :
    PI X (.Tuple elts kk tpos) (.Call (.Name v p) [x, y] [] pos) (tI T.toAd W (sI T call (.zip a b))) := by
  subst h1
  obtain ⟨k1, k2, k3, k4⟩ := blt_of g tb h2
  refine pi_imp (pi_zipG k1 k2 (pa_cons ha (pa_cons hb pa_nil (star_of hy)) (star_of hx)) (star_of hx) (stars_any (by simp [hy]))) fun σ H R q => ?_
  obtain ⟨env, m, S, he, r, q⟩ := q
  rw [g.hK]
  refine seqE he r (PostK.bind q) fun dx S1 m1 H1 x1 r1 q1 v hv => seqE (he.ext x1) r1 q1.bind fun dy S2 m2 H2 x2 r2 q2 w hw => ?_
  obtain ⟨as, bs, e1, e2, q3⟩ := zip_k q2
  obtain ⟨c1, vs, i1, d1, g1⟩ := srcD_use e1 (RD.ext x2 _ _ hv)
  obtain ⟨c2, ws, i2, d2, g2⟩ := srcD_use e2 hw
  exact ⟨c1, c2, v, w, vs, ws, rfl, i1, i2, g1 _ _ Ext0.refl, g2 _ _ Ext0.refl, (q3.now r2) _ (wk_pairs d1 d2 (fun n hn => walk_zipG hn) fun m' H' S' e _ => ⟨g1 _ _ e, g2 _ _ e⟩)⟩

theorem wk_enz {T : Ad} {m : Mp} {H : Hp} {xs ys : List D} {vs ws : List V} {J : It} {G : Hp → Prop} (hx : RDs T m H xs vs) (hy : RDs T m H ys ws) (w : ∀ n, n = min vs.length ws.length → Walk J n G (YEnZ vs ws)) (hg : ∀ m' H' S', Ext0 m H m' H' → RS T m' H' S' → G H') :
    Wk T ⟨(xs.zip ys).zipIdx.map fun p => .tup [.int (p.2 : Nat), .tup [p.1.1, p.1.2]], none⟩ m H J := by
  refine ⟨G, _, w _ ?_, fun m' H' S' e r _ => hg m' H' S' e r, fun i m' H' S' v H'' hi e r _ y => ?_⟩
  · rw [List.length_map, List.length_zipIdx, List.length_zip, hx.length, hy.length]
  · obtain ⟨t, tp, a, b, rfl, hp, ht, np, rfl, ha, hb⟩ := y
    rw [List.length_map, List.length_zipIdx, List.length_zip] at hi
    have h1 : i < xs.length := by omega
    have h2 : i < ys.length := by omega
    obtain ⟨a', ka, ra⟩ := hx.get (List.getElem?_eq_getElem h1)
    obtain ⟨b', kb, rb⟩ := hy.get (List.getElem?_eq_getElem h2)
    rw [ha] at ka
    cases ka
    rw [hb] at kb
    cases kb
    have e1 := Ext.new (o := .tup [a, b]) r hp
    have r1 := r.new (o := .tup [a, b]) hp
    have ht1 : (upd H' tp (.tup [a, b])) t = none := by rw [upd_ne (Ne.symm np)]; exact ht
    have e2 := Ext.new (o := .tup [.int (i : Nat), .ref tp]) r1 ht1
    refine ⟨e1.trans e2, r1.new ht1, .tup [.int (i : Nat), .tup [xs[i], ys[i]]], ?_, ?_⟩
    · rw [List.getElem?_map, List.getElem?_zipIdx, List.getElem?_eq_getElem (by rw [List.length_zip]; omega), List.getElem_zip]
      simp
    · exact ⟨t, [.int (i : Nat), .ref tp], rfl, .inl (.inl upd_same), .int (i : Nat), [.ref tp], rfl, rfl, .ref tp, [], rfl, ⟨tp, [a, b], rfl, e2.sqt (.inl (.inl upd_same)), a, [b], rfl, RD.ext e2 _ _ (RD.ext e1 _ _ (RD.ext0 e _ _ ra)), b, [], rfl, RD.ext e2 _ _ (RD.ext e1 _ _ (RD.ext0 e _ _ rb)), rfl⟩, rfl⟩
theorem i_enz {elts : List Expr} {kk : Nat} {tpos p p2 pos2 : Pos} {u v : Str} (g : Good T n N sc so X W) (tb : TbOk T n call) (h0 : u = "enumerate") (h3 : bltN T.nm sc u = true) (h1 : v = "zip") (h2 : bltN T.nm sc v = true) (hx : okX x = true) (hy : okX y = true) (ha : PE X x (tE T.toAd W (sE T call a))) (hb : PE X y (tE T.toAd W (sE T call b))) :
    PI X (.Tuple elts kk tpos) (.Call (.Name u p2) [.Call (.Name v p) [x, y] [] pos] [] pos2) (tI T.toAd W (sI T call (.enz a b))) := by
  subst h1
  subst h0
  obtain ⟨k1, k2, k3, k4⟩ := blt_of g tb h2
  obtain ⟨l1, l2, l3, l4⟩ := blt_of g tb h3
  refine pi_imp (pi_enZ k1 k2 l1 l2 (pa_cons ha (pa_cons hb pa_nil (star_of hy)) (star_of hx)) (star_of hx) (stars_any (by simp [hy]))) fun σ H R q => ?_
  obtain ⟨env, m, S, he, r, q⟩ := q
  rw [g.hK]
  refine seqE he r (PostK.bind q) fun dx S1 m1 H1 x1 r1 q1 v hv => seqE (he.ext x1) r1 q1.bind fun dy S2 m2 H2 x2 r2 q2 w hw => ?_
  obtain ⟨as, bs, e1, e2, q3⟩ := zip_k q2
  obtain ⟨c1, vs, i1, d1, g1⟩ := srcD_use e1 (RD.ext x2 _ _ hv)
  obtain ⟨c2, ws, i2, d2, g2⟩ := srcD_use e2 hw
  exact ⟨c1, c2, v, w, vs, ws, rfl, i1, i2, g1 _ _ Ext0.refl, g2 _ _ Ext0.refl, (q3.now r2) _ (wk_enz d1 d2 (fun n hn => walk_enZ hn) fun m' H' S' e _ => ⟨g1 _ _ e, g2 _ _ e⟩)⟩

/-! ### comprehensions -/
theorem own_eq (own : List Nat) : (ownP N own).map (·.2) = own := by
  unfold ownP
  rw [List.map_map]
  exact (List.map_congr_left fun _ _ => rfl).trans (List.map_id own)
theorem slots_of {t : Ev.T} {own : List Nat} (h : t.slots.all own.contains = true) : ∀ i ∈ t.slots, i ∈ own := fun i hi => List.contains_iff_mem.mp (List.all_eq_true.mp h i hi)
theorem ptsImp {X : Cx} {ifs : List Expr} {t t' : TT} (p : PTs X ifs t) (h : ∀ σ H Q, t' σ H Q → t σ H Q) : PTs X ifs t' := ⟨fun pins s σ H Q I q => p.run pins s σ H Q I (h σ H Q q)⟩
theorem pts_ok {X : Cx} {T : Ad} {W : WX} : PTs X [] (tB T W fun _ S => .ok true S) := ptsImp pts_nil fun σ H Q q => by
  obtain ⟨env, m, S, he, r, q⟩ := q
  exact q.now r
variable {t t2 : Ev.T} {it i2 : I} {ifs : Es} {own : List Nat} {scope : Scope} {tg tg2 iter iter2 : Expr} {ifx : List Expr}
/-- a context within a comprehension -/
abbrev Blk (X : Cx) (scope : Scope) (s : Shared) (H : Hp) (C : Addr) (cl : List (Str × Addr)) (fp : List Addr) : Cx := X.blk s H scope (compEnvC scope cl C X.env) fp
abbrev W0 : WX := fun _ _ _ _ => False
theorem s_comp (g : Good T n N sc so X W) (hb : blkC N sc scope (ownP N own) = true) (hi : okX iter = true) (hs : t.slots.all own.contains = true) (ht : chkT N scope t tg = true) (hI : PI X tg iter (tI T.toAd W (sI T call it)))
    (hw : ∀ s H C cl fp, PTs (Blk X scope s H C cl fp) ifx (tB T.toAd W0 fun env S => Es.tst call T.G ifs env S)) (he : ∀ s H C cl fp, PE (Blk X scope s H C cl fp) x (tE T.toAd W0 (sE T call a))) :
    PE X (.ListComp x [⟨tg, iter, ifx, 0⟩] scope pos) (tE T.toAd W (sE T call (.comp new own a t it ifs))) := by
  have ok : BlkOk X.N X.env.scope scope (ownP N own) := by
    rw [g.hN, g.scp]
    exact blkOk_by hb
  refine peImp (pe_lc g.calm g.nd hI ok (fun s H C cl fp => sndT (g.blk s H scope C cl fp) t tg ht) hw he (fold_of hi X.env)) fun σ H Q q => ?_
  obtain ⟨env, m, S, he, r, q⟩ := q
  rw [own_eq]
  exact lc_use (slots_of hs) he r q
theorem s_comp2 (g : Good T n N sc so X W) (hb : blkC N sc scope (ownP N own) = true) (hi : okX iter = true) (hi2 : okX iter2 = true) (hs : t.slots.all own.contains = true) (hs2 : t2.slots.all own.contains = true) (ht : chkT N scope t tg = true) (ht2 : chkT N scope t2 tg2 = true) (hI : PI X tg iter (tI T.toAd W (sI T call it)))
    (hI2 : ∀ s H C cl fp, PI (Blk X scope s H C cl fp) tg2 iter2 (tI T.toAd W0 (sI T call i2))) (he : ∀ s H C cl fp, PE (Blk X scope s H C cl fp) x (tE T.toAd W0 (sE T call a))) :
    PE X (.ListComp x [⟨tg, iter, [], 0⟩, ⟨tg2, iter2, [], 0⟩] scope pos) (tE T.toAd W (sE T call (.comp2 new own a t it t2 i2))) := by
  have ok : BlkOk X.N X.env.scope scope (ownP N own) := by
    rw [g.hN, g.scp]
    exact blkOk_by hb
  refine peImp (pe_lc2 (vs1 := t2.slots) g.calm g.nd hI ok (fun i hi => by rw [own_eq]; exact slots_of hs2 i hi) (fun s H C cl fp => sndT (g.blk s H scope C cl fp) t tg ht) (fun s H C cl fp => pts_nil) hI2 (fun s H C cl fp => sndT (g.blk s H scope C cl fp) t2 tg2 ht2) (fun s H C cl fp => pts_ok (T := T.toAd) (W := W0)) he (fold_of hi X.env) (fold_of hi2)) fun σ H Q q => ?_
  obtain ⟨env, m, S, he, r, q⟩ := q
  rw [own_eq]
  exact lc2_use (slots_of hs) he r q

/-! ### list(range(..)) -/
theorem rds_range {T : Ad} {m : Mp} {H : Hp} (i : Int) : ∀ (l : List Nat), RDs T m H (l.map fun (k : Nat) => D.int (i + (k : Nat))) (l.map fun (k : Nat) => V.int (i + (k : Nat)))
  | [] => rfl
  | a :: l => ⟨_, _, rfl, rfl, rds_range i l⟩
theorem rg_ok {i j : Int} (h : -(2 ^ 62) ≤ i ∧ i < 2 ^ 62 ∧ -(2 ^ 62) ≤ j ∧ j < 2 ^ 62) (hz : (j - i).toNat ≤ sizeLine) : RgOk i j := by
  rw [sizeLine_eq] at hz
  exact ⟨h.1, h.2.1, h.2.2.1, h.2.2.2, by omega⟩
theorem lr_k {S : Store} {o : Option (List D)} {m : Mp} {H : Hp} {σ : L2.St} {k : D → Store → Mp → Hp → Prop} (h : PostK T.toAd (match o with | some ys => mkL new ys S | none => .stuck) m H σ W k) : ∃ ys, o = some ys ∧ PostK T.toAd (mkL new ys S) m H σ W k := by
  cases o with
  | none => exact h.elim
  | some ys => exact ⟨ys, rfl, h⟩
theorem s_lrng1 {v u : Str} {p p' p2 : Pos} (g : Good T n N sc so X W) (tb : TbOk T n call) (h1 : v = "list") (h2 : bltN T.nm sc v = true) (h3 : u = "range") (h4 : bltN T.nm sc u = true) (hx : okX x = true) (ha : PE X x (tE T.toAd W (sE T call a))) :
    PE X (.Call (.Name v p) [.Call (.Name u p') [x] [] p2] [] pos) (tE T.toAd W (sE T call (.lrng1 new a))) := by
  subst h1
  subst h3
  obtain ⟨k1, k2, _, _⟩ := blt_of g tb h2
  obtain ⟨j1, j2, _, _⟩ := blt_of g tb h4
  refine peImp (pe_listRg g.calm k1 k2 (prg_1 j1 j2 ha (star_of hx)) (star_of rfl)) fun σ H Q q => ?_
  obtain ⟨env, m, S, he, r, q⟩ := q
  refine seqE he r (PostK.bind q) fun dx S1 m1 H1 x1 r1 q1 v hv => ?_
  obtain ⟨ys, e, q1⟩ := lr_k q1
  unfold rngs at e
  split at e
  · rename_i j hj
    cases hj
    split at e
    · rename_i c
      cases e
      have c := of_decide_eq_true c
      have hz := isz_mkL q1
      rw [List.length_map, List.length_range] at hz
      have hv2 : RDs T.toAd m1 H1 ((List.range j.toNat).map fun (i : Nat) => D.int ((0 : Int) + (i : Nat))) (rgV 0 j) := by
        unfold rgV
        rw [Int.sub_zero]
        exact rds_range 0 _
      exact ⟨j, rd_int hv, rg_ok ⟨by omega, by omega, c.1, c.2⟩ (by rw [Int.sub_zero]; exact hz), (mkL_use r1 q1 hv2).2⟩
    · cases e
  · rename_i h
    cases h
  · rename_i h
    cases h
  · cases e
theorem s_lrng2 {v u : Str} {p p' p2 : Pos} (g : Good T n N sc so X W) (tb : TbOk T n call) (h1 : v = "list") (h2 : bltN T.nm sc v = true) (h3 : u = "range") (h4 : bltN T.nm sc u = true) (hx : okX x = true) (hy : okX y = true) (ha : PE X x (tE T.toAd W (sE T call a))) (hb : PE X y (tE T.toAd W (sE T call b))) :
    PE X (.Call (.Name v p) [.Call (.Name u p') [x, y] [] p2] [] pos) (tE T.toAd W (sE T call (.lrng2 new a b))) := by
  subst h1
  subst h3
  obtain ⟨k1, k2, _, _⟩ := blt_of g tb h2
  obtain ⟨j1, j2, _, _⟩ := blt_of g tb h4
  refine peImp (pe_listRg g.calm k1 k2 (prg_2 j1 j2 ha hb (star_of hx) (star_of hy) (stars_any (by simp [hy]))) (star_of rfl)) fun σ H Q q => ?_
  obtain ⟨env, m, S, he, r, q⟩ := q
  refine seqE he r (PostK.bind q) fun dx S1 m1 H1 x1 r1 q1 v hv => seqE (he.ext x1) r1 (PostK.bind q1) fun dy S2 m2 H2 x2 r2 q2 w hw => ?_
  have hv := RD.ext x2 _ _ hv
  obtain ⟨ys, e, q1⟩ := lr_k q2
  unfold rngs at e
  split at e
  · rename_i h
    cases h
  · rename_i i j hj
    cases hj
    split at e
    · rename_i c
      cases e
      have c := of_decide_eq_true c
      have hz := isz_mkL q1
      rw [List.length_map, List.length_range] at hz
      exact ⟨i, j, rd_int hv, rd_int hw, rg_ok c hz, (mkL_use r2 q1 (rds_range i _)).2⟩
    · cases e
  · rename_i h
    cases h
  · cases e
end
end Ev


namespace Ev
open PySem PySem.Spec L2 PyProof.Rows LamX
/-! ### _law_said(lambda: e) -/
section
variable {T : Tb} {n : Nat} {N : List Str} {sc so : Scope} {X : Cx} {W : WX} {call : Call} {m : Mp} {H H1 : Hp} {S : Store}
/-- the lambdas' tables are written: all else stays -/
theorem ext_tab {A : Ad} (r : RS A m H S) (e : ExtN H H1) (t : Tabs A.tb H1) : Ext m H m H1 ∧ RS A m H1 S := by
  have kp : ∀ {p u}, H p = some u → (∀ ps, u ≠ .tbl ps) → H1 p = some u := fun {p u} h n => e p u h n
  have x : Ext m H m H1 := ⟨⟨⟨[], by simp⟩, fun p vs h => h.elim (fun h => .inl (kp h fun _ => HO.noConfusion)) fun ⟨o, h⟩ => .inr ⟨o, kp h fun _ => HO.noConfusion⟩, fun p vs h n => ⟨kp h fun _ => HO.noConfusion, n⟩, fun p o u h => kp h fun _ => HO.noConfusion, fun p φ h => kp h fun _ => HO.noConfusion, rfl, fun _ => r.tt ▸ t⟩, rfl, fun p hp => by
    cases q : H p with
    | none => exact absurd q (r.hid p hp).2
    | some u => exact kp q fun ps z => r.hnt p hp ps (by rw [q, z])⟩
  refine ⟨x, r.len, r.nd, fun p hp => ⟨(r.hid p hp).1, by rw [x.hid p hp]; exact (r.hid p hp).2⟩, fun p hp => (by rw [x.hid p hp]; exact r.hnt p hp), r.tt, r.tt ▸ t, fun l ob p h1 h2 => ?_⟩
  obtain ⟨o, h3, h4⟩ := r.at_ l ob p h1 h2
  refine ⟨o, kp h3 fun ps z => ?_, h4.ext x⟩
  subst z
  cases ob with
  | lst xs => obtain ⟨vs, z, _⟩ := h4; cases z
  | dct xs => obtain ⟨vs, z, _⟩ := h4; cases z
/-- the lambda's own context -/
theorem Good.lamCx (g : Good T n N sc so X W) {A : Around} {outer : List PySem.Env} {s : Shared} {H : Hp} {E : XK} {scope : Scope} {f c' : Addr} (L : LamS X.env.scope scope) (hr : Rm n (A.deeper (lamEnv X scope s.heap.objs.size f c'))) :
    Good { T with nm := { T.nm with tld := none } } n N scope scope (lamCxN X A outer s H E scope f c') (fun cls d _ H => E cls d H) where
  hK := g.hK
  hmg := g.hmg
  hP := g.hP
  hw := g.hw
  hb := g.hb
  hN := g.hN
  nd := g.nd
  scp := rfl
  calm := rfl
  rm := hr
  tk := L2N.takes_of rfl rfl rfl rfl
  po := passes_of rfl
  lam := fun h => nomatch h
  st := fun x h => by
    rcases h with h | h
    · exact absurd rfl (L.own _ (PySem.mem_of_lookup h)).1
    · exact absurd rfl (L.own _ (PySem.mem_of_lookup h)).2
theorem TbOk.quiet (tb : TbOk T n call) : TbOk { T with nm := { T.nm with tld := none } } n call := ⟨tb.fn, tb.bl, tb.gl, tb.cl, fun h => absurd rfl h⟩
theorem s_told {v : Str} {e : E} {params : Arguments} {body : Expr} {scope : Scope} {p lpos pos : Pos} (g : Good T n N sc so X W) (tb : TbOk T n call) (h1 : T.nm.tld = some N) (h2 : v = "_law_said") (h3 : isGl sc v = true) (h4 : lamSB sc scope = true) (h5 : noArgs params = true)
    (hb : ∀ (X' : Cx) (W' : WX), Good { T with nm := { T.nm with tld := none } } n N scope scope X' W' → PE X' body (tE T.toAd W' (sE T call e))) : PE X (.Call (.Name v p) [.Lambda params body scope lpos] [] pos) (tE T.toAd W (sE T call (.told e))) := by
  subst h2
  have h5 := noArgs_eq h5
  subst h5
  obtain ⟨hr, c, P, hcode, TB, hmT, hu⟩ := g.lam h1
  obtain ⟨R, c0, c1, c2, c3, gg, oc, od, pg, dV, kV, doc, pm, an, cdv, ct, osl, q, t1, t2, t3, t4, t5, t6, t7, t8, t9, t10, t11, t12, t13⟩ := tb.td (by rw [h1]; exact nofun)
  have L : LamS X.env.scope scope := by rw [g.scp]; exact lamS_by h4
  rw [← g.hmg] at t1 t6 t7 t8 t9 t10 t11 t12
  rw [← g.hK] at t2 t3 t4 t5
  have pe := lamcallN (T := T.tb) (TT := TTs T.toAd R c0 c1 c2 c3) (a := "_law_ask") (sg := saidSc) (Ng := saidN) (p := p) (lpos := lpos) (pos := pos) (t := fun E => tE T.toAd (fun cls d _ H => E cls d H) (sE T call e)) (body := body) (scope := scope) (params := ⟨[], [], none, [], [], none, []⟩)
    (gl_of g h3) t1 t2 t3 t4 t5 ⟨rfl, rfl, rfl, by decide, rfl, by decide, by decide⟩ rfl (.inl rfl) (said_gives g.hK.symm t6 t7 t8 t9 t10 t11 t12) TB hcode hmT hu hr L rfl (fun _ _ _ _ _ => rfl) (fun A outer s H E f c' hr' => hb _ _ (g.lamCx L hr')) rfl rfl rfl
  refine peImp pe fun σ H Q qq => ?_
  obtain ⟨env, m, S, he, r, h⟩ := qq
  refine ⟨r.tt ▸ r.tab, fun H1 eN tN => ?_⟩
  obtain ⟨x1, r1⟩ := ext_tab r eN tN
  refine ⟨env, m, S, he.ext x1, r1, ?_⟩
  have h : PostK T.toAd (toldV (e.ev call T.G env S)) m H σ W (KQ T.toAd Q) := h
  show PostK T.toAd (e.ev call T.G env S) m H1 σ _ _
  generalize e.ev call T.G env S = R0 at h ⊢
  cases R0 with
  | stuck => exact h
  | ok d S1 =>
    intro m2 H2 x2 r2 v hv
    refine ⟨by decide, fun a ha => ?_⟩
    refine h m2 _ ((x1.trans x2).trans (Ext.new r2 ha)) (r2.new ha) _ ⟨a, [.str "told", v], rfl, .inl (.inl upd_same), .str "told", [v], rfl, rfl, v, [], rfl, RD.ext (Ext.new r2 ha) _ _ hv, rfl⟩
  | exc ex S1 =>
    obtain ⟨k, fs⟩ := ex
    cases fs with
    | cons z zs => exact h.elim
    | nil =>
      have h : PostK T.toAd (match saidOf k with | some b => Ev.R.ok (saidD b) S1 | none => .stuck) m H σ W (KQ T.toAd Q) := by
        cases e : saidOf k with
        | none => simp only [toldV, e] at h; exact h
        | some b => simp only [toldV, e] at h; exact h
      cases e : saidOf k with
      | none => rw [e] at h; exact h.elim
      | some b =>
        rw [e] at h
        refine ⟨rfl, fun m2 H2 x2 r2 => ?_⟩
        refine ⟨T.ca k, b.1, b.2.1, b.2.2.1, b.2.2.2, rfl, rfl, t13 k b e, m2, S1, r2, fun v m3 H3 x3 r3 hv => ?_⟩
        exact h m3 H3 ((x1.trans x2).trans x3) r3 v hv
end
end Ev


namespace Ev
open PySem PySem.Spec L2 PyProof.Rows
section
variable {T : Tb} {n : Nat} {N : List Str} {call : Call}
theorem band {a b : Bool} (h : (a && b) = true) : a = true ∧ b = true := by
  rw [Bool.and_eq_true] at h
  exact h
theorem dec {p : Prop} [Decidable p] (h : decide p = true) : p := of_decide_eq_true h
theorem chkEs_len {nm : Names} {sc so : Scope} : ∀ {es : Es} {xs : List Expr}, chkEs nm N sc so es xs = true → es.len' = xs.length
  | .nil, [], _ => rfl
  | .cons e es, x :: xs, h => by
    have h : (okX x && chkE nm N sc so e x && chkEs nm N sc so es xs) = true := h
    show es.len' + 1 = xs.length + 1
    rw [chkEs_len (band h).2]
  | .nil, _ :: _, h => by cases h
  | .cons _ _, [], h => by cases h
theorem dct2_of {nm : Names} {sc so : Scope} {a b c d : Str} {ks : List (Option Expr)} {vs : List Expr} {p : Pos} (h : chkE nm N sc so (.dct2 a b c d) (.Dict ks vs p) = true) :
    ∃ a' b' c' d' j1 j2 j3 j4 p1 p2 p3 p4, ks = [some (.Constant (.str a') j1 p1), some (.Constant (.str c') j2 p2)] ∧ vs = [.Constant (.str b') j3 p3, .Constant (.str d') j4 p4] ∧ (decide (a = a') && decide (b = b') && decide (c = c') && decide (d = d')) = true := by
  unfold chkE at h
  split at h <;> first | (cases h; done) | skip
  all_goals (try simp_all)
  all_goals exact ⟨_, _, _, ⟨rfl, rfl⟩, rfl, ⟨rfl, rfl⟩, rfl⟩
theorem told_of {nm : Names} {sc so : Scope} {a : E} {x : Expr} (h : chkE nm N sc so (.told a) x = true) :
    ∃ v p params body scope lpos pos, x = .Call (.Name v p) [.Lambda params body scope lpos] [] pos ∧ (decide (nm.tld = some N) && decide (v = "_law_said") && isGl sc v && LamX.lamSB sc scope && noArgs params && chkE { nm with tld := none } N scope scope a body) = true := by
  unfold chkE at h
  split at h <;> first | (cases h; done) | skip
  all_goals (first | (rename_i h1; cases h1; exact ⟨_, _, _, _, _, _, _, rfl, h⟩) | simp_all)
mutual
theorem sndE {T : Tb} (tb : TbOk T n call) : ∀ (e : E) (sc so : Scope) (X : Cx) (W : WX) (g : Good T n N sc so X W) (x : Expr), chkE T.nm N sc so e x = true → Snd X T.toAd W x (sE T call e)
  | .var i, sc, so, X, W, g, x, h => by
    cases x <;> first | (cases h; done) | skip
    rename_i v p
    have h : (decide (N[i]? = some v) && isVis sc v && noDbg v) = true := h
    exact Snd.plain g.hK rfl (s_var g (dec (band (band h).1).1) (band (band h).1).2 (band h).2)
  | .con d, sc, so, X, W, g, x, h => by
    cases x <;> first | (cases h; done) | skip
    exact Snd.plain g.hK rfl (s_con h)
  | .glb k, sc, so, X, W, g, x, h => by
    cases x <;> first | (cases h; done) | skip
    rename_i v p
    have h : (decide (T.nm.gls[k]? = some v) && isGl sc v && noDbg v) = true := h
    exact Snd.plain g.hK rfl (s_glb g tb (dec (band (band h).1).1) (band (band h).1).2 (band h).2)
  | .tup es, sc, so, X, W, g, x, h => by
    cases x <;> first | (cases h; done) | skip
    rename_i xs j p
    exact Snd.plain g.hK rfl (s_tup (sndEs tb es sc so X W g xs h).1)
  | .lst new es, sc, so, X, W, g, x, h => by
    cases x <;> first | (cases h; done) | skip
    rename_i xs p
    exact Snd.plain g.hK rfl (s_lst (sndEs tb es sc so X W g xs h).1)
  | .dct0, sc, so, X, W, g, x, h => by
    cases x <;> first | (cases h; done) | skip
    rename_i ks vs p
    cases ks <;> cases vs <;> first | (cases h; done) | skip
    exact Snd.plain g.hK rfl s_dct0
  | .dct2 a b c d, sc, so, X, W, g, x, h => by
    cases x <;> first | (cases h; done) | skip
    rename_i ks vs p
    obtain ⟨a', b', c', d', j1, j2, j3, j4, p1, p2, p3, p4, rfl, rfl, h⟩ := dct2_of h
    have h : (decide (a = a') && decide (b = b') && decide (c = c') && decide (d = d')) = true := h
    obtain ⟨h, h4⟩ := band h
    obtain ⟨h, h3⟩ := band h
    cases dec (band h).1
    cases dec (band h).2
    cases dec h3
    cases dec h4
    exact Snd.plain g.hK rfl s_dct2
  | .told a, sc, so, X, W, g, x, h => by
    obtain ⟨v, p, params, body, scope, lpos, pos, rfl, h⟩ := told_of h
    exact Snd.plain g.hK rfl (s_told g tb (dec (band (band (band (band (band h).1).1).1).1).1) (dec (band (band (band (band (band h).1).1).1).1).2) (band (band (band (band h).1).1).1).2 (band (band (band h).1).1).2 (band (band h).1).2 fun X' W' g' => (sndE tb.quiet a scope scope X' W' g' body (band h).2).pe)
  | .bin new op a b, sc, so, X, W, g, x, h => by
    cases x <;> first | (cases h; done) | skip
    rename_i x o y p
    have h : (chkB op o && chkE T.nm N sc so a x && chkE T.nm N sc so b y) = true := h
    exact Snd.plain g.hK rfl (s_bin g (band (band h).1).1 (sndE tb a sc so X W g x (band (band h).1).2).pe (sndE tb b sc so X W g y (band h).2).pe)
  | .neg a, sc, so, X, W, g, x, h => by
    cases x <;> first | (cases h; done) | skip
    rename_i o x p
    cases o <;> first | (cases h; done) | skip
    exact Snd.plain g.hK rfl (s_neg (sndE tb a sc so X W g x h).pe)
  | .nt a, sc, so, X, W, g, x, h => by
    cases x <;> first | (cases h; done) | skip
    rename_i o x p
    cases o <;> first | (cases h; done) | skip
    have h : (noIf x && chkE T.nm N sc so a x) = true := h
    exact s_nt g (band h).1 (sndE tb a sc so X W g x (band h).2)
  | .cmp op a b, sc, so, X, W, g, x, h => by
    cases x <;> first | (cases h; done) | skip
    rename_i x os ys p
    match os, ys, h with
    | [o], [y], h =>
      have h : (okX y && chkO op o && chkE T.nm N sc so a x && chkE T.nm N sc so b y) = true := h
      obtain ⟨h, h4⟩ := band h
      obtain ⟨h, h3⟩ := band h
      exact s_cmp g (band h).2 (band h).1 (sndE tb a sc so X W g x h3).pe (sndE tb b sc so X W g y h4).pe
    | [], _, h => cases h
    | [_], [], h => cases h
    | [_], _ :: _ :: _, h => cases h
    | _ :: _ :: _, _, h => cases h
  | .cmp2 o1 o2 a b c, sc, so, X, W, g, x, h => by
    cases x <;> first | (cases h; done) | skip
    rename_i x os ys p
    match os, ys, h with
    | [p1, p2], [y, z], h =>
      have h : (okX y && okX z && chkO o1 p1 && chkO o2 p2 && chkE T.nm N sc so a x && chkE T.nm N sc so b y && chkE T.nm N sc so c z) = true := h
      obtain ⟨h, h7⟩ := band h
      obtain ⟨h, h6⟩ := band h
      obtain ⟨h, h5⟩ := band h
      obtain ⟨h, h4⟩ := band h
      obtain ⟨h, h3⟩ := band h
      exact s_cmp2 g h3 h4 (band h).2 (sndE tb a sc so X W g x h5).pe (sndE tb b sc so X W g y h6).pe (sndE tb c sc so X W g z h7).pe
    | [], _, h => cases h
    | [_], _, h => cases h
    | [_, _], [], h => cases h
    | [_, _], [_], h => cases h
    | [_, _], _ :: _ :: _ :: _, h => cases h
    | _ :: _ :: _ :: _, _, h => cases h
  | .and a b, sc, so, X, W, g, x, h => by
    cases x <;> first | (cases h; done) | skip
    rename_i o xs p
    match o, xs, h with
    | .And, [x, y], h =>
      have h : (noIf x && chkE T.nm N sc so a x && (noIf y && chkE T.nm N sc so b y)) = true := h
      have hb := sndE tb b sc so X W g y (band (band h).2).2
      exact s_and g (band (band h).1).1 (sndE tb a sc so X W g x (band (band h).1).2) (pe_one hb.pe) (pw_and1 (hb.pt (band (band h).2).1))
    | .And, x :: y :: z :: r, h =>
      have h : (noIf x && chkE T.nm N sc so a x && chkE T.nm N sc so b (.BoolOp .And (y :: z :: r) p)) = true := h
      have hb := sndE tb b sc so X W g (.BoolOp .And (y :: z :: r) p) (band h).2
      exact s_and g (band (band h).1).1 (sndE tb a sc so X W g x (band (band h).1).2) hb.pe (hb.pw rfl)
    | .And, [], h => cases h
    | .And, [_], h => cases h
    | .Or, _, h => cases h
  | .or a b, sc, so, X, W, g, x, h => by
    cases x <;> first | (cases h; done) | skip
    rename_i o xs p
    match o, xs, h with
    | .Or, [x, y], h =>
      have h : (noIf x && chkE T.nm N sc so a x && (noIf y && chkE T.nm N sc so b y)) = true := h
      have hb := sndE tb b sc so X W g y (band (band h).2).2
      exact s_or g (band (band h).1).1 (sndE tb a sc so X W g x (band (band h).1).2) (pe_one hb.pe) (pw_or1 (hb.pt (band (band h).2).1))
    | .Or, x :: y :: z :: r, h =>
      have h : (noIf x && chkE T.nm N sc so a x && chkE T.nm N sc so b (.BoolOp .Or (y :: z :: r) p)) = true := h
      have hb := sndE tb b sc so X W g (.BoolOp .Or (y :: z :: r) p) (band h).2
      exact s_or g (band (band h).1).1 (sndE tb a sc so X W g x (band (band h).1).2) hb.pe (hb.pw rfl)
    | .Or, [], h => cases h
    | .Or, [_], h => cases h
    | .And, _, h => cases h
  | .ife c a b, sc, so, X, W, g, x, h => by
    cases x <;> first | (cases h; done) | skip
    rename_i x y z p
    have h : (noIf x && chkE T.nm N sc so c x && chkE T.nm N sc so a y && chkE T.nm N sc so b z) = true := h
    obtain ⟨h, h4⟩ := band h
    obtain ⟨h, h3⟩ := band h
    exact ⟨s_ife g (band h).1 (sndE tb c sc so X W g x (band h).2) (sndE tb a sc so X W g y h3).pe (sndE tb b sc so X W g z h4).pe, fun z => (by cases z), fun z => (by cases z)⟩
  | .ix a b, sc, so, X, W, g, x, h => by
    cases x <;> first | (cases h; done) | skip
    rename_i x y p
    have h : (okX y && chkE T.nm N sc so a x && chkE T.nm N sc so b y) = true := h
    exact Snd.plain g.hK rfl (s_ix g (band (band h).1).1 (sndE tb a sc so X W g x (band (band h).1).2).pe (sndE tb b sc so X W g y (band h).2).pe)
  | .cutA new a lo, sc, so, X, W, g, x, h => by
    cases x <;> first | (cases h; done) | skip
    rename_i x y p
    cases y <;> first | (cases h; done) | skip
    rename_i lo' hi' st q
    match lo', hi', st, h with
    | some y, none, none, h =>
      have h : (chkE T.nm N sc so a x && chkE T.nm N sc so lo y) = true := h
      exact Snd.plain g.hK rfl (s_cutA g (sndE tb a sc so X W g x (band h).1).pe (sndE tb lo sc so X W g y (band h).2).pe)
    | none, _, _, h => cases h
    | some _, some _, _, h => cases h
    | some _, none, some _, h => cases h
  | .cutB new a hi, sc, so, X, W, g, x, h => by
    cases x <;> first | (cases h; done) | skip
    rename_i x y p
    cases y <;> first | (cases h; done) | skip
    rename_i lo' hi' st q
    match lo', hi', st, h with
    | none, some y, none, h =>
      have h : (chkE T.nm N sc so a x && chkE T.nm N sc so hi y) = true := h
      exact Snd.plain g.hK rfl (s_cutB g (sndE tb a sc so X W g x (band h).1).pe (sndE tb hi sc so X W g y (band h).2).pe)
    | some _, _, _, h => cases h
    | none, none, _, h => cases h
    | none, some _, some _, h => cases h
  | .cutC new a lo hi, sc, so, X, W, g, x, h => by
    cases x <;> first | (cases h; done) | skip
    rename_i x y p
    cases y <;> first | (cases h; done) | skip
    rename_i lo' hi' st q
    match lo', hi', st, h with
    | some y, some z, none, h =>
      have h : (chkE T.nm N sc so a x && chkE T.nm N sc so lo y && chkE T.nm N sc so hi z) = true := h
      exact Snd.plain g.hK rfl (s_cutC g (sndE tb a sc so X W g x (band (band h).1).1).pe (sndE tb lo sc so X W g y (band (band h).1).2).pe (sndE tb hi sc so X W g z (band h).2).pe)
    | none, _, _, h => cases h
    | some _, none, _, h => cases h
    | some _, some _, some _, h => cases h
  | .rev new a, sc, so, X, W, g, x, h => by
    cases x <;> first | (cases h; done) | skip
    rename_i x y p
    cases y <;> first | (cases h; done) | skip
    rename_i lo' hi' st q
    match lo', hi', st, h with
    | none, none, some (.UnaryOp .USub (.Constant (.int j) _ _) _), h =>
      have h : (decide (j = 1) && chkE T.nm N sc so a x) = true := h
      cases dec (band h).1
      exact Snd.plain g.hK rfl (s_rev g (sndE tb a sc so X W g x (band h).2).pe)
    | some _, _, _, h => cases h
    | none, some _, _, h => cases h
    | none, none, none, h => cases h
    | none, none, some z, h =>
      cases z <;> first | (cases h; done) | skip
      rename_i o w q
      cases o <;> first | (cases h; done) | skip
      cases w <;> first | (cases h; done) | skip
      rename_i c k q2
      cases c <;> first | (cases h; done) | skip
      rename_i j
      have h : (decide (j = 1) && chkE T.nm N sc so a x) = true := h
      cases dec (band h).1
      exact Snd.plain g.hK rfl (s_rev g (sndE tb a sc so X W g x (band h).2).pe)
  | .call k es, sc, so, X, W, g, x, h => by
    cases x <;> first | (cases h; done) | skip
    rename_i f xs ks p
    cases f <;> first | (cases h; done) | skip
    rename_i v p'
    cases ks with
    | cons _ _ => cases h
    | nil =>
    have h : (decide (T.nm.fns[k]? = some v) && isGl sc v && noDbg v && chkEs T.nm N sc so es xs) = true := h
    obtain ⟨h, h4⟩ := band h
    obtain ⟨h, h3⟩ := band h
    obtain ⟨r1, r2, r3⟩ := sndEs tb es sc so X W g xs h4
    exact Snd.plain g.hK rfl (s_call g tb (dec (band h).1) (band h).2 h3 r2 r3 r1)
  | .bf new f a, sc, so, X, W, g, x, h => by
    cases x <;> first | (cases h; done) | skip
    rename_i f' xs ks p
    cases f' <;> first | (cases h; done) | skip
    rename_i v p'
    match xs, ks, h with
    | [y], [], h =>
      have h : (decide (v = bfNm f) && bltN T.nm sc v && okX y && chkE T.nm N sc so a y) = true := h
      obtain ⟨h, h4⟩ := band h
      obtain ⟨h, h3⟩ := band h
      exact Snd.plain g.hK rfl (s_bf g tb (dec (band h).1) (band h).2 h3 (sndE tb a sc so X W g y h4).pe)
    | [], _, h => cases h
    | [_], _ :: _, h => cases h
    | _ :: _ :: _, _, h => cases h
  | .isi a t, sc, so, X, W, g, x, h => by
    cases x <;> first | (cases h; done) | skip
    rename_i f xs ks p
    cases f <;> first | (cases h; done) | skip
    rename_i v p'
    match xs, ks, h with
    | [y, z], [], h =>
      cases z <;> first | (cases h; done) | skip
      rename_i u q
      have h : (decide (v = "isinstance") && bltN T.nm sc v && decide (u = tyNm t) && bltN T.nm sc u && okX y && chkE T.nm N sc so a y) = true := h
      obtain ⟨h, h6⟩ := band h
      obtain ⟨h, h5⟩ := band h
      obtain ⟨h, h4⟩ := band h
      obtain ⟨h, h3⟩ := band h
      exact Snd.plain g.hK rfl (s_isi g tb (dec (band h).1) (band h).2 (dec h3) h4 h5 (sndE tb a sc so X W g y h6).pe)
    | [], _, h => cases h
    | [_], _, h => cases h
    | [_, z], _ :: _, h => cases z <;> cases h
    | _ :: z :: _ :: _, ks, h => cases z <;> first | (cases h; done) | (cases ks <;> cases h)
  | .lrng1 new e, sc, so, X, W, g, x, h => by
    cases x <;> first | (cases h; done) | skip
    rename_i f xs ks p
    cases f <;> first | (cases h; done) | skip
    rename_i v p'
    match xs, ks, h with
    | [w], [], h =>
      have h : (match rngArgs w with
        | some (u, [y]) => decide (v = "list") && bltN T.nm sc v && decide (u = "range") && bltN T.nm sc u && okX y && chkE T.nm N sc so e y
        | _ => false) = true := h
      split at h
      · rename_i u y hr
        obtain ⟨p2, q2, rfl⟩ := rngArgs_eq hr
        obtain ⟨h, h6⟩ := band h
        obtain ⟨h, h5⟩ := band h
        obtain ⟨h, h4⟩ := band h
        obtain ⟨h, h3⟩ := band h
        exact Snd.plain g.hK rfl (s_lrng1 g tb (dec (band h).1) (band h).2 (dec h3) h4 h5 (sndE tb e sc so X W g y h6).pe)
      · cases h
    | [], _, h => cases h
    | [_], _ :: _, h => cases h
    | _ :: _ :: _, _, h => cases h
  | .lrng2 new e f, sc, so, X, W, g, x, h => by
    cases x <;> first | (cases h; done) | skip
    rename_i f' xs ks p
    cases f' <;> first | (cases h; done) | skip
    rename_i v p'
    match xs, ks, h with
    | [w], [], h =>
      have h : (match rngArgs w with
        | some (u, [y, z]) => decide (v = "list") && bltN T.nm sc v && decide (u = "range") && bltN T.nm sc u && okX y && okX z && chkE T.nm N sc so e y && chkE T.nm N sc so f z
        | _ => false) = true := h
      split at h
      · rename_i u y z hr
        obtain ⟨p2, q2, rfl⟩ := rngArgs_eq hr
        obtain ⟨h, h8⟩ := band h
        obtain ⟨h, h7⟩ := band h
        obtain ⟨h, h6⟩ := band h
        obtain ⟨h, h5⟩ := band h
        obtain ⟨h, h4⟩ := band h
        obtain ⟨h, h3⟩ := band h
        exact Snd.plain g.hK rfl (s_lrng2 g tb (dec (band h).1) (band h).2 (dec h3) h4 h5 h6 (sndE tb e sc so X W g y h7).pe (sndE tb f sc so X W g z h8).pe)
      · cases h
    | [], _, h => cases h
    | [_], _ :: _, h => cases h
    | _ :: _ :: _, _, h => cases h
  | .mth0 mt o, sc, so, X, W, g, x, h => by
    cases x <;> first | (cases h; done) | skip
    rename_i f xs ks p
    cases f <;> first | (cases h; done) | skip
    rename_i y v p'
    match xs, ks, h with
    | [], [], h =>
      have h : (decide (v = mtNm mt) && decide (p'.endLine = p.line) && okX y && chkE T.nm N sc so o y) = true := h
      obtain ⟨h, h4⟩ := band h
      obtain ⟨h, h3⟩ := band h
      exact Snd.plain g.hK rfl (s_mth0 g (dec (band h).1) (dec (band h).2) h3 (sndE tb o sc so X W g y h4).pe)
    | _ :: _, _, h => cases h
    | [], _ :: _, h => cases h
  | .mth1 mt o a, sc, so, X, W, g, x, h => by
    cases x <;> first | (cases h; done) | skip
    rename_i f xs ks p
    cases f <;> first | (cases h; done) | skip
    rename_i y v p'
    match xs, ks, h with
    | [z], [], h =>
      have h : (decide (v = mtNm mt) && decide (p'.endLine = p.line) && okX y && okX z && chkE T.nm N sc so o y && chkE T.nm N sc so a z) = true := h
      obtain ⟨h, h6⟩ := band h
      obtain ⟨h, h5⟩ := band h
      obtain ⟨h, h4⟩ := band h
      obtain ⟨h, h3⟩ := band h
      exact Snd.plain g.hK rfl (s_mth1 g (dec (band h).1) (dec (band h).2) h3 h4 (sndE tb o sc so X W g y h5).pe (sndE tb a sc so X W g z h6).pe)
    | [], _, h => cases h
    | [_], _ :: _, h => cases h
    | _ :: _ :: _, _, h => cases h
  | .comp new own elt t it ifs, sc, so, X, W, g, x, h => by
    cases x <;> first | (cases h; done) | skip
    rename_i ex gens scope p
    have h : (match gens1 gens with
      | some (tg, iter, ifx) => blkC N sc scope (ownP N own) && okX iter && t.slots.all own.contains && chkT N scope t tg && chkI T.nm N sc so it tg iter && chkW T.nm N (relS scope sc) scope ifs ifx && chkE T.nm N (relS scope sc) scope elt ex
      | none => false) = true := h
    split at h
    · rename_i tg iter ifx hg
      cases gens1_eq hg
      obtain ⟨h, h7⟩ := band h
      obtain ⟨h, h6⟩ := band h
      obtain ⟨h, h5⟩ := band h
      obtain ⟨h, h4⟩ := band h
      obtain ⟨h, h3⟩ := band h
      exact Snd.plain g.hK rfl (s_comp g (band h).1 (band h).2 h3 h4 (sndI tb it sc so X W g tg iter h5) (fun s H C cl fp => sndW tb ifs _ _ _ _ (g.blk s H scope C cl fp) ifx h6) (fun s H C cl fp => (sndE tb elt _ _ _ _ (g.blk s H scope C cl fp) ex h7).pe))
    · cases h
  | .comp2 new own elt t1 i1 t2 i2, sc, so, X, W, g, x, h => by
    cases x <;> first | (cases h; done) | skip
    rename_i ex gens scope p
    have h : (match gens2 gens with
      | some (tg, iter, tg2, iter2) => blkC N sc scope (ownP N own) && okX iter && okX iter2 && t1.slots.all own.contains && t2.slots.all own.contains && chkT N scope t1 tg && chkT N scope t2 tg2 && chkI T.nm N sc so i1 tg iter && chkI T.nm N (relS scope sc) scope i2 tg2 iter2 && chkE T.nm N (relS scope sc) scope elt ex
      | none => false) = true := h
    split at h
    · rename_i tg iter tg2 iter2 hg
      cases gens2_eq hg
      obtain ⟨h, h10⟩ := band h
      obtain ⟨h, h9⟩ := band h
      obtain ⟨h, h8⟩ := band h
      obtain ⟨h, h7⟩ := band h
      obtain ⟨h, h6⟩ := band h
      obtain ⟨h, h5⟩ := band h
      obtain ⟨h, h4⟩ := band h
      obtain ⟨h, h3⟩ := band h
      exact Snd.plain g.hK rfl (s_comp2 g (band h).1 (band h).2 h3 h4 h5 h6 h7 (sndI tb i1 sc so X W g tg iter h8) (fun s H C cl fp => sndI tb i2 _ _ _ _ (g.blk s H scope C cl fp) tg2 iter2 h9) (fun s H C cl fp => (sndE tb elt _ _ _ _ (g.blk s H scope C cl fp) ex h10).pe))
    · cases h
theorem sndEs {T : Tb} (tb : TbOk T n call) : ∀ (es : Es) (sc so : Scope) (X : Cx) (W : WX) (g : Good T n N sc so X W) (xs : List Expr), chkEs T.nm N sc so es xs = true → PA X xs (tA T.toAd W (sEs T call es)) ∧ xs.all okX = true ∧ (xs = [] → es = .nil)
  | .nil, sc, so, X, W, g, xs, h => by
    cases xs with
    | nil => exact ⟨PA.nil g, rfl, fun _ => rfl⟩
    | cons _ _ => cases h
  | .cons e es, sc, so, X, W, g, xs, h => by
    cases xs with
    | nil => cases h
    | cons x xs =>
      have h : (okX x && chkE T.nm N sc so e x && chkEs T.nm N sc so es xs) = true := h
      obtain ⟨h, h3⟩ := band h
      obtain ⟨r1, r2, _⟩ := sndEs tb es sc so X W g xs h3
      exact ⟨PA.cons (sndE tb e sc so X W g x (band h).2).pe r1 (band h).1, by rw [List.all_cons, (band h).1, r2]; rfl, fun z => (by cases z)⟩
theorem sndW {T : Tb} (tb : TbOk T n call) : ∀ (es : Es) (sc so : Scope) (X : Cx) (W : WX) (g : Good T n N sc so X W) (xs : List Expr), chkW T.nm N sc so es xs = true → PTs X xs (tB T.toAd W fun env S => Es.tst call T.G es env S)
  | .nil, sc, so, X, W, g, xs, h => by
    cases xs with
    | nil => exact pts_ok
    | cons _ _ => cases h
  | .cons e es, sc, so, X, W, g, xs, h => by
    match es, xs, h with
    | .nil, [x], h =>
      have h : (noIf x && chkE T.nm N sc so e x) = true := h
      exact pts_one ((sndE tb e sc so X W g x (band h).2).pt (band h).1)
    | .nil, [], h => cases h
    | .nil, _ :: _ :: _, h => cases h
    | .cons _ _, _, h => cases h
theorem sndI {T : Tb} (tb : TbOk T n call) : ∀ (i : I) (sc so : Scope) (X : Cx) (W : WX) (g : Good T n N sc so X W) (tg x : Expr), chkI T.nm N sc so i tg x = true → PI X tg x (tI T.toAd W (sI T call i))
  | .seq e, sc, so, X, W, g, tg, x, h => i_seq g (sndE tb e sc so X W g x h).pe
  | .rng es, sc, so, X, W, g, tg, x, h => by
    cases x <;> first | (cases h; done) | skip
    rename_i f xs ks p
    cases f <;> first | (cases h; done) | skip
    rename_i v p'
    cases ks with
    | cons _ _ => cases h
    | nil =>
    have h : (decide (v = "range") && bltN T.nm sc v && few xs && chkEs T.nm N sc so es xs) = true := h
    obtain ⟨h5, h4⟩ := band h
    obtain ⟨h6, h3⟩ := band h5
    obtain ⟨r1, r2, _⟩ := sndEs tb es sc so X W g xs h4
    clear h h5
    have h7 := dec (band h6).1
    have h8 := (band h6).2
    match xs, h3 with
    | [a], _ => exact i_rng1 g tb h7 h8 (by simpa using r2) (chkEs_len h4) r1
    | [a, b], _ =>
      have r2 : okX a = true ∧ okX b = true := by simpa using r2
      exact i_rng2 g tb h7 h8 r2.1 r2.2 (chkEs_len h4) r1
    | [a, b, c], _ =>
      have r2 : okX a = true ∧ okX b = true ∧ okX c = true := by simpa using r2
      exact i_rng3 g tb h7 h8 r2.1 r2.2.1 r2.2.2 (chkEs_len h4) r1
    | [], h => cases h
    | _ :: _ :: _ :: _ :: _, h => cases h
  | .enz a b, sc, so, X, W, g, tg, x, h => by
    obtain ⟨u, p1, v, p2, y, z, p3, p4, rfl, h1⟩ := enz_call_of h
    obtain ⟨h1, h7⟩ := band h1
    obtain ⟨h1, h6⟩ := band h1
    obtain ⟨h1, h5⟩ := band h1
    obtain ⟨h1, h4⟩ := band h1
    obtain ⟨h1, h3⟩ := band h1
    obtain ⟨h1, h9⟩ := band h1
    obtain ⟨h1, h8⟩ := band h1
    have ha := dec (band h1).1
    have hb := (band h1).2
    clear h h1
    cases tg <;> first | (cases h3; done) | skip
    exact i_enz g tb ha hb (dec h8) h9 h4 h5 (sndE tb a sc so X W g y h6).pe (sndE tb b sc so X W g z h7).pe
  | .zip a b, sc, so, X, W, g, tg, x, h => by
    cases x <;> first | (cases h; done) | skip
    rename_i f xs ks p
    cases f <;> first | (cases h; done) | skip
    rename_i v p'
    match xs, ks, h with
    | [y, z], [], h =>
      have h1 : (decide (v = "zip") && bltN T.nm sc v && isTup tg && okX y && okX z && chkE T.nm N sc so a y && chkE T.nm N sc so b z) = true := h
      obtain ⟨h1, h7⟩ := band h1
      obtain ⟨h1, h6⟩ := band h1
      obtain ⟨h1, h5⟩ := band h1
      obtain ⟨h1, h4⟩ := band h1
      obtain ⟨h1, h3⟩ := band h1
      have h8 := dec (band h1).1
      have h9 := (band h1).2
      clear h h1
      cases tg <;> first | (cases h3; done) | skip
      exact i_zip g tb h8 h9 h4 h5 (sndE tb a sc so X W g y h6).pe (sndE tb b sc so X W g z h7).pe
    | [], _, h => cases h
    | [_], _, h => cases h
    | [_, _], _ :: _, h => cases h
    | _ :: _ :: _ :: _, _, h => cases h
end
end
end Ev


namespace Ev
open PySem PySem.Spec L2 PyProof.Rows
/-! ### statements: the checker -/
def noCo : Expr → Bool
  | .ListComp .. => false
  | .SetComp .. => false
  | .DictComp .. => false
  | _ => true
/-- not stored from the right -/
def noTp : Expr → Bool
  | .Tuple .. => false
  | _ => true
def txt1 : List Expr → Bool
  | [.Constant (.str _) _ _] => true
  | _ => false
def nameT : List Expr → Option Str
  | [.Name x _] => some x
  | _ => none
def tupT : List Expr → Option (List Expr × Nat × Pos)
  | [.Tuple es k p] => some (es, k, p)
  | _ => none
def subT : List Expr → Option (Expr × Expr)
  | [.Subscript x y _] => some (x, y)
  | _ => none
def rseT : Option Expr → Option Expr → Option (Str × List Expr)
  | some (.Call (.Name x _) as [] _), none => some (x, as)
  | _, _ => none
def isDoc : Expr → Bool
  | .Constant (.str _) _ _ => true
  | _ => false
theorem nameT_eq {ts : List Expr} {x : Str} (h : nameT ts = some x) : ∃ p, ts = [.Name x p] := by
  unfold nameT at h
  split at h
  · cases h
    exact ⟨_, rfl⟩
  · cases h
theorem tupT_eq {ts es : List Expr} {k : Nat} {p : Pos} (h : tupT ts = some (es, k, p)) : ts = [.Tuple es k p] := by
  unfold tupT at h
  split at h
  · cases h
    rfl
  · cases h
theorem subT_eq {ts : List Expr} {x y : Expr} (h : subT ts = some (x, y)) : ∃ p, ts = [.Subscript x y p] := by
  unfold subT at h
  split at h
  · cases h
    exact ⟨_, rfl⟩
  · cases h
theorem rseT_eq {e c : Option Expr} {x : Str} {as : List Expr} (h : rseT e c = some (x, as)) : ∃ p q, e = some (.Call (.Name x p) as [] q) ∧ c = none := by
  unfold rseT at h
  split at h
  · cases h
    exact ⟨_, _, rfl, rfl⟩
  · cases h
theorem isDoc_eq {x : Expr} (h : isDoc x = true) : ∃ s j p, x = .Constant (.str s) j p := by
  unfold isDoc at h
  split at h
  · exact ⟨_, _, _, rfl⟩
  · cases h
section
variable (nm : Names) (N : List Str)
mutual
def chkS (sc : Scope) : Ev.St → Stmt → Bool
  | .set i e, .Assign ts v _ => match nameT ts with
    | some x => decide (N[i]? = some x) && stO sc x && chkE nm N sc sc e v
    | none => false
  | .asg t e, .Assign ts v _ => match tupT ts with
    | some (es, k, p) => noTp v && chkT N sc t (.Tuple es k p) && chkE nm N sc sc e v
    | none => false
  | .put o i e, .Assign ts v _ => match subT ts with
    | some (x, y) => noCo v && okX y && chkE nm N sc sc o x && chkE nm N sc sc i y && chkE nm N sc sc e v
    | none => false
  | .aug i op e, .AugAssign (.Name x _) o v _ => decide (N[i]? = some x) && stO sc x && chkB op o && chkE nm N sc sc e v
  | .ex e, .Expr v _ => noCo v && chkE nm N sc sc e v
  | .ret e, .Return (some v) _ => chkE nm N sc sc e v
  | .retN, .Return none _ => true
  | .ite c a b, .If x y z _ => noIf x && chkE nm N sc sc c x && chkSs sc a y && chkSs sc b z
  | .whl c b, .While x y [] _ => noIf x && chkE nm N sc sc c x && chkSs sc b y
  | .for t it b, .For tg iter y [] _ => okX iter && chkT N sc t tg && chkI nm N sc sc it tg iter && chkSs sc b y
  | .rse k, .Raise e c _ => match rseT e c with
    | some (x, as) => decide (nm.cls[k]? = some x) && isGl sc x && noDbg x && txt1 as
    | none => false
  | .pas, .Pass _ => true
  | .pas, .Expr v _ => isDoc v
  | .brk, .Break _ => true
  | .cnt, .Continue _ => true
  | .nev, _ => true
  | _, _ => false
def chkSs (sc : Scope) : Ev.Ss → List Stmt → Bool
  | .nil, [] => true
  | .cons s ss, x :: xs => chkS sc s x && chkSs sc ss xs
  | _, _ => false
end
end
section
variable {T : Tb} {n : Nat} {N : List Str} {sc : Scope} {X : Cx} {W : WX} {call : Call} {a b c : E} {x y z : Expr} {pos : Pos}
abbrev sS (T : Tb) (call : Call) (s : Ev.St) : Env → Store → SR := fun env S => Ev.St.ev call T.G s env S
abbrev sSs (T : Tb) (call : Call) (s : Ev.Ss) : Env → Store → SR := fun env S => Ev.Ss.ev call T.G s env S
theorem nosw {t : Option Expr} {l : Nat} {env : PySem.Env} (h : noCo x = true) : swapsWith x t l env = pure false := by
  unfold swapsWith
  cases x <;> first | rfl | (cases h)
theorem nosw1 {t : Expr} {l : Nat} {env : PySem.Env} (h : noCo x = true) : swapsWithSole [t] x l env = pure false := nosw h
/-- the end of an expression within a statement -/
theorem stE {T : Ad} {m : Mp} {H : Hp} {σ : L2.St} {S : Store} {env : Env} {f : Env → Store → R D} {g : D → Store → SR} {E : Ends} {Q : VK} (he : REnv T m H env σ) (r : RS T m H S) (h : PostS T ((f env S).st env g) m H W E)
    (next : ∀ dx S1 m1 H1, Ext m H m1 H1 → RS T m1 H1 S1 → PostS T (g dx S1) m1 H1 W E → ∀ v, RD T m1 H1 dx v → Q v H1) : tE T W f σ H Q := seqE he r (PostK.st he h) next
theorem t_set {i : Nat} {v : Str} {p : Pos} (g : Good T n N sc sc X W) (h1 : N[i]? = some v) (h2 : stO sc v = true) (hx : noCo x = true) (ha : PE X x (tE T.toAd W (sE T call a))) : PS X (.Assign [.Name v p] x pos) (tS T.toAd W (sS T call (.set i a))) := by
  obtain ⟨k1, k2⟩ := g.st v (stO_of h2)
  refine psImp (ps_set g.nd (by rw [g.hN]; exact h1) k1 ha (nosw hx) k2) fun E σ H q => ?_
  obtain ⟨env, m, S, he, r, q⟩ := q
  exact stE he r q fun dx S1 m1 H1 x1 r1 q1 w hw => q1 m1 H1 _ Ext.refl r1 ((he.ext x1).set hw)
theorem asg_k {S1 : Store} {o : Option Env} {m1 : Mp} {H1 : Hp} {E : Ends} (q : PostS T.toAd (match o with | some env1 => SR.nx env1 S1 | none => .stuck) m1 H1 W E) : ∃ env1, o = some env1 ∧ ∀ m' H' σ, Ext m1 H1 m' H' → RS T.toAd m' H' S1 → REnv T.toAd m' H' env1 σ → E.nx σ H' := by
  cases o with
  | none => exact q.elim
  | some e => exact ⟨e, rfl, q⟩
theorem nosw1T {ts : List Expr} {k : Nat} {p : Pos} {l : Nat} {env : PySem.Env} : swapsWithSole [.Tuple ts k p] x l env = pure false := by
  show swapsWith x (some (.Tuple ts k p)) l env = pure false
  unfold swapsWith
  cases x <;> rfl
theorem t_asg {t : Ev.T} {ts : List Expr} {k : Nat} {p : Pos} (g : Good T n N sc sc X W) (hx2 : noTp x = true) (ht : chkT N sc t (.Tuple ts k p) = true) (ha : PE X x (tE T.toAd W (sE T call a))) : PS X (.Assign [.Tuple ts k p] x pos) (tS T.toAd W (sS T call (.asg t a))) := by
  refine psImp (ps_asg ha (sndT g t _ ht) nosw1T (by cases x <;> first | rfl | cases hx2) rfl) fun E σ H q => ?_
  obtain ⟨env, m, S, he, r, q⟩ := q
  refine stE he r q fun dx S1 m1 H1 x1 r1 q1 w hw => ?_
  obtain ⟨env1, e, q1⟩ := asg_k q1
  exact Ev.T.use t dx w env env1 σ _ e hw (he.ext x1) fun σ' he' _ => q1 m1 H1 σ' Ext.refl r1 he'
theorem t_put {p : Pos} (g : Good T n N sc sc X W) (hx : noCo x = true) (hz : okX z = true) (ho : PE X y (tE T.toAd W (sE T call a))) (hi : PE X z (tE T.toAd W (sE T call b))) (ha : PE X x (tE T.toAd W (sE T call c))) :
    PS X (.Assign [.Subscript y z p] x pos) (tS T.toAd W (sS T call (.put a b c))) := by
  refine psImp (ps_asg ha (pg_sub ho hi (set_any (by have := g.rm.room.un; omega)) fun v => by cases z <;> first | rfl | cases hz) (nosw1 hx) (by cases x <;> rfl) rfl) fun E σ H q => ?_
  obtain ⟨env, m, S, he, r, q⟩ := q
  refine stE he r q fun dv S1 m1 H1 x1 r1 q1 v hv => stE (he.ext x1) r1 q1 fun dx S2 m2 H2 x2 r2 q2 w hw => stE ((he.ext x1).ext x2) r2 q2 fun dy S3 m3 H3 x3 r3 q3 u hu => ?_
  cases e : putV dx dy dv S3 with
  | none =>
    rw [e] at q3
    exact q3.elim
  | some S4 =>
    rw [e] at q3
    exact put_use r3 (RD.ext x3 _ _ hw) hu (RD.ext (x2.trans x3) _ _ hv) e fun H' x4 r4 => q3 m3 H' σ x4 r4 ((((he.ext x1).ext x2).ext x3).ext x4)
def rAug : Bop → TIp
  | .add => ipI fun i j => i + j
  | .sub => ipI fun i j => i - j
  | _ => fun _ _ _ _ => False
theorem aug_ok {X : Cx} (op : Bop) : PIp X (opB op) (rAug op) := by
  cases op with
  | add => exact ip_add
  | sub => exact ip_sub
  | _ => exact fun _ _ _ _ _ _ _ _ _ _ _ _ h => h.elim
theorem aug_use {T : Ad} {m : Mp} {H : Hp} {op : Bop} {dx dy dz : D} {v w : V} {Q : VK} (h : augV op dx dy = some dz) (hv : RD T m H dx v) (hw : RD T m H dy w) (k : ∀ u, RD T m H dz u → Q u H) : rAug op v w H Q := by
  unfold augV at h
  split at h
  · cases h
    exact ⟨_, _, rd_int hv, rd_int hw, k _ rfl⟩
  · cases h
    exact ⟨_, _, rd_int hv, rd_int hw, k _ rfl⟩
  · cases h
theorem t_aug {i : Nat} {v : Str} {p : Pos} {op : Bop} {o : Operator} (g : Good T n N sc sc X W) (h1 : N[i]? = some v) (h2 : stO sc v = true) (ho : chkB op o = true) (ha : PE X x (tE T.toAd W (sE T call a))) : PS X (.AugAssign (.Name v p) o x pos) (tS T.toAd W (sS T call (.aug i op a))) := by
  obtain ⟨k1, k2⟩ := g.st v (stO_of h2)
  cases of_decide_eq_true ho
  refine psImp (ps_aug g.nd (by rw [g.hN]; exact h1) k1 ha (aug_ok op) k2) fun E σ H q => ?_
  obtain ⟨env, m, S, he, r, q⟩ := q
  have q : PostS T.toAd (match env[i]? with | some (some x) => (Ev.E.ev call T.G a env S).st env fun y S => (match augV op x y with | some z => .nx (env.set i (some z)) S | none => .stuck) | _ => .stuck) m H W E := q
  cases e : env[i]? with
  | none =>
    rw [e] at q
    exact q.elim
  | some od =>
    cases od with
    | none =>
      rw [e] at q
      exact q.elim
    | some d =>
      rw [e] at q
      obtain ⟨w, hw1, hw2⟩ := he.at_ i d e
      refine ⟨w, hw1, stE he r q fun dx S1 m1 H1 x1 r1 q1 u hu => ?_⟩
      cases e2 : augV op d dx with
      | none =>
        rw [e2] at q1
        exact q1.elim
      | some dz =>
        rw [e2] at q1
        exact aug_use e2 (RD.ext x1 _ _ hw2) hu fun z hz => q1 m1 H1 _ Ext.refl r1 ((he.ext x1).set hz)
theorem t_ex (g : Good T n N sc sc X W) (hx : noCo x = true) (ha : PE X x (tE T.toAd W (sE T call a))) : PS X (.Expr x pos) (tS T.toAd W (sS T call (.ex a))) := by
  refine psImp (ps_expr ha (nosw hx)) fun E σ H q => ?_
  obtain ⟨env, m, S, he, r, q⟩ := q
  exact stE he r q fun dx S1 m1 H1 x1 r1 q1 w hw => q1 m1 H1 _ Ext.refl r1 (he.ext x1)
theorem t_ret (ha : PE X x (tE T.toAd W (sE T call a))) : PS X (.Return (some x) pos) (tS T.toAd W (sS T call (.ret a))) := by
  refine psImp (ps_ret ha) fun E σ H q => ?_
  obtain ⟨env, m, S, he, r, q⟩ := q
  exact stE he r q fun dx S1 m1 H1 x1 r1 q1 w hw => q1 m1 H1 w Ext.refl r1 hw
theorem t_retN : PS X (.Return none pos) (tS T.toAd W (sS T call .retN)) := by
  refine psImp ps_retN fun E σ H q => ?_
  obtain ⟨env, m, S, he, r, q⟩ := q
  exact q m H .non Ext.refl r rfl
theorem t_pas {st : Stmt} (h : PS X st tNext) : PS X st (tS T.toAd W (sS T call .pas)) := by
  refine psImp h fun E σ H q => ?_
  obtain ⟨env, m, S, he, r, q⟩ := q
  exact q m H σ Ext.refl r he
theorem t_brk : PS X (.Break pos) (tS T.toAd W (sS T call .brk)) := by
  refine psImp ps_break fun E σ H q => ?_
  obtain ⟨env, m, S, he, r, q⟩ := q
  exact q m H σ Ext.refl r he
theorem t_cnt : PS X (.Continue pos) (tS T.toAd W (sS T call .cnt)) := by
  refine psImp ps_continue fun E σ H q => ?_
  obtain ⟨env, m, S, he, r, q⟩ := q
  exact q m H σ Ext.refl r he
theorem tst_eq (env : Env) (S : Store) : E.tst call T.G a env S = tstOf (sE T call a) env S := rfl
theorem t_ite {u v : List Stmt} {p q : Ss} (hx : noIf x = true) (ha : Snd X T.toAd W x (sE T call a)) (hp : PSs X u (tS T.toAd W (sSs T call p))) (hq : PSs X v (tS T.toAd W (sSs T call q))) : PS X (.If x u v pos) (tS T.toAd W (sS T call (.ite a p q))) := by
  refine psImp (ps_if (ha.pt hx) hp hq) fun E σ H z => ?_
  obtain ⟨env, m, S, he, r, z⟩ := z
  refine seqB he r (PostK.st he z) fun k S1 m1 H1 x1 r1 z1 => ?_
  cases k with
  | true => exact ⟨env, m1, S1, he.ext x1, r1, z1⟩
  | false => exact ⟨env, m1, S1, he.ext x1, r1, z1⟩
theorem t_whl {u : List Stmt} {p : Ss} (g : Good T n N sc sc X W) (hx : noIf x = true) (ha : Snd X T.toAd W x (sE T call a)) (hp : PSs X u (tS T.toAd W (sSs T call p))) : PS X (.While x u [] pos) (tS T.toAd W (sS T call (.whl a p))) := by
  refine psImp (ps_while g.po (ha.pt hx) hp) fun E σ H z => ?_
  obtain ⟨env, m, S, he, r, z⟩ := z
  exact whl_use (n := T.G.lim) he r z
theorem t_for {u : List Stmt} {p : Ss} {tg iter : Expr} {t : Ev.T} {it : I} (g : Good T n N sc sc X W) (hx : okX iter = true) (ht : chkT N sc t tg = true) (hI : PI X tg iter (tI T.toAd W (sI T call it))) (hp : PSs X u (tS T.toAd W (sSs T call p))) :
    PS X (.For tg iter u [] pos) (tS T.toAd W (sS T call (.for t it p))) := by
  refine psImp (ps_for g.po g.calm hI (sndT g t tg ht) hp (fold_of hx X.env)) fun E σ H z => ?_
  obtain ⟨env, m, S, he, r, z⟩ := z
  exact for_use he r z
theorem t_rse {k : Nat} {v : Str} {as : List Expr} {p q : Pos} (g : Good T n N sc sc X W) (tb : TbOk T n call) (h1 : T.nm.cls[k]? = some v) (h2 : isGl sc v = true) (h3 : noDbg v = true) (h4 : txt1 as = true) : PS X (.Raise (some (.Call (.Name v p) as [] q)) none pos) (tS T.toAd W (sS T call (.rse k))) := by
  obtain ⟨k1, k2, k3, k4, k5⟩ := tb.cl k v h1
  rw [← g.hmg] at k1
  rw [← g.hK] at k2 k3 k4 k5
  have e : ∃ m j r, as = [.Constant (.str m) j r] := by
    unfold txt1 at h4
    split at h4
    · exact ⟨_, _, _, rfl⟩
    · cases h4
  obtain ⟨ms, j, r, rfl⟩ := e
  refine psImp (L2N.ps_raise g.calm g.tk (L2N.pmk_own PySem.F.excBase_ValueError k3 k1 k2 (raises_own k4 k5) (gl_of g h2) (noDbg_1 h3))) fun E σ H z => ?_
  obtain ⟨env, m, S, he, r, z⟩ := z
  exact z.2 m H σ Ext.refl r he

/-! ### a name set to a comprehension -/
theorem sw_of {elt : Expr} {gs : List Comprehension} {scope : Scope} {p1 p : Pos} {v : Str} {l : Nat} {env : PySem.Env} : ∃ b : Bool, swapsWith (.ListComp elt gs scope p1) (some (.Name v p)) l env = pure b ∧ (b = true → env.scope.names.lookup v = some .local) := by
  refine ⟨env.blockKind == .function && env.kindOf v == some .local && p.line == p1.line && !(scope.names.any fun (n, k) => n == v && (k == .local || k == .cell)), rfl, fun h => ?_⟩
  simp only [Bool.and_eq_true] at h
  exact beq_iff_eq.mp h.1.1.2
variable {t t2 : Ev.T} {it i2 : I} {ifs : Es} {own : List Nat} {scope : Scope} {tg tg2 iter iter2 : Expr} {ifx : List Expr} {new : Bool}
theorem t_setC {i : Nat} {v : Str} {p p1 : Pos} (g : Good T n N sc sc X W) (h1 : N[i]? = some v) (h2 : stO sc v = true) (hb : blkC N sc scope (ownP N own) = true) (hi : okX iter = true) (hs : t.slots.all own.contains = true) (ht : chkT N scope t tg = true) (hI : PI X tg iter (tI T.toAd W (sI T call it)))
    (hw : ∀ s H C cl fp, PTs (Blk X scope s H C cl fp) ifx (tB T.toAd W0 fun env S => Es.tst call T.G ifs env S)) (he : ∀ s H C cl fp, PE (Blk X scope s H C cl fp) x (tE T.toAd W0 (sE T call a))) :
    PS X (.Assign [.Name v p] (.ListComp x [⟨tg, iter, ifx, 0⟩] scope p1) pos) (tS T.toAd W (sS T call (.set i (.comp new own a t it ifs)))) := by
  obtain ⟨k1, k2⟩ := g.st v (stO_of h2)
  have ok : BlkOk X.N X.env.scope scope (ownP N own) := by
    rw [g.hN, g.scp]
    exact blkOk_by hb
  obtain ⟨b, hsw, hl⟩ := sw_of (elt := x) (gs := [⟨tg, iter, ifx, 0⟩]) (scope := scope) (p1 := p1) (p := p) (v := v) (l := pos.line) (env := X.env)
  cases b with
  | false =>
    refine psImp (ps_set g.nd (by rw [g.hN]; exact h1) k1 (s_comp (new := new) (own := own) g hb hi hs ht hI hw he) hsw k2) fun E σ H q => ?_
    obtain ⟨env, m, S, he, r, q⟩ := q
    exact stE he r q fun dx S1 m1 H1 x1 r1 q1 w hw => q1 m1 H1 _ Ext.refl r1 ((he.ext x1).set hw)
  | true =>
    refine psImp (ps_setLc g.calm g.nd (by rw [g.hN]; exact h1) (hl rfl) hsw hI ok (fun s H C cl fp => sndT (g.blk s H scope C cl fp) t tg ht) hw he (fold_of hi X.env)) fun E σ H q => ?_
    obtain ⟨env, m, S, he, r, q⟩ := q
    show tLc _ _ _ _ _ σ H _
    rw [own_eq]
    exact lc_use (new := new) (slots_of hs) he r ((PostK.st he q).imp fun dx S1 m1 H1 _ x1 r1 q1 w hw => q1 m1 H1 _ Ext.refl r1 ((he.ext x1).set hw))
theorem t_setC2 {i : Nat} {v : Str} {p p1 : Pos} (g : Good T n N sc sc X W) (h1 : N[i]? = some v) (h2 : stO sc v = true) (hb : blkC N sc scope (ownP N own) = true) (hi : okX iter = true) (hi2 : okX iter2 = true) (hs : t.slots.all own.contains = true) (hs2 : t2.slots.all own.contains = true) (ht : chkT N scope t tg = true) (ht2 : chkT N scope t2 tg2 = true) (hI : PI X tg iter (tI T.toAd W (sI T call it)))
    (hI2 : ∀ s H C cl fp, PI (Blk X scope s H C cl fp) tg2 iter2 (tI T.toAd W0 (sI T call i2))) (he : ∀ s H C cl fp, PE (Blk X scope s H C cl fp) x (tE T.toAd W0 (sE T call a))) :
    PS X (.Assign [.Name v p] (.ListComp x [⟨tg, iter, [], 0⟩, ⟨tg2, iter2, [], 0⟩] scope p1) pos) (tS T.toAd W (sS T call (.set i (.comp2 new own a t it t2 i2)))) := by
  obtain ⟨k1, k2⟩ := g.st v (stO_of h2)
  have ok : BlkOk X.N X.env.scope scope (ownP N own) := by
    rw [g.hN, g.scp]
    exact blkOk_by hb
  obtain ⟨b, hsw, hl⟩ := sw_of (elt := x) (gs := [⟨tg, iter, [], 0⟩, ⟨tg2, iter2, [], 0⟩]) (scope := scope) (p1 := p1) (p := p) (v := v) (l := pos.line) (env := X.env)
  cases b with
  | false =>
    refine psImp (ps_set g.nd (by rw [g.hN]; exact h1) k1 (s_comp2 (new := new) (own := own) g hb hi hi2 hs hs2 ht ht2 hI hI2 he) hsw k2) fun E σ H q => ?_
    obtain ⟨env, m, S, he, r, q⟩ := q
    exact stE he r q fun dx S1 m1 H1 x1 r1 q1 w hw => q1 m1 H1 _ Ext.refl r1 ((he.ext x1).set hw)
  | true =>
    refine psImp (ps_setLc2 (vs1 := t2.slots) g.calm g.nd (by rw [g.hN]; exact h1) (hl rfl) hsw hI ok (fun i hi => by rw [own_eq]; exact slots_of hs2 i hi) (fun s H C cl fp => sndT (g.blk s H scope C cl fp) t tg ht) (fun s H C cl fp => pts_nil) hI2 (fun s H C cl fp => sndT (g.blk s H scope C cl fp) t2 tg2 ht2) (fun s H C cl fp => pts_ok (T := T.toAd) (W := W0)) he (fold_of hi X.env) (fold_of hi2)) fun E σ H q => ?_
    obtain ⟨env, m, S, he, r, q⟩ := q
    show tLc2 _ _ _ _ _ _ _ _ _ σ H _
    rw [own_eq]
    exact lc2_use (new := new) (slots_of hs) he r ((PostK.st he q).imp fun dx S1 m1 H1 _ x1 r1 q1 w hw => q1 m1 H1 _ Ext.refl r1 ((he.ext x1).set hw))
/-- a name set to anything -/
theorem t_setA {i : Nat} {v : Str} {p : Pos} {e : E} (g : Good T n N sc sc X W) (tb : TbOk T n call) (h1 : N[i]? = some v) (h2 : stO sc v = true) (h : chkE T.nm N sc sc e x = true) : PS X (.Assign [.Name v p] x pos) (tS T.toAd W (sS T call (.set i e))) := by
  cases hc : noCo x with
  | true => exact t_set g h1 h2 hc (sndE tb e sc sc X W g x h).pe
  | false =>
    cases x <;> first | (cases hc; done) | skip
    · rename_i ex gens scope p1
      cases e <;> first | (cases h; done) | skip
      · rename_i new own elt t it ifs
        have h : (match gens1 gens with
          | some (tg, iter, ifx) => blkC N sc scope (ownP N own) && okX iter && t.slots.all own.contains && chkT N scope t tg && chkI T.nm N sc sc it tg iter && chkW T.nm N (relS scope sc) scope ifs ifx && chkE T.nm N (relS scope sc) scope elt ex
          | none => false) = true := h
        split at h
        · rename_i tg iter ifx hg
          cases gens1_eq hg
          obtain ⟨h, h7⟩ := band h
          obtain ⟨h, h6⟩ := band h
          obtain ⟨h, h5⟩ := band h
          obtain ⟨h, h4⟩ := band h
          obtain ⟨h, h3⟩ := band h
          exact t_setC g h1 h2 (band h).1 (band h).2 h3 h4 (sndI tb it sc sc X W g tg iter h5) (fun s H C cl fp => sndW tb ifs _ _ _ _ (g.blk s H scope C cl fp) ifx h6) (fun s H C cl fp => (sndE tb elt _ _ _ _ (g.blk s H scope C cl fp) ex h7).pe)
        · cases h
      · rename_i new own elt t1 i1 t2 i2
        have h : (match gens2 gens with
          | some (tg, iter, tg2, iter2) => blkC N sc scope (ownP N own) && okX iter && okX iter2 && t1.slots.all own.contains && t2.slots.all own.contains && chkT N scope t1 tg && chkT N scope t2 tg2 && chkI T.nm N sc sc i1 tg iter && chkI T.nm N (relS scope sc) scope i2 tg2 iter2 && chkE T.nm N (relS scope sc) scope elt ex
          | none => false) = true := h
        split at h
        · rename_i tg iter tg2 iter2 hg
          cases gens2_eq hg
          obtain ⟨h, h10⟩ := band h
          obtain ⟨h, h9⟩ := band h
          obtain ⟨h, h8⟩ := band h
          obtain ⟨h, h7⟩ := band h
          obtain ⟨h, h6⟩ := band h
          obtain ⟨h, h5⟩ := band h
          obtain ⟨h, h4⟩ := band h
          obtain ⟨h, h3⟩ := band h
          exact t_setC2 g h1 h2 (band h).1 (band h).2 h3 h4 h5 h6 h7 (sndI tb i1 sc sc X W g tg iter h8) (fun s H C cl fp => sndI tb i2 _ _ _ _ (g.blk s H scope C cl fp) tg2 iter2 h9) (fun s H C cl fp => (sndE tb elt _ _ _ _ (g.blk s H scope C cl fp) ex h10).pe)
        · cases h
    · cases e <;> cases h
    · cases e <;> cases h
end
end Ev


namespace Ev
open PySem PySem.Spec L2 PyProof.Rows
section
variable {T : Tb} {n : Nat} {N : List Str} {call : Call}
def flat : Ev.St → Bool
  | .ite .. => false
  | .whl .. => false
  | .for .. => false
  | _ => true
theorem sndS0 (tb : TbOk T n call) (s : Ev.St) (sc : Scope) (X : Cx) (W : WX) (g : Good T n N sc sc X W) (x : Stmt) (h : chkS T.nm N sc s x = true) (hf : flat s = true) : PS X x (tS T.toAd W (sS T call s)) := by
  cases s with
  | ite _ _ _ => cases hf
  | whl _ _ => cases hf
  | «for» _ _ _ => cases hf
  | par i j a b => cases x <;> cases h
  | set i e =>
    cases x <;> first | (cases h; done) | skip
    rename_i ts v p
    have h : (match nameT ts with
      | some x => decide (N[i]? = some x) && stO sc x && chkE T.nm N sc sc e v
      | none => false) = true := h
    split at h
    · rename_i y hy
      obtain ⟨q, rfl⟩ := nameT_eq hy
      exact t_setA g tb (dec (band (band h).1).1) (band (band h).1).2 (band h).2
    · cases h
  | asg t e =>
    cases x <;> first | (cases h; done) | skip
    rename_i ts v p
    have h : (match tupT ts with
      | some (es, k, p) => noTp v && chkT N sc t (.Tuple es k p) && chkE T.nm N sc sc e v
      | none => false) = true := h
    split at h
    · rename_i es k q hy
      cases tupT_eq hy
      obtain ⟨h, h4⟩ := band h
      obtain ⟨h, h3⟩ := band h
      exact t_asg g h h3 (sndE tb e sc sc X W g v h4).pe
    · cases h
  | put o i e =>
    cases x <;> first | (cases h; done) | skip
    rename_i ts v p
    have h : (match subT ts with
      | some (x, y) => noCo v && okX y && chkE T.nm N sc sc o x && chkE T.nm N sc sc i y && chkE T.nm N sc sc e v
      | none => false) = true := h
    split at h
    · rename_i y z hy
      obtain ⟨q, rfl⟩ := subT_eq hy
      obtain ⟨h, h5⟩ := band h
      obtain ⟨h, h4⟩ := band h
      obtain ⟨h, h3⟩ := band h
      exact t_put g (band h).1 (band h).2 (sndE tb o sc sc X W g y h3).pe (sndE tb i sc sc X W g z h4).pe (sndE tb e sc sc X W g v h5).pe
    · cases h
  | aug i op e =>
    cases x <;> first | (cases h; done) | skip
    rename_i y o v p
    cases y <;> first | (cases h; done) | skip
    rename_i y q
    have h : (decide (N[i]? = some y) && stO sc y && chkB op o && chkE T.nm N sc sc e v) = true := h
    obtain ⟨h, h4⟩ := band h
    obtain ⟨h, h3⟩ := band h
    exact t_aug g (dec (band h).1) (band h).2 h3 (sndE tb e sc sc X W g v h4).pe
  | ex e =>
    cases x <;> first | (cases h; done) | skip
    rename_i v p
    have h : (noCo v && chkE T.nm N sc sc e v) = true := h
    exact t_ex g (band h).1 (sndE tb e sc sc X W g v (band h).2).pe
  | ret e =>
    cases x <;> first | (cases h; done) | skip
    rename_i v p
    cases v with
    | none => cases h
    | some v => exact t_ret (sndE tb e sc sc X W g v h).pe
  | retN =>
    cases x <;> first | (cases h; done) | skip
    rename_i v p
    cases v with
    | none => exact t_retN
    | some v => cases h
  | rse k =>
    cases x <;> first | (cases h; done) | skip
    rename_i e c p
    have h : (match rseT e c with
      | some (x, as) => decide (T.nm.cls[k]? = some x) && isGl sc x && noDbg x && txt1 as
      | none => false) = true := h
    split at h
    · rename_i v as hy
      obtain ⟨p1, q1, rfl, rfl⟩ := rseT_eq hy
      obtain ⟨h, h4⟩ := band h
      obtain ⟨h, h3⟩ := band h
      exact t_rse g tb (dec (band h).1) (band h).2 h3 h4
    · cases h
  | pas =>
    cases x <;> first | (cases h; done) | skip
    · rename_i v p
      obtain ⟨s, j, q, rfl⟩ := isDoc_eq (show isDoc v = true from h)
      exact t_pas ps_doc
    · exact t_pas ps_pass
  | brk =>
    cases x <;> first | (cases h; done) | skip
    exact t_brk
  | cnt =>
    cases x <;> first | (cases h; done) | skip
    exact t_cnt
  | nev =>
    refine psImp ps_never fun E σ H q => ?_
    obtain ⟨env, m, S, he, r, q⟩ := q
    exact q
mutual
theorem sndS (tb : TbOk T n call) : ∀ (s : Ev.St) (sc : Scope) (X : Cx) (W : WX) (g : Good T n N sc sc X W) (x : Stmt), chkS T.nm N sc s x = true → PS X x (tS T.toAd W (sS T call s))
  | .set i e, sc, X, W, g, x, h => sndS0 tb _ sc X W g x h rfl
  | .asg t e, sc, X, W, g, x, h => sndS0 tb _ sc X W g x h rfl
  | .par i j a b, sc, X, W, g, x, h => sndS0 tb _ sc X W g x h rfl
  | .put o i e, sc, X, W, g, x, h => sndS0 tb _ sc X W g x h rfl
  | .aug i op e, sc, X, W, g, x, h => sndS0 tb _ sc X W g x h rfl
  | .ex e, sc, X, W, g, x, h => sndS0 tb _ sc X W g x h rfl
  | .ret e, sc, X, W, g, x, h => sndS0 tb _ sc X W g x h rfl
  | .retN, sc, X, W, g, x, h => sndS0 tb _ sc X W g x h rfl
  | .rse k, sc, X, W, g, x, h => sndS0 tb _ sc X W g x h rfl
  | .pas, sc, X, W, g, x, h => sndS0 tb _ sc X W g x h rfl
  | .brk, sc, X, W, g, x, h => sndS0 tb _ sc X W g x h rfl
  | .cnt, sc, X, W, g, x, h => sndS0 tb _ sc X W g x h rfl
  | .nev, sc, X, W, g, x, h => sndS0 tb _ sc X W g x h rfl
  | .ite c a b, sc, X, W, g, x, h => by
    cases x <;> first | (cases h; done) | skip
    rename_i x y z p
    have h : (noIf x && chkE T.nm N sc sc c x && chkSs T.nm N sc a y && chkSs T.nm N sc b z) = true := h
    obtain ⟨h, h4⟩ := band h
    obtain ⟨h, h3⟩ := band h
    exact t_ite (band h).1 (sndE tb c sc sc X W g x (band h).2) (sndSs tb a sc X W g y h3) (sndSs tb b sc X W g z h4)
  | .whl c b, sc, X, W, g, x, h => by
    cases x <;> first | (cases h; done) | skip
    rename_i x y z p
    cases z with
    | cons _ _ => cases h
    | nil =>
      have h : (noIf x && chkE T.nm N sc sc c x && chkSs T.nm N sc b y) = true := h
      exact t_whl g (band (band h).1).1 (sndE tb c sc sc X W g x (band (band h).1).2) (sndSs tb b sc X W g y (band h).2)
  | .for t it b, sc, X, W, g, x, h => by
    cases x <;> first | (cases h; done) | skip
    rename_i tg iter y z p
    cases z with
    | cons _ _ => cases h
    | nil =>
      have h : (okX iter && chkT N sc t tg && chkI T.nm N sc sc it tg iter && chkSs T.nm N sc b y) = true := h
      obtain ⟨h, h4⟩ := band h
      obtain ⟨h, h3⟩ := band h
      exact t_for g (band h).1 (band h).2 (sndI tb it sc sc X W g tg iter h3) (sndSs tb b sc X W g y h4)
theorem sndSs (tb : TbOk T n call) : ∀ (ss : Ev.Ss) (sc : Scope) (X : Cx) (W : WX) (g : Good T n N sc sc X W) (xs : List Stmt), chkSs T.nm N sc ss xs = true → PSs X xs (tS T.toAd W (sSs T call ss))
  | .nil, sc, X, W, g, xs, h => by
    cases xs with
    | cons _ _ => cases h
    | nil =>
      refine pssImp pss_nil fun E σ H q => ?_
      obtain ⟨env, m, S, he, r, q⟩ := q
      exact q m H σ Ext.refl r he
  | .cons s ss, sc, X, W, g, xs, h => by
    cases xs with
    | nil => cases h
    | cons x xs =>
      have h : (chkS T.nm N sc s x && chkSs T.nm N sc ss xs) = true := h
      refine pssImp (pss_cons (sndS tb s sc X W g x (band h).1) (sndSs tb ss sc X W g xs (band h).2)) fun E σ H q => ?_
      obtain ⟨env, m, S, he, r, q⟩ := q
      refine ⟨env, m, S, he, r, ?_⟩
      have q : PostS T.toAd ((Ev.St.ev call T.G s env S).seq fun env S => Ev.Ss.ev call T.G ss env S) m H W E := q
      show PostS T.toAd (Ev.St.ev call T.G s env S) m H W _
      cases e : Ev.St.ev call T.G s env S with
      | nx env1 S1 =>
        rw [e] at q
        exact fun m' H' σ' x1 r1 he1 => ⟨env1, m', S1, he1, r1, PostS.ext q x1⟩
      | rt d S1 =>
        rw [e] at q
        exact q
      | bk env1 S1 =>
        rw [e] at q
        exact q
      | ct env1 S1 =>
        rw [e] at q
        exact q
      | exc x1 env1 S1 =>
        rw [e] at q
        exact q
      | stuck =>
        rw [e] at q
        exact q
end
end

/-! ### the end of a body -/
section
variable {T : Ad} {m m' : Mp} {H H' H0 : Hp}
mutual
theorem RD.back {t : List Addr} (e : m'.c = m.c ++ t) (eh : m'.h = m.h) : ∀ (d : D) (v v0 : V), RD T m H0 d v0 → RD T m' H' d v → RD T m H' d v
  | .non, v, v0, _, h => h
  | .bl b, v, v0, _, h => h
  | .int i, v, v0, _, h => h
  | .str x, v, v0, _, h => h
  | .fn k, v, v0, _, h => h
  | .scr ns, v, v0, _, h => h
  | .tdc ks ds, v, v0, h0, h => by
    obtain ⟨p, as, vs, h1, h2, h3, h4, h5, h6⟩ := h
    obtain ⟨_, _, vs0, _, _, _, _, _, k6⟩ := h0
    exact ⟨p, as, vs, h1, h2, h3, h4, h5, RDs.back e eh ds vs vs0 k6 h6⟩
  | .ref l, v, v0, h0, h => by
    obtain ⟨p, h1, h2⟩ := h
    obtain ⟨p0, h3, _⟩ := h0
    have hl := (List.getElem?_eq_some_iff.mp h3).1
    rw [e, List.getElem?_append_left hl] at h1
    exact ⟨p, h1, h2⟩
  | .tup xs, v, v0, h0, h => by
    obtain ⟨p, vs, h1, h2, h3⟩ := h
    obtain ⟨_, vs0, _, _, h4⟩ := h0
    exact ⟨p, vs, h1, h2, RDs.back e eh xs vs vs0 h4 h3⟩
  | .lst xs, v, v0, h0, h => by
    obtain ⟨p, vs, h1, h2, h3⟩ := h
    obtain ⟨_, vs0, _, _, h4⟩ := h0
    exact ⟨p, vs, h1, ⟨h2.1, fun z => h2.2 (by
      rcases z with z | z
      · exact .inl (by rw [e]; exact List.mem_append_left _ z)
      · exact .inr (by rw [eh]; exact z))⟩, RDs.back e eh xs vs vs0 h4 h3⟩
theorem RDs.back {t : List Addr} (e : m'.c = m.c ++ t) (eh : m'.h = m.h) : ∀ (ds : List D) (vs vs0 : List V), RDs T m H0 ds vs0 → RDs T m' H' ds vs → RDs T m H' ds vs
  | [], vs, vs0, _, h => h
  | d :: ds, vs, vs0, h0, h => by
    obtain ⟨v, r, h1, h2, h3⟩ := h
    obtain ⟨w, q, _, k2, k3⟩ := h0
    exact ⟨v, r, h1, RD.back e eh d v w k2 h2, RDs.back e eh ds r q k3 h3⟩
end
theorem RKs.back {t : List Addr} (e : m'.c = m.c ++ t) (eh : m'.h = m.h) : ∀ (ds : List (D × D)) (vs vs0 : List (Key × V)), RKs T m H0 ds vs0 → RKs T m' H' ds vs → RKs T m H' ds vs
  | [], vs, vs0, _, h => h
  | d :: ds, vs, vs0, h0, h => by
    obtain ⟨k, v, r, h1, h2, h3, h4⟩ := h
    obtain ⟨k', w, q, _, _, k3, k4⟩ := h0
    exact ⟨k, v, r, h1, h2, RD.back e eh _ v w k3 h3, RKs.back e eh ds r q k4 h4⟩
theorem notm {t : List Addr} (e : m'.c = m.c ++ t) (eh : m'.h = m.h) {p : Addr} (h : ¬ m'.has p) : ¬ m.has p := fun z => h (by
  rcases z with z | z
  · exact .inl (by rw [e]; exact List.mem_append_left _ z)
  · exact .inr (by rw [eh]; exact z))
theorem Ext.back (x : Ext m H m' H') : Ext m H m H' := by
  obtain ⟨t, e⟩ := x.pre
  exact ⟨⟨⟨[], by simp⟩, x.tup, fun p vs h n => ⟨(x.lst p vs h n).1, n⟩, x.frz, x.ext, rfl, x.tab⟩, rfl, x.hid⟩
theorem RS.back {S S' : Store} (x : Ext m H m' H') (r : RS T m H S) (r' : RS T m' H' S') (h : S'.take S.length = S) : RS T m H' S := by
  obtain ⟨t, e⟩ := x.pre
  refine ⟨r.len, r.nd, fun p hp => ⟨(r.hid p hp).1, by rw [x.hid p hp]; exact (r.hid p hp).2⟩, fun p hp => (by rw [x.hid p hp]; exact r.hnt p hp), r.tt, x.tab r.tab, fun l ob p h1 h2 => ?_⟩
  have hl : l < S.length := (List.getElem?_eq_some_iff.mp h1).1
  have h3 : S'[l]? = some ob := by
    rw [← h1]
    conv => rhs; rw [← h]
    rw [List.getElem?_take, if_pos hl]
  obtain ⟨o, k1, k2⟩ := r'.at_ l ob p h3 (x.get h2)
  obtain ⟨o0, j1, j2⟩ := r.at_ l ob p h1 h2
  refine ⟨o, k1, ?_⟩
  cases ob with
  | lst xs =>
    obtain ⟨vs, q1, q2⟩ := k2
    obtain ⟨vs0, _, q3⟩ := j2
    exact ⟨vs, q1, RDs.back e x.eqh xs vs vs0 q3 q2⟩
  | dct kvs =>
    obtain ⟨vs, q1, q2⟩ := k2
    obtain ⟨vs0, _, q3⟩ := j2
    exact ⟨vs, q1, RKs.back e x.eqh kvs vs vs0 q3 q2⟩
mutual
theorem frzW_use {t : List Addr} {n : Nat} {g : Nat → Option D} (e : m'.c = m.c ++ t) (eh : m'.h = m.h) (hn : n = m.c.length) (hg : ∀ l d v, ¬ l < n → g l = some d → RD T m' H' (.ref l) v → RD T m H' d v) : ∀ (d d' : D) (v : V), frzW n g d = some d' → RD T m' H' d v → RD T m H' d' v
  | .non, d', v, h, hv => by
    cases h
    exact hv
  | .bl b, d', v, h, hv => by
    cases h
    exact hv
  | .int i, d', v, h, hv => by
    cases h
    exact hv
  | .str x, d', v, h, hv => by
    cases h
    exact hv
  | .fn k, d', v, h, hv => by
    cases h
    exact hv
  | .scr k, d', v, h, hv => by
    cases h
    exact hv
  | .tdc _ _, d', v, h, hv => by cases h
  | .ref l, d', v, h, hv => by
    have h : (if l < n then some (.ref l) else g l) = some d' := h
    by_cases c : l < n
    · rw [if_pos c] at h
      cases h
      obtain ⟨p, h1, h2⟩ := hv
      rw [e, List.getElem?_append_left (by rw [← hn]; exact c)] at h1
      exact ⟨p, h1, h2⟩
    · rw [if_neg c] at h
      exact hg l d' v c h hv
  | .tup xs, d', v, h, hv => by
    obtain ⟨ys, h1, rfl⟩ := Option.map_eq_some_iff.mp (show (frzWs n g xs).map .tup = some d' from h)
    obtain ⟨p, vs, k1, k2, k3⟩ := hv
    exact ⟨p, vs, k1, k2, frzWs_use e eh hn hg xs ys vs h1 k3⟩
  | .lst xs, d', v, h, hv => by
    obtain ⟨ys, h1, rfl⟩ := Option.map_eq_some_iff.mp (show (frzWs n g xs).map .lst = some d' from h)
    obtain ⟨p, vs, k1, k2, k3⟩ := hv
    exact ⟨p, vs, k1, ⟨k2.1, notm e eh k2.2⟩, frzWs_use e eh hn hg xs ys vs h1 k3⟩
theorem frzWs_use {t : List Addr} {n : Nat} {g : Nat → Option D} (e : m'.c = m.c ++ t) (eh : m'.h = m.h) (hn : n = m.c.length) (hg : ∀ l d v, ¬ l < n → g l = some d → RD T m' H' (.ref l) v → RD T m H' d v) : ∀ (ds ds' : List D) (vs : List V), frzWs n g ds = some ds' → RDs T m' H' ds vs → RDs T m H' ds' vs
  | [], ds', vs, h, hv => by
    cases h
    exact hv
  | d :: ds, ds', vs, h, hv => by
    have h : (match frzW n g d with | some y => (frzWs n g ds).map (y :: ·) | none => none) = some ds' := h
    obtain ⟨v, r, h1, h2, h3⟩ := hv
    cases e1 : frzW n g d with
    | none =>
      rw [e1] at h
      cases h
    | some y =>
      rw [e1] at h
      obtain ⟨ys, k1, rfl⟩ := Option.map_eq_some_iff.mp h
      exact ⟨v, r, h1, frzW_use e eh hn hg d y v e1 h2, frzWs_use e eh hn hg ds ys r k1 h3⟩
end
theorem mapM_use {f : D → Option D} (hf : ∀ d d' v, f d = some d' → RD T m' H' d v → RD T m H' d' v) : ∀ (ds ds' : List D) (vs : List V), ds.mapM f = some ds' → RDs T m' H' ds vs → RDs T m H' ds' vs
  | [], ds', vs, h, hv => by
    simp at h
    subst h
    exact hv
  | d :: ds, ds', vs, h, hv => by
    obtain ⟨v, r, h1, h2, h3⟩ := hv
    rw [List.mapM_cons] at h
    obtain ⟨d1, e1, h⟩ := Option.bind_eq_some_iff.mp h
    obtain ⟨ds1, e2, h⟩ := Option.bind_eq_some_iff.mp h
    cases h
    exact ⟨v, r, h1, hf d d1 v e1 h2, mapM_use hf ds ds1 r e2 h3⟩
theorem frz_use {S' : Store} {t : List Addr} (e : m'.c = m.c ++ t) (eh : m'.h = m.h) (r' : RS T m' H' S') : ∀ (k : Nat) (d d' : D) (v : V), frz S' m.c.length k d = some d' → RD T m' H' d v → RD T m H' d' v
  | 0, d, d', v, h, hv => frzW_use e eh rfl (fun _ _ _ _ h _ => by cases h) d d' v h hv
  | k + 1, d, d', v, h, hv => by
    refine frzW_use e eh rfl (fun l d v hl h hv => ?_) d d' v h hv
    cases e1 : S'[l]? with
    | none =>
      rw [e1] at h
      cases h
    | some ob =>
      cases ob with
      | dct _ =>
        rw [e1] at h
        cases h
      | lst xs =>
        rw [e1] at h
        obtain ⟨ys, k1, rfl⟩ := Option.map_eq_some_iff.mp h
        obtain ⟨p, vs, h1, h2, h3⟩ := r'.lst e1
        obtain ⟨p', q1, rfl⟩ := hv
        rw [h1] at q1
        cases q1
        refine ⟨p, vs, rfl, ⟨h2, ?_⟩, mapM_use (fun d d' v => frz_use e eh r' k d d' v) xs ys vs k1 h3⟩
        rintro (z | z)
        · obtain ⟨j, hj, ej⟩ := List.getElem_of_mem z
          have h4 : m'.c[j]? = some p := by
            rw [e, List.getElem?_append_left hj, List.getElem?_eq_getElem hj, ej]
          obtain ⟨a1, b1⟩ := List.getElem?_eq_some_iff.mp h1
          obtain ⟨a2, b2⟩ := List.getElem?_eq_some_iff.mp h4
          have := (List.getElem_inj r'.nd).mp (b1.trans b2.symm)
          omega
        · exact (r'.hid p (by rw [eh]; exact z)).1 (List.mem_of_getElem? h1)
/-- the end of a body, handed to the caller -/
theorem fin_use {pure : Bool} {S S' : Store} {d : D} {v : V} {Q : VK} {E : XK} (r : RS T m H S) (h : PostF T (fin pure S d S') m H Q E) (x : Ext m H m' H') (r' : RS T m' H' S') (hv : RD T m' H' d v) : Q v H' := by
  unfold fin at h
  cases pure with
  | false =>
    rw [if_neg Bool.false_ne_true] at h
    exact h v m' H' x r' hv
  | true =>
    rw [if_pos rfl] at h
    by_cases c : S'.take S.length = S
    · rw [if_pos c] at h
      cases e : frz S' S.length 3 d with
      | none =>
        rw [e] at h
        exact h.elim
      | some d' =>
        rw [e] at h
        obtain ⟨t, et⟩ := x.pre
        rw [r.len] at e
        exact h v m H' x.back (r.back x r' c) (frz_use et x.eqh r' 3 d d' v e hv)
    · rw [if_neg c] at h
      exact h.elim
theorem finish_use {pure : Bool} {S : Store} {R : SR} {Q : VK} {E : XK} (r : RS T m H S) (h : PostF T (finish pure S R) m H Q E) : PostS T R m H (fun cls d _ H => E cls d H) { nx := fun _ H' => Q .non H', rt := Q } := by
  cases R with
  | nx env S1 => exact fun m' H' σ x r' _ => fin_use r h x r' rfl
  | rt d S1 => exact fun m' H' v x r' hv => fin_use r h x r' hv
  | bk env S1 => exact h.elim
  | ct env S1 => exact h.elim
  | stuck => exact h.elim
  | exc e env S1 =>
    have h : PostF T (if e.fs = [] then (if pure = true then (if S1.take S.length = S then .exc e S else .stuck) else .exc e S1) else .stuck) m H Q E := h
    by_cases c : e.fs = []
    · rw [if_pos c] at h
      refine ⟨c, fun m' H' σ x r' _ => ?_⟩
      cases pure with
      | false =>
        rw [if_neg Bool.false_ne_true] at h
        exact h.2 m' H' x r'
      | true =>
        rw [if_pos rfl] at h
        by_cases c2 : S1.take S.length = S
        · rw [if_pos c2] at h
          exact h.2 m H' x.back (r.back x r' c2)
        · rw [if_neg c2] at h
          exact h.elim
    · rw [if_neg c] at h
      exact h.elim
end
end Ev


namespace Ev
open PySem PySem.Spec L2 PyProof.Rows
/-- a def's look: its names, its term -/
def chkF (nm : Names) (N ps : List Str) (f : Fn) (sc : Scope) (body : List Stmt) : Bool := C8.scC N ps sc && decide (f.np = ps.length) && decide (f.nv = N.length) && chkSs nm N sc f.body body
/-- of a def that makes lambdas: its code object and the table -/
def LamT (T : Tb) (x : Str) (scope : Scope) (cdv : Value) : Prop := ∃ c P : Addr, cdv = .ref c ∧ LamX.TabB T.base T.mg c P ∧ (P, (envOfC x scope 0 0 cdv).qual ++ "<lambda>") ∈ T.tb ∧ ∀ p ∈ T.tb, p.1 = P → p.2 = (envOfC x scope 0 0 cdv).qual ++ "<lambda>"
/-- a function of the table as it stands behind the top -/
structure Top (T : Tb) (k : Nat) (x : Str) : Prop where
  ex : ∃ (params : Arguments) (body : List Stmt) (scope : Scope) (oc : Value) (od : Option Addr) (dV kV doc pm : Value) (an : Option Addr) (cdv ct : Value) (osl : Array (Option Value)) (N : List Str) (f : Fn),
    T.fd k = PySem.W.fnOf x x params body scope dV kV doc pm an cdv ct ∧ T.K.lookup (T.fa k) = some ⟨oc, od, .func (PySem.W.fnOf x x params body scope dV kV doc pm an cdv ct), osl⟩ ∧ PySem.W.codeIn T.K cdv x = true ∧
    T.G.fns[k]? = some f ∧ chkF T.nm N (T.ps k) f scope body = true ∧ (T.nm.tld = some N → LamT T x scope cdv)
  mgf : T.mg x = some (.ref (T.fa k))
  kp : PySem.W.keepIn T.K (.ref (T.fa k)) = true
  bd : Binds T.K (T.fd k) (T.ps k) []
theorem top_mk {T : Tb} {k : Nat} {x : Str} {fa : Addr} {params : Arguments} {body : List Stmt} {scope : Scope} {oc : Value} {od : Option Addr} {dV kV doc pm : Value} {an : Option Addr} {cdv ct : Value} {osl : Array (Option Value)} {f : Fn} {ps : List Str} (N : List Str)
    (hfa : T.fa k = fa) (hfd : T.fd k = PySem.W.fnOf x x params body scope dV kV doc pm an cdv ct) (hps : T.ps k = ps) (hG : T.G.fns[k]? = some f) (lk : T.K.lookup fa = some ⟨oc, od, .func (PySem.W.fnOf x x params body scope dV kV doc pm an cdv ct), osl⟩)
    (hc : PySem.W.codeIn T.K cdv x = true) (hck : chkF T.nm N ps f scope body = true) (hm : T.mg x = some (.ref fa)) (hk : PySem.W.keepIn T.K (.ref fa) = true) (hb : Binds T.K (PySem.W.fnOf x x params body scope dV kV doc pm an cdv ct) ps []) (hl : T.nm.tld = some N → LamT T x scope cdv) : Top T k x := by
  subst hfa hps
  exact ⟨⟨params, body, scope, oc, od, dV, kV, doc, pm, an, cdv, ct, osl, N, f, hfd, lk, hc, hG, hck, hl⟩, hm, hk, by rw [hfd]; exact hb⟩
theorem noLam {T : Tb} {N : List Str} {P : Prop} (h : decide (T.nm.tld = some N) = false) (e : T.nm.tld = some N) : P := absurd e (of_decide_eq_false h)
structure Tops (T : Tb) : Prop where
  fn : ∀ (k : Nat) (x : Str), T.nm.fns[k]? = some x → Top T k x
  bl : ∀ x ∈ T.nm.blt, T.mg x = none
  gl : ∀ (k : Nat) (x : Str) (d : D), T.nm.gls[k]? = some x → T.G.glbs[k]? = some d → ∃ v u, T.mg x = some u ∧ RelV v u ∧ ∀ m H, RD T.toAd m H d v
  cl : ∀ (k : Nat) (x : Str), T.nm.cls[k]? = some x → T.mg x = some (.ref (T.ca k)) ∧ PySem.W.keepIn T.K (.ref (T.ca k)) = true ∧
    PySem.W.excIn T.K (T.ca k) [.type "ValueError", .type "Exception", .type "BaseException", .type "object"] "ValueError.__new__" = true ∧
    PySem.W.subIn T.K (.ref (T.ca k)) (.type "BaseException") = some true ∧ PySem.W.typeIn T.K (.ref (T.ca k)) = some (.type "type")
  td : T.nm.tld ≠ none → ToldF T
section
variable {T : Tb}
theorem start_env {T : Ad} {m : Mp} {H : Hp} {N : List Str} : ∀ {ds : List D} {vs : List V}, RDs T m H ds vs → REnv T m H (ds.map some ++ List.replicate (N.length - ds.length) none) (L2.start N vs) := fun {ds vs} h => by
  unfold L2.start
  have hl := h.length
  refine ⟨by simp [hl], fun i d q => ?_⟩
  rcases Nat.lt_or_ge i ds.length with c | c
  · rw [List.getElem?_append_left (by simpa using c), List.getElem?_map] at q
    obtain ⟨d', e1, e2⟩ := Option.map_eq_some_iff.mp q
    cases e2
    obtain ⟨v, h1, h2⟩ := h.get e1
    exact ⟨v, by rw [List.getElem?_append_left (by rw [List.length_map, hl]; exact c), List.getElem?_map, h1]; rfl, h2⟩
  · rw [List.getElem?_append_right (by simpa using c)] at q
    have := List.mem_of_getElem? q
    simp at this
theorem run_len {G : Cfg} {n k : Nat} {ds : List D} {S : Store} {f : Fn} (hf : G.fns[k]? = some f) (h : run G n k ds S ≠ .stuck) : ds.length = f.np := by
  cases n with
  | zero => exact absurd rfl h
  | succ n =>
    by_cases c : ds.length = f.np
    · exact c
    · refine absurd ?_ h
      rw [run, hf]
      simp only
      rw [if_neg c]
theorem fnG_run (t : Tops T) {n k : Nat} {x : Str} (hx : T.nm.fns[k]? = some x) (tb : TbOk T (3 * n) (run T.G n)) : FnG T.P T.w T.K T.mg T.base (L2N.CX T.P T.w) (3 * n + 2 + 1) (T.fa k) (T.fd k) (T.ps k) (spC T.toAd (run T.G (n + 1) k) (T.ps k).length) := by
  obtain ⟨params, body, scope, oc, od, dV, kV, doc, pm, an, cdv, ct, osl, N, f, e1, lk, hcd, hf, hc, hlm⟩ := (t.fn k x hx).ex
  unfold chkF at hc
  obtain ⟨hc, c4⟩ := band hc
  obtain ⟨hc, c3⟩ := band hc
  obtain ⟨c1, c2⟩ := band hc
  have c2 := dec c2
  have c3 := dec c3
  have sc := C8.fnScope_by c1
  rw [e1]
  refine fnG_of lk hcd sc (fun vs H Q E h => h.1) fun A outer s H vs Q E hr hsp => ?_
  obtain ⟨hl, m, ds, S, r, hv, hp⟩ := hsp
  have g : Good T (3 * n) N scope scope (cxOf (L2N.CX T.P T.w) T.P T.w T.K T.mg T.base N x scope (T.fa k) cdv A outer s H E) (fun cls d _ H => E cls d H) :=
    { hK := rfl, hmg := rfl, hP := rfl, hw := rfl, hb := rfl, hN := rfl, nd := sc.nd, scp := rfl, calm := rfl, rm := hr.mono (Nat.le_add_right _ _), lam := fun e => ⟨hr, hlm e⟩, tk := L2N.takes_of rfl rfl rfl rfl, po := passes_of rfl, st := fun x h => ⟨h, .inl rfl⟩ }
  refine ⟨_, sndSs tb f.body scope _ _ g body c4, ?_⟩
  have hdl : ds.length = f.np := by rw [← hv.length, hl, c2]
  have e : run T.G (n + 1) k ds S = finish f.pure S (f.body.ev (run T.G n) T.G (ds.map some ++ List.replicate (f.nv - f.np) none) S) := by
    rw [run, hf]
    simp only
    rw [if_pos hdl]
  rw [e] at hp
  refine ⟨_, m, S, ?_, r, finish_use r hp⟩
  rw [c3, ← hdl]
  exact start_env hv
theorem tbl (t : Tops T) : ∀ n, TbOk T (3 * n) (run T.G n)
  | 0 => by
    refine ⟨fun k x hx => ?_, t.bl, t.gl, t.cl, t.td⟩
    have F := t.fn k x hx
    refine ⟨F.mgf, F.kp, F.bd, ?_, fun ds S h => absurd rfl h⟩
    have no : ∀ vs H Q E, ¬ spC T.toAd (run T.G 0 k) (T.ps k).length vs H Q E := fun vs H Q E h => by
      obtain ⟨_, m, ds, S, _, _, h⟩ := h
      exact h
    exact ⟨fun vs H Q E h => absurd h (no vs H Q E), fun A outer s H args us vs Q E _ _ _ _ h => absurd h (no vs H Q E)⟩
  | n + 1 => by
    refine ⟨fun k x hx => ?_, t.bl, t.gl, t.cl, t.td⟩
    have F := t.fn k x hx
    refine ⟨F.mgf, F.kp, F.bd, fnG_run t hx (tbl t n), fun ds S h => ?_⟩
    obtain ⟨_, body, scope, _, _, _, _, _, _, _, _, _, _, N, f, _, _, _, hf, hc, _⟩ := F.ex
    unfold chkF at hc
    obtain ⟨hc, _⟩ := band hc
    obtain ⟨hc, _⟩ := band hc
    rw [run_len hf h, dec (band hc).2]
end

/-! ### the law's end -/
/-- the promise of the law's def, called by the caller -/
theorem law_callG {P : Program} {w : World} {K : PySem.W.Frag} {mg mb : Str → Option Value} {k : Nat} {fa a : Addr} {fd : FuncData} {x : Str} {sp : Sp} {s₁ : Shared} {vs : List Value} {ns : List Int}
    (KX : K.In s₁.heap) (hns : s₁.heap.Ns mainGlobals mg) (hb : s₁.heap.Ns builtinsNs mb) (hbb : ∀ x : Str, x ≠ "__name__" → mb x = bootBuiltins x) (hlim : s₁.heap.NoLimit) (hg : s₁.gens = #[])
    (ha : s₁.heap.get? a = some { cls := .type "list", data := .seq vs.toArray }) (hi : IntsAre vs ns) (hl : ns.length ≤ sizeLine) (hr : Rm k callerA)
    (F : ∀ base : Heap, K.In base → base.Ns mainGlobals mg → FnG P w K mg base (L2N.CX P w) k fa fd [x] sp) (hbind : ∀ (s : Shared) (u : Value), BindsTo s fd ⟨[u], []⟩ [(x, u)])
    (hsp : ∀ H : Hp, Only H → SqL K H a (ns.map V.int) → sp [.ref a] H (fun v _ => v = .bl true) fun _ _ _ => False)
    (hno : ∀ (H : Hp) (e : Value) (s' : Shared), L2N.CX P w [] H s₁ (fun _ _ _ => False) e s' → False) :
    codeAny (model P w) callerA (.call (.ref fa) ⟨[.ref a], []⟩) (fun r s' => r = .ok (.ret (.bool true)) ∧ OldK s₁.heap s'.heap ∧ s'.os = s₁.os ∧ AllBare s'.gens) s₁ := by
  have rv := vals_ints hi
  have lenV := hi.length
  -- a heap in which the script alone may be told
  have core : ∀ H : Hp, Only H → SqL K H a (ns.map V.int) → HOk P w H s₁.heap → (∀ b, H b ≠ none → b = a) → (H a ≠ none → K.lookup a = none) →
      codeAny (model P w) callerA (.call (.ref fa) ⟨[.ref a], []⟩) (fun r s' => r = .ok (.ret (.bool true)) ∧ OldK s₁.heap s'.heap ∧ s'.os = s₁.os ∧ AllBare s'.gens) s₁ := fun H hO hS hok hA hK => by
    have isa : ∀ {b : Addr} {u : HO}, H b = some u → b = a := fun {b u} q => hA b (by rw [q]; simp)
    have low : ∀ {b : Addr} {o : Obj}, s₁.heap.get? b = some o → (b = a → H b = none) → (hidT s₁.heap H).get? b = some o := fun {b o} e n => hidT_get e (by
      cases q : H b with
      | none => rfl
      | some u => rw [n (isa q)] at q; cases q)
    have low2 : ∀ {b : Addr} {m : Str → Option Value}, s₁.heap.Ns b m → (hidT s₁.heap H).Ns b m := fun {b m} ⟨o, es, ep, e, d, r⟩ => ⟨o, es, ep, low e (fun z => by
      subst z
      rw [ha] at e
      cases e
      exact nomatch (show Data.seq vs.toArray _ = Data.dict es ep from d)), d, r⟩
    have hKb : K.In (hidT s₁.heap H) := fun b o e => low (KX b o e) fun z => by
      cases q : H b with
      | none => rfl
      | some u =>
        subst z
        rw [hK (by rw [q]; simp)] at e
        cases e
    have hM : Mod K mg (hidT s₁.heap H) := ⟨hKb, low2 hns, ⟨mb, low2 hb, hbb⟩, by
      obtain ⟨mc, h1, h2⟩ := hlim
      exact ⟨mc, low2 h1, h2⟩⟩
    have e0 : Env0 P w K mg (hidT s₁.heap H) callerA [] s₁ H := ⟨rfl, hM, fun b o e => of_hidT e, Nat.le_of_eq (hidT_size _ _), trivial, fun b hb => absurd hb (by simp [frs]), hok, .of_eq hg⟩
    refine codeAny_mono ((F _ hKb (low2 hns)).run callerA [] s₁ H ⟨[.ref a], []⟩ [.ref a] [.ref a] _ _ hr e0 (hbind s₁ (.ref a)) (.cons rfl .nil) (hsp H hO hS)) fun r s' h => ?_
    match r, h with
    | .error e, h => exact (hno H e s' h).elim
    | .ok .next, h => exact h.elim
    | .ok .brk, h => exact h.elim
    | .ok .cont, h => exact h.elim
    | .ok (.ret u), h =>
      obtain ⟨v, H', os, bare, un, hok', r', q⟩ := h
      cases (show v = .bl true from q)
      cases (show u = Value.bool true from r')
      refine ⟨rfl, OldK.of_keep fun b o e => ?_, os, bare⟩
      cases q : H b with
      | none => exact un.keep b o e q (by simp [frs]) (by simp)
      | some u =>
        rcases hO b with z | ⟨ob, xs, z⟩
        · rw [q] at z
          cases z
        · obtain ⟨e1, _⟩ := hok b _ z
          obtain ⟨e2, _⟩ := hok' b _ (un.frzs b ob _ z)
          rw [e] at e1
          cases e1
          exact e2
  cases hk : K.lookup a with
  | some o =>
    have e := KX a o hk
    rw [ha] at e
    cases e
    exact core (fun _ => none) (fun _ => .inl rfl) (.inr ⟨_, vs.toArray, _, hk, rfl, rfl, rfl, by rw [List.size_toArray, lenV]; exact hl, by simpa using rv⟩) (fun b u z => nomatch z) (fun b z => absurd rfl z) fun z => absurd rfl z
  | none =>
    have at_ : ∀ {b : Addr} {u : HO}, (if b = a then some (HO.frz { cls := .type "list", data := .seq vs.toArray } (.lst (ns.map V.int))) else none) = some u → b = a ∧ u = .frz { cls := .type "list", data := .seq vs.toArray } (.lst (ns.map V.int)) := fun {b u} z => by
      by_cases hb : b = a
      · rw [if_pos hb] at z
        exact ⟨hb, (Option.some.inj z).symm⟩
      · rw [if_neg hb] at z
        cases z
    refine core (fun b => if b = a then some (.frz { cls := .type "list", data := .seq vs.toArray } (.lst (ns.map V.int))) else none) (fun b => ?_) (.inl (.inr ⟨_, if_pos rfl⟩)) (fun b u z => ?_) (fun b z => ?_) fun _ => hk
    · by_cases hb : b = a
      · exact .inr ⟨_, _, if_pos hb⟩
      · exact .inl (if_neg hb)
    · obtain ⟨rfl, rfl⟩ := at_ z
      exact ⟨ha, by rw [List.length_map]; exact hl, vs, _, rv, ha⟩
    · by_cases hb : b = a
      · exact hb
      · exact absurd (if_neg hb) z
theorem rm_caller {k : Nat} (h : Room k callerA) : Rm k callerA := ⟨h, rfl⟩
theorem no_cx {P : Program} {w : World} {s₁ : Shared} (H : Hp) (e : Value) (s' : Shared) (h : L2N.CX P w [] H s₁ (fun _ _ _ => False) e s') : False := by
  obtain ⟨_, _, _, _, _, _, _, _, _, _, _, _, z⟩ := h
  exact z
theorem only_sc {T : Ad} {H : Hp} {a : Addr} {vs : List V} (hO : Only H) (h : SqL T.K H a vs) : SC T H a vs := by
  rcases h with (h | h) | h
  · rcases hO a with z | ⟨o, xs, z⟩
    · rw [z] at h
      cases h
    · rw [z] at h
      cases h
  · exact .inl h
  · exact .inr h
/-- the goal behind the head, by the table and the law's equation -/
theorem walkG {l : PySem.W.OpenLaw} {n dp : Nat} {q : Program} {loose : List Str} {XP : (Str → Option Value) → Heap → Prop} {YP : World → Heap → Prop} {d : DefRec} {K : Params → PySem.W.Frag} {x : Str} {G : Cfg} {nm : Names} {ps : Nat → List Str} {kl : Nat}
    (hn : l.most = some n) (hn2 : n ≤ sizeLine) (hdf : d.params.defaults = []) (hr : Room (3 * dp) callerA) (hkl : nm.fns[kl]? = some d.name) (hps : ps kl = [x]) (hY : ∀ (w : World) (h : Heap), YP w h → (K w.params).In h)
    (F : ∀ (w : World) (mg : Str → Option Value) (fa : Addr) (h : Heap), (K w.params).In h → h.Ns mainGlobals mg → mg d.name = some (.ref fa) →
      ∃ (A0 : Ad) (fd : Nat → FuncData), A0.K = K w.params ∧ A0.fa kl = fa ∧ (∀ base : Heap, (K w.params).In base → base.Ns mainGlobals mg → Tops { toAd := { A0 with P := l.prog, w := w, tb := [] }, mg := mg, base := base, G := G, nm := nm, fd := fd, ps := ps }) ∧
        ∀ (s : Shared) (u : Value), BindsTo s (fd kl) ⟨[u], []⟩ [(x, u)])
    (hrun : ∀ ns : List Int, ns.length ≤ n → ∃ S, run G dp kl [.scr ns] [] = .ok (.bl true) S) :
    PySem.W.WalkO q loose XP YP l.row.toRowW d [] (fun f vs => PySem.call f vs) := by
  refine Att.attach_call hn hdf fun w s₀ s₁ mg mb fa o pm cd doc a vs ns Gx Y ho hd hcd hmg hobj hints hlen hg => ?_
  have KX := hY w _ Y
  obtain ⟨A0, fd, hK, hfa, hT, hb⟩ := F w mg fa _ KX Gx.T.g hmg
  refine law_callG (k := 3 * dp) (x := x) (fd := fd kl) (sp := spC { A0 with P := l.prog, w := w, tb := [] } (run G dp kl) 1) KX Gx.T.g Gx.T.b Gx.T.builtins Gx.T.nolimit hg hobj hints (Nat.le_trans hlen hn2) (rm_caller hr) (fun base h1 h2 => ?_) hb (fun H hO hS => ?_) no_cx
  · have F := ((tbl (hT base h1 h2) dp).fn kl d.name hkl).2.2.2.1
    simp only at F
    rw [hps] at F
    rw [← hfa, ← hK]
    exact F
  · obtain ⟨S, e⟩ := hrun ns hlen
    rw [← hK] at hS
    refine ⟨rfl, ⟨[], [], []⟩, [.scr ns], [], ⟨rfl, List.nodup_nil, fun p hp => absurd hp (by simp), fun p hp => absurd hp (by simp), rfl, fun p hp => absurd hp (by simp), fun l ob p h1 h2 => absurd h1 (by simp)⟩, ⟨_, [], rfl, ⟨a, rfl, only_sc hO hS⟩, rfl⟩, ?_⟩
    rw [e]
    exact fun v m' H' _ _ hv => hv

/-! ### the table, thing by thing -/
def Fns (T : Tb) : Nat → List Str → Prop
  | _, [] => True
  | i, x :: r => Top T i x ∧ Fns T (i + 1) r
theorem fns_at {T : Tb} : ∀ (l : List Str) (i k : Nat) (x : Str), Fns T i l → l[k]? = some x → Top T (i + k) x
  | [], i, k, x, _, h => by simp at h
  | y :: r, i, 0, x, h, e => by
    simp at e
    subst e
    exact h.1
  | y :: r, i, k + 1, x, h, e => by
    have := fns_at r (i + 1) k x h.2 (by simpa using e)
    rwa [show i + 1 + k = i + (k + 1) by omega] at this
theorem fns_of {T : Tb} (h : Fns T 0 T.nm.fns) : ∀ (k : Nat) (x : Str), T.nm.fns[k]? = some x → Top T k x := fun k x e => by
  have := fns_at _ 0 k x h e
  rwa [Nat.zero_add] at this
def Blts (T : Tb) : List Str → Prop
  | [] => True
  | x :: r => T.mg x = none ∧ Blts T r
theorem blts_at {T : Tb} : ∀ (l : List Str) (x : Str), Blts T l → x ∈ l → T.mg x = none
  | [], x, _, h => by simp at h
  | y :: r, x, h, e => by
    rcases List.mem_cons.mp e with rfl | e
    · exact h.1
    · exact blts_at r x h.2 e
theorem blt_of' {T : Tb} (h : Blts T T.nm.blt) : ∀ x ∈ T.nm.blt, T.mg x = none := fun x e => blts_at _ x h e
def Gls (T : Tb) : List Str → List D → Prop
  | x :: r, d :: s => (∃ v u, T.mg x = some u ∧ RelV v u ∧ ∀ m H, RD T.toAd m H d v) ∧ Gls T r s
  | _, _ => True
theorem gls_at {T : Tb} : ∀ (l : List Str) (s : List D) (k : Nat) (x : Str) (d : D), Gls T l s → l[k]? = some x → s[k]? = some d → ∃ v u, T.mg x = some u ∧ RelV v u ∧ ∀ m H, RD T.toAd m H d v
  | [], _, k, x, d, _, h, _ => by simp at h
  | _ :: _, [], k, x, d, _, _, h => by simp at h
  | y :: r, e :: s, 0, x, d, h, h1, h2 => by
    simp at h1 h2
    subst h1
    subst h2
    exact h.1
  | y :: r, e :: s, k + 1, x, d, h, h1, h2 => gls_at r s k x d h.2 (by simpa using h1) (by simpa using h2)
theorem gls_of {T : Tb} (h : Gls T T.nm.gls T.G.glbs) : ∀ (k : Nat) (x : Str) (d : D), T.nm.gls[k]? = some x → T.G.glbs[k]? = some d → ∃ v u, T.mg x = some u ∧ RelV v u ∧ ∀ m H, RD T.toAd m H d v := fun k x d => gls_at _ _ k x d h
def Clss (T : Tb) : Nat → List Str → Prop
  | _, [] => True
  | i, x :: r => (T.mg x = some (.ref (T.ca i)) ∧ PySem.W.keepIn T.K (.ref (T.ca i)) = true ∧
    PySem.W.excIn T.K (T.ca i) [.type "ValueError", .type "Exception", .type "BaseException", .type "object"] "ValueError.__new__" = true ∧
    PySem.W.subIn T.K (.ref (T.ca i)) (.type "BaseException") = some true ∧ PySem.W.typeIn T.K (.ref (T.ca i)) = some (.type "type")) ∧ Clss T (i + 1) r
theorem clss_at {T : Tb} : ∀ (l : List Str) (i k : Nat) (x : Str), Clss T i l → l[k]? = some x → T.mg x = some (.ref (T.ca (i + k))) ∧ PySem.W.keepIn T.K (.ref (T.ca (i + k))) = true ∧
    PySem.W.excIn T.K (T.ca (i + k)) [.type "ValueError", .type "Exception", .type "BaseException", .type "object"] "ValueError.__new__" = true ∧
    PySem.W.subIn T.K (.ref (T.ca (i + k))) (.type "BaseException") = some true ∧ PySem.W.typeIn T.K (.ref (T.ca (i + k))) = some (.type "type")
  | [], i, k, x, _, h => by simp at h
  | y :: r, i, 0, x, h, e => by
    simp at e
    subst e
    exact h.1
  | y :: r, i, k + 1, x, h, e => by
    have := clss_at r (i + 1) k x h.2 (by simpa using e)
    rwa [show i + 1 + k = i + (k + 1) by omega] at this
theorem cls_of {T : Tb} (h : Clss T 0 T.nm.cls) : ∀ (k : Nat) (x : Str), T.nm.cls[k]? = some x → T.mg x = some (.ref (T.ca k)) ∧ PySem.W.keepIn T.K (.ref (T.ca k)) = true ∧
    PySem.W.excIn T.K (T.ca k) [.type "ValueError", .type "Exception", .type "BaseException", .type "object"] "ValueError.__new__" = true ∧
    PySem.W.subIn T.K (.ref (T.ca k)) (.type "BaseException") = some true ∧ PySem.W.typeIn T.K (.ref (T.ca k)) = some (.type "type") := fun k x e => by
  have := clss_at _ 0 k x h e
  rwa [Nat.zero_add] at this
/-- a module's tuple of texts -/
theorem vals_txt : ∀ (l : List Str) (its : List Value), (∀ (i : Nat) (x : Str), l[i]? = some x → ∃ t, its[i]? = some (.str x t)) → its.length = l.length → Vals (l.map V.str) its
  | [], its, _, hl => by
    cases its with
    | nil => exact .nil
    | cons _ _ => simp at hl
  | x :: r, its, h, hl => by
    cases its with
    | nil => simp at hl
    | cons v s =>
      obtain ⟨t, e⟩ := h 0 x rfl
      simp at e
      exact .cons ⟨t, e⟩ (vals_txt r s (fun i y hy => by simpa using h (i + 1) y (by simpa using hy)) (by simpa using hl))
theorem gl_tup {T : Ad} {m : Mp} {H : Hp} {p : Addr} {od : Option Addr} {its : Array Value} {n : Nat} {sl : Array (Option Value)} (h : T.K.lookup p = some ⟨.type "tuple", od, .seq its n, sl⟩) (hz : its.size ≤ sizeLine) (l : List Str)
    (hv : Vals (l.map V.str) its.toList) : RD T m H (.tup (l.map D.str)) (.ref p) :=
  ⟨p, l.map V.str, rfl, .inr ⟨_, its, n, h, rfl, rfl, hz, hv⟩, RDs.strs l⟩
end Ev


namespace Ev
open PySem PySem.Spec L2 PyProof.Rows
/-! ### the end of a law whose def makes lambdas: its table of code objects stands beside the script -/
theorem law_callT {Pr : Program} {w : World} {K : PySem.W.Frag} {mg mb : Str → Option Value} {k : Nat} {fa a c P : Addr} {fd : FuncData} {x : Str} {sp : Sp} {s₁ : Shared} {vs : List Value} {ns : List Int}
    (KX : K.In s₁.heap) (hns : s₁.heap.Ns mainGlobals mg) (hb : s₁.heap.Ns builtinsNs mb) (hbb : ∀ x : Str, x ≠ "__name__" → mb x = bootBuiltins x) (hlim : s₁.heap.NoLimit) (hg : s₁.gens = #[])
    (hT : s₁.heap.get? P = some { cls := .none, data := .fields #[] }) (nT : K.lookup P = none) (C : PySem.W.CodeHd s₁.heap c P)
    (hbm : ∃ (bm : Addr) (ob : Obj), mg "__builtins__" = some (.ref bm) ∧ bm ≠ builtinsNs ∧ s₁.heap.get? bm = some ob ∧ ob.cls = .type "module" ∧ ob.dict = some builtinsNs ∧ ob.data = .plain)
    (ha : s₁.heap.get? a = some { cls := .type "list", data := .seq vs.toArray }) (hi : IntsAre vs ns) (hl : ns.length ≤ sizeLine) (hr : Rm k callerA)
    (F : ∀ base : Heap, K.In base → base.Ns mainGlobals mg → LamX.TabB base mg c P → FnG Pr w K mg base (L2N.CX Pr w) k fa fd [x] sp) (hbind : ∀ (s : Shared) (u : Value), BindsTo s fd ⟨[u], []⟩ [(x, u)])
    (hsp : ∀ H : Hp, H P = some (.tbl #[]) → (∀ b, b ≠ P → H b = none ∨ ∃ o xs, H b = some (.frz o (.lst xs))) → SqL K H a (ns.map V.int) → sp [.ref a] H (fun v _ => v = .bl true) fun _ _ _ => False)
    (hno : ∀ (H : Hp) (e : Value) (s' : Shared), L2N.CX Pr w [] H s₁ (fun _ _ _ => False) e s' → False) :
    codeAny (model Pr w) callerA (.call (.ref fa) ⟨[.ref a], []⟩) (fun r s' => r = .ok (.ret (.bool true)) ∧ OldK s₁.heap s'.heap ∧ s'.os = s₁.os ∧ AllBare s'.gens) s₁ := by
  have rv := vals_ints hi
  have lenV := hi.length
  have aP : a ≠ P := fun z => by
    rw [z, hT] at ha
    cases ha
  have core : ∀ H : Hp, H P = some (.tbl #[]) → (∀ b, b ≠ P → H b = none ∨ ∃ o xs, H b = some (.frz o (.lst xs))) → SqL K H a (ns.map V.int) → HOk Pr w H s₁.heap → (∀ b, H b ≠ none → b = a ∨ b = P) → (H a ≠ none → K.lookup a = none) →
      codeAny (model Pr w) callerA (.call (.ref fa) ⟨[.ref a], []⟩) (fun r s' => r = .ok (.ret (.bool true)) ∧ OldK s₁.heap s'.heap ∧ s'.os = s₁.os ∧ AllBare s'.gens) s₁ := fun H hH hO hS hok hA hK => by
    -- what is neither the script's sort nor the table's sort is seen in the base
    have low : ∀ {b : Addr} {o : Obj}, s₁.heap.get? b = some o → o.data ≠ .seq vs.toArray → o.data ≠ .fields #[] → (hidT s₁.heap H).get? b = some o := fun {b o} e n1 n2 => hidT_get e (by
      cases q : H b with
      | none => rfl
      | some u =>
        rcases hA b (by rw [q]; simp) with z | z
        · subst z; rw [ha] at e; cases e; exact absurd rfl n1
        · subst z; rw [hT] at e; cases e; exact absurd rfl n2)
    have nsL : ∀ {b : Addr} {m : Str → Option Value}, s₁.heap.Ns b m → (hidT s₁.heap H).Ns b m := fun {b m} ⟨o, es, ep, e, d, r⟩ => ⟨o, es, ep, low e (by rw [d]; exact Data.noConfusion) (by rw [d]; exact Data.noConfusion), d, r⟩
    have kB : K.In (hidT s₁.heap H) := fun b o e => hidT_get (KX b o e) (by
      cases q : H b with
      | none => rfl
      | some u =>
        rcases hA b (by rw [q]; simp) with z | z
        · subst z; rw [hK (by rw [q]; simp)] at e; cases e
        · subst z; rw [nT] at e; cases e)
    have hM : Mod K mg (hidT s₁.heap H) := ⟨kB, nsL hns, ⟨mb, nsL hb, hbb⟩, by
      obtain ⟨mc, h1, h2⟩ := hlim
      exact ⟨mc, nsL h1, h2⟩⟩
    have nG : mainGlobals ≠ P := fun z => by
      obtain ⟨o, es, ep, e, d, _⟩ := hns
      rw [z, hT] at e
      cases e
      cases d
    have TB : LamX.TabB (hidT s₁.heap H) mg c P := by
      refine ⟨?_, ?_, nG⟩
      · obtain ⟨o, us, file, tf, flags, tg, inF, text, tt, z1, z2, z3, z4, z⟩ := C
        exact ⟨o, us, file, tf, flags, tg, inF, text, tt, low z1 (by rw [z3]; exact Data.noConfusion) (by rw [z3]; intro y; cases y; simp at z4), z2, z3, z4, z⟩
      · obtain ⟨bm, ob, z1, z2, z3, z4, z5, z6⟩ := hbm
        refine ⟨bm, ob, z1, z2, fun y => ?_, fun y => ?_, low z3 (by rw [z6]; exact Data.noConfusion) (by rw [z6]; exact Data.noConfusion), z4, z5, z6⟩
        · obtain ⟨o, es, ep, e, d, _⟩ := hns
          rw [y, e] at z3
          cases z3
          rw [d] at z6
          cases z6
        · rw [y, hT] at z3
          cases z3
          cases z6
    have e0 : Env0 Pr w K mg (hidT s₁.heap H) callerA [] s₁ H := ⟨rfl, hM, fun b o e => of_hidT e, Nat.le_of_eq (hidT_size _ _), trivial, fun b hb => absurd hb (by simp [frs]), hok, .of_eq hg⟩
    refine codeAny_mono ((F _ kB (nsL hns) TB).run callerA [] s₁ H ⟨[.ref a], []⟩ [.ref a] [.ref a] _ _ hr e0 (hbind s₁ (.ref a)) (.cons rfl .nil) (hsp H hH hO hS)) fun r s' h => ?_
    match r, h with
    | .error e, h => exact (hno H e s' h).elim
    | .ok .next, h => exact h.elim
    | .ok .brk, h => exact h.elim
    | .ok .cont, h => exact h.elim
    | .ok (.ret u), h =>
      obtain ⟨v, H', os, bare, un, hok', r', q⟩ := h
      cases (show v = .bl true from q)
      cases (show u = Value.bool true from r')
      have stays : ∀ b o, b ≠ P → s₁.heap.get? b = some o → s'.heap.get? b = some o := fun b o hbP e => by
        rcases hO b hbP with z | ⟨ob, xs, z⟩
        · exact un.keep b o e z (by simp [frs]) (by simp)
        · obtain ⟨e1, _⟩ := hok b _ z
          obtain ⟨e2, _⟩ := hok' b _ (un.frzs b ob _ z)
          rw [e] at e1
          cases e1
          exact e2
      have tab : ∃ more : Array Value, s'.heap.get? P = some { cls := .none, data := .fields more } := by
        obtain ⟨more, z⟩ := un.tbls P #[] hH
        exact ⟨_, hok' P _ z⟩
      refine ⟨rfl, ⟨fun b o e => ?_, fun b o e => ?_⟩, os, bare⟩
      · by_cases hbP : b = P
        · obtain ⟨more, z⟩ := tab
          subst hbP
          rw [hT] at e
          cases e
          exact .inr (.inl ⟨(C.tab hT).isCodeTable, rfl, #[], more, rfl, by rw [Array.empty_append]; exact z⟩)
        · exact .inl (stays b o hbP e)
      · by_cases hbP : b = P
        · obtain ⟨more, z⟩ := tab
          exact ⟨_, hbP ▸ z⟩
        · exact ⟨o, stays b o hbP e⟩
  cases hk : K.lookup a with
  | some o =>
    have e := KX a o hk
    rw [ha] at e
    cases e
    refine core (fun b => if b = P then some (.tbl #[]) else none) (if_pos rfl) (fun b n => .inl (if_neg n)) (.inr ⟨_, vs.toArray, _, hk, rfl, rfl, rfl, by rw [List.size_toArray, lenV]; exact hl, by simpa using rv⟩) (fun b u z => ?_) (fun b z => ?_) fun z => absurd (if_neg aP) z
    · by_cases hbP : b = P
      · have z : (if b = P then some (HO.tbl #[]) else none) = some u := z
        rw [if_pos hbP] at z
        cases z
        rw [hbP]
        exact hT
      · have z : (if b = P then some (HO.tbl #[]) else none) = some u := z
        rw [if_neg hbP] at z
        cases z
    · by_cases hbP : b = P
      · exact .inr hbP
      · exact absurd (if_neg hbP) z
  | none =>
    have at_ : ∀ {b : Addr} {u : HO}, (if b = P then some (HO.tbl #[]) else if b = a then some (HO.frz { cls := .type "list", data := .seq vs.toArray } (.lst (ns.map V.int))) else none) = some u → (b = P ∧ u = .tbl #[]) ∨ (b = a ∧ u = .frz { cls := .type "list", data := .seq vs.toArray } (.lst (ns.map V.int))) := fun {b u} z => by
      by_cases hbP : b = P
      · rw [if_pos hbP] at z
        exact .inl ⟨hbP, (Option.some.inj z).symm⟩
      · rw [if_neg hbP] at z
        by_cases hb : b = a
        · rw [if_pos hb] at z
          exact .inr ⟨hb, (Option.some.inj z).symm⟩
        · rw [if_neg hb] at z
          cases z
    refine core (fun b => if b = P then some (.tbl #[]) else if b = a then some (.frz { cls := .type "list", data := .seq vs.toArray } (.lst (ns.map V.int))) else none) (if_pos rfl) (fun b n => ?_) (.inl (.inr ⟨_, (if_neg aP).trans (if_pos rfl)⟩)) (fun b u z => ?_) (fun b z => ?_) fun _ => hk
    · by_cases hb : b = a
      · exact .inr ⟨_, _, (if_neg n).trans (if_pos hb)⟩
      · exact .inl ((if_neg n).trans (if_neg hb))
    · rcases at_ z with ⟨rfl, rfl⟩ | ⟨rfl, rfl⟩
      · exact hT
      · exact ⟨ha, by rw [List.length_map]; exact hl, vs, _, rv, ha⟩
    · cases q : (if b = P then some (HO.tbl #[]) else if b = a then some (HO.frz { cls := .type "list", data := .seq vs.toArray } (.lst (ns.map V.int))) else none) with
      | none => exact absurd q z
      | some u => exact (at_ q).elim (fun y => .inr y.1) fun y => .inl y.1
theorem only_sc' {T : Ad} {H : Hp} {a P : Addr} {vs : List V} (hP : H P = some (.tbl #[])) (hO : ∀ b, b ≠ P → H b = none ∨ ∃ o xs, H b = some (.frz o (.lst xs))) (h : SqL T.K H a vs) : SC T H a vs := by
  rcases h with (h | h) | h
  · by_cases e : a = P
    · rw [e, hP] at h
      cases h
    · rcases hO a e with z | ⟨o, xs, z⟩
      · rw [z] at h
        cases h
      · rw [z] at h
        cases h
  · exact .inl h
  · exact .inr h
theorem walkT {l : PySem.W.OpenLaw} {n dp : Nat} {q : Program} {loose : List Str} {XP : (Str → Option Value) → Heap → Prop} {YP : World → Heap → Prop} {d : DefRec} {K : Params → PySem.W.Frag} {x : Str} {G : Cfg} {nm : Names} {ps : Nat → List Str} {kl : Nat} (c P : Addr) (q0 : Str)
    (hn : l.most = some n) (hn2 : n ≤ sizeLine) (hdf : d.params.defaults = []) (hr : Room (3 * dp) callerA) (hkl : nm.fns[kl]? = some d.name) (hps : ps kl = [x]) (hY : ∀ (w : World) (h : Heap), YP w h → (K w.params).In h) (hP : ∀ (w : World) (h : Heap), YP w h → h.get? P = some { cls := .none, data := .fields #[] })
    (nP : ∀ w : World, (K w.params).lookup P = none) (hC : ∀ w : World, PySem.W.codeHdIn (K w.params) c P = true)
    (F : ∀ (w : World) (mg : Str → Option Value) (fa : Addr) (h : Heap), (K w.params).In h → h.Ns mainGlobals mg → mg d.name = some (.ref fa) →
      ∃ (A0 : Ad) (fd : Nat → FuncData), A0.K = K w.params ∧ A0.fa kl = fa ∧ (∀ base : Heap, (K w.params).In base → base.Ns mainGlobals mg → LamX.TabB base mg c P → Tops { toAd := { A0 with P := l.prog, w := w, tb := [(P, q0)] }, mg := mg, base := base, G := G, nm := nm, fd := fd, ps := ps }) ∧
        ∀ (s : Shared) (u : Value), BindsTo s (fd kl) ⟨[u], []⟩ [(x, u)])
    (hrun : ∀ ns : List Int, ns.length ≤ n → ∃ S, run G dp kl [.scr ns] [] = .ok (.bl true) S) :
    PySem.W.WalkO q loose XP YP l.row.toRowW d [] (fun f vs => PySem.call f vs) := by
  refine Att.attach_call hn hdf fun w s₀ s₁ mg mb fa o pm cd doc a vs ns Gx Y ho hd hcd hmg hobj hints hlen hg => ?_
  have KX := hY w _ Y
  obtain ⟨A0, fd, hK, hfa, hT, hb⟩ := F w mg fa _ KX Gx.T.g hmg
  refine law_callT (c := c) (P := P) (k := 3 * dp) (x := x) (fd := fd kl) (sp := spC { A0 with P := l.prog, w := w, tb := [(P, q0)] } (run G dp kl) 1) KX Gx.T.g Gx.T.b Gx.T.builtins Gx.T.nolimit hg (hP w _ Y) (nP w) (PySem.W.codeHd_of_K KX (hC w)) Gx.T.bmain hobj hints (Nat.le_trans hlen hn2) (rm_caller hr) (fun base h1 h2 h3 => ?_) hb (fun H hH hO hS => ?_) no_cx
  · have F := ((tbl (hT base h1 h2 h3) dp).fn kl d.name hkl).2.2.2.1
    simp only at F
    rw [hps] at F
    rw [← hfa, ← hK]
    exact F
  · obtain ⟨S, e⟩ := hrun ns hlen
    rw [← hK] at hS
    refine ⟨rfl, ⟨[], [], [(P, q0)]⟩, [.scr ns], [], ⟨rfl, List.nodup_nil, fun p hp => absurd hp (by simp), fun p hp => absurd hp (by simp), rfl, fun p hp => ?_, fun l ob p h1 h2 => absurd h1 (by simp)⟩, ⟨_, [], rfl, ⟨a, rfl, only_sc' hH hO hS⟩, rfl⟩, ?_⟩
    · have hp : p = (P, q0) := by simpa using hp
      subst hp
      exact LamX.TabS.nil hH
    · rw [e]
      exact fun v m' H' _ _ hv => hv
end Ev


namespace Ev
open PySem PySem.Spec L2
section
variable {call : Call} {G : Cfg} {env : Env} {S : Store} {new : Bool}

@[simp] theorem ev_e_var {i} : E.ev call G (.var i) env S = (match env[i]? with
    | some (some d) => .ok d S
    | _ => .stuck) := (rfl)
@[simp] theorem ev_e_con {d} : E.ev call G (.con d) env S = (.ok d S) := (rfl)
@[simp] theorem ev_e_glb {k} : E.ev call G (.glb k) env S = (match G.glbs[k]? with
    | some d => .ok d S
    | none => .stuck) := (rfl)
@[simp] theorem ev_e_tup {es} : E.ev call G (.tup es) env S = ((Es.ev call G es env S).bind fun xs S => mkT xs S) := (rfl)
@[simp] theorem ev_e_lst {es} : E.ev call G (.lst new es) env S = ((Es.ev call G es env S).bind fun xs S => mkL new xs S) := (rfl)
@[simp] theorem ev_e_dct0  : E.ev call G (.dct0) env S = (.ok (.ref S.length) (S ++ [.dct []])) := (rfl)
@[simp] theorem ev_e_dct2 {a} {b} {c} {d} : E.ev call G (.dct2 a b c d) env S = (if decide (a = c) then .stuck else .ok (.ref S.length) (S ++ [.dct [(.str a, .str b), (.str c, .str d)]])) := (rfl)
@[simp] theorem ev_e_told {a} : E.ev call G (.told a) env S = (toldV (E.ev call G a env S)) := (rfl)
@[simp] theorem ev_e_bin {op} {a} {b} : E.ev call G (.bin new op a b) env S = ((E.ev call G a env S).bind fun x S => (E.ev call G b env S).bind fun y S => binV new op x y S) := (rfl)
@[simp] theorem ev_e_neg {a} : E.ev call G (.neg a) env S = ((E.ev call G a env S).bind fun x S => match x with
    | .int i => .ok (.int (-i)) S
    | _ => .stuck) := (rfl)
@[simp] theorem ev_e_nt {a} : E.ev call G (.nt a) env S = ((E.ev call G a env S).bind fun x S => match truth S x with
    | some b => .ok (.bl (!b)) S
    | none => .stuck) := (rfl)
@[simp] theorem ev_e_cmp {op} {a} {b} : E.ev call G (.cmp op a b) env S = ((E.ev call G a env S).bind fun x S => (E.ev call G b env S).bind fun y S => cmpV op x y S) := (rfl)
@[simp] theorem ev_e_cmp2 {o1} {o2} {a} {b} {c} : E.ev call G (.cmp2 o1 o2 a b c) env S = ((E.ev call G a env S).bind fun x S => (E.ev call G b env S).bind fun y S => (cmpV o1 x y S).bind fun z S => match z with
    | .bl true => (E.ev call G c env S).bind fun w S => cmpV o2 y w S
    | .bl false => .ok (.bl false) S
    | _ => .stuck) := (rfl)
@[simp] theorem ev_e_and {a} {b} : E.ev call G (.and a b) env S = ((E.ev call G a env S).bind fun x S => match truth S x with
    | some true => E.ev call G b env S
    | some false => .ok x S
    | none => .stuck) := (rfl)
@[simp] theorem ev_e_or {a} {b} : E.ev call G (.or a b) env S = ((E.ev call G a env S).bind fun x S => match truth S x with
    | some true => .ok x S
    | some false => E.ev call G b env S
    | none => .stuck) := (rfl)
@[simp] theorem ev_e_ife {c} {a} {b} : E.ev call G (.ife c a b) env S = ((E.ev call G c env S).bind fun x S => match truth S x with
    | some true => E.ev call G a env S
    | some false => E.ev call G b env S
    | none => .stuck) := (rfl)
@[simp] theorem ev_e_ix {a} {b} : E.ev call G (.ix a b) env S = ((E.ev call G a env S).bind fun x S => (E.ev call G b env S).bind fun y S => ixV x y S) := (rfl)
@[simp] theorem ev_e_cutA {a} {lo} : E.ev call G (.cutA new a lo) env S = ((E.ev call G a env S).bind fun x S => (E.ev call G lo env S).bind fun y S => match y with
    | .int i => cutV new x (some i) none S
    | _ => .stuck) := (rfl)
@[simp] theorem ev_e_cutB {a} {hi} : E.ev call G (.cutB new a hi) env S = ((E.ev call G a env S).bind fun x S => (E.ev call G hi env S).bind fun y S => match y with
    | .int i => cutV new x none (some i) S
    | _ => .stuck) := (rfl)
@[simp] theorem ev_e_cutC {a} {lo} {hi} : E.ev call G (.cutC new a lo hi) env S = ((E.ev call G a env S).bind fun x S => (E.ev call G lo env S).bind fun y S => match y with
    | .int i => (E.ev call G hi env S).bind fun z S => match z with
      | .int j => cutV new x (some i) (some j) S
      | _ => .stuck
    | _ => .stuck) := (rfl)
@[simp] theorem ev_e_rev {a} : E.ev call G (.rev new a) env S = ((E.ev call G a env S).bind fun x S => match lstOf S x with
    | some xs => mkL new xs.reverse S
    | none => .stuck) := (rfl)
@[simp] theorem ev_e_call {k} {es} : E.ev call G (.call k es) env S = ((Es.ev call G es env S).bind fun xs S => call k xs S) := (rfl)
@[simp] theorem ev_e_bf {f} {a} : E.ev call G (.bf new f a) env S = ((E.ev call G a env S).bind fun x S => bfV new f x S) := (rfl)
@[simp] theorem ev_e_isi {a} {t} : E.ev call G (.isi a t) env S = ((E.ev call G a env S).bind fun x S => ofB (isiD S t x) S) := (rfl)
@[simp] theorem ev_e_lrng1 {a} : E.ev call G (.lrng1 new a) env S = ((E.ev call G a env S).bind fun x S => match rngs [x] with
    | some ys => mkL new ys S
    | none => .stuck) := (rfl)
@[simp] theorem ev_e_lrng2 {a} {b} : E.ev call G (.lrng2 new a b) env S = ((E.ev call G a env S).bind fun x S => (E.ev call G b env S).bind fun y S => match rngs [x, y] with
    | some ys => mkL new ys S
    | none => .stuck) := (rfl)
@[simp] theorem ev_e_mth0 {m} {o} : E.ev call G (.mth0 m o) env S = ((E.ev call G o env S).bind fun x S => if mtOk m x S then mthV m x [] S else .stuck) := (rfl)
@[simp] theorem ev_e_mth1 {m} {o} {a} : E.ev call G (.mth1 m o a) env S = ((E.ev call G o env S).bind fun x S => if mtOk m x S then (E.ev call G a env S).bind fun y S => mthV m x [y] S else .stuck) := (rfl)
@[simp] theorem ev_e_comp {own} {elt} {t} {it} {ifs} : E.ev call G (.comp new own elt t it ifs) env S = ((I.ev call G it env S).bind fun its S =>
    (compGo t its.g (fun env S => (Es.tst call G ifs env S)) (fun env S => E.ev call G elt env S) (wipeD env own) its.xs S).bind fun ys S => mkL new ys S) := (rfl)
@[simp] theorem ev_e_comp2 {own} {elt} {t1} {i1} {t2} {i2} : E.ev call G (.comp2 new own elt t1 i1 t2 i2) env S = ((I.ev call G i1 env S).bind fun its S =>
    (colGo t1 its.g (fun env S => (I.ev call G i2 env S).bind fun js S => compGo t2 js.g (fun _ S => .ok true S) (fun env S => E.ev call G elt env S) (wipeD env t2.slots) js.xs S) (wipeD env own) its.xs S).bind fun ys S => mkL new ys S) := (rfl)
@[simp] theorem ev_es_nil  : Es.ev call G (.nil) env S = (.ok [] S) := (rfl)
@[simp] theorem ev_es_cons {e} {es} : Es.ev call G (.cons e es) env S = ((E.ev call G e env S).bind fun x S => (Es.ev call G es env S).bind fun xs S => .ok (x :: xs) S) := (rfl)
@[simp] theorem ev_et_nil  : Es.tst call G (.nil) env S = (.ok true S) := (rfl)
@[simp] theorem ev_et_cons {e} {es} : Es.tst call G (.cons e es) env S = ((E.ev call G e env S).bind fun x S => match truth S x with
    | some b => .ok b S
    | none => .stuck) := (rfl)
@[simp] theorem ev_i_seq {e} : I.ev call G (.seq e) env S = ((E.ev call G e env S).bind fun x S => match seqItems S x with
    | some its => .ok its S
    | none => .stuck) := (rfl)
@[simp] theorem ev_i_rng {es} : I.ev call G (.rng es) env S = ((Es.ev call G es env S).bind fun xs S => match rngs xs with
    | some ys => .ok ⟨ys, none⟩ S
    | none => .stuck) := (rfl)
@[simp] theorem ev_i_zip {a} {b} : I.ev call G (.zip a b) env S = ((E.ev call G a env S).bind fun x S => (E.ev call G b env S).bind fun y S => match srcD x, srcD y with
    | some xs, some ys => .ok ⟨(xs.zip ys).map fun p => .tup [p.1, p.2], none⟩ S
    | _, _ => .stuck) := (rfl)
@[simp] theorem ev_i_enz {a} {b} : I.ev call G (.enz a b) env S = ((E.ev call G a env S).bind fun x S => (E.ev call G b env S).bind fun y S => match srcD x, srcD y with
    | some xs, some ys => .ok ⟨(xs.zip ys).zipIdx.map fun p => .tup [.int (p.2 : Nat), .tup [p.1.1, p.1.2]], none⟩ S
    | _, _ => .stuck) := (rfl)
@[simp] theorem ev_s_set {i} {e} : Ev.St.ev call G (.set i e) env S = ((e.ev call G env S).st env fun x S => .nx (env.set i (some x)) S) := (rfl)
@[simp] theorem ev_s_asg {t} {e} : Ev.St.ev call G (.asg t e) env S = ((e.ev call G env S).st env fun x S => match t.asg x env with
    | some env1 => .nx env1 S
    | none => .stuck) := (rfl)
@[simp] theorem ev_s_par {i} {j} {a} {b} : Ev.St.ev call G (.par i j a b) env S = ((a.ev call G env S).st env fun x S => (b.ev call G env S).st env fun y S => .nx ((env.set i (some x)).set j (some y)) S) := (rfl)
@[simp] theorem ev_s_put {o} {i} {e} : Ev.St.ev call G (.put o i e) env S = ((e.ev call G env S).st env fun v S => (o.ev call G env S).st env fun x S => (i.ev call G env S).st env fun y S => match putV x y v S with
    | some S1 => .nx env S1
    | none => .stuck) := (rfl)
@[simp] theorem ev_s_aug {i} {op} {e} : Ev.St.ev call G (.aug i op e) env S = (match env[i]? with
    | some (some x) => (e.ev call G env S).st env fun y S => (match augV op x y with
      | some z => .nx (env.set i (some z)) S
      | none => .stuck)
    | _ => .stuck) := (rfl)
@[simp] theorem ev_s_ex {e} : Ev.St.ev call G (.ex e) env S = ((e.ev call G env S).st env fun _ S => .nx env S) := (rfl)
@[simp] theorem ev_s_ret {e} : Ev.St.ev call G (.ret e) env S = ((e.ev call G env S).st env fun x S => .rt x S) := (rfl)
@[simp] theorem ev_s_retN  : Ev.St.ev call G (.retN) env S = (.rt .non S) := (rfl)
@[simp] theorem ev_s_ite {c} {a} {b} : Ev.St.ev call G (.ite c a b) env S = ((c.tst call G env S).st env fun k S => if k then Ss.ev call G a env S else Ss.ev call G b env S) := (rfl)
@[simp] theorem ev_s_whl {c} {b} : Ev.St.ev call G (.whl c b) env S = (whlGo (fun env S => c.tst call G env S) (fun env S => Ss.ev call G b env S) G.lim env S) := (rfl)
@[simp] theorem ev_s_for {t} {it} {b} : Ev.St.ev call G (.for t it b) env S = ((it.ev call G env S).st env fun its S => forGo t its.g (fun env S => Ss.ev call G b env S) its.xs env S) := (rfl)
@[simp] theorem ev_s_rse {k} : Ev.St.ev call G (.rse k) env S = (.exc ⟨k, []⟩ env S) := (rfl)
@[simp] theorem ev_s_pas  : Ev.St.ev call G (.pas) env S = (.nx env S) := (rfl)
@[simp] theorem ev_s_brk  : Ev.St.ev call G (.brk) env S = (.bk env S) := (rfl)
@[simp] theorem ev_s_cnt  : Ev.St.ev call G (.cnt) env S = (.ct env S) := (rfl)
@[simp] theorem ev_s_nev  : Ev.St.ev call G (.nev) env S = (.stuck) := (rfl)
@[simp] theorem ev_ss_nil  : Ev.Ss.ev call G (.nil) env S = (.nx env S) := (rfl)
@[simp] theorem ev_ss_cons {s} {ss} : Ev.Ss.ev call G (.cons s ss) env S = ((St.ev call G s env S).seq fun env S => Ss.ev call G ss env S) := (rfl)

@[simp] theorem bind_ok' {α β : Type} {a : α} {f : α → Store → R β} : (R.ok a S).bind f = f a S := (rfl)
@[simp] theorem bind_exc {α β : Type} {x : Ex} {f : α → Store → R β} : (R.exc x S : R α).bind f = .exc x S := (rfl)
@[simp] theorem bind_stuck {α β : Type} {f : α → Store → R β} : (R.stuck : R α).bind f = .stuck := (rfl)
@[simp] theorem st_ok {α : Type} {a : α} {f : α → Store → SR} : (R.ok a S).st env f = f a S := (rfl)
@[simp] theorem st_exc {α : Type} {x : Ex} {f : α → Store → SR} : (R.exc x S : R α).st env f = .exc x env S := (rfl)
@[simp] theorem seq_nx {f : Env → Store → SR} : (SR.nx env S).seq f = f env S := (rfl)
@[simp] theorem seq_rt {d : D} {f : Env → Store → SR} : (SR.rt d S).seq f = .rt d S := (rfl)
@[simp] theorem seq_bk {f : Env → Store → SR} : (SR.bk env S).seq f = .bk env S := (rfl)
@[simp] theorem seq_ct {f : Env → Store → SR} : (SR.ct env S).seq f = .ct env S := (rfl)
@[simp] theorem seq_exc {x : Ex} {f : Env → Store → SR} : (SR.exc x env S).seq f = .exc x env S := (rfl)
@[simp] theorem tst_def {e : E} : E.tst call G e env S = (e.ev call G env S).bind fun x S => match truth S x with
  | some b => .ok b S
  | none => .stuck := (rfl)
@[simp] theorem ite_seq {c : Prop} [Decidable c] {a b : SR} {f : Env → Store → SR} : (if c then a else b).seq f = if c then a.seq f else b.seq f := by split <;> rfl
theorem run_eq {n k : Nat} {args : List D} {f : Fn} (hG : G.fns[k]? = some f) (hl : args.length = f.np) : run G (n + 1) k args S = finish f.pure S (f.body.ev (run G n) G (args.map some ++ List.replicate (f.nv - f.np) none) S) := by
  rw [run, hG]
  simp only
  rw [if_pos hl]
@[simp] theorem finish_rt {d : D} {S1 : Store} : finish false S (.rt d S1) = .ok d S1 := (rfl)
@[simp] theorem finish_nx {S1 : Store} : finish false S (.nx env S1) = .ok .non S1 := (rfl)
/-- the end of a pure body -/
theorem finish_pure {d e : D} {S1 : Store} (h : S1.take S.length = S) (hf : frz S1 S.length 3 d = some e) : finish true S (.rt d S1) = .ok e S := by
  show (if S1.take S.length = S then (match frz S1 S.length 3 d with | some e => .ok e S | none => .stuck) else R.stuck) = _
  rw [if_pos h, hf]
mutual
theorem frzW_plain (n : Nat) (r : Nat → Option D) : ∀ d : D, d.plain = true → frzW n r d = some d
  | .non, _ => rfl
  | .bl _, _ => rfl
  | .int _, _ => rfl
  | .str _, _ => rfl
  | .tup xs, h => by
    show (frzWs n r xs).map D.tup = _
    rw [frzWs_plain n r xs h]
    rfl
  | .lst xs, h => by
    show (frzWs n r xs).map D.lst = _
    rw [frzWs_plain n r xs h]
    rfl
  | .ref _, h => by cases h
  | .fn _, h => by cases h
  | .scr _, h => by cases h
theorem frzWs_plain (n : Nat) (r : Nat → Option D) : ∀ ds : List D, D.plains ds = true → frzWs n r ds = some ds
  | [], _ => rfl
  | d :: ds, h => by
    have h : (d.plain && D.plains ds) = true := h
    rw [Bool.and_eq_true] at h
    rw [frzWs, frzW_plain n r d h.1, frzWs_plain n r ds h.2]
    rfl
end
theorem frz_plain {n k : Nat} {d : D} (h : d.plain = true) : frz S n k d = some d := by
  cases k <;> exact frzW_plain _ _ d h
/-- a pure body that laid nothing -/
@[simp] theorem finish_here {d : D} (h : d.plain = true) : finish true S (.rt d S) = .ok d S := finish_pure (by simp) (frz_plain h)
@[simp] theorem finish_none : finish true S (.nx env S) = .ok .non S := by
  show (if S.take S.length = S then (match frz S S.length 3 .non with | some e => .ok e S | none => .stuck) else R.stuck) = _
  rw [if_pos (by simp), frz_plain rfl]

theorem isz_t {n : Nat} (h : n ≤ sizeLine) : isz n = true := decide_eq_true h
/-! ### values that are known -/
variable {xs ys : List D} {i j : Int} {l : Nat} {a b : Str} {x y : D}
@[simp] theorem lstOf_lst' : lstOf S (.lst xs) = some xs := (rfl)
@[simp] theorem lstOf_ref' (h : S[l]? = some (.lst xs)) : lstOf S (.ref l) = some xs := by simp [lstOf, h]
@[simp] theorem truth_bl {b : Bool} : truth S (.bl b) = some b := (rfl)
@[simp] theorem truth_int : truth S (.int i) = some (i != 0) := (rfl)
@[simp] theorem truth_non : truth S .non = some false := (rfl)
@[simp] theorem truth_lst : truth S (.lst xs) = some (!xs.isEmpty) := (rfl)
@[simp] theorem truth_tup : truth S (.tup xs) = some (!xs.isEmpty) := (rfl)
@[simp] theorem v_add_int : binV new .add (.int i) (.int j) S = .ok (.int (i + j)) S := (rfl)
@[simp] theorem v_sub_int : binV new .sub (.int i) (.int j) S = .ok (.int (i - j)) S := (rfl)
@[simp] theorem v_mul_int (h : okMul i j = true) : binV new .mul (.int i) (.int j) S = .ok (.int (i * j)) S := by
  show (if okMul i j then R.ok (D.int (i * j)) S else .stuck) = _
  rw [if_pos h]
@[simp] theorem v_fdiv_int (h : okDiv j = true) : binV new .fdiv (.int i) (.int j) S = .ok (.int (i.fdiv j)) S := by
  show (if okDiv j then R.ok (D.int (i.fdiv j)) S else .stuck) = _
  rw [if_pos h]
@[simp] theorem v_mod_int (h : ¬ j = 0) : binV new .mod (.int i) (.int j) S = .ok (.int (i.fmod j)) S := by
  show (if j = 0 then R.stuck else R.ok (D.int (i.fmod j)) S) = _
  rw [if_neg h]
@[simp] theorem v_add_str (h : a.length + b.length ≤ sizeLine) : binV new .add (.str a) (.str b) S = .ok (.str (a ++ b)) S := by
  show (if isz (a.length + b.length) then R.ok (D.str (a ++ b)) S else .stuck) = _
  rw [if_pos (isz_t h)]
theorem v_add_lst (h : (xs ++ ys).length ≤ sizeLine) : binV false .add (.lst xs) (.lst ys) S = .ok (.lst (xs ++ ys)) S := by
  show mkL false (xs ++ ys) S = _
  unfold mkL
  rw [if_pos (isz_t h)]
  rfl
@[simp] theorem mkL_val (h : xs.length ≤ sizeLine) : mkL false xs S = .ok (.lst xs) S := by
  unfold mkL
  rw [if_pos (isz_t h)]
  rfl
@[simp] theorem mkL_new (h : xs.length ≤ sizeLine) : mkL true xs S = .ok (.ref S.length) (S ++ [.lst xs]) := by
  unfold mkL
  rw [if_pos (isz_t h)]
  rfl
@[simp] theorem mkT_val (h : xs.length ≤ sizeLine) : mkT xs S = .ok (.tup xs) S := by
  unfold mkT
  rw [if_pos (isz_t h)]
@[simp] theorem c_eq_int : cmpV .eq (.int i) (.int j) S = .ok (.bl (decide (i = j))) S := (rfl)
@[simp] theorem c_ne_int : cmpV .ne (.int i) (.int j) S = .ok (.bl (!decide (i = j))) S := (rfl)
@[simp] theorem c_lt_int : cmpV .lt (.int i) (.int j) S = .ok (.bl (decide (i < j))) S := (rfl)
@[simp] theorem c_gt_int : cmpV .gt (.int i) (.int j) S = .ok (.bl (decide (j < i))) S := (rfl)
@[simp] theorem c_le_int : cmpV .le (.int i) (.int j) S = .ok (.bl (decide (i ≤ j))) S := (rfl)
@[simp] theorem c_ge_int : cmpV .ge (.int i) (.int j) S = .ok (.bl (decide (j ≤ i))) S := (rfl)
@[simp] theorem c_eq_str : cmpV .eq (.str a) (.str b) S = .ok (.bl (decide (a = b))) S := (rfl)
@[simp] theorem c_ne_str : cmpV .ne (.str a) (.str b) S = .ok (.bl (!decide (a = b))) S := (rfl)
@[simp] theorem c_is_non : cmpV .is x .non S = .ok (.bl (isNon x)) S := by cases x <;> rfl
@[simp] theorem c_nis_non : cmpV .nis x .non S = .ok (.bl (!isNon x)) S := by cases x <;> rfl
@[simp] theorem c_is_bl {b c : Bool} : cmpV .is (.bl b) (.bl c) S = .ok (.bl (decide (b = c))) S := (rfl)
@[simp] theorem c_nis_bl {b c : Bool} : cmpV .nis (.bl b) (.bl c) S = .ok (.bl (!decide (b = c))) S := (rfl)
@[simp] theorem isNon_non : isNon .non = true := (rfl)
@[simp] theorem isNon_int : isNon (.int i) = false := (rfl)
@[simp] theorem isNon_str : isNon (.str a) = false := (rfl)
@[simp] theorem isNon_tup : isNon (.tup xs) = false := (rfl)
@[simp] theorem c_in_tup (h : flatD x = true) (h2 : ys.all flatD = true) : cmpV .isin x (.tup ys) S = .ok (.bl (ys.any fun y => flatEq y x)) S := by
  show ofB (inSeq x ys) S = _
  unfold inSeq
  rw [h, h2]
  rfl
@[simp] theorem c_nin_tup (h : flatD x = true) (h2 : ys.all flatD = true) : cmpV .nin x (.tup ys) S = .ok (.bl (!ys.any fun y => flatEq y x)) S := by
  show ofB ((inSeq x ys).map (!·)) S = _
  unfold inSeq
  rw [h, h2]
  rfl
@[simp] theorem c_in_lst (h : flatD x = true) (h2 : ys.all flatD = true) : cmpV .isin x (.lst ys) S = .ok (.bl (ys.any fun y => flatEq y x)) S := by
  show ofB (match inSeq x ys with | some b => some b | none => inDat x ys) S = _
  unfold inSeq
  rw [h, h2]
  rfl
@[simp] theorem flatD_str : flatD (.str a) = true := (rfl)
@[simp] theorem flatD_int : flatD (.int i) = true := (rfl)
@[simp] theorem flatD_non : flatD .non = true := (rfl)
@[simp] theorem flatEq_str : flatEq (.str a) (.str b) = (a == b) := (rfl)
@[simp] theorem flatEq_int : flatEq (.int i) (.int j) = (i == j) := (rfl)
@[simp] theorem flatEq_in : flatEq (.int i) .non = false := (rfl)
@[simp] theorem flatEq_ni : flatEq .non (.int i) = false := (rfl)
@[simp] theorem flatEq_nn : flatEq .non .non = true := (rfl)
@[simp] theorem flatEq_sn : flatEq (.str a) .non = false := (rfl)
@[simp] theorem flatEq_ns : flatEq .non (.str a) = false := (rfl)
@[simp] theorem flatEq_si : flatEq (.str a) (.int i) = false := (rfl)
@[simp] theorem flatEq_is : flatEq (.int i) (.str a) = false := (rfl)
theorem dctOf_ref' (h : S[l]? = some (.lst xs)) : dctOf S (.ref l) = none := by
  show (match S[l]? with | some (.dct kvs) => some kvs | _ => none) = none
  rw [h]
theorem dctOf_dct {kvs : List (D × D)} (h : S[l]? = some (.dct kvs)) : dctOf S (.ref l) = some kvs := by
  show (match S[l]? with | some (.dct kvs) => some kvs | _ => none) = _
  rw [h]
@[simp] theorem ix_dct {kvs : List (D × D)} {y d : D} {k : Key} (h : S[l]? = some (.dct kvs)) (hk : kD y = some k) (hd : dAt kvs k = some d) : ixV (.ref l) y S = .ok d S := by
  unfold ixV
  rw [dctOf_dct h]
  show dctIx kvs y S = _
  unfold dctIx
  rw [hk]
  simp only
  rw [hd]
@[simp] theorem put_dct {kvs : List (D × D)} {y d : D} {k : Key} (h : S[l]? = some (.dct kvs)) (hk : kD y = some k) (hz : kvs.length < sizeLine) : putV (.ref l) y d S = some (S.set l (.dct (dPut kvs y k d))) := by
  unfold putV
  rw [dctOf_dct h]
  simp only [hk]
  rw [if_pos (decide_eq_true hz)]
@[simp] theorem ix_ref (h : S[l]? = some (.lst xs)) (h2 : atI xs i = some x) : ixV (.ref l) (.int i) S = .ok x S := by
  unfold ixV
  rw [dctOf_ref' h]
  show (match lstOf S (.ref l) with | some xs => (match atI xs i with | some d => R.ok d S | none => .stuck) | none => .stuck) = _
  rw [lstOf_ref' h]
  simp only
  rw [h2]
@[simp] theorem ix_lst (h2 : atI xs i = some x) : ixV (.lst xs) (.int i) S = .ok x S := by
  show (match atI xs i with | some d => R.ok d S | none => .stuck) = _
  rw [h2]
@[simp] theorem ix_tup (h2 : atI xs i = some x) : ixV (.tup xs) (.int i) S = .ok x S := by
  show (match atI xs i with | some d => R.ok d S | none => .stuck) = _
  rw [h2]
@[simp] theorem len_ref (h : S[l]? = some (.lst xs)) : bfV new .len (.ref l) S = .ok (.int xs.length) S := by
  show (match lstOf S (.ref l) with | some xs => R.ok (D.int xs.length) S | none => .stuck) = _
  rw [lstOf_ref' h]
@[simp] theorem len_lst : bfV new .len (.lst xs) S = .ok (.int xs.length) S := (rfl)
@[simp] theorem len_tup : bfV new .len (.tup xs) S = .ok (.int xs.length) S := (rfl)
@[simp] theorem len_scr {ns : List Int} : bfV new .len (.scr ns) S = .ok (.int ns.length) S := (rfl)
@[simp] theorem len_str (h : a.length ≤ sizeLine) : bfV new .len (.str a) S = .ok (.int a.length) S := by
  show (if isz a.length then R.ok (D.int a.length) S else .stuck) = _
  rw [if_pos (isz_t h)]
@[simp] theorem ok_ref (h : S[l]? = some (.lst xs)) {m : Mt} : mtOk m (.ref l) S = (match m with | .append => true | .extend => true | .clear => true | _ => false) := by
  cases m <;> simp [mtOk, mtOk.isCell, mtOk.isStr, h]
@[simp] theorem ok_str {m : Mt} : mtOk m (.str a) S = (match m with | .join => true | .split => true | .sindex => true | _ => false) := by
  cases m <;> simp [mtOk, mtOk.isCell, mtOk.isStr]
@[simp] theorem m_append (h : S[l]? = some (.lst xs)) (hz : xs.length < sizeLine) : mthV .append (.ref l) [x] S = .ok .non (S.set l (.lst (xs ++ [x]))) := by
  unfold mthV
  simp only [h]
  rw [if_pos (decide_eq_true hz)]
@[simp] theorem m_extend (h : S[l]? = some (.lst xs)) (hz : xs.length + ys.length ≤ sizeLine) : mthV .extend (.ref l) [.lst ys] S = .ok .non (S.set l (.lst (xs ++ ys))) := by
  unfold mthV
  simp only [h]
  rw [if_pos (isz_t hz)]
@[simp] theorem m_clear (h : S[l]? = some (.lst xs)) : mthV .clear (.ref l) [] S = .ok .non (S.set l (.lst [])) := by
  unfold mthV
  simp only [h]
@[simp] theorem put_ref (h : S[l]? = some (.lst xs)) : putV (.ref l) (.int i) x S = (ixN xs.length i).map fun j => S.set l (.lst (xs.set j x)) := by
  unfold putV
  rw [dctOf_ref' h]
  show putV0 (.ref l) (.int i) x S = _
  unfold putV0
  simp only [h]
  cases ixN xs.length i <;> rfl
@[simp] theorem at0 : atI (x :: xs) 0 = some x := by simp [atI, ixN]
@[simp] theorem at1 : atI (x :: y :: xs) 1 = some y := by
  have : ((1 : Int) < ((x :: y :: xs).length : Nat)) := by simp; omega
  simp only [atI, ixN, if_pos (show (0 : Int) ≤ 1 by omega), if_pos this]
  rfl
@[simp] theorem at2 {z : D} : atI (x :: y :: z :: xs) 2 = some z := by
  have : ((2 : Int) < ((x :: y :: z :: xs).length : Nat)) := by simp; omega
  simp only [atI, ixN, if_pos (show (0 : Int) ≤ 2 by omega), if_pos this]
  rfl
@[simp] theorem ofB_some {b : Bool} : ofB (some b) S = .ok (.bl b) S := (rfl)
@[simp] theorem isi_tup {t : Ty} : isiD S t (.tup xs) = some (match t with | .tuple => true | _ => false) := (rfl)
@[simp] theorem isi_str {t : Ty} : isiD S t (.str a) = some (match t with | .str => true | _ => false) := (rfl)
@[simp] theorem isi_int {t : Ty} : isiD S t (.int i) = some (match t with | .int => true | _ => false) := (rfl)
@[simp] theorem isi_lst {t : Ty} : isiD S t (.lst xs) = some (match t with | .list => true | _ => false) := (rfl)
@[simp] theorem isi_non {t : Ty} : isiD S t .non = some false := (rfl)
@[simp] theorem isi_ref {t : Ty} (h : S[l]? = some (.lst xs)) : isiD S t (.ref l) = some (match t with | .list => true | _ => false) := by
  unfold isiD
  simp only [h] <;> cases t <;> rfl
theorem c_eq_nil (h : D.plains (x :: xs) = true) (h2 : SeqAt.shaped (.tuple (D.pds (x :: xs))) = true) : cmpV .eq (.tup (x :: xs)) (.tup []) S = .ok (.bl false) S := by
  show ofB (eqD S (.tup (x :: xs)) (.tup [])) S = _
  have e : eqD S (.tup (x :: xs)) (.tup []) = some false := by
    show (if D.plains (x :: xs) && true && SeqAt.shaped (.tuple (D.pds (x :: xs))) && SeqAt.shaped (.tuple []) then some (PyData.eqv (.tuple (D.pds (x :: xs))) (.tuple [])) else none) = some false
    rw [h, h2]
    rfl
  rw [e]
  rfl
@[simp] theorem seqI_tup : seqItems S (.tup xs) = some ⟨xs, none⟩ := (rfl)
@[simp] theorem seqI_lst : seqItems S (.lst xs) = some ⟨xs, none⟩ := (rfl)
variable {t : Ev.T} {ev : Env → Store → R (List D)} {okf : Env → Store → R Bool} {evf : Env → Store → R D}
@[simp] theorem comp_def {g : Option (Nat × List D)} : compGo t g okf evf env xs S = colGo t g (step1 okf evf) env xs S := (rfl)
@[simp] theorem col_nil : colGo t none ev env [] S = .ok [] S := (rfl)
@[simp] theorem col_step : colGo t none ev env (x :: xs) S = match t.asg x env with
    | some env1 => match ev env1 S with
      | .ok ys S2 => match colGo t none ev env xs S2 with
        | .ok zs S3 => .ok (ys ++ zs) S3
        | _ => .stuck
      | _ => .stuck
    | none => .stuck := (rfl)
@[simp] theorem step1_def : step1 okf evf env S = match okf env S with
    | .ok b S1 => if b then (match evf env S1 with
      | .ok y S2 => .ok [y] S2
      | _ => .stuck) else .ok [] S1
    | _ => .stuck := (rfl)
theorem col_cons {env1 : Env} {S2 S3 : Store} {zs : List D} (h1 : t.asg x env = some env1) (h2 : ev env1 S = .ok ys S2) (h3 : colGo t none ev env xs S2 = .ok zs S3) : colGo t none ev env (x :: xs) S = .ok (ys ++ zs) S3 := by
  rw [colGo]
  simp only [gOk, if_true, h1, h2, h3]
/-- each item's lists, joined; the store as it was -/
theorem col_map {f : D → List D} : ∀ {xs : List D}, (∀ x ∈ xs, ∃ env1, t.asg x env = some env1 ∧ ev env1 S = .ok (f x) S) → colGo t none ev env xs S = .ok (xs.flatMap f) S
  | [], _ => rfl
  | x :: xs, h => by
    obtain ⟨env1, h1, h2⟩ := h x List.mem_cons_self
    rw [col_cons h1 h2 (col_map fun y hy => h y (List.mem_cons_of_mem _ hy))]
    rfl
theorem comp_map {f : D → D} {xs : List D} (h : ∀ x ∈ xs, ∃ env1, t.asg x env = some env1 ∧ evf env1 S = .ok (f x) S) : colGo t none (step1 (fun _ S => .ok true S) evf) env xs S = .ok (xs.map f) S := by
  rw [col_map (f := fun x => [f x]) fun x hx => by
    obtain ⟨env1, h1, h2⟩ := h x hx
    refine ⟨env1, h1, ?_⟩
    unfold step1
    simp only [if_true, h2]]
  congr 1
  induction xs with
  | nil => rfl
  | cons a r ih => rw [List.flatMap_cons, ih fun x hx => h x (List.mem_cons_of_mem _ hx)]; rfl
@[simp] theorem asg_nm {i : Nat} : Ev.T.asg (.nm i) x env = some (env.set i (some x)) := (rfl)
@[simp] theorem wipe_nil : wipeD env [] = env := (rfl)
@[simp] theorem wipe_cons {i : Nat} {r : List Nat} : wipeD env (i :: r) = (wipeD env r).set i none := (rfl)
@[simp] theorem cutA_tup : cutV new (.tup (x :: xs)) (some 1) none S = .ok (.tup xs) S := by
  show R.ok (D.tup (cutD (x :: xs) (some 1) none)) S = _
  have : cutD (x :: xs) (some 1) none = xs := by
    unfold cutD HT.sIx
    simp
  rw [this]
@[simp] theorem sum_lst {ns : List Int} (h : intsOf xs = some ns) : bfV new .sum (.lst xs) S = .ok (.int ns.sum) S := by
  show (match intsOf xs with | some ns => R.ok (D.int ns.sum) S | none => .stuck) = _
  rw [h]
@[simp] theorem c_in_str2 {c : Str} : cmpV .isin (.str a) (.tup [.str b, .str c]) S = .ok (.bl (b == a || c == a)) S := by
  show ofB (some (b == a || (c == a || false))) S = _
  rw [Bool.or_false]
  rfl
@[simp] theorem c_nin_str2 {c : Str} : cmpV .nin (.str a) (.tup [.str b, .str c]) S = .ok (.bl (!(b == a || c == a))) S := by
  show ofB (some (!(b == a || (c == a || false)))) S = _
  rw [Bool.or_false]
  rfl
@[simp] theorem fin_bl {b : Bool} : finish true S (.rt (.bl b) S) = .ok (.bl b) S := finish_here rfl
@[simp] theorem fin_int : finish true S (.rt (.int i) S) = .ok (.int i) S := finish_here rfl
@[simp] theorem fin_str : finish true S (.rt (.str a) S) = .ok (.str a) S := finish_here rfl
@[simp] theorem fin_non : finish true S (.rt .non S) = .ok .non S := finish_here rfl
variable {body : Env → Store → SR}
@[simp] theorem for_nil : forGo t none body [] env S = .nx env S := (rfl)
@[simp] theorem for_step : forGo t none body (x :: xs) env S = match t.asg x env with
    | some env1 => match body env1 S with
      | .nx e S1 => forGo t none body xs e S1
      | .ct e S1 => forGo t none body xs e S1
      | .bk e S1 => .nx e S1
      | .rt d S1 => .rt d S1
      | .exc x e S1 => .exc x e S1
      | .stuck => .stuck
    | none => .stuck := (rfl)
theorem col_id {i : Nat} (hi : i < env.length) : ∀ {xs : List D}, colGo (.nm i) none (step1 (fun _ S => .ok true S) fun env S => match env[i]? with
    | some (some d) => .ok d S
    | _ => .stuck) env xs S = .ok xs S
  | [] => rfl
  | x :: xs => by
    rw [col_step, asg_nm]
    simp only [step1_def, List.getElem?_set_self hi, if_true, col_id hi]
    rfl
@[simp] theorem tuple_lst (h : xs.length ≤ sizeLine) : bfV new .tuple (.lst xs) S = .ok (.tup xs) S := by
  show mkT xs S = _
  exact mkT_val h
@[simp] theorem list_tup (h : xs.length ≤ sizeLine) : bfV false .list (.tup xs) S = .ok (.lst xs) S := by
  show mkL false xs S = _
  exact mkL_val h
@[simp] theorem asg_tp {ts : Ts} : Ev.T.asg (.tp ts) (.tup xs) env = Ts.asg ts xs env := (rfl)
@[simp] theorem asg_tpl {ts : Ts} : Ev.T.asg (.tp ts) (.lst xs) env = Ts.asg ts xs env := (rfl)
@[simp] theorem asg_cons {ts : Ts} : Ts.asg (.cons t ts) (x :: xs) env = (match t.asg x env with
    | some env1 => Ts.asg ts xs env1
    | none => none) := (rfl)
@[simp] theorem asg_nil : Ts.asg .nil [] env = some env := (rfl)
@[simp] theorem m_join {ws : List Str} (h : strsOf xs = some ws) (hz : joinLen a ws ≤ 16777216) : mthV .join (.str a) [.lst xs] S = .ok (.str (Txt.join a ws)) S := by
  show (match strsOf xs with | some ys => if decide (joinLen a ys ≤ 16777216) then R.ok (D.str (Txt.join a ys)) S else .stuck | none => .stuck) = _
  rw [h]
  simp only
  rw [if_pos (decide_eq_true hz)]
@[simp] theorem m_split (h : (b.length == 0) = false) (hz : a.length + 2 ≤ sizeLine) : mthV .split (.str a) [.str b] S = .ok (.lst ((Txt.split a b).map .str)) S := by
  show (if !(b.length == 0) && isz (a.length + 2) then R.ok (D.lst ((Txt.split a b).map .str)) S else .stuck) = _
  rw [h, isz_t hz]
  rfl
theorem strsOf_map : ∀ ws : List Str, strsOf (ws.map D.str) = some ws
  | [] => rfl
  | w :: ws => by
    show (strsOf (ws.map D.str)).map (w :: ·) = _
    rw [strsOf_map ws]
    rfl
@[simp] theorem repr_tup (h : okRepr (.tup xs) = true) : bfV new .repr (.tup xs) S = .ok (.str (D.pd (.tup xs)).shown) S := by
  show (if okRepr (.tup xs) then R.ok (D.str (D.pd (.tup xs)).shown) S else .stuck) = _
  rw [if_pos h]
@[simp] theorem repr_lst (h : okRepr (.lst xs) = true) : bfV new .repr (.lst xs) S = .ok (.str (D.pd (.lst xs)).shown) S := by
  show (if okRepr (.lst xs) then R.ok (D.str (D.pd (.lst xs)).shown) S else .stuck) = _
  rw [if_pos h]
@[simp] theorem repr_ref (hl : S[l]? = some (.lst xs)) (h : okRepr (.lst xs) = true) : bfV new .repr (.ref l) S = .ok (.str (D.pd (.lst xs)).shown) S := by
  unfold bfV
  simp only [view, hl]
  rw [if_pos h]
theorem ne_lst (h : D.plains xs = true) (h2 : D.plains ys = true) (h3 : SeqAt.shaped (.list (D.pds xs)) = true) (h4 : SeqAt.shaped (.list (D.pds ys)) = true) : cmpV .ne (.lst xs) (.lst ys) S = .ok (.bl (!PyData.eqv (.list (D.pds xs)) (.list (D.pds ys)))) S := by
  show ofB ((if D.plains xs && D.plains ys && SeqAt.shaped (.list (D.pds xs)) && SeqAt.shaped (.list (D.pds ys)) then some (PyData.eqv (.list (D.pds xs)) (.list (D.pds ys))) else none).map (!·)) S = _
  rw [h, h2, h3, h4]
  rfl
@[simp] theorem cut_scr {ns : List Int} {i j : Int} (h : (cutD ns (some i) (some j)).length ≤ sizeLine) : cutV false (.scr ns) (some i) (some j) S = .ok (.lst ((cutD ns (some i) (some j)).map .int)) S := by
  show mkL false ((cutD ns (some i) (some j)).map .int) S = _
  rw [mkL_val (by rw [List.length_map]; exact h)]
@[simp] theorem slots_nm {i : Nat} : (Ev.T.nm i).slots = [i] := (rfl)
theorem sz {n : Nat} (h : n ≤ 1000000) : n ≤ sizeLine := Nat.le_trans h (by decide)
end
end Ev


namespace Ev
open PySem PySem.Spec L2
def tf_law_digit : Ss := (.cons (.ite (.cmp .eq (.bf false .len (.var 0)) (.con (.int 1))) (.cons (.ex (.mth1 .extend (.var 0) (.lst false (.cons (.bin false .mod (.ix (.var 0) (.con (.int 0))) (.con (.int 2147483647))) (.cons (.con (.int 0)) (.nil)))))) (.nil)) (.nil)) (.cons (.ite (.cmp .ge (.ix (.var 0) (.con (.int 0))) (.var 1)) (.cons (.set 2 (.bin false .mod (.ix (.var 0) (.con (.int 0))) (.var 1))) (.cons (.put (.var 0) (.con (.int 0)) (.bin false .fdiv (.ix (.var 0) (.con (.int 0))) (.var 1))) (.cons (.ret (.var 2)) (.nil)))) (.nil)) (.cons (.put (.var 0) (.con (.int 2)) (.bin false .add (.ix (.var 0) (.con (.int 2))) (.con (.int 1)))) (.cons (.set 3 (.bin false .mod (.bin false .mul (.bin false .add (.bin false .add (.ix (.var 0) (.con (.int 1))) (.bin false .mul (.con (.int 7919)) (.ix (.var 0) (.con (.int 2))))) (.con (.int 1))) (.con (.int 48271))) (.con (.int 2147483647)))) (.cons (.set 3 (.bin false .mod (.bin false .mul (.var 3) (.bin false .add (.bin false .fdiv (.var 3) (.con (.int 1009))) (.con (.int 69621)))) (.con (.int 2147483647)))) (.cons (.ret (.bin false .mod (.bin false .mod (.bin false .mul (.var 3) (.bin false .add (.bin false .fdiv (.var 3) (.con (.int 2003))) (.con (.int 40692)))) (.con (.int 2147483399))) (.var 1))) (.nil)))))))
def f_law_digit : Fn := ⟨2, 4, false, tf_law_digit⟩
theorem okMul_of {i j : Int} (a b : Nat) (hi : i.natAbs < 2 ^ a) (hj : j.natAbs < 2 ^ b) (h : a + b ≤ 999998) : okMul i j = true := by
  unfold okMul
  have h1 : i.natAbs.log2 ≤ a := by
    rcases Nat.eq_zero_or_pos i.natAbs with z | z
    · rw [z]; simp
    · exact Nat.le_of_lt ((Nat.log2_lt (by omega)).mpr hi)
  have h2 : j.natAbs.log2 ≤ b := by
    rcases Nat.eq_zero_or_pos j.natAbs with z | z
    · rw [z]; simp
    · exact Nat.le_of_lt ((Nat.log2_lt (by omega)).mpr hj)
  exact decide_eq_true (by omega)
theorem okDiv_of {j : Int} (h : j ≠ 0 ∧ j.natAbs < 1073741824) : okDiv j = true := by
  unfold okDiv
  simp [h.1, h.2]
/-- a drawing state -/
def stOk (B : Nat) (st : List D) : Prop := (∃ a, st = [.int a]) ∨ ∃ a b c : Int, st = [.int a, .int b, .int c] ∧ 0 ≤ b ∧ b < 2147483647 ∧ 0 ≤ c ∧ c ≤ B
theorem isz_small {n : Nat} (h : n ≤ 1000000) : isz n = true := decide_eq_true (Nat.le_trans h (by decide))
@[simp] theorem set_same {S : Store} {l : Nat} {o p : Ob} : (S.set l o).set l p = S.set l p := by simp
theorem finish_raw {r : SR} (S S1 : Store) : finish false S r = finish false S1 r := by cases r <;> rfl
theorem fmod_in {a b : Int} (h : 0 < b) : 0 ≤ a.fmod b ∧ a.fmod b < b := ⟨Int.fmod_nonneg_of_pos a h, Int.fmod_lt_of_pos a h⟩
theorem digit3 {G : Cfg} {n l : Nat} {S : Store} {a b c base : Int} {B : Nat} (hG : G.fns[1]? = some f_law_digit) (h : S[l]? = some (.lst [.int a, .int b, .int c])) (hb : 0 ≤ b ∧ b < 2147483647) (hc : 0 ≤ c ∧ c ≤ B) (hB : B < 2 ^ 300) (h1 : 1 ≤ base ∧ base < 1073741824) :
    ∃ r st, run G (n + 1) 1 [.ref l, .int base] S = .ok (.int r) (S.set l (.lst st)) ∧ 0 ≤ r ∧ r < base ∧ stOk (B + 1) st := by
  have hl : l < S.length := (List.getElem?_eq_some_iff.mp h).1
  have hbn : ¬ base = 0 := by omega
  have hd := okDiv_of (j := base) ⟨hbn, by omega⟩
  have hw : ∀ o, (S.set l o)[l]? = some o := fun o => List.getElem?_set_self hl
  clear hl
  rw [run_eq hG rfl]
  by_cases c1 : a ≥ base
  · refine ⟨a.fmod base, [.int (a.fdiv base), .int b, .int c], ?_, (fmod_in (by omega)).1, (fmod_in (by omega)).2, .inr ⟨_, b, c, rfl, hb.1, hb.2, hc.1, by omega⟩⟩
    simp [f_law_digit, tf_law_digit, h, hw, c1, hbn, hd, ixN]
  · obtain ⟨x, hx⟩ : ∃ x, x = ((b + 7919 * (c + 1) + 1) * 48271).fmod 2147483647 := ⟨_, rfl⟩
    have hx1 := fmod_in (a := (b + 7919 * (c + 1) + 1) * 48271) (b := 2147483647) (by omega)
    rw [← hx] at hx1
    obtain ⟨y, hy⟩ : ∃ y, y = (x * (x.fdiv 1009 + 69621)).fmod 2147483647 := ⟨_, rfl⟩
    have hy1 := fmod_in (a := x * (x.fdiv 1009 + 69621)) (b := 2147483647) (by omega)
    rw [← hy] at hy1
    have m1 : okMul 7919 (c + 1) = true := okMul_of 13 301 (by decide) (by omega) (by omega)
    have m2 : okMul (b + 7919 * (c + 1) + 1) 48271 = true := okMul_of 320 16 (by omega) (by decide) (by omega)
    have hx2 : 0 ≤ x.fdiv 1009 ∧ x.fdiv 1009 < 2147483647 := by
      rw [Int.fdiv_eq_ediv_of_nonneg _ (by omega)]
      omega
    have hy2 : 0 ≤ y.fdiv 2003 ∧ y.fdiv 2003 < 2147483647 := by
      rw [Int.fdiv_eq_ediv_of_nonneg _ (by omega)]
      omega
    have m3 : okMul x (x.fdiv 1009 + 69621) = true := okMul_of 31 32 (by omega) (by omega) (by omega)
    have m4 : okMul y (y.fdiv 2003 + 40692) = true := okMul_of 31 32 (by omega) (by omega) (by omega)
    have d1 : okDiv 1009 = true := okDiv_of ⟨by omega, by decide⟩
    have d2 : okDiv 2003 = true := okDiv_of ⟨by omega, by decide⟩
    refine ⟨((y * (y.fdiv 2003 + 40692)).fmod 2147483399).fmod base, [.int a, .int b, .int (c + 1)], ?_, (fmod_in (by omega)).1, (fmod_in (by omega)).2, .inr ⟨a, b, c + 1, rfl, hb.1, hb.2, by omega, by push_cast; omega⟩⟩
    simp [f_law_digit, tf_law_digit, h, hw, c1, hbn, hd, ixN, m1, m2, ← hx, m3, ← hy, m4, d1, d2]
theorem digit {G : Cfg} {n l : Nat} {S : Store} {st : List D} {base : Int} {B : Nat} (hG : G.fns[1]? = some f_law_digit) (h : S[l]? = some (.lst st)) (hs : stOk B st) (hB : B < 2 ^ 300) (h1 : 1 ≤ base ∧ base < 1073741824) :
    ∃ r st', run G (n + 1) 1 [.ref l, .int base] S = .ok (.int r) (S.set l (.lst st')) ∧ 0 ≤ r ∧ r < base ∧ stOk (B + 1) st' := by
  rcases hs with ⟨a, rfl⟩ | ⟨a, b, c, rfl, h2, h3, h4, h5⟩
  · have hl : l < S.length := (List.getElem?_eq_some_iff.mp h).1
    have hw : ∀ o, (S.set l o)[l]? = some o := fun o => List.getElem?_set_self hl
    clear hl
    have hb := fmod_in (a := a) (b := 2147483647) (by omega)
    obtain ⟨r, st', e, h6, h7, h8⟩ := digit3 (n := n) (S := S.set l (.lst [.int a, .int (a.fmod 2147483647), .int 0])) (a := a) (b := a.fmod 2147483647) (c := 0) (B := B) hG (hw _) hb ⟨by omega, by omega⟩ hB h1
    refine ⟨r, st', ?_, h6, h7, h8⟩
    rw [set_same] at e
    rw [← e, run_eq hG rfl, run_eq hG rfl]
    refine (finish_raw (r := _) S (S.set l (.lst [.int a, .int (a.fmod 2147483647), .int 0]))).trans ?_
    show finish false _ _ = finish false _ _
    congr 1
    show Ev.Ss.ev _ _ tf_law_digit _ _ = Ev.Ss.ev _ _ tf_law_digit _ _
    unfold tf_law_digit
    rw [ev_ss_cons, ev_ss_cons]
    congr 1
    simp [f_law_digit, h, hw, sz]
  · exact digit3 hG h ⟨h2, h3⟩ ⟨h4, h5⟩ hB h1
end Ev


namespace Ev
open PySem PySem.Spec L2
def tf_law_cell_at : Ss := (.cons (.ite (.cmp .lt (.var 1) (.bf false .len (.var 0))) (.cons (.ret (.ix (.var 0) (.var 1))) (.nil)) (.nil)) (.cons (.ret (.con (.int 0))) (.nil)))
def f_law_cell_at : Fn := ⟨2, 2, true, tf_law_cell_at⟩
def tf_law_grown : Ss := (.cons (.set 3 (.call 1 (.cons (.var 0) (.cons (.con (.int 5)) (.nil))))) (.cons (.ite (.and (.cmp .gt (.var 2) (.con (.int 1))) (.cmp .eq (.var 3) (.con (.int 0)))) (.cons (.ret (.tup (.cons (.con (.str "not")) (.cons (.call 2 (.cons (.var 0) (.cons (.var 1) (.cons (.bin false .sub (.var 2) (.con (.int 1))) (.nil))))) (.nil))))) (.nil)) (.nil)) (.cons (.ite (.and (.cmp .gt (.var 2) (.con (.int 1))) (.and (.cmp .gt (.var 1) (.con (.int 1))) (.cmp .lt (.var 3) (.con (.int 4))))) (.cons (.set 4 (.bin false .add (.con (.int 1)) (.call 1 (.cons (.var 0) (.cons (.bin false .sub (.var 1) (.con (.int 1))) (.nil)))))) (.cons (.set 5 (.call 4 (.cons (.var 0) (.cons (.lst false (.cons (.con (.str "and")) (.cons (.con (.str "or")) (.nil)))) (.nil))))) (.cons (.ret (.tup (.cons (.var 5) (.cons (.call 2 (.cons (.var 0) (.cons (.var 4) (.cons (.bin false .sub (.var 2) (.con (.int 1))) (.nil))))) (.cons (.call 2 (.cons (.var 0) (.cons (.bin false .sub (.var 1) (.var 4)) (.cons (.bin false .sub (.var 2) (.con (.int 1))) (.nil))))) (.nil)))))) (.nil)))) (.nil)) (.cons (.ret (.tup (.cons (.call 4 (.cons (.var 0) (.cons (.lst false (.cons (.con (.str "=")) (.cons (.con (.str "<")) (.nil)))) (.nil)))) (.cons (.call 4 (.cons (.var 0) (.cons (.con (.str "abc0123")) (.nil)))) (.cons (.call 4 (.cons (.var 0) (.cons (.con (.str "abc0123")) (.nil)))) (.nil)))))) (.nil)))))
def f_law_grown : Fn := ⟨3, 6, false, tf_law_grown⟩
def tf_law_pick : Ss := (.cons (.ret (.ix (.var 1) (.call 1 (.cons (.var 0) (.cons (.bf false .len (.var 1)) (.nil)))))) (.nil))
def f_law_pick : Fn := ⟨2, 2, false, tf_law_pick⟩
theorem run_at {G : Cfg} {n k : Nat} {args : List D} {S : Store} {f : Fn} (hn : 1 ≤ n) (hG : G.fns[k]? = some f) (hl : args.length = f.np) : run G n k args S = finish f.pure S (f.body.ev (run G (n - 1)) G (args.map some ++ List.replicate (f.nv - f.np) none) S) := by
  obtain ⟨n, rfl⟩ : ∃ k, n = k + 1 := ⟨n - 1, by omega⟩
  exact run_eq hG hl
theorem stOk.mono {B C : Nat} {st : List D} (h : stOk B st) (hc : B ≤ C) : stOk C st := by
  rcases h with h | ⟨a, b, c, h1, h2, h3, h4, h5⟩
  · exact .inl h
  · exact .inr ⟨a, b, c, h1, h2, h3, h4, by omega⟩
theorem digit_at {G : Cfg} {n l : Nat} {S : Store} {st : List D} {base : Int} {B : Nat} (hn : 1 ≤ n) (hG : G.fns[1]? = some f_law_digit) (h : S[l]? = some (.lst st)) (hs : stOk B st) (hB : B < 2 ^ 300) (h1 : 1 ≤ base ∧ base < 1073741824) :
    ∃ r st', run G n 1 [.ref l, .int base] S = .ok (.int r) (S.set l (.lst st')) ∧ 0 ≤ r ∧ r < base ∧ stOk (B + 1) st' := by
  obtain ⟨n, rfl⟩ : ∃ k, n = k + 1 := ⟨n - 1, by omega⟩
  exact digit hG h hs hB h1
theorem atI_mem {α : Type} {xs : List α} {r : Int} (h0 : 0 ≤ r) (h1 : r < (xs.length : Int)) : ∃ a ∈ xs, atI xs r = some a := by
  have hr : r.toNat < xs.length := by omega
  refine ⟨xs[r.toNat], List.getElem_mem hr, ?_⟩
  unfold atI ixN
  rw [if_pos h0, if_pos h1]
  simp [hr]
/-- one of some texts in a list -/
theorem pick_lst {G : Cfg} {n l : Nat} {S : Store} {st : List D} {B : Nat} {ws : List Str} (hn : 2 ≤ n) (hG : G.fns[1]? = some f_law_digit) (hG2 : G.fns[4]? = some f_law_pick) (h : S[l]? = some (.lst st)) (hs : stOk B st) (hB : B < 2 ^ 300) (hw : 1 ≤ ws.length ∧ ws.length < 1000) :
    ∃ w st', run G n 4 [.ref l, .lst (ws.map .str)] S = .ok (.str w) (S.set l (.lst st')) ∧ w ∈ ws ∧ stOk (B + 1) st' := by
  obtain ⟨r, st', e, h1, h2, h3⟩ := digit_at (n := n - 1) (base := ((ws.map D.str).length : Nat)) (by omega) hG h hs hB (by rw [List.length_map]; omega)
  obtain ⟨d, hd, hd2⟩ := atI_mem (xs := ws.map D.str) h1 h2
  obtain ⟨w, hw1, rfl⟩ := List.mem_map.mp hd
  refine ⟨w, st', ?_, hw1, h3⟩
  rw [run_at (by omega) hG2 rfl]
  simp [f_law_pick, tf_law_pick] at e ⊢
  rw [e]
  simp [hd2]
/-- a sign of a text -/
theorem pick_str {G : Cfg} {n l : Nat} {S : Store} {st : List D} {B : Nat} {z : Str} (hn : 2 ≤ n) (hG : G.fns[1]? = some f_law_digit) (hG2 : G.fns[4]? = some f_law_pick) (h : S[l]? = some (.lst st)) (hs : stOk B st) (hB : B < 2 ^ 300) (hw : 1 ≤ z.length ∧ z.length < 1000) :
    ∃ c st', run G n 4 [.ref l, .str z] S = .ok (.str ⟨#[c]⟩) (S.set l (.lst st')) ∧ c ∈ z.cps.toList ∧ stOk (B + 1) st' := by
  obtain ⟨r, st', e, h1, h2, h3⟩ := digit_at (n := n - 1) (base := (z.length : Nat)) (by omega) hG h hs hB (by omega)
  obtain ⟨c, hc, hc2⟩ := atI_mem (xs := z.cps.toList) h1 h2
  refine ⟨c, st', ?_, hc, h3⟩
  rw [run_at (by omega) hG2 rfl]
  have hx : ixV (.str z) (.int r) (S.set l (.lst st')) = .ok (.str ⟨#[c]⟩) (S.set l (.lst st')) := by
    show (if isz z.length then (match atI z.cps.toList r with | some c => R.ok (D.str ⟨#[c]⟩) _ | none => .stuck) else .stuck) = _
    rw [if_pos (isz_t (sz (by omega))), hc2]
  simp [f_law_pick, tf_law_pick, sz (show z.length ≤ 1000000 by omega), e, hx]

/-! ### conditions -/
inductive Cd where
  | leaf (s a b : Str)
  | nt (c : Cd)
  | jn (w : Str) (c d : Cd)
def Cd.toD : Cd → D
  | .leaf s a b => .tup [.str s, .str a, .str b]
  | .nt c => .tup [.str "not", c.toD]
  | .jn w c d => .tup [.str w, c.toD, d.toD]
def signs : List Str := ["=", "<"]
def joins : List Str := ["and", "or"]
def wordC : List Nat := (Str.ofString "abc0123").cps.toList
def Cd.ok : Cd → Prop
  | .leaf s a b => s ∈ signs ∧ (∃ c ∈ wordC, a = ⟨#[c]⟩) ∧ ∃ c ∈ wordC, b = ⟨#[c]⟩
  | .nt c => c.ok
  | .jn w c d => w ∈ joins ∧ c.ok ∧ d.ok
def Cd.parts : Cd → Nat
  | .leaf .. => 1
  | .nt c => c.parts
  | .jn _ c d => c.parts + d.parts
def Cd.deep : Cd → Nat
  | .leaf .. => 1
  | .nt c => c.deep + 1
  | .jn _ c d => max c.deep d.deep + 1
def cost : Nat → Nat
  | 0 => 4
  | d + 1 => 4 + 2 * cost d
structure HasDraw (G : Cfg) : Prop where
  dg : G.fns[1]? = some f_law_digit
  gr : G.fns[2]? = some f_law_grown
  pk : G.fns[4]? = some f_law_pick
theorem cost_mono : ∀ d, 4 ≤ cost d
  | 0 => Nat.le_refl _
  | d + 1 => by unfold cost; omega
theorem grown {G : Cfg} (hG : HasDraw G) : ∀ (d n l : Nat) (S : Store) (st : List D) (B : Nat) (many : Int), d + 3 ≤ n → S[l]? = some (.lst st) → stOk B st → B + cost d < 2 ^ 300 → 1 ≤ many → many < 1000 →
    ∃ (c : Cd) (st' : List D), run G n 2 [.ref l, .int many, .int ((d : Int) + 1)] S = .ok c.toD (S.set l (.lst st')) ∧ c.ok ∧ (c.parts : Int) ≤ many ∧ c.deep ≤ d + 1 ∧ stOk (B + cost d) st' := by
  intro d
  induction d with
  | zero =>
    intro n l S st B many hn h hs hB h1 h2
    have hl : l < S.length := (List.getElem?_eq_some_iff.mp h).1
    have hw : ∀ o, (S.set l o)[l]? = some o := fun o => List.getElem?_set_self hl
    unfold cost at hB ⊢
    obtain ⟨r, st1, e1, r1, r2, s1⟩ := digit_at (n := n - 1) (base := 5) (by omega) hG.dg h hs (by omega) (by omega)
    obtain ⟨s, st2, e2, q2, s2⟩ := pick_lst (n := n - 1) (ws := signs) (by omega) hG.dg hG.pk (hw (.lst st1)) s1 (by omega) (by decide)
    obtain ⟨a, st3, e3, q3, s3⟩ := pick_str (n := n - 1) (z := "abc0123") (by omega) hG.dg hG.pk (hw (.lst st2)) s2 (by omega) (by decide)
    obtain ⟨b, st4, e4, q4, s4⟩ := pick_str (n := n - 1) (z := "abc0123") (by omega) hG.dg hG.pk (hw (.lst st3)) s3 (by omega) (by decide)
    refine ⟨.leaf s ⟨#[a]⟩ ⟨#[b]⟩, st4, ?_, ⟨q2, ⟨a, q3, rfl⟩, b, q4, rfl⟩, by simpa [Cd.parts] using h1, by simp [Cd.deep], s4⟩
    rw [run_at (by omega) hG.gr rfl]
    simp only [set_same] at e2 e3 e4
    simp [signs] at e2
    simp [f_law_grown, tf_law_grown, e1, e2, e3, e4, Cd.toD, sz]
  | succ d ih =>
    intro n l S st B many hn h hs hB h1 h2
    have hl : l < S.length := (List.getElem?_eq_some_iff.mp h).1
    have hw : ∀ o, (S.set l o)[l]? = some o := fun o => List.getElem?_set_self hl
    unfold cost at hB ⊢
    have hc := cost_mono d
    obtain ⟨r, st1, e1, r1, r2, s1⟩ := digit_at (n := n - 1) (base := 5) (by omega) hG.dg h hs (by omega) (by omega)
    have hd1 : (1 : Int) < (d : Int) + 1 + 1 := by omega
    have hd2 : (d : Int) + 1 + 1 - 1 = (d : Int) + 1 := by omega
    by_cases c1 : r = 0
    · obtain ⟨c, st2, e2, k1, k2, k3, k4⟩ := ih (n - 1) l (S.set l (.lst st1)) st1 (B + 1) many (by omega) (hw _) s1 (by omega) h1 h2
      refine ⟨.nt c, st2, ?_, k1, k2, by simp [Cd.deep]; omega, k4.mono (by omega)⟩
      rw [run_at (by omega) hG.gr rfl]
      rw [set_same] at e2
      rw [c1] at e1
      simp [f_law_grown, tf_law_grown, e1, hd1, hd2, e2, Cd.toD, sz]
    · by_cases c2 : 1 < many ∧ r < 4
      · obtain ⟨f, st2, e2, f1, f2, s2⟩ := digit_at (n := n - 1) (base := many - 1) (by omega) hG.dg (hw (.lst st1)) s1 (by omega) (by omega)
        obtain ⟨w, st3, e3, q3, s3⟩ := pick_lst (n := n - 1) (ws := joins) (by omega) hG.dg hG.pk (hw (.lst st2)) s2 (by omega) (by decide)
        obtain ⟨c, st4, e4, k1, k2, k3, k4⟩ := ih (n - 1) l (S.set l (.lst st3)) st3 (B + 1 + 1 + 1) (1 + f) (by omega) (hw _) s3 (by omega) (by omega) (by omega)
        obtain ⟨c', st5, e5, j1, j2, j3, j4⟩ := ih (n - 1) l (S.set l (.lst st4)) st4 (B + 1 + 1 + 1 + cost d) (many - (1 + f)) (by omega) (hw _) k4 (by omega) (by omega) (by omega)
        refine ⟨.jn w c c', st5, ?_, ⟨q3, k1, j1⟩, by simp only [Cd.parts]; push_cast; omega, by simp [Cd.deep]; omega, j4.mono (by omega)⟩
        rw [run_at (by omega) hG.gr rfl]
        simp only [set_same] at e2 e3 e4 e5
        simp [joins] at e3
        simp [f_law_grown, tf_law_grown, e1, hd1, hd2, c1, c2.1, c2.2, e2, e3, e4, e5, Cd.toD, sz]
      · obtain ⟨s, st2, e2, q2, s2⟩ := pick_lst (n := n - 1) (ws := signs) (by omega) hG.dg hG.pk (hw (.lst st1)) s1 (by omega) (by decide)
        obtain ⟨a, st3, e3, q3, s3⟩ := pick_str (n := n - 1) (z := "abc0123") (by omega) hG.dg hG.pk (hw (.lst st2)) s2 (by omega) (by decide)
        obtain ⟨b, st4, e4, q4, s4⟩ := pick_str (n := n - 1) (z := "abc0123") (by omega) hG.dg hG.pk (hw (.lst st3)) s3 (by omega) (by decide)
        refine ⟨.leaf s ⟨#[a]⟩ ⟨#[b]⟩, st4, ?_, ⟨q2, ⟨a, q3, rfl⟩, b, q4, rfl⟩, by simpa [Cd.parts] using h1, by simp [Cd.deep], s4.mono (by omega)⟩
        rw [run_at (by omega) hG.gr rfl]
        simp only [set_same] at e2 e3 e4
        simp [signs] at e2
        by_cases c3 : 1 < many
        · have c4 : ¬ r < 4 := fun z => c2 ⟨c3, z⟩
          simp [f_law_grown, tf_law_grown, e1, hd1, c1, c3, c4, e2, e3, e4, Cd.toD, sz]
        · simp [f_law_grown, tf_law_grown, e1, hd1, c1, c3, e2, e3, e4, Cd.toD, sz]
end Ev


namespace Ev
open PySem PySem.Spec L2
/-! ### throughs of a condition: plain numbers -/
def isAnd (w : Str) : Bool := decide (w = ("and" : Str))
/-- how many ways there are, y of them behind a yes, n behind a no -/
def Cd.tot : Cd → Nat → Nat → Nat
  | .leaf .., y, n => n + y
  | .nt c, y, n => c.tot n y
  | .jn w c d, y, n => c.tot (if isAnd w then d.tot y n else y) (if isAnd w then n else d.tot y n)
/-- behind a 0 of each part -/
def Cd.wl : Cd → Nat → Nat → List Nat
  | .leaf .., _, n => [n]
  | .nt c, y, n => c.wl n y
  | .jn w c d, y, n => c.wl (if isAnd w then d.tot y n else y) (if isAnd w then n else d.tot y n) ++ d.wl y n
def Cd.sides : Cd → List (List Nat × Bool)
  | .leaf .. => [([0], false), ([1], true)]
  | .nt c => c.sides.map fun p => (p.1, !p.2)
  | .jn w c d => c.sides.flatMap fun p => if p.2 = isAnd w then d.sides.map fun q => (p.1 ++ q.1, q.2) else [(p.1 ++ List.replicate d.parts 2, p.2)]
def Cd.dec : Cd → Nat → Nat → Nat → List Nat × Bool × Nat
  | .leaf .., _, n, k => if n ≤ k then ([1], true, k - n) else ([0], false, k)
  | .nt c, y, n, k => ((c.dec n y k).1, !(c.dec n y k).2.1, (c.dec n y k).2.2)
  | .jn w c d, y, n, k =>
    let r := c.dec (if isAnd w then d.tot y n else y) (if isAnd w then n else d.tot y n) k
    if r.2.1 = isAnd w then (r.1 ++ (d.dec y n r.2.2).1, (d.dec y n r.2.2).2.1, (d.dec y n r.2.2).2.2) else (r.1 ++ List.replicate d.parts 2, r.2.1, r.2.2)
def num : List Nat → List Nat → Nat
  | r :: rs, w :: ws => (if r = 1 then w else 0) + num rs ws
  | _, _ => 0
theorem num_app : ∀ {a b u v : List Nat}, a.length = u.length → num (a ++ b) (u ++ v) = num a u + num b v
  | [], b, [], v, _ => by simp [num]
  | x :: a, b, w :: u, v, h => by
    have := num_app (a := a) (b := b) (u := u) (v := v) (by simpa using h)
    simp only [List.cons_append, num, this]
    omega
  | [], _, _ :: _, _, h => by simp at h
  | _ :: _, _, [], _, h => by simp at h
theorem num_two : ∀ (k : Nat) (v : List Nat), num (List.replicate k 2) v = 0
  | 0, v => by simp [num]
  | k + 1, [] => rfl
  | k + 1, w :: v => by
    rw [List.replicate_succ, num, num_two k v]
    simp
theorem wl_len : ∀ (c : Cd) (y n : Nat), (c.wl y n).length = c.parts
  | .leaf .., _, _ => rfl
  | .nt c, y, n => wl_len c n y
  | .jn w c d, y, n => by
    rw [Cd.wl, List.length_append, wl_len c, wl_len d]
    rfl
theorem mem_jn {w : Str} {c d : Cd} {p : List Nat × Bool} (h : p ∈ (Cd.jn w c d).sides) : ∃ a ∈ c.sides, (a.2 = isAnd w ∧ ∃ b ∈ d.sides, p = (a.1 ++ b.1, b.2)) ∨ (a.2 ≠ isAnd w ∧ p = (a.1 ++ List.replicate d.parts 2, a.2)) := by
  rw [Cd.sides, List.mem_flatMap] at h
  obtain ⟨a, ha, h⟩ := h
  refine ⟨a, ha, ?_⟩
  split at h
  · rename_i e
    obtain ⟨b, hb, rfl⟩ := List.mem_map.mp h
    exact .inl ⟨e, b, hb, rfl⟩
  · rename_i e
    exact .inr ⟨e, by simpa using h⟩
theorem jn_yes {w : Str} {c d : Cd} {a b : List Nat × Bool} (ha : a ∈ c.sides) (e : a.2 = isAnd w) (hb : b ∈ d.sides) : (a.1 ++ b.1, b.2) ∈ (Cd.jn w c d).sides := by
  rw [Cd.sides, List.mem_flatMap]
  exact ⟨a, ha, by rw [if_pos e]; exact List.mem_map.mpr ⟨b, hb, rfl⟩⟩
theorem jn_no {w : Str} {c d : Cd} {a : List Nat × Bool} (ha : a ∈ c.sides) (e : a.2 ≠ isAnd w) : (a.1 ++ List.replicate d.parts 2, a.2) ∈ (Cd.jn w c d).sides := by
  rw [Cd.sides, List.mem_flatMap]
  exact ⟨a, ha, by rw [if_neg e]; simp⟩
theorem sides_len : ∀ (c : Cd), ∀ p ∈ c.sides, p.1.length = c.parts
  | .leaf .., p, h => by
    have h : p ∈ [([0], false), ([1], true)] := h
    simp at h
    rcases h with rfl | rfl <;> rfl
  | .nt c, p, h => by
    obtain ⟨q, hq, rfl⟩ := List.mem_map.mp h
    exact sides_len c q hq
  | .jn w c d, p, h => by
    obtain ⟨a, ha, ⟨_, b, hb, rfl⟩ | ⟨_, rfl⟩⟩ := mem_jn h
    · simp [sides_len c a ha, sides_len d b hb, Cd.parts]
    · simp [sides_len c a ha, Cd.parts]
/-- what stands behind an end -/
theorem beh {w : Str} {t : Bool} {y n m : Nat} (e : t = isAnd w) : (if t = true then (if isAnd w = true then m else y) else (if isAnd w = true then n else m)) = m := by
  cases h : isAnd w <;> simp_all
theorem beh' {w : Str} {t : Bool} {y n m : Nat} (e : t ≠ isAnd w) : (if t = true then (if isAnd w = true then m else y) else (if isAnd w = true then n else m)) = (if t = true then y else n) := by
  cases h : isAnd w <;> cases t <;> simp_all
theorem dec_ok : ∀ (c : Cd) (y n k : Nat), k < c.tot y n → ((c.dec y n k).1, (c.dec y n k).2.1) ∈ c.sides ∧ k = num (c.dec y n k).1 (c.wl y n) + (c.dec y n k).2.2 ∧ (c.dec y n k).2.2 < (if (c.dec y n k).2.1 = true then y else n)
  | .leaf s a b, y, n, k, h => by
    have h : k < n + y := h
    unfold Cd.dec Cd.wl Cd.sides
    split
    · refine ⟨by simp, ?_, ?_⟩
      · simp [num]
        omega
      · simp
        omega
    · refine ⟨by simp, ?_, ?_⟩
      · simp [num]
      · simp
        omega
  | .nt c, y, n, k, h => by
    obtain ⟨h1, h2, h3⟩ := dec_ok c n y k h
    refine ⟨List.mem_map.mpr ⟨_, h1, rfl⟩, h2, ?_⟩
    show (c.dec n y k).2.2 < (if (!(c.dec n y k).2.1) = true then y else n)
    cases e : (c.dec n y k).2.1 <;> simp [e] at h3 ⊢ <;> exact h3
  | .jn w c d, y, n, k, h => by
    obtain ⟨h1, h2, h3⟩ := dec_ok c _ _ k h
    rw [Cd.dec, Cd.wl]
    generalize c.dec (if isAnd w then d.tot y n else y) (if isAnd w then n else d.tot y n) k = r at h1 h2 h3 ⊢
    obtain ⟨r1, t, j⟩ := r
    simp only at h1 h2 h3 ⊢
    have hl := sides_len c _ h1
    simp only at hl
    by_cases e : t = isAnd w
    · rw [beh e] at h3
      obtain ⟨g1, g2, g3⟩ := dec_ok d y n j h3
      simp only [if_pos e]
      refine ⟨jn_yes h1 e g1, ?_, g3⟩
      rw [num_app (by rw [hl, wl_len])]
      omega
    · rw [beh' e] at h3
      simp only [if_neg e]
      refine ⟨jn_no h1 e, ?_, h3⟩
      rw [num_app (by rw [hl, wl_len]), num_two]
      omega
theorem dec_of : ∀ (c : Cd) (y n : Nat), ∀ p ∈ c.sides, ∀ j, j < (if p.2 = true then y else n) → num p.1 (c.wl y n) + j < c.tot y n ∧ c.dec y n (num p.1 (c.wl y n) + j) = (p.1, p.2, j)
  | .leaf s a b, y, n, p, h, j, hj => by
    have h : p ∈ [([0], false), ([1], true)] := h
    simp at h
    rcases h with rfl | rfl
    · simp [num, Cd.wl, Cd.tot, Cd.dec] at hj ⊢
      omega
    · simp [num, Cd.wl, Cd.tot, Cd.dec] at hj ⊢
      omega
  | .nt c, y, n, p, h, j, hj => by
    obtain ⟨q, hq, rfl⟩ := List.mem_map.mp h
    have := dec_of c n y q hq j (by cases e : q.2 <;> simp [e] at hj ⊢ <;> exact hj)
    refine ⟨this.1, ?_⟩
    show ((c.dec n y (num q.1 (c.wl n y) + j)).1, !(c.dec n y (num q.1 (c.wl n y) + j)).2.1, (c.dec n y (num q.1 (c.wl n y) + j)).2.2) = (q.1, !q.2, j)
    rw [this.2]
  | .jn w c d, y, n, p, h, j, hj => by
    obtain ⟨a, ha, ⟨e, b, hb, rfl⟩ | ⟨e, rfl⟩⟩ := mem_jn h
    · obtain ⟨g1, g2⟩ := dec_of d y n b hb j hj
      obtain ⟨f1, f2⟩ := dec_of c (if isAnd w then d.tot y n else y) (if isAnd w then n else d.tot y n) a ha (num b.1 (d.wl y n) + j) (by rw [beh e]; exact g1)
      have hl := sides_len c a ha
      rw [Cd.wl, Cd.tot, num_app (by rw [hl, wl_len]), Nat.add_assoc]
      refine ⟨f1, ?_⟩
      rw [Cd.dec, f2]
      simp only [if_pos e]
      rw [g2]
    · obtain ⟨f1, f2⟩ := dec_of c (if isAnd w then d.tot y n else y) (if isAnd w then n else d.tot y n) a ha j (by rw [beh' e]; exact hj)
      have hl := sides_len c a ha
      rw [Cd.wl, Cd.tot, num_app (by rw [hl, wl_len]), num_two, Nat.add_zero]
      refine ⟨f1, ?_⟩
      rw [Cd.dec, f2]
      simp only [if_neg e]
/-! ### as many sides as ways -/
def wsum (y n : Nat) : List (List Nat × Bool) → Nat
  | [] => 0
  | p :: ps => (if p.2 = true then y else n) + wsum y n ps
theorem wsum_app (y n : Nat) : ∀ a b, wsum y n (a ++ b) = wsum y n a + wsum y n b
  | [], b => by simp [wsum]
  | p :: a, b => by
    simp only [List.cons_append, wsum, wsum_app y n a b]
    omega
theorem wsum_map (y n : Nat) (f : List Nat → List Nat) : ∀ a, wsum y n (a.map fun q => (f q.1, q.2)) = wsum y n a
  | [] => rfl
  | p :: a => by simp only [List.map_cons, wsum, wsum_map y n f a]
theorem wsum_not (y n : Nat) : ∀ a : List (List Nat × Bool), wsum y n (a.map fun q => (q.1, !q.2)) = wsum n y a
  | [] => rfl
  | p :: a => by
    simp only [List.map_cons, wsum, wsum_not y n a]
    cases p.2 <;> simp
theorem wsum_tot : ∀ (c : Cd) (y n : Nat), wsum y n c.sides = c.tot y n
  | .leaf .., y, n => by simp [Cd.sides, wsum, Cd.tot]
  | .nt c, y, n => by
    rw [Cd.sides, wsum_not, wsum_tot c, Cd.tot]
  | .jn w c d, y, n => by
    rw [Cd.tot, ← wsum_tot c, Cd.sides]
    have hd := wsum_tot d y n
    generalize c.sides = l
    induction l with
    | nil => rfl
    | cons p l ih =>
      rw [List.flatMap_cons, wsum_app, ih, wsum]
      congr 1
      by_cases e : p.2 = isAnd w
      · rw [if_pos e, wsum_map y n (fun r => p.1 ++ r), hd, beh e]
      · rw [if_neg e, beh' e]
        simp [wsum]
theorem wsum_one : ∀ l, wsum 1 1 l = l.length
  | [] => rfl
  | p :: l => by
    rw [wsum, wsum_one l, List.length_cons]
    split <;> omega
theorem sides_tot (c : Cd) : c.sides.length = c.tot 1 1 := by rw [← wsum_one, wsum_tot]
theorem nd_perm {α : Type} [DecidableEq α] : ∀ {b a : List α}, b.Nodup → (∀ x ∈ b, x ∈ a) → a.length ≤ b.length → b.Perm a
  | [], a, _, _, h => by
    have : a = [] := List.eq_nil_of_length_eq_zero (by simpa using h)
    rw [this]
  | x :: b, a, hn, hs, hl => by
    have hx := hs x List.mem_cons_self
    refine List.Perm.trans ?_ (List.perm_cons_erase hx).symm
    refine List.Perm.cons x (nd_perm (List.nodup_cons.mp hn).2 (fun z hz => ?_) ?_)
    · have hne : z ≠ x := fun e => (List.nodup_cons.mp hn).1 (e ▸ hz)
      exact (List.mem_erase_of_ne hne).mpr (hs z (List.mem_cons_of_mem _ hz))
    · rw [List.length_erase_of_mem hx]
      rw [List.length_cons] at hl
      omega
/-- the through of a number -/
def Cd.row (c : Cd) (k : Nat) : List Nat × Bool := ((c.dec 1 1 k).1, (c.dec 1 1 k).2.1)
theorem row_mem (c : Cd) {k : Nat} (h : k < c.tot 1 1) : c.row k ∈ c.sides := (dec_ok c 1 1 k h).1
theorem row_num (c : Cd) {k : Nat} (h : k < c.tot 1 1) : num (c.row k).1 (c.wl 1 1) = k := by
  obtain ⟨_, h2, h3⟩ := dec_ok c 1 1 k h
  have h3 : (c.dec 1 1 k).2.2 < 1 := by simpa using h3
  show num (c.dec 1 1 k).1 (c.wl 1 1) = k
  omega
theorem num_row (c : Cd) {p : List Nat × Bool} (h : p ∈ c.sides) : num p.1 (c.wl 1 1) < c.tot 1 1 ∧ c.row (num p.1 (c.wl 1 1)) = p := by
  obtain ⟨h1, h2⟩ := dec_of c 1 1 p h 0 (by simp)
  rw [Nat.add_zero] at h1 h2
  refine ⟨h1, ?_⟩
  unfold Cd.row
  rw [h2]
theorem rows_nodup (c : Cd) : ((List.range (c.tot 1 1)).map c.row).Nodup := by
  rw [List.Nodup, List.pairwise_map]
  refine List.Pairwise.imp_of_mem (fun {a b} ha hb h e => ?_) List.nodup_range
  have h1 := row_num c (List.mem_range.mp ha)
  have h2 := row_num c (List.mem_range.mp hb)
  rw [e] at h1
  exact h (h1.symm.trans h2)
theorem rows_perm (c : Cd) : ((List.range (c.tot 1 1)).map c.row).Perm c.sides :=
  nd_perm (rows_nodup c) (fun x hx => by
    obtain ⟨k, hk, rfl⟩ := List.mem_map.mp hx
    exact row_mem c (List.mem_range.mp hk)) (by rw [List.length_map, List.length_range, sides_tot]; exact Nat.le_refl _)
theorem sides_nodup (c : Cd) : (c.sides.map (·.1)).Nodup := by
  have h : (((List.range (c.tot 1 1)).map c.row).map (·.1)).Nodup := by
    rw [List.Nodup, List.pairwise_map, List.pairwise_map]
    refine List.Pairwise.imp_of_mem (fun {a b} ha hb h e => ?_) List.nodup_range
    have h1 := row_num c (List.mem_range.mp ha)
    have h2 := row_num c (List.mem_range.mp hb)
    rw [e] at h1
    exact h (h1.symm.trans h2)
  exact ((rows_perm c).map (·.1)).nodup_iff.mp h
end Ev


namespace Ev
open PySem PySem.Spec L2
/-! ### behind a 0 of a part there are as many throughs as its worth -/
def exts (l : List (List Nat × Bool)) (Y N : List (List Nat)) : List (List Nat) := l.flatMap fun p => (if p.2 = true then Y else N).map (p.1 ++ ·)
def Cd.ext (c : Cd) (Y N : List (List Nat)) : List (List Nat) := exts c.sides Y N
theorem exts_app (a b : List (List Nat × Bool)) (Y N : List (List Nat)) : exts (a ++ b) Y N = exts a Y N ++ exts b Y N := List.flatMap_append
theorem exts_len (Y N : List (List Nat)) : ∀ l, (exts l Y N).length = wsum Y.length N.length l
  | [] => rfl
  | p :: l => by
    show ((if p.2 = true then Y else N).map (p.1 ++ ·) ++ exts l Y N).length = _
    rw [List.length_append, exts_len Y N l, List.length_map, wsum]
    split <;> rfl
theorem ext_len (c : Cd) (Y N : List (List Nat)) : (c.ext Y N).length = c.tot Y.length N.length := by rw [Cd.ext, exts_len, wsum_tot]
theorem exts_map (f : List Nat) (Y N : List (List Nat)) : ∀ l : List (List Nat × Bool), exts (l.map fun q => (f ++ q.1, q.2)) Y N = (exts l Y N).map (f ++ ·)
  | [] => rfl
  | p :: l => by
    show (if p.2 = true then Y else N).map ((f ++ p.1) ++ ·) ++ exts (l.map fun q => (f ++ q.1, q.2)) Y N = ((if p.2 = true then Y else N).map (p.1 ++ ·) ++ exts l Y N).map (f ++ ·)
    rw [exts_map f Y N l, List.map_append, List.map_map]
    congr 1
    exact List.map_congr_left fun z _ => List.append_assoc _ _ _
def pads (k : Nat) (l : List (List Nat)) : List (List Nat) := l.map (List.replicate k 2 ++ ·)
theorem ext_jn (w : Str) (c d : Cd) (Y N : List (List Nat)) : (Cd.jn w c d).ext Y N = c.ext (if isAnd w = true then d.ext Y N else pads d.parts Y) (if isAnd w = true then pads d.parts N else d.ext Y N) := by
  unfold Cd.ext
  rw [Cd.sides]
  generalize c.sides = l
  induction l with
  | nil => rfl
  | cons p l ih =>
    rw [List.flatMap_cons, exts_app, ih]
    show _ = List.map (p.1 ++ ·) (if p.2 = true then _ else _) ++ exts l _ _
    congr 1
    by_cases e : p.2 = isAnd w
    · rw [if_pos e, exts_map]
      cases h : isAnd w <;> simp [e, h]
    · rw [if_neg e]
      show (if p.2 = true then Y else N).map ((p.1 ++ List.replicate d.parts 2) ++ ·) ++ [] = _
      cases h : isAnd w <;> cases h2 : p.2 <;> simp_all [pads]
theorem mem_exts {l : List (List Nat × Bool)} {Y N : List (List Nat)} {x : List Nat} (h : x ∈ exts l Y N) : ∃ a ∈ l, ∃ u ∈ (if a.2 = true then Y else N), x = a.1 ++ u := by
  obtain ⟨a, ha, h⟩ := List.mem_flatMap.mp h
  obtain ⟨u, hu, rfl⟩ := List.mem_map.mp h
  exact ⟨a, ha, u, hu, rfl⟩
/-- only one of the sides has such rows -/
theorem count_one {P : List Nat → Bool} {Y N : List (List Nat)} {a : List Nat × Bool} : ∀ {l : List (List Nat × Bool)}, (l.map (·.1)).Nodup → a ∈ l → (∀ p ∈ l, p.1 ≠ a.1 → ∀ u ∈ (if p.2 = true then Y else N), P (p.1 ++ u) = false) →
    (exts l Y N).countP P = ((if a.2 = true then Y else N).map (a.1 ++ ·)).countP P
  | p :: l, hn, ha, h => by
    have hn' := List.nodup_cons.mp hn
    show ((if p.2 = true then Y else N).map (p.1 ++ ·) ++ exts l Y N).countP P = _
    rw [List.countP_append]
    rcases List.mem_cons.mp ha with rfl | ha
    · have z : (exts l Y N).countP P = 0 := List.countP_eq_zero.mpr fun x hx => by
        obtain ⟨q, hq, u, hu, rfl⟩ := mem_exts hx
        rw [h q (List.mem_cons_of_mem _ hq) (fun e => hn'.1 (List.mem_map.mpr ⟨q, hq, e⟩)) u hu]
        decide
      rw [z, Nat.add_zero]
    · have ne : p.1 ≠ a.1 := fun e => hn'.1 (List.mem_map.mpr ⟨a, ha, e.symm⟩)
      have z : ((if p.2 = true then Y else N).map (p.1 ++ ·)).countP P = 0 := List.countP_eq_zero.mpr fun x hx => by
        obtain ⟨u, hu, rfl⟩ := List.mem_map.mp hx
        rw [h p List.mem_cons_self ne u hu]
        decide
      rw [z, Nat.zero_add]
      exact count_one hn'.2 ha fun q hq => h q (List.mem_cons_of_mem _ hq)
theorem gD_app {α : Type} {a b : List α} {i : Nat} {d : α} (h : i < a.length) : (a ++ b).getD i d = a.getD i d := by
  rw [List.getD_eq_getElem?_getD, List.getD_eq_getElem?_getD, List.getElem?_append_left h]
theorem gD_app2 {α : Type} {a b : List α} {i : Nat} {d : α} (h : a.length ≤ i) : (a ++ b).getD i d = b.getD (i - a.length) d := by
  rw [List.getD_eq_getElem?_getD, List.getD_eq_getElem?_getD, List.getElem?_append_right h]
theorem pads_len (k : Nat) (l : List (List Nat)) : (pads k l).length = l.length := by simp [pads]
theorem cnt : ∀ (c : Cd) (Y N : List (List Nat)) (x : List Nat) (i : Nat), x ∈ c.ext Y N → i < c.parts → x.getD i 2 < 2 →
    (c.ext Y N).countP (fun z => z.take (i + 1) == x.take i ++ [0]) = (c.wl Y.length N.length).getD i 0
  | .leaf s a b, Y, N, x, i, hx, hi, h2 => by
    have hi : i = 0 := by simp [Cd.parts] at hi; exact hi
    subst hi
    have e : (Cd.leaf s a b).ext Y N = N.map ([0] ++ ·) ++ Y.map ([1] ++ ·) := by
      simp [Cd.ext, exts, Cd.sides]
    rw [e, List.countP_append, List.countP_map, List.countP_map]
    simp [Cd.wl, Function.comp_def]
  | .nt c, Y, N, x, i, hx, hi, h2 => by
    have e : ∀ l : List (List Nat × Bool), exts (l.map fun p => (p.1, !p.2)) Y N = exts l N Y := fun l => by
      induction l with
      | nil => rfl
      | cons p l ih =>
        show (if (!p.2) = true then Y else N).map (p.1 ++ ·) ++ exts (l.map fun p => (p.1, !p.2)) Y N = (if p.2 = true then N else Y).map (p.1 ++ ·) ++ exts l N Y
        rw [ih]
        cases p.2 <;> simp
    have e2 : (Cd.nt c).ext Y N = c.ext N Y := e c.sides
    rw [e2] at hx ⊢
    exact cnt c N Y x i hx hi h2
  | .jn w c d, Y, N, x, i, hx, hi, h2 => by
    rw [ext_jn] at hx ⊢
    have hly : (if isAnd w = true then d.ext Y N else pads d.parts Y).length = (if isAnd w = true then d.tot Y.length N.length else Y.length) := by
      split
      · exact ext_len d Y N
      · exact pads_len _ _
    have hln : (if isAnd w = true then pads d.parts N else d.ext Y N).length = (if isAnd w = true then N.length else d.tot Y.length N.length) := by
      split
      · exact pads_len _ _
      · exact ext_len d Y N
    by_cases hc : i < c.parts
    · rw [cnt c _ _ x i hx hc h2, hly, hln, Cd.wl, gD_app (by rw [wl_len]; exact hc)]
    · obtain ⟨j, rfl⟩ : ∃ j, i = c.parts + j := ⟨i - c.parts, by omega⟩
      have hj : j < d.parts := by simp [Cd.parts] at hi; omega
      obtain ⟨a, ha, u, hu, rfl⟩ := mem_exts hx
      have hla := sides_len c a ha
      have hxu : (a.1 ++ u).getD (c.parts + j) 2 = u.getD j 2 := by
        rw [gD_app2 (by omega), hla]
        congr 1
        omega
      rw [hxu] at h2
      have htk : (a.1 ++ u).take (c.parts + j) = a.1 ++ u.take j := by rw [← hla, List.take_length_add_append]
      have tk : ∀ p ∈ c.sides, ∀ v : List Nat, (p.1 ++ v).take (c.parts + j + 1) = p.1 ++ v.take (j + 1) := fun p hp v => by
        rw [← sides_len c p hp, Nat.add_assoc, List.take_length_add_append]
      have hd : u ∈ d.ext Y N ∧ (if a.2 = true then (if isAnd w = true then d.ext Y N else pads d.parts Y) else (if isAnd w = true then pads d.parts N else d.ext Y N)) = d.ext Y N := by
        have no : ∀ v ∈ pads d.parts Y ++ pads d.parts N, ¬ v.getD j 2 < 2 := fun v hv => by
          have hv : ∃ z, v = List.replicate d.parts 2 ++ z := by
            rcases List.mem_append.mp hv with hv | hv
            · obtain ⟨z, _, rfl⟩ := List.mem_map.mp hv
              exact ⟨z, rfl⟩
            · obtain ⟨z, _, rfl⟩ := List.mem_map.mp hv
              exact ⟨z, rfl⟩
          obtain ⟨z, rfl⟩ := hv
          rw [gD_app (by simpa using hj)]
          simp [hj]
        cases h3 : isAnd w <;> cases h4 : a.2 <;> simp only [h3, h4, if_true, Bool.false_eq_true, if_false] at hu ⊢
        · exact ⟨hu, by trivial⟩
        · exact absurd h2 (no u (List.mem_append_left _ hu))
        · exact absurd h2 (no u (List.mem_append_right _ hu))
        · exact ⟨hu, by trivial⟩
      rw [htk]
      unfold Cd.ext
      rw [count_one (a := a) (sides_nodup c) ha fun p hp ne v hv => ?_]
      · show List.countP _ (List.map _ (if a.2 = true then (if isAnd w = true then d.ext Y N else pads d.parts Y) else (if isAnd w = true then pads d.parts N else d.ext Y N))) = _
        rw [hd.2, List.countP_map]
        have e : ((fun z : List Nat => z.take (c.parts + j + 1) == a.1 ++ u.take j ++ [0]) ∘ fun x => a.1 ++ x) = fun z => z.take (j + 1) == u.take j ++ [0] := by
          funext z
          show ((a.1 ++ z).take (c.parts + j + 1) == a.1 ++ u.take j ++ [0]) = _
          rw [tk a ha z, List.append_assoc]
          rw [Bool.eq_iff_iff]
          simp
        rw [e, cnt d Y N u j hd.1 hj h2, Cd.wl, gD_app2 (by rw [wl_len]; omega), wl_len]
        congr 1
        omega
      · rw [tk p hp v, List.append_assoc]
        have : ¬ (p.1 ++ v.take (j + 1) = a.1 ++ (u.take j ++ [0])) := fun e => ne (List.append_inj_left e (by rw [sides_len c p hp, hla]))
        simpa using this
end Ev


namespace Ev
open PySem PySem.Spec L2
/-! ### the condition laid out -/
def Cd.laid : Cd → Int → Int → Int → List (Int × Int)
  | .leaf .., _, y, n => [(n, y)]
  | .nt c, p, y, n => c.laid p n y
  | .jn w c d, p, y, n => (if isAnd w then c.laid p (p + c.parts) n else c.laid p y (p + c.parts)) ++ d.laid (p + c.parts) y n
theorem laid_len : ∀ (c : Cd) (p y n : Int), (c.laid p y n).length = c.parts
  | .leaf .., _, _, _ => rfl
  | .nt c, p, y, n => laid_len c p n y
  | .jn w c d, p, y, n => by
    rw [Cd.laid, List.length_append, laid_len d]
    split <;> rw [laid_len c] <;> rfl
/-- the ways behind a place, l the ways from place p on -/
def look (p : Int) (l : List Nat) (t : Int) : Nat := if t < 0 then 1 else l.getD (t - p).toNat 0
/-- the ways from place p on -/
def ways : Int → List (Int × Int) → List Nat
  | _, [] => []
  | p, k :: ks => (look (p + 1) (ways (p + 1) ks) k.1 + look (p + 1) (ways (p + 1) ks) k.2) :: ways (p + 1) ks
/-- a place behind, or an end -/
def Beh (p t : Int) : Prop := t < 0 ∨ p ≤ t
theorem look_app {p t : Int} {a b : List Nat} (h : Beh (p + a.length) t) : look p (a ++ b) t = look (p + a.length) b t := by
  unfold look
  rcases h with h | h
  · rw [if_pos h, if_pos h]
  · by_cases h0 : t < 0
    · rw [if_pos h0, if_pos h0]
    · rw [if_neg h0, if_neg h0, gD_app2 (by omega)]
      congr 1
      omega
/-- the ways from each part on -/
def Cd.wws : Cd → Nat → Nat → List Nat
  | .leaf .., y, n => [n + y]
  | .nt c, y, n => c.wws n y
  | .jn w c d, y, n => c.wws (if isAnd w then d.tot y n else y) (if isAnd w then n else d.tot y n) ++ d.wws y n
theorem wws_len : ∀ (c : Cd) (y n : Nat), (c.wws y n).length = c.parts
  | .leaf .., _, _ => rfl
  | .nt c, y, n => wws_len c n y
  | .jn w c d, y, n => by
    rw [Cd.wws, List.length_append, wws_len c, wws_len d]
    rfl
theorem parts_pos' : ∀ c : Cd, 1 ≤ c.parts
  | .leaf .. => Nat.le_refl _
  | .nt c => parts_pos' c
  | .jn _ c d => Nat.le_trans (parts_pos' c) (Nat.le_add_right _ _)
theorem wws_head : ∀ (c : Cd) (y n : Nat) (r : List Nat), (c.wws y n ++ r).getD 0 0 = c.tot y n
  | .leaf .., y, n, r => rfl
  | .nt c, y, n, r => wws_head c n y r
  | .jn w c d, y, n, r => by
    rw [Cd.wws, List.append_assoc, wws_head c, Cd.tot]
theorem ways_laid : ∀ (c : Cd) (p y n : Int) (R : List (Int × Int)), 0 ≤ p → Beh (p + c.parts) y → Beh (p + c.parts) n →
    ways p (c.laid p y n ++ R) = c.wws (look (p + c.parts) (ways (p + c.parts) R) y) (look (p + c.parts) (ways (p + c.parts) R) n) ++ ways (p + c.parts) R
  | .leaf .., p, y, n, R, hp, hy, hn => rfl
  | .nt c, p, y, n, R, hp, hy, hn => ways_laid c p n y R hp hn hy
  | .jn w c d, p, y, n, R, hp, hy, hn => by
    have e : p + ((Cd.jn w c d).parts : Int) = p + (c.parts : Int) + (d.parts : Int) := by
      simp only [Cd.parts]
      push_cast
      omega
    rw [e] at hy hn ⊢
    have hd := ways_laid d (p + c.parts) y n R (by omega) hy hn
    have pd := parts_pos' d
    have bh : ∀ t : Int, Beh (p + c.parts + d.parts) t → Beh (p + c.parts) t := fun t h => by
      rcases h with h | h
      · exact .inl h
      · exact .inr (by omega)
    have lk : ∀ t : Int, Beh (p + c.parts + d.parts) t → look (p + c.parts) (ways (p + c.parts) (d.laid (p + c.parts) y n ++ R)) t = look (p + c.parts + d.parts) (ways (p + c.parts + d.parts) R) t := fun t h => by
      rw [hd, look_app (by rw [wws_len]; exact h), wws_len]
    have lb : look (p + c.parts) (ways (p + c.parts) (d.laid (p + c.parts) y n ++ R)) (p + c.parts) = d.tot (look (p + c.parts + d.parts) (ways (p + c.parts + d.parts) R) y) (look (p + c.parts + d.parts) (ways (p + c.parts + d.parts) R) n) := by
      rw [hd]
      unfold look
      rw [if_neg (by omega), Int.sub_self]
      exact wws_head d _ _ _
    have bb : Beh (p + c.parts) (p + c.parts) := .inr (Int.le_refl _)
    rw [Cd.laid, Cd.wws, List.append_assoc]
    cases h : isAnd w
    · rw [if_neg (by simp), ways_laid c p y (p + c.parts) _ hp (bh y hy) bb, lk y hy, lb, hd]
      simp [List.append_assoc]
    · rw [if_pos rfl, ways_laid c p (p + c.parts) n _ hp bb (bh n hn), lk n hn, lb, hd]
      simp [List.append_assoc]
/-- the ways behind a 0 of each part -/
def lows : Int → List (Int × Int) → List Nat
  | _, [] => []
  | p, k :: ks => look (p + 1) (ways (p + 1) ks) k.1 :: lows (p + 1) ks
theorem lows_laid : ∀ (c : Cd) (p y n : Int) (R : List (Int × Int)), 0 ≤ p → Beh (p + c.parts) y → Beh (p + c.parts) n →
    lows p (c.laid p y n ++ R) = c.wl (look (p + c.parts) (ways (p + c.parts) R) y) (look (p + c.parts) (ways (p + c.parts) R) n) ++ lows (p + c.parts) R
  | .leaf .., p, y, n, R, hp, hy, hn => rfl
  | .nt c, p, y, n, R, hp, hy, hn => lows_laid c p n y R hp hn hy
  | .jn w c d, p, y, n, R, hp, hy, hn => by
    have e : p + ((Cd.jn w c d).parts : Int) = p + (c.parts : Int) + (d.parts : Int) := by
      simp only [Cd.parts]
      push_cast
      omega
    rw [e] at hy hn ⊢
    have hd := ways_laid d (p + c.parts) y n R (by omega) hy hn
    have hl := lows_laid d (p + c.parts) y n R (by omega) hy hn
    have pd := parts_pos' d
    have bh : ∀ t : Int, Beh (p + c.parts + d.parts) t → Beh (p + c.parts) t := fun t h => by
      rcases h with h | h
      · exact .inl h
      · exact .inr (by omega)
    have lk : ∀ t : Int, Beh (p + c.parts + d.parts) t → look (p + c.parts) (ways (p + c.parts) (d.laid (p + c.parts) y n ++ R)) t = look (p + c.parts + d.parts) (ways (p + c.parts + d.parts) R) t := fun t h => by
      rw [hd, look_app (by rw [wws_len]; exact h), wws_len]
    have lb : look (p + c.parts) (ways (p + c.parts) (d.laid (p + c.parts) y n ++ R)) (p + c.parts) = d.tot (look (p + c.parts + d.parts) (ways (p + c.parts + d.parts) R) y) (look (p + c.parts + d.parts) (ways (p + c.parts + d.parts) R) n) := by
      rw [hd]
      unfold look
      rw [if_neg (by omega), Int.sub_self]
      exact wws_head d _ _ _
    have bb : Beh (p + c.parts) (p + c.parts) := .inr (Int.le_refl _)
    rw [Cd.laid, Cd.wl, List.append_assoc]
    cases h : isAnd w
    · rw [if_neg (by simp), lows_laid c p y (p + c.parts) _ hp (bh y hy) bb, lk y hy, lb, hl]
      simp [List.append_assoc]
    · rw [if_pos rfl, lows_laid c p (p + c.parts) n _ hp bb (bh n hn), lk n hn, lb, hl]
      simp [List.append_assoc]
/-- of a whole condition -/
theorem lows_all (c : Cd) : lows 0 (c.laid 0 (-1) (-2)) = c.wl 1 1 := by
  have := lows_laid c 0 (-1) (-2) [] (Int.le_refl _) (.inl (by omega)) (.inl (by omega))
  simpa [look, lows] using this
theorem ways_all (c : Cd) : ways 0 (c.laid 0 (-1) (-2)) = c.wws 1 1 := by
  have := ways_laid c 0 (-1) (-2) [] (Int.le_refl _) (.inl (by omega)) (.inl (by omega))
  simpa [look, ways] using this
end Ev


namespace Ev
open PySem PySem.Spec L2
def tfis_condition : Ss := (.cons (.set 1 (.call 5 (.cons (.var 0) (.cons (.glb 0) (.nil))))) (.cons (.ret (.and (.cmp .nis (.var 1) (.con .non)) (.cmp .le (.var 1) (.glb 1)))) (.nil)))
def fis_condition : Fn := ⟨1, 2, true, tfis_condition⟩
def tfmany_parts : Ss := (.cons (.ite (.or (.cmp .eq (.var 1) (.con (.int 0))) (.or (.nt (.isi (.var 0) .tuple)) (.or (.cmp .eq (.var 0) (.tup (.nil))) (.nt (.isi (.ix (.var 0) (.con (.int 0))) .str))))) (.cons (.ret (.con .non)) (.nil)) (.nil)) (.cons (.ite (.and (.cmp .isin (.ix (.var 0) (.con (.int 0))) (.glb 2)) (.cmp .eq (.bf false .len (.var 0)) (.con (.int 3)))) (.cons (.ret (.ife (.and (.call 8 (.cons (.ix (.var 0) (.con (.int 1))) (.nil))) (.call 8 (.cons (.ix (.var 0) (.con (.int 2))) (.nil)))) (.con (.int 1)) (.con .non))) (.nil)) (.nil)) (.cons (.ite (.or (.and (.cmp .isin (.ix (.var 0) (.con (.int 0))) (.glb 3)) (.cmp .eq (.bf false .len (.var 0)) (.con (.int 3)))) (.and (.cmp .eq (.ix (.var 0) (.con (.int 0))) (.con (.str "not"))) (.cmp .eq (.bf false .len (.var 0)) (.con (.int 2))))) (.cons (.set 3 (.comp false [2] (.call 5 (.cons (.var 2) (.cons (.bin false .sub (.var 1) (.con (.int 1))) (.nil)))) (.nm 2) (.seq (.cutA false (.var 0) (.con (.int 1)))) (.nil))) (.cons (.ret (.ife (.cmp .isin (.con .non) (.var 3)) (.con .non) (.bf false .sum (.var 3)))) (.nil))) (.nil)) (.cons (.ret (.con .non)) (.nil)))))
def fmany_parts : Fn := ⟨2, 4, true, tfmany_parts⟩
def tfcondition_unless : Ss := (.cons (.ite (.nt (.call 3 (.cons (.var 0) (.nil)))) (.cons (.rse 0) (.nil)) (.nil)) (.nil))
def fcondition_unless : Fn := ⟨1, 1, true, tfcondition_unless⟩
def tfis_word : Ss := (.cons (.ret (.and (.isi (.var 0) .str) (.and (.cmp .eq (.bf false .len (.var 0)) (.con (.int 1))) (.cmp .isin (.var 0) (.bin false .add (.glb 4) (.glb 5)))))) (.nil))
def fis_word : Fn := ⟨1, 1, true, tfis_word⟩
structure HasGl (G : Cfg) : Prop where
  deep : G.glbs[0]? = some (.int 8)
  many : G.glbs[1]? = some (.int 8)
  sg : G.glbs[2]? = some (.tup [.str "=", .str "<"])
  jn : G.glbs[3]? = some (.tup [.str "and", .str "or"])
  pl : G.glbs[4]? = some (.str "abc")
  nu : G.glbs[5]? = some (.str "0123")
structure HasCond (G : Cfg) : Prop extends HasGl G where
  iw : G.fns[8]? = some fis_word
  mp : G.fns[5]? = some fmany_parts
  ic : G.fns[3]? = some fis_condition
  cu : G.fns[6]? = some fcondition_unless
theorem is_word {G : Cfg} (hG : HasCond G) {n c : Nat} {S : Store} (hn : 1 ≤ n) (hc : c ∈ wordC) : run G n 8 [.str ⟨#[c]⟩] S = .ok (.bl true) S := by
  rw [run_at hn hG.iw rfl]
  have e : cmpV .isin (.str ⟨#[c]⟩) (.str "abc0123") S = .ok (.bl true) S := by
    show ofB (some (decide (c ∈ wordC))) S = _
    rw [decide_eq_true hc]
    rfl
  have e2 : binV false .add (.str "abc") (.str "0123") S = .ok (.str "abc0123") S := by
    rw [v_add_str (sz (by decide))]
    rfl
  have e3 : (Str.length ⟨#[c]⟩) = 1 := rfl
  simp [fis_word, tfis_word, hG.pl, hG.nu, e2, e, e3, sz, D.plain]
mutual
theorem toD_plain : ∀ c : Cd, c.toD.plain = true
  | .leaf s a b => rfl
  | .nt c => by
    show (true && (c.toD.plain && true)) = true
    rw [toD_plain c]
    rfl
  | .jn w c d => by
    show (true && (c.toD.plain && (d.toD.plain && true))) = true
    rw [toD_plain c, toD_plain d]
    rfl
end
theorem signs_ok {s : Str} (h : s ∈ signs) : PyData.strOk s = true := by
  simp [signs] at h
  rcases h with rfl | rfl <;> decide +kernel
theorem joins_ok {s : Str} (h : s ∈ joins) : PyData.strOk s = true := by
  simp [joins] at h
  rcases h with rfl | rfl <;> decide +kernel
theorem word_ok {c : Nat} (h : c ∈ wordC) : PyData.strOk ⟨#[c]⟩ = true := by
  have h : c ∈ [97, 98, 99, 48, 49, 50, 51] := h
  simp at h
  rcases h with rfl | rfl | rfl | rfl | rfl | rfl | rfl <;> decide +kernel
theorem toD_lay : ∀ c : Cd, c.ok → c.toD.pd.canLay0 = true
  | .leaf s a b, h => by
    obtain ⟨h1, ⟨x, h2, rfl⟩, y, h3, rfl⟩ := h
    show (PyData.strOk s && (PyData.strOk _ && (PyData.strOk _ && true))) = true
    rw [signs_ok h1, word_ok h2, word_ok h3]
    rfl
  | .nt c, h => by
    show (PyData.strOk "not" && (c.toD.pd.canLay0 && true)) = true
    rw [toD_lay c h, show PyData.strOk "not" = true by decide +kernel]
    rfl
  | .jn w c d, h => by
    obtain ⟨h1, h2, h3⟩ := h
    show (PyData.strOk w && (c.toD.pd.canLay0 && (d.toD.pd.canLay0 && true))) = true
    rw [joins_ok h1, toD_lay c h2, toD_lay d h3]
    rfl
theorem toD_depth : ∀ c : Cd, c.toD.pd.depth = c.deep
  | .leaf s a b => rfl
  | .nt c => by
    show max 0 (max c.toD.pd.depth 0) + 1 = _
    rw [toD_depth c]
    simp [Cd.deep]
  | .jn w c d => by
    show max 0 (max c.toD.pd.depth (max d.toD.pd.depth 0)) + 1 = _
    rw [toD_depth c, toD_depth d]
    simp [Cd.deep]
theorem toD_shaped {c : Cd} (h : c.ok) (hd : c.deep ≤ 64) : SeqAt.shaped c.toD.pd = true := by
  unfold SeqAt.shaped
  rw [toD_lay c h, toD_depth]
  simp [hd]
theorem eq_unit {c : Cd} {S : Store} (h : c.ok) (hd : c.deep ≤ 64) : cmpV .eq c.toD (.tup []) S = .ok (.bl false) S := by
  have h1 := toD_plain c
  have h2 := toD_shaped h hd
  cases c <;> exact c_eq_nil h1 h2
theorem deep_pos (c : Cd) : 1 ≤ c.deep := by cases c <;> simp [Cd.deep]
theorem parts_pos : ∀ c : Cd, 1 ≤ c.parts
  | .leaf .. => Nat.le_refl _
  | .nt c => parts_pos c
  | .jn _ c d => Nat.le_trans (parts_pos c) (Nat.le_add_right _ _)
@[simp] theorem in_non_int {i : Int} {r : List D} {S : Store} : cmpV .isin .non (.lst [.int i]) S = .ok (.bl false) S := rfl
@[simp] theorem in_non_int2 {i j : Int} {S : Store} : cmpV .isin .non (.lst [.int i, .int j]) S = .ok (.bl false) S := rfl
theorem signs_ne {s : Str} (h : s ∈ signs) : (("=" : Str) == s || (("<" : Str) == s)) = true := by
  simp [signs] at h
  rcases h with rfl | rfl <;> rfl
theorem joins_ne {s : Str} (h : s ∈ joins) : (("=" : Str) == s || (("<" : Str) == s)) = false ∧ (("and" : Str) == s || (("or" : Str) == s)) = true ∧ s ≠ ("not" : Str) := by
  simp [joins] at h
  rcases h with rfl | rfl <;> exact ⟨rfl, rfl, by decide⟩
theorem many_parts {G : Cfg} (hG : HasCond G) : ∀ (c : Cd) (n : Nat) (room : Int) (S : Store), c.ok → (c.deep : Int) ≤ room → c.deep ≤ 64 → c.deep + 1 ≤ n → run G n 5 [c.toD, .int room] S = .ok (.int c.parts) S
  | .leaf s a b, n, room, S, h, hd, hd2, hn => by
    obtain ⟨h1, ⟨x, h2, rfl⟩, y, h3, rfl⟩ := id h
    have hd' : (1 : Int) ≤ room := hd
    have e1 := eq_unit (S := S) h hd2
    have e2 := is_word (n := n - 1) (S := S) hG (by simp [Cd.deep] at hn; omega) h2
    have e3 := is_word (n := n - 1) (S := S) hG (by simp [Cd.deep] at hn; omega) h3
    have hr : ¬ room = 0 := by omega
    have hs := signs_ne h1
    rw [run_at (by simp [Cd.deep] at hn; omega) hG.mp rfl]
    simp only [Cd.toD] at e1 ⊢
    simp [fmany_parts, tfmany_parts, hG.sg, hG.jn, e1, e2, e3, hr, hs, Cd.parts, D.plain]
  | .nt c, n, room, S, h, hd, hd2, hn => by
    have e1 := eq_unit (S := S) (c := .nt c) h hd2
    simp only [Cd.deep] at hd hd2 hn
    have ih := many_parts hG c (n - 1) (room - 1) S h (by omega) (by omega) (by omega)
    have hp := deep_pos c
    have hr : ¬ room = 0 := by omega
    rw [run_at (by omega) hG.mp rfl]
    simp only [Cd.toD] at e1 ⊢
    have n1 : (("=" : Str) == ("not" : Str)) = false := rfl
    have n2 : (("<" : Str) == ("not" : Str)) = false := rfl
    have n3 : (("and" : Str) == ("not" : Str)) = false := rfl
    have n4 : (("or" : Str) == ("not" : Str)) = false := rfl
    simp [fmany_parts, tfmany_parts, hG.sg, hG.jn, e1, hr, n1, n2, n3, n4, Cd.parts, D.plain, ih, sz, intsOf]
  | .jn w c d, n, room, S, h, hd, hd2, hn => by
    have e1 := eq_unit (S := S) (c := .jn w c d) h hd2
    simp only [Cd.deep] at hd hd2 hn
    obtain ⟨h1, h2, h3⟩ := h
    have ih := many_parts hG c (n - 1) (room - 1) S h2 (by omega) (by omega) (by omega)
    have ih2 := many_parts hG d (n - 1) (room - 1) S h3 (by omega) (by omega) (by omega)
    have hp := deep_pos c
    have hr : ¬ room = 0 := by omega
    obtain ⟨n1, n2, n3⟩ := joins_ne h1
    rw [run_at (by omega) hG.mp rfl]
    simp only [Cd.toD] at e1 ⊢
    simp [fmany_parts, tfmany_parts, hG.sg, hG.jn, e1, hr, n1, n2, n3, Cd.parts, D.plain, ih, ih2, sz, intsOf]
end Ev


namespace Ev
open PySem PySem.Spec L2
def tf_law_words : Ss := (.cons (.ite (.cmp .isin (.ix (.var 0) (.con (.int 0))) (.tup (.cons (.con (.str "=")) (.cons (.con (.str "<")) (.nil))))) (.cons (.ret (.bf false .list (.var 0))) (.nil)) (.nil)) (.cons (.set 1 (.lst false (.cons (.ix (.var 0) (.con (.int 0))) (.nil)))) (.cons (.for (.nm 2) (.seq (.cutA false (.var 0) (.con (.int 1)))) (.cons (.set 1 (.bin false .add (.var 1) (.call 1004 (.cons (.var 2) (.nil))))) (.nil))) (.cons (.ret (.var 1)) (.nil)))))
def f_law_words : Fn := ⟨1, 3, true, tf_law_words⟩
def tfcondition_text : Ss := (.cons (.ex (.call 6 (.cons (.var 0) (.nil)))) (.cons (.ret (.mth1 .join (.con (.str " ")) (.call 33 (.cons (.var 0) (.nil))))) (.nil)))
def fcondition_text : Fn := ⟨1, 1, true, tfcondition_text⟩
def tfread_condition : Ss := (.cons (.ite (.nt (.isi (.var 0) .str)) (.cons (.rse 0) (.nil)) (.nil)) (.cons (.set 1 (.mth1 .split (.var 0) (.con (.str " ")))) (.cons (.asg (.tp (.cons (.nm 2) (.cons (.nm 3) (.nil)))) (.call 34 (.cons (.var 1) (.cons (.con (.int 0)) (.cons (.glb 0) (.nil)))))) (.cons (.ite (.or (.cmp .ne (.var 3) (.bf false .len (.var 1))) (.nt (.call 3 (.cons (.var 2) (.nil))))) (.cons (.rse 0) (.nil)) (.nil)) (.cons (.ret (.var 2)) (.nil))))))
def fread_condition : Fn := ⟨1, 4, true, tfread_condition⟩
def tcparts_of : Ss := (.cons (.ex (.call 6 (.cons (.var 0) (.nil)))) (.cons (.ret (.call 35 (.cons (.var 0) (.nil)))) (.nil)))
def cparts_of : Fn := ⟨1, 1, false, tcparts_of⟩
def tf_law_parts : Ss := (.cons (.ite (.cmp .isin (.ix (.var 0) (.con (.int 0))) (.tup (.cons (.con (.str "=")) (.cons (.con (.str "<")) (.nil))))) (.cons (.ret (.lst false (.cons (.var 0) (.nil)))) (.nil)) (.nil)) (.cons (.set 1 (.lst false (.nil))) (.cons (.for (.nm 2) (.seq (.cutA false (.var 0) (.con (.int 1)))) (.cons (.set 1 (.bin false .add (.var 1) (.call 31 (.cons (.var 2) (.nil))))) (.nil))) (.cons (.ret (.var 1)) (.nil)))))
def f_law_parts : Fn := ⟨1, 3, true, tf_law_parts⟩
def tfparts_of : Ss := (.cons (.ex (.call 6 (.cons (.var 0) (.nil)))) (.cons (.ret (.call 7 (.cons (.var 0) (.nil)))) (.nil)))
def fparts_of : Fn := ⟨1, 1, true, tfparts_of⟩
def tfwords_in : Ss := (.cons (.ite (.cmp .isin (.ix (.var 0) (.con (.int 0))) (.glb 2)) (.cons (.ret (.bf false .list (.var 0))) (.nil)) (.nil)) (.cons (.ret (.bin false .add (.lst false (.cons (.ix (.var 0) (.con (.int 0))) (.nil))) (.comp2 false [1, 2] (.var 2) (.nm 1) (.seq (.cutA false (.var 0) (.con (.int 1)))) (.nm 2) (.seq (.call 33 (.cons (.var 1) (.nil))))))) (.nil)))
def fwords_in : Fn := ⟨1, 3, true, tfwords_in⟩
def tfread_from : Ss := (.cons (.ite (.or (.cmp .eq (.var 2) (.con (.int 0))) (.cmp .ge (.var 1) (.bf false .len (.var 0)))) (.cons (.rse 0) (.nil)) (.nil)) (.cons (.set 3 (.ix (.var 0) (.var 1))) (.cons (.ite (.cmp .isin (.var 3) (.glb 2)) (.cons (.ret (.tup (.cons (.bf false .tuple (.cutC false (.var 0) (.var 1) (.bin false .add (.var 1) (.con (.int 3))))) (.cons (.bin false .add (.var 1) (.con (.int 3))) (.nil))))) (.nil)) (.nil)) (.cons (.ite (.and (.cmp .nin (.var 3) (.glb 3)) (.cmp .ne (.var 3) (.con (.str "not")))) (.cons (.rse 0) (.nil)) (.nil)) (.cons (.asg (.tp (.cons (.nm 4) (.cons (.nm 5) (.nil)))) (.call 34 (.cons (.var 0) (.cons (.bin false .add (.var 1) (.con (.int 1))) (.cons (.bin false .sub (.var 2) (.con (.int 1))) (.nil)))))) (.cons (.ite (.cmp .eq (.var 3) (.con (.str "not"))) (.cons (.ret (.tup (.cons (.tup (.cons (.var 3) (.cons (.var 4) (.nil)))) (.cons (.var 5) (.nil))))) (.nil)) (.nil)) (.cons (.asg (.tp (.cons (.nm 6) (.cons (.nm 7) (.nil)))) (.call 34 (.cons (.var 0) (.cons (.var 5) (.cons (.bin false .sub (.var 2) (.con (.int 1))) (.nil)))))) (.cons (.ret (.tup (.cons (.tup (.cons (.var 3) (.cons (.var 4) (.cons (.var 6) (.nil))))) (.cons (.var 7) (.nil))))) (.nil)))))))))
def fread_from : Fn := ⟨3, 8, true, tfread_from⟩
def tcparts_in : Ss := (.cons (.ite (.cmp .isin (.ix (.var 0) (.con (.int 0))) (.glb 2)) (.cons (.ret (.lst true (.cons (.var 0) (.nil)))) (.nil)) (.nil)) (.cons (.ret (.comp2 true [1, 2] (.var 2) (.nm 1) (.seq (.cutA false (.var 0) (.con (.int 1)))) (.nm 2) (.seq (.call 7 (.cons (.var 1) (.nil)))))) (.nil)))
def cparts_in : Fn := ⟨1, 3, false, tcparts_in⟩
def tfparts_in : Ss := (.cons (.ite (.cmp .isin (.ix (.var 0) (.con (.int 0))) (.glb 2)) (.cons (.ret (.lst false (.cons (.var 0) (.nil)))) (.nil)) (.nil)) (.cons (.ret (.comp2 false [1, 2] (.var 2) (.nm 1) (.seq (.cutA false (.var 0) (.con (.int 1)))) (.nm 2) (.seq (.call 7 (.cons (.var 1) (.nil)))))) (.nil)))
def fparts_in : Fn := ⟨1, 3, true, tfparts_in⟩
/-- the words of a condition, its parts -/
def Cd.words : Cd → List Str
  | .leaf s a b => [s, a, b]
  | .nt c => "not" :: c.words
  | .jn w c d => w :: (c.words ++ d.words)
def Cd.leaves : Cd → List Cd
  | .leaf s a b => [.leaf s a b]
  | .nt c => c.leaves
  | .jn _ c d => c.leaves ++ d.leaves
structure HasText (G : Cfg) : Prop extends HasCond G where
  wi : G.fns[33]? = some fwords_in
  ct : G.fns[28]? = some fcondition_text
  rf : G.fns[34]? = some fread_from
  rc : G.fns[29]? = some fread_condition
structure HasPin (G : Cfg) : Prop extends HasCond G where
  pin : G.fns[7]? = some fparts_in
structure HasParts (G : Cfg) : Prop extends HasPin G where
  pof : G.fns[32]? = some fparts_of
structure HasPartsC (G : Cfg) : Prop extends HasParts G where
  pic : G.fns[35]? = some cparts_in
  poc : G.fns[30]? = some cparts_of
theorem is_condition {G : Cfg} (hG : HasCond G) {c : Cd} {n : Nat} {S : Store} (h : c.ok) (hd : c.deep ≤ 8) (hp : c.parts ≤ 8) (hn : c.deep + 2 ≤ n) : run G n 3 [c.toD] S = .ok (.bl true) S := by
  have e := many_parts hG c (n - 1) 8 S h (by omega) (by omega) (by omega)
  rw [run_at (by omega) hG.ic rfl]
  simp [fis_condition, tfis_condition, hG.deep, hG.many, e, hp]
  omega
theorem cond_unless {G : Cfg} (hG : HasCond G) {c : Cd} {n : Nat} {S : Store} (h : c.ok) (hd : c.deep ≤ 8) (hp : c.parts ≤ 8) (hn : c.deep + 3 ≤ n) : run G n 6 [c.toD] S = .ok .non S := by
  have e := is_condition (n := n - 1) (S := S) hG h hd hp (by omega)
  rw [run_at (by omega) hG.cu rfl]
  simp [fcondition_unless, tfcondition_unless, e]
theorem words_len : ∀ c : Cd, c.words.length + 1 ≤ 4 * 2 ^ c.deep
  | .leaf s a b => by simp [Cd.words, Cd.deep]
  | .nt c => by
    have := words_len c
    simp only [Cd.words, Cd.deep, List.length_cons, Nat.pow_succ]
    omega
  | .jn w c d => by
    have h1 := words_len c
    have h2 := words_len d
    have h3 : 2 ^ c.deep ≤ 2 ^ max c.deep d.deep := Nat.pow_le_pow_right (by decide) (Nat.le_max_left _ _)
    have h4 : 2 ^ d.deep ≤ 2 ^ max c.deep d.deep := Nat.pow_le_pow_right (by decide) (Nat.le_max_right _ _)
    simp only [Cd.words, Cd.deep, List.length_cons, List.length_append, Nat.pow_succ]
    omega
theorem words_small {c : Cd} (h : c.deep ≤ 8) : c.words.length ≤ 1023 := by
  have h1 := words_len c
  have h2 : 2 ^ c.deep ≤ 2 ^ 8 := Nat.pow_le_pow_right (by decide) h
  omega
theorem leaves_len : ∀ c : Cd, c.leaves.length = c.parts
  | .leaf .. => rfl
  | .nt c => leaves_len c
  | .jn _ c d => by
    show (c.leaves ++ d.leaves).length = c.parts + d.parts
    rw [List.length_append, leaves_len c, leaves_len d]
theorem strs_plain : ∀ ws : List Str, (D.lst (ws.map .str)).plain = true
  | [] => rfl
  | w :: ws => by
    show (true && D.plains (ws.map .str)) = true
    exact strs_plain ws
theorem words_in {G : Cfg} (hG : HasText G) : ∀ (c : Cd) (n : Nat) (S : Store), c.ok → c.deep ≤ 8 → c.deep ≤ n → run G n 33 [c.toD] S = .ok (.lst (c.words.map .str)) S
  | .leaf s a b, n, S, h, hd, hn => by
    simp only [Cd.deep] at hn
    have hs := signs_ne h.1
    rw [run_at (by omega) hG.wi rfl]
    simp only [Cd.toD]
    have hf : finish true S (.rt (.lst [.str s, .str a, .str b]) S) = .ok (.lst [.str s, .str a, .str b]) S := finish_here rfl
    simp [fwords_in, tfwords_in, hG.sg, hs, Cd.words, sz, hf]
  | .nt c, n, S, h, hd, hn => by
    have hl := words_small (c := .nt c) hd
    simp only [Cd.deep] at hd hn
    have ih := words_in hG c (n - 1) S h (by omega) (by omega)
    have hl2 := words_small (c := c) (by omega)
    have hp := deep_pos c
    rw [run_at (by omega) hG.wi rfl]
    have n1 : (("=" : Str) == ("not" : Str)) = false := rfl
    have n2 : (("<" : Str) == ("not" : Str)) = false := rfl
    have hf : finish true S (.rt (.lst (.str "not" :: c.words.map .str)) S) = .ok (.lst (.str "not" :: c.words.map .str)) S := finish_here (strs_plain (c.words.cons "not"))
    have hz : c.words.length ≤ sizeLine := sz (by omega)
    have ha := v_add_lst (S := S) (xs := [.str "not"]) (ys := c.words.map .str) (sz (by simp; omega))
    simp only [Cd.toD]
    simp [fwords_in, tfwords_in, hG.sg, n1, n2, Cd.words, sz, ih, col_id, hf, hz, ha]
  | .jn w c d, n, S, h, hd, hn => by
    have hl := words_small (c := .jn w c d) hd
    simp only [Cd.deep] at hd hn
    obtain ⟨h1, h2, h3⟩ := h
    have ih := words_in hG c (n - 1) S h2 (by omega) (by omega)
    have ih2 := words_in hG d (n - 1) S h3 (by omega) (by omega)
    have hp := deep_pos c
    rw [run_at (by omega) hG.wi rfl]
    obtain ⟨n1, _, _⟩ := joins_ne h1
    simp only [Cd.words, List.length_cons, List.length_append] at hl
    have hf : finish true S (.rt (.lst (.str w :: (c.words.map .str ++ d.words.map .str))) S) = .ok (.lst (.str w :: (c.words.map .str ++ d.words.map .str))) S := finish_here (by
      have := strs_plain (w :: (c.words ++ d.words))
      simpa using this)
    have hz : c.words.length + d.words.length ≤ sizeLine := sz (by omega)
    have ha := v_add_lst (S := S) (xs := [.str w]) (ys := c.words.map .str ++ d.words.map .str) (sz (by simp; omega))
    simp only [Cd.toD]
    simp [fwords_in, tfwords_in, hG.sg, n1, Cd.words, sz, ih, ih2, col_id, hf, hz, ha]
theorem word_len {c : Cd} : ∀ {w : Str}, c.ok → w ∈ c.words → w.length ≤ 3 := by
  induction c with
  | leaf s a b =>
    intro w h hw
    obtain ⟨h1, ⟨x, _, rfl⟩, y, _, rfl⟩ := h
    simp [Cd.words] at hw
    rcases hw with rfl | rfl | rfl
    · simp [signs] at h1
      rcases h1 with rfl | rfl <;> decide +kernel
    · show 1 ≤ 3
      decide
    · show 1 ≤ 3
      decide
  | nt c ih =>
    intro w h hw
    rcases List.mem_cons.mp hw with rfl | hw
    · decide +kernel
    · exact ih h hw
  | jn v c d ih1 ih2 =>
    intro w h hw
    obtain ⟨h1, h2, h3⟩ := h
    rcases List.mem_cons.mp hw with rfl | hw
    · simp [joins] at h1
      rcases h1 with rfl | rfl <;> decide +kernel
    · rcases List.mem_append.mp hw with hw | hw
      · exact ih1 h2 hw
      · exact ih2 h3 hw
theorem sum_le3 : ∀ {ws : List Str}, (∀ w ∈ ws, w.length ≤ 3) → (ws.map (·.length)).sum ≤ 3 * ws.length
  | [], _ => Nat.le_refl _
  | w :: ws, h => by
    have h1 := h w List.mem_cons_self
    have h2 := sum_le3 fun x hx => h x (List.mem_cons_of_mem _ hx)
    simp only [List.map_cons, List.sum_cons, List.length_cons]
    omega
theorem join_ok {c : Cd} (h : c.ok) (hd : c.deep ≤ 8) : joinLen " " c.words ≤ 16777216 := by
  have h1 := sum_le3 (ws := c.words) fun w hw => word_len h hw
  have h2 := words_small hd
  have h3 : (Str.ofString " ").length = 1 := by decide +kernel
  unfold joinLen
  rw [h3]
  omega
theorem cond_text {G : Cfg} (hG : HasText G) {c : Cd} {n : Nat} {S : Store} (h : c.ok) (hd : c.deep ≤ 8) (hp : c.parts ≤ 8) (hn : c.deep + 4 ≤ n) : run G n 28 [c.toD] S = .ok (.str (Txt.join " " c.words)) S := by
  have e1 := cond_unless hG.toHasCond (n := n - 1) (S := S) h hd hp (by omega)
  have e2 := words_in hG c (n - 1) S h hd (by omega)
  rw [run_at (by omega) hG.ct rfl]
  simp [fcondition_text, tfcondition_text, e1, e2, strsOf_map, join_ok h hd]

/-! ### read again -/
theorem at_pre {pre post : List D} {x : D} : atI (pre ++ x :: post) (pre.length : Int) = some x := by
  unfold atI ixN
  rw [if_pos (by omega), if_pos (by simp; omega)]
  simp
theorem ix_pre {S : Store} {pre post : List D} {x : D} {i : Int} (h : i = (pre.length : Int)) : ixV (.lst (pre ++ x :: post)) (.int i) S = .ok x S := by
  subst h
  exact ix_lst at_pre
theorem cut3 {S : Store} {pre post : List D} {x y z : D} {i j : Int} (h : i = (pre.length : Int)) (h2 : j = i + 3) : cutV false (.lst (pre ++ x :: y :: z :: post)) (some i) (some j) S = .ok (.lst [x, y, z]) S := by
  subst h
  subst h2
  have e : cutD (pre ++ x :: y :: z :: post) (some (pre.length : Int)) (some ((pre.length : Int) + 3)) = [x, y, z] := by
    unfold cutD
    rw [show (pre.length : Int) + 3 = ((pre.length + 3 : Nat) : Int) by omega, HT.sIx_nat, HT.sIx_nat]
    have h1 : min pre.length (pre ++ x :: y :: z :: post).length = pre.length := by simp
    have h2 : min (pre.length + 3) (pre ++ x :: y :: z :: post).length = pre.length + 3 := by simp
    rw [h1, h2]
    simp
  show mkL false (cutD _ _ _) S = _
  rw [e, mkL_val (sz (by simp))]
theorem ix_W {S : Store} {W pre post : List D} {x : D} {i : Int} (hW : W = pre ++ x :: post) (h : i = (pre.length : Int)) : ixV (.lst W) (.int i) S = .ok x S := by
  subst hW
  exact ix_pre h
theorem cut_W {S : Store} {W pre post : List D} {x y z : D} {i : Int} (hW : W = pre ++ x :: y :: z :: post) (h : i = (pre.length : Int)) : cutV false (.lst W) (some i) (some (i + 3)) S = .ok (.lst [x, y, z]) S := by
  subst hW
  exact cut3 h rfl
theorem read_from {G : Cfg} (hG : HasText G) : ∀ (c : Cd) (n : Nat) (room : Int) (S : Store) (W pre post : List D) (at_ : Int), c.ok → (c.deep : Int) ≤ room → c.deep ≤ n → at_ = (pre.length : Int) → W = pre ++ (c.words.map .str ++ post) →
    run G n 34 [.lst W, .int at_, .int room] S = .ok (.tup [c.toD, .int (at_ + (c.words.length : Nat))]) S
  | .leaf s a b, n, room, S, W, pre, post, at_, h, hd, hn, ha, hW => by
    simp only [Cd.deep] at hd hn
    have hs := signs_ne h.1
    have hr : ¬ room = 0 := by omega
    have hl : ¬ ((W.length : Int) ≤ at_) := by rw [hW]; simp [Cd.words]; omega
    have hW : W = pre ++ .str s :: .str a :: .str b :: post := hW
    have e1 := ix_W (S := S) hW ha
    have e2 := cut_W (S := S) hW ha
    rw [run_at (by omega) hG.rf rfl]
    have hf : finish true S (.rt (.tup [.tup [.str s, .str a, .str b], .int (at_ + 3)]) S) = .ok (.tup [.tup [.str s, .str a, .str b], .int (at_ + 3)]) S := finish_here rfl
    simp [fread_from, tfread_from, hG.sg, hr, hl, Cd.words, sz, e1, e2, hs, Cd.toD, hf]
  | .nt c, n, room, S, W, pre, post, at_, h, hd, hn, ha, hW => by
    simp only [Cd.deep] at hd hn
    have hr : ¬ room = 0 := by omega
    have hl : ¬ ((W.length : Int) ≤ at_) := by rw [hW]; simp [Cd.words]; omega
    have hW1 : W = pre ++ .str "not" :: (c.words.map .str ++ post) := hW
    have e1 := ix_W (S := S) hW1 ha
    have ih := read_from hG c (n - 1) (room - 1) S W (pre ++ [.str "not"]) post (at_ + 1) h (by omega) (by omega) (by simp; omega) (by rw [hW1]; simp)
    rw [run_at (by omega) hG.rf rfl]
    have n1 : (("=" : Str) == ("not" : Str)) = false := rfl
    have n2 : (("<" : Str) == ("not" : Str)) = false := rfl
    have n3 : (("and" : Str) == ("not" : Str)) = false := rfl
    have n4 : (("or" : Str) == ("not" : Str)) = false := rfl
    have hf : ∀ i : Int, finish true S (.rt (.tup [.tup [.str "not", c.toD], .int i]) S) = .ok (.tup [.tup [.str "not", c.toD], .int i]) S := fun i => finish_here (by
      have := toD_plain c
      simp [D.plain, D.plains, this])
    simp [fread_from, tfread_from, hG.sg, hG.jn, hr, hl, Cd.words, sz, e1, n1, n2, n3, n4, Cd.toD, ih, hf]
    omega
  | .jn w c d, n, room, S, W, pre, post, at_, h, hd, hn, ha, hW => by
    simp only [Cd.deep] at hd hn
    obtain ⟨h1, h2, h3⟩ := h
    have hr : ¬ room = 0 := by omega
    have hl : ¬ ((W.length : Int) ≤ at_) := by rw [hW]; simp [Cd.words]; omega
    have hW1 : W = pre ++ .str w :: (c.words.map .str ++ (d.words.map .str ++ post)) := by rw [hW]; simp [Cd.words]
    have e1 := ix_W (S := S) hW1 ha
    have ih := read_from hG c (n - 1) (room - 1) S W (pre ++ [.str w]) (d.words.map .str ++ post) (at_ + 1) h2 (by omega) (by omega) (by simp; omega) (by rw [hW1]; simp)
    have ih2 := read_from hG d (n - 1) (room - 1) S W (pre ++ .str w :: c.words.map .str) post (at_ + 1 + (c.words.length : Nat)) h3 (by omega) (by omega) (by simp; omega) (by rw [hW1]; simp)
    rw [run_at (by omega) hG.rf rfl]
    obtain ⟨n1, n2, n3⟩ := joins_ne h1
    have hf : ∀ i : Int, finish true S (.rt (.tup [.tup [.str w, c.toD, d.toD], .int i]) S) = .ok (.tup [.tup [.str w, c.toD, d.toD], .int i]) S := fun i => finish_here (by
      have := toD_plain c
      have := toD_plain d
      simp [D.plain, D.plains, *])
    simp [fread_from, tfread_from, hG.sg, hG.jn, hr, hl, Cd.words, sz, e1, n1, n2, n3, Cd.toD, ih, ih2, hf]
    omega
theorem words_ne (c : Cd) : c.words ≠ [] := by cases c <;> simp [Cd.words]
theorem no_blank {c : Cd} : c.ok → ∀ w ∈ c.words, (32 : Nat) ∉ TL.tl w := by
  induction c with
  | leaf s a b =>
    intro h w hw
    obtain ⟨h1, ⟨x, h2, rfl⟩, y, h3, rfl⟩ := h
    simp [Cd.words] at hw
    have hc : ∀ x ∈ wordC, (32 : Nat) ∉ TL.tl ⟨#[x]⟩ := by decide +kernel
    rcases hw with rfl | rfl | rfl
    · simp [signs] at h1
      rcases h1 with rfl | rfl <;> decide +kernel
    · exact hc x h2
    · exact hc y h3
  | nt c ih =>
    intro h w hw
    rcases List.mem_cons.mp hw with rfl | hw
    · decide +kernel
    · exact ih h w hw
  | jn v c d ih1 ih2 =>
    intro h w hw
    obtain ⟨h1, h2, h3⟩ := h
    rcases List.mem_cons.mp hw with rfl | hw
    · simp [joins] at h1
      rcases h1 with rfl | rfl <;> decide +kernel
    · rcases List.mem_append.mp hw with hw | hw
      · exact ih1 h2 w hw
      · exact ih2 h3 w hw
theorem joinL_len (y : List Nat) : ∀ ps : List (List Nat), (TL.joinL y ps).length ≤ (ps.map (·.length)).sum + ps.length * y.length
  | [] => by simp [TL.joinL]
  | [p] => by simp [TL.joinL]
  | p :: q :: r => by
    have ih := joinL_len y (q :: r)
    show (p ++ (y ++ TL.joinL y (q :: r))).length ≤ _
    rw [List.length_append, List.length_append]
    simp only [List.map_cons, List.sum_cons, List.length_cons] at ih ⊢
    have : (r.length + 1 + 1) * y.length = (r.length + 1) * y.length + y.length := by rw [Nat.add_mul (r.length + 1) 1]; omega
    omega
theorem join_len (a : Str) (ws : List Str) : (Txt.join a ws).length ≤ joinLen a ws := by
  have h1 : (Txt.join a ws).length = (TL.tl (Txt.join a ws)).length := by
    show (Txt.join a ws).cps.size = (Txt.join a ws).cps.toList.length
    rw [Array.length_toList]
  rw [h1, TL.join_eq, TL.tl_join]
  refine Nat.le_trans (joinL_len _ _) ?_
  unfold joinLen
  rw [List.map_map, List.length_map]
  exact Nat.le_refl _
theorem read_cond {G : Cfg} (hG : HasText G) {c : Cd} {n : Nat} {S : Store} (h : c.ok) (hd : c.deep ≤ 8) (hp : c.parts ≤ 8) (hn : c.deep + 3 ≤ n) : run G n 29 [.str (Txt.join " " c.words)] S = .ok c.toD S := by
  have e1 := read_from hG c (n - 1) 8 S (c.words.map .str) [] [] 0 h (by omega) (by omega) rfl (by simp)
  have e2 := is_condition (n := n - 1) (S := S) hG.toHasCond h hd hp (by omega)
  have hs : Txt.split (Txt.join " " c.words) " " = c.words := TL.split_join (s := 32) (S := []) rfl (by decide +kernel) (words_ne c) (no_blank h)
  have hz : (Txt.join " " c.words).length + 2 ≤ sizeLine := by
    have h1 := join_len " " c.words
    have h2 := sum_le3 (ws := c.words) fun w hw => word_len h hw
    have h3 := words_small hd
    have h4 : (Str.ofString " ").length = 1 := by decide +kernel
    unfold joinLen at h1
    rw [h4] at h1
    exact sz (by omega)
  have hb : (Str.length " " == 0) = false := by decide +kernel
  rw [run_at (by omega) hG.rc rfl]
  have hf : finish true S (.rt c.toD S) = .ok c.toD S := finish_here (toD_plain c)
  simp [fread_condition, tfread_condition, hs, hz, hb, hG.deep, e1, e2, hf]
end Ev


namespace Ev
open PySem PySem.Spec L2
theorem plains_map : ∀ cs : List Cd, D.plains (cs.map Cd.toD) = true
  | [] => rfl
  | c :: cs => by
    show (c.toD.plain && D.plains (cs.map Cd.toD)) = true
    rw [toD_plain c, plains_map cs]
    rfl
theorem plain_map (cs : List Cd) : (D.lst (cs.map Cd.toD)).plain = true := plains_map cs
theorem leaves_ok : ∀ {c : Cd}, c.ok → ∀ x ∈ c.leaves, x.ok ∧ x.deep = 1 := by
  intro c
  induction c with
  | leaf s a b =>
    intro h x hx
    have : x = .leaf s a b := by simpa [Cd.leaves] using hx
    subst this
    exact ⟨h, rfl⟩
  | nt c ih => exact fun h x hx => ih h x hx
  | jn w c d ih1 ih2 =>
    intro h x hx
    rcases List.mem_append.mp hx with hx | hx
    · exact ih1 h.2.1 x hx
    · exact ih2 h.2.2 x hx
theorem parts_in {G : Cfg} (hG : HasPin G) : ∀ (c : Cd) (n : Nat) (S : Store), c.ok → c.parts ≤ 1000 → c.deep ≤ n → run G n 7 [c.toD] S = .ok (.lst (c.leaves.map Cd.toD)) S
  | .leaf s a b, n, S, h, hp, hn => by
    simp only [Cd.deep] at hn
    have hs := signs_ne h.1
    rw [run_at (by omega) hG.pin rfl]
    have hf : finish true S (.rt (.lst [.tup [.str s, .str a, .str b]]) S) = .ok (.lst [.tup [.str s, .str a, .str b]]) S := finish_here rfl
    simp [fparts_in, tfparts_in, hG.sg, hs, Cd.leaves, Cd.toD, sz, hf]
  | .nt c, n, S, h, hp, hn => by
    simp only [Cd.deep] at hn
    simp only [Cd.parts] at hp
    have ih := parts_in hG c (n - 1) S h hp (by omega)
    have hl := leaves_len c
    have hd := deep_pos c
    rw [run_at (by omega) hG.pin rfl]
    have n1 : (("=" : Str) == ("not" : Str)) = false := rfl
    have n2 : (("<" : Str) == ("not" : Str)) = false := rfl
    have hf : finish true S (.rt (.lst (c.leaves.map Cd.toD)) S) = .ok (.lst (c.leaves.map Cd.toD)) S := finish_here (plain_map _)
    have hz : c.leaves.length ≤ sizeLine := sz (by omega)
    simp only [Cd.toD]
    simp [fparts_in, tfparts_in, hG.sg, n1, n2, Cd.leaves, sz, ih, col_id, hf, hz]
  | .jn w c d, n, S, h, hp, hn => by
    simp only [Cd.deep] at hn
    simp only [Cd.parts] at hp
    obtain ⟨h1, h2, h3⟩ := h
    have ih := parts_in hG c (n - 1) S h2 (by omega) (by omega)
    have ih2 := parts_in hG d (n - 1) S h3 (by omega) (by omega)
    have hl := leaves_len c
    have hl2 := leaves_len d
    have hd := deep_pos c
    obtain ⟨n1, _, _⟩ := joins_ne h1
    rw [run_at (by omega) hG.pin rfl]
    have hf : finish true S (.rt (.lst (c.leaves.map Cd.toD ++ d.leaves.map Cd.toD)) S) = .ok (.lst (c.leaves.map Cd.toD ++ d.leaves.map Cd.toD)) S := finish_here (by
      rw [← List.map_append]
      exact plain_map _)
    have hz : c.leaves.length + d.leaves.length ≤ sizeLine := sz (by omega)
    simp only [Cd.toD]
    simp [fparts_in, tfparts_in, hG.sg, n1, Cd.leaves, sz, ih, ih2, col_id, hf, hz]
/-- the same as a cell -/
theorem parts_inC {G : Cfg} (hG : HasPartsC G) (c : Cd) (n : Nat) (S : Store) (h : c.ok) (hp : c.parts ≤ 1000) (hn : c.deep ≤ n) : run G n 35 [c.toD] S = .ok (.ref S.length) (S ++ [.lst (c.leaves.map Cd.toD)]) := by
  cases c with
  | leaf s a b =>
    simp only [Cd.deep] at hn
    have hs := signs_ne h.1
    rw [run_at (by omega) hG.pic rfl]
    simp [cparts_in, tcparts_in, hG.sg, hs, Cd.leaves, Cd.toD, sz]
  | nt c =>
    simp only [Cd.deep] at hn
    simp only [Cd.parts] at hp
    have ih := parts_in hG.toHasPin c (n - 1) S h hp (by omega)
    have hl := leaves_len c
    have hd := deep_pos c
    rw [run_at (by omega) hG.pic rfl]
    have n1 : (("=" : Str) == ("not" : Str)) = false := rfl
    have n2 : (("<" : Str) == ("not" : Str)) = false := rfl
    have hz : c.leaves.length ≤ sizeLine := sz (by omega)
    simp only [Cd.toD]
    simp [cparts_in, tcparts_in, hG.sg, n1, n2, Cd.leaves, sz, ih, col_id, hz]
  | jn w c d =>
    simp only [Cd.deep] at hn
    simp only [Cd.parts] at hp
    obtain ⟨h1, h2, h3⟩ := h
    have ih := parts_in hG.toHasPin c (n - 1) S h2 (by omega) (by omega)
    have ih2 := parts_in hG.toHasPin d (n - 1) S h3 (by omega) (by omega)
    have hl := leaves_len c
    have hl2 := leaves_len d
    have hd := deep_pos c
    obtain ⟨n1, _, _⟩ := joins_ne h1
    rw [run_at (by omega) hG.pic rfl]
    have hz : c.leaves.length + d.leaves.length ≤ sizeLine := sz (by omega)
    simp only [Cd.toD]
    simp [cparts_in, tcparts_in, hG.sg, n1, Cd.leaves, sz, ih, ih2, col_id, hz]
theorem parts_of {G : Cfg} (hG : HasParts G) {c : Cd} {n : Nat} {S : Store} (h : c.ok) (hd : c.deep ≤ 8) (hp : c.parts ≤ 8) (hn : c.deep + 4 ≤ n) : run G n 32 [c.toD] S = .ok (.lst (c.leaves.map Cd.toD)) S := by
  have e1 := cond_unless hG.toHasCond (n := n - 1) (S := S) h hd hp (by omega)
  have e2 := parts_in hG.toHasPin c (n - 1) S h (by omega) (by omega)
  rw [run_at (by omega) hG.pof rfl]
  have hf : finish true S (.rt (.lst (c.leaves.map Cd.toD)) S) = .ok (.lst (c.leaves.map Cd.toD)) S := finish_here (plain_map _)
  simp [fparts_of, tfparts_of, e1, e2, hf]
theorem parts_ofC {G : Cfg} (hG : HasPartsC G) {c : Cd} {n : Nat} {S : Store} (h : c.ok) (hd : c.deep ≤ 8) (hp : c.parts ≤ 8) (hn : c.deep + 4 ≤ n) : run G n 30 [c.toD] S = .ok (.ref S.length) (S ++ [.lst (c.leaves.map Cd.toD)]) := by
  have e1 := cond_unless hG.toHasCond (n := n - 1) (S := S) h hd hp (by omega)
  have e2 := parts_inC hG c (n - 1) S h (by omega) (by omega)
  rw [run_at (by omega) hG.poc rfl]
  simp [cparts_of, tcparts_of, e1, e2]

/-! ### shown -/
mutual
theorem eqv_self : ∀ d : PyData, d.canLay0 = true → PyData.eqv d d = true
  | .none, _ => rfl
  | .bool b, _ => by show (b == b) = true; simp
  | .int i, _ => by show (i == i) = true; simp
  | .str x, _ => by show (x == x) = true; simp
  | .list xs, h => eqvAll_self xs h
  | .tuple xs, h => eqvAll_self xs h
  | .dict _, h => by cases h
theorem eqvAll_self : ∀ ds : List PyData, PyData.canLayAll0 ds = true → PyData.eqvAll ds ds = true
  | [], _ => rfl
  | d :: ds, h => by
    have h : (d.canLay0 && PyData.canLayAll0 ds) = true := h
    rw [Bool.and_eq_true] at h
    show (PyData.eqv d d && PyData.eqvAll ds ds) = true
    rw [eqv_self d h.1, eqvAll_self ds h.2]
    rfl
end
theorem toD_weight : ∀ c : Cd, c.ok → c.toD.pd.weight + 6 ≤ 16 * 2 ^ c.deep
  | .leaf s a b, h => by
    obtain ⟨h1, ⟨x, _, rfl⟩, y, _, rfl⟩ := h
    have hs : s.cps.size = 1 := by
      simp [signs] at h1
      rcases h1 with rfl | rfl <;> rfl
    show (s.cps.size + 1 + (1 + 1 + (1 + 1 + 0))) + 6 ≤ _
    rw [hs]
    show 12 ≤ 16 * 2 ^ 1
    decide
  | .nt c, h => by
    have ih := toD_weight c h
    show (3 + 1 + (c.toD.pd.weight + 1 + 0)) + 6 ≤ 16 * 2 ^ (c.deep + 1)
    rw [Nat.pow_succ]
    omega
  | .jn w c d, h => by
    obtain ⟨h1, h2, h3⟩ := h
    have i1 := toD_weight c h2
    have i2 := toD_weight d h3
    have hw : w.cps.size ≤ 3 := by
      simp [joins] at h1
      rcases h1 with rfl | rfl <;> decide +kernel
    have h3 : 2 ^ c.deep ≤ 2 ^ max c.deep d.deep := Nat.pow_le_pow_right (by decide) (Nat.le_max_left _ _)
    have h4 : 2 ^ d.deep ≤ 2 ^ max c.deep d.deep := Nat.pow_le_pow_right (by decide) (Nat.le_max_right _ _)
    show (w.cps.size + 1 + (c.toD.pd.weight + 1 + (d.toD.pd.weight + 1 + 0))) + 6 ≤ 16 * 2 ^ (max c.deep d.deep + 1)
    rw [Nat.pow_succ]
    omega
theorem toD_show : ∀ c : Cd, c.toD.pd.showable = true ∧ c.toD.pd.hasDict = false ∧ c.toD.pd.intsShort 13 = true
  | .leaf s a b => ⟨rfl, rfl, rfl⟩
  | .nt c => by
    obtain ⟨h1, h2, h3⟩ := toD_show c
    refine ⟨?_, ?_, ?_⟩
    · show (true && (c.toD.pd.showable && true)) = true
      rw [h1]
      rfl
    · show (false || (c.toD.pd.hasDict || false)) = false
      rw [h2]
      rfl
    · show (true && (c.toD.pd.intsShort 13 && true)) = true
      rw [h3]
      rfl
  | .jn w c d => by
    obtain ⟨h1, h2, h3⟩ := toD_show c
    obtain ⟨k1, k2, k3⟩ := toD_show d
    refine ⟨?_, ?_, ?_⟩
    · show (true && (c.toD.pd.showable && (d.toD.pd.showable && true))) = true
      rw [h1, k1]
      rfl
    · show (false || (c.toD.pd.hasDict || (d.toD.pd.hasDict || false))) = false
      rw [h2, k2]
      rfl
    · show (true && (c.toD.pd.intsShort 13 && (d.toD.pd.intsShort 13 && true))) = true
      rw [h3, k3]
      rfl
theorem okRepr_by {d : D} (h : d.plain = true) (h1 : d.pd.showable = true) (h2 : d.pd.hasDict = false) (h3 : d.pd.intsShort 13 = true) (h4 : d.pd.canLay0 = true) (h5 : d.pd.depth ≤ 64) (h6 : d.pd.weight ≤ 2 ^ 20) : okRepr d = true := by
  have hs := PyProof.Rows.shown_le13 (d := d.pd) (by unfold PyData.layable0; rw [h4, decide_eq_true h5, decide_eq_true h6]; rfl) h3
  unfold okRepr
  rw [h, h1, h2, decide_eq_true h5, decide_eq_true (Nat.le_trans hs (by decide))]
  rfl
theorem repr_cond {c : Cd} (h : c.ok) (hd : c.deep ≤ 8) : okRepr c.toD = true := by
  obtain ⟨h1, h2, h3⟩ := toD_show c
  have hw := toD_weight c h
  have h4 : 2 ^ c.deep ≤ 2 ^ 8 := Nat.pow_le_pow_right (by decide) hd
  exact okRepr_by (toD_plain c) h1 h2 h3 (toD_lay c h) (by rw [toD_depth]; omega) (by omega)
theorem list_facts : ∀ {cs : List Cd}, (∀ c ∈ cs, c.ok ∧ c.deep = 1) → PyData.showableAll (D.pds (cs.map Cd.toD)) = true ∧ PyData.hasDictAll (D.pds (cs.map Cd.toD)) = false ∧ PyData.intsShortAll 13 (D.pds (cs.map Cd.toD)) = true ∧
    PyData.canLayAll0 (D.pds (cs.map Cd.toD)) = true ∧ PyData.depthAll (D.pds (cs.map Cd.toD)) ≤ 1 ∧ PyData.weightAll (D.pds (cs.map Cd.toD)) ≤ 27 * cs.length
  | [], _ => ⟨rfl, rfl, rfl, rfl, Nat.zero_le _, Nat.zero_le _⟩
  | c :: cs, h => by
    obtain ⟨i1, i2, i3, i4, i5, i6⟩ := list_facts fun x hx => h x (List.mem_cons_of_mem _ hx)
    obtain ⟨hc, hd⟩ := h c List.mem_cons_self
    obtain ⟨h1, h2, h3⟩ := toD_show c
    have h4 := toD_lay c hc
    have h5 := toD_depth c
    have h6 := toD_weight c hc
    rw [hd] at h5 h6
    refine ⟨?_, ?_, ?_, ?_, ?_, ?_⟩
    · show (c.toD.pd.showable && PyData.showableAll (D.pds (cs.map Cd.toD))) = true
      rw [h1, i1]
      rfl
    · show (c.toD.pd.hasDict || PyData.hasDictAll (D.pds (cs.map Cd.toD))) = false
      rw [h2, i2]
      rfl
    · show (c.toD.pd.intsShort 13 && PyData.intsShortAll 13 (D.pds (cs.map Cd.toD))) = true
      rw [h3, i3]
      rfl
    · show (c.toD.pd.canLay0 && PyData.canLayAll0 (D.pds (cs.map Cd.toD))) = true
      rw [h4, i4]
      rfl
    · show max c.toD.pd.depth (PyData.depthAll (D.pds (cs.map Cd.toD))) ≤ 1
      omega
    · show c.toD.pd.weight + 1 + PyData.weightAll (D.pds (cs.map Cd.toD)) ≤ 27 * (cs.length + 1)
      omega
theorem repr_leaves {c : Cd} (h : c.ok) (hp : c.parts ≤ 8) : okRepr (.lst (c.leaves.map Cd.toD)) = true := by
  obtain ⟨i1, i2, i3, i4, i5, i6⟩ := list_facts (cs := c.leaves) (leaves_ok h)
  have hl := leaves_len c
  exact okRepr_by (plain_map _) i1 i2 i3 i4 (by show PyData.depthAll _ + 1 ≤ 64; omega) (by show PyData.weightAll _ ≤ _; omega)
theorem leaves_same {c : Cd} {S : Store} (h : c.ok) : cmpV .ne (.lst (c.leaves.map Cd.toD)) (.lst (c.leaves.map Cd.toD)) S = .ok (.bl false) S := by
  obtain ⟨i1, i2, i3, i4, i5, i6⟩ := list_facts (cs := c.leaves) (leaves_ok h)
  have hs : SeqAt.shaped (.list (D.pds (c.leaves.map Cd.toD))) = true := by
    unfold SeqAt.shaped
    rw [show PyData.canLay0 (.list (D.pds (c.leaves.map Cd.toD))) = true from i4, decide_eq_true (show PyData.depth (.list (D.pds (c.leaves.map Cd.toD))) ≤ 64 by show PyData.depthAll _ + 1 ≤ 64; omega)]
    rfl
  rw [ne_lst (plains_map _) (plains_map _) hs hs, show PyData.eqv (.list (D.pds (c.leaves.map Cd.toD))) (.list (D.pds (c.leaves.map Cd.toD))) = true from eqv_self _ i4]
  rfl
end Ev


namespace Ev
open PySem PySem.Spec L2
def tflaid_out : Ss := (.cons (.set 4 (.ix (.var 0) (.con (.int 0)))) (.cons (.ite (.cmp .isin (.var 4) (.glb 2)) (.cons (.ret (.lst false (.cons (.tup (.cons (.var 3) (.cons (.var 2) (.nil)))) (.nil)))) (.nil)) (.nil)) (.cons (.ite (.cmp .eq (.var 4) (.con (.str "not"))) (.cons (.ret (.call 19 (.cons (.ix (.var 0) (.con (.int 1))) (.cons (.var 1) (.cons (.var 3) (.cons (.var 2) (.nil))))))) (.nil)) (.nil)) (.cons (.set 5 (.bin false .add (.var 1) (.bf false .len (.call 7 (.cons (.ix (.var 0) (.con (.int 1))) (.nil)))))) (.cons (.ite (.cmp .eq (.var 4) (.con (.str "and"))) (.cons (.ret (.bin false .add (.call 19 (.cons (.ix (.var 0) (.con (.int 1))) (.cons (.var 1) (.cons (.var 5) (.cons (.var 3) (.nil)))))) (.call 19 (.cons (.ix (.var 0) (.con (.int 2))) (.cons (.var 5) (.cons (.var 2) (.cons (.var 3) (.nil)))))))) (.nil)) (.nil)) (.cons (.ret (.bin false .add (.call 19 (.cons (.ix (.var 0) (.con (.int 1))) (.cons (.var 1) (.cons (.var 2) (.cons (.var 5) (.nil)))))) (.call 19 (.cons (.ix (.var 0) (.con (.int 2))) (.cons (.var 5) (.cons (.var 2) (.cons (.var 3) (.nil)))))))) (.nil)))))))
def flaid_out : Fn := ⟨4, 6, true, tflaid_out⟩
def tfknots_of : Ss := (.cons (.ret (.call 19 (.cons (.var 0) (.cons (.con (.int 0)) (.cons (.glb 6) (.cons (.glb 7) (.nil))))))) (.nil))
def fknots_of : Fn := ⟨1, 1, true, tfknots_of⟩
def tfways_behind : Ss := (.cons (.ret (.ife (.cmp .isin (.var 2) (.tup (.cons (.glb 6) (.cons (.glb 7) (.nil))))) (.con (.int 1)) (.ix (.var 1) (.var 2)))) (.nil))
def fways_behind : Fn := ⟨3, 3, true, tfways_behind⟩
def tfworths_of : Ss := (.cons (.set 1 .dct0) (.cons (.set 2 (.lst true (.nil))) (.cons (.for (.nm 3) (.rng (.cons (.bin false .sub (.bf false .len (.var 0)) (.con (.int 1))) (.cons (.neg (.con (.int 1))) (.cons (.neg (.con (.int 1))) (.nil))))) (.cons (.asg (.tp (.cons (.nm 5) (.cons (.nm 6) (.nil)))) (.comp false [4] (.call 25 (.cons (.var 0) (.cons (.var 1) (.cons (.var 4) (.nil))))) (.nm 4) (.seq (.ix (.var 0) (.var 3))) (.nil))) (.cons (.put (.var 1) (.var 3) (.bin false .add (.var 5) (.var 6))) (.cons (.ex (.mth1 .append (.var 2) (.tup (.cons (.con (.int 0)) (.cons (.var 5) (.nil)))))) (.nil))))) (.cons (.ret (.tup (.cons (.rev false (.var 2)) (.cons (.ix (.var 1) (.con (.int 0))) (.nil))))) (.nil)))))
def fworths_of : Fn := ⟨1, 7, true, tfworths_of⟩
def tfthrough_by : Ss := (.cons (.set 2 (.ix (.call 14 (.cons (.var 0) (.nil))) (.con (.int 0)))) (.cons (.set 3 (.bin true .mul (.lst false (.cons (.glb 8) (.nil))) (.bf false .len (.var 0)))) (.cons (.set 4 (.con (.int 0))) (.cons (.whl (.cmp .ge (.var 4) (.con (.int 0))) (.cons (.put (.var 3) (.var 4) (.bf false .int (.cmp .ge (.var 1) (.ix (.ix (.var 2) (.var 4)) (.con (.int 1)))))) (.cons (.aug 1 .sub (.bin false .mul (.ix (.ix (.var 2) (.var 4)) (.con (.int 1))) (.ix (.var 3) (.var 4)))) (.cons (.set 4 (.ix (.ix (.var 0) (.var 4)) (.ix (.var 3) (.var 4)))) (.nil))))) (.cons (.ret (.bf false .tuple (.var 3))) (.nil))))))
def fthrough_by : Fn := ⟨2, 5, true, tfthrough_by⟩
def tfend_of : Ss := (.cons (.ite (.or (.nt (.isi (.var 1) .tuple)) (.cmp .ne (.bf false .len (.var 1)) (.bf false .len (.var 0)))) (.cons (.ret (.con .non)) (.nil)) (.nil)) (.cons (.ite (.nt (.bf false .all (.comp false [2] (.call 16 (.cons (.var 2) (.cons (.con (.int 0)) (.cons (.glb 8) (.nil))))) (.nm 2) (.seq (.var 1)) (.nil)))) (.cons (.ret (.con .non)) (.nil)) (.nil)) (.cons (.set 3 (.bf false .len (.comp false [2] (.var 2) (.nm 2) (.seq (.var 1)) (.cons (.cmp .ne (.var 2) (.glb 8)) (.nil))))) (.cons (.set 4 (.con (.int 0))) (.cons (.whl (.cmp .ge (.var 4) (.con (.int 0))) (.cons (.ite (.cmp .eq (.ix (.var 1) (.var 4)) (.glb 8)) (.cons (.ret (.con .non)) (.nil)) (.nil)) (.cons (.aug 3 .sub (.con (.int 1))) (.cons (.set 4 (.ix (.ix (.var 0) (.var 4)) (.ix (.var 1) (.var 4)))) (.nil))))) (.cons (.ret (.ife (.cmp .eq (.var 3) (.con (.int 0))) (.var 4) (.con .non))) (.nil)))))))
def fend_of : Fn := ⟨2, 5, true, tfend_of⟩
def tfthrough_unless : Ss := (.cons (.ite (.cmp .is (.call 15 (.cons (.var 0) (.cons (.var 1) (.nil)))) (.con .non)) (.cons (.rse 2) (.nil)) (.nil)) (.nil))
def fthrough_unless : Fn := ⟨2, 2, true, tfthrough_unless⟩
def tfnumber_by : Ss := (.cons (.set 2 (.con (.int 0))) (.cons (.for (.tp (.cons (.nm 3) (.cons (.tp (.cons (.nm 4) (.cons (.nm 5) (.nil)))) (.nil)))) (.zip (.var 1) (.ix (.call 14 (.cons (.var 0) (.nil))) (.con (.int 0)))) (.cons (.ite (.cmp .eq (.var 3) (.con (.int 1))) (.cons (.aug 2 .add (.var 5)) (.nil)) (.nil)) (.nil))) (.cons (.ret (.var 2)) (.nil))))
def fnumber_by : Fn := ⟨2, 6, true, tfnumber_by⟩
def tfis_whole : Ss := (.cons (.ite (.or (.isi (.var 0) .bool) (.nt (.isi (.var 0) .int))) (.cons (.ret (.con (.bl false))) (.nil)) (.nil)) (.cons (.ret (.and (.or (.cmp .is (.var 1) (.con .non)) (.cmp .ge (.var 0) (.var 1))) (.or (.cmp .is (.var 2) (.con .non)) (.cmp .le (.var 0) (.var 2))))) (.nil)))
def fis_whole : Fn := ⟨3, 3, true, tfis_whole⟩
def tfnumber_of : Ss := (.cons (.ex (.call 6 (.cons (.var 0) (.nil)))) (.cons (.set 2 (.call 12 (.cons (.var 0) (.nil)))) (.cons (.ex (.call 17 (.cons (.var 2) (.cons (.var 1) (.nil))))) (.cons (.ret (.call 18 (.cons (.var 2) (.cons (.var 1) (.nil))))) (.nil)))))
def fnumber_of : Fn := ⟨2, 3, true, tfnumber_of⟩
def tfthrough_at : Ss := (.cons (.ex (.call 6 (.cons (.var 0) (.nil)))) (.cons (.set 2 (.call 12 (.cons (.var 0) (.nil)))) (.cons (.ite (.nt (.call 16 (.cons (.var 1) (.cons (.con (.int 0)) (.cons (.bin false .sub (.ix (.call 14 (.cons (.var 2) (.nil))) (.con (.int 1))) (.con (.int 1))) (.nil)))))) (.cons (.rse 1) (.nil)) (.nil)) (.cons (.ret (.call 13 (.cons (.var 2) (.cons (.var 1) (.nil))))) (.nil)))))
def fthrough_at : Fn := ⟨2, 3, true, tfthrough_at⟩
def natD (k : Nat) : D := .int k
def rowT (r : List Nat) : D := .tup (r.map natD)
def rowL (r : List Nat) : D := .lst (r.map natD)
def pairD (k : Int × Int) : D := .tup [.int k.1, .int k.2]
def knD (ks : List (Int × Int)) : D := .lst (ks.map pairD)
def wD (w : Nat) : D := .tup [.int 0, .int w]
theorem plains_nat : ∀ r : List Nat, D.plains (r.map natD) = true
  | [] => rfl
  | x :: r => by
    show (true && D.plains (r.map natD)) = true
    rw [plains_nat r]
    rfl
theorem rowT_plain (r : List Nat) : (rowT r).plain = true := plains_nat r
theorem rowL_plain (r : List Nat) : (rowL r).plain = true := plains_nat r
theorem plains_pair : ∀ ks : List (Int × Int), D.plains (ks.map pairD) = true
  | [] => rfl
  | x :: r => by
    show (true && D.plains (r.map pairD)) = true
    rw [plains_pair r]
    rfl
theorem knD_plain (ks : List (Int × Int)) : (knD ks).plain = true := plains_pair ks
theorem plains_w : ∀ ks : List Nat, D.plains (ks.map wD) = true
  | [] => rfl
  | x :: r => by
    show (true && D.plains (r.map wD)) = true
    rw [plains_w r]
    rfl
structure HasKn (G : Cfg) : Prop extends HasPin G where
  holds : G.glbs[6]? = some (.int (-1))
  fails : G.glbs[7]? = some (.int (-2))
  nota : G.glbs[8]? = some (.int 2)
  lo : G.fns[19]? = some flaid_out
  ko : G.fns[12]? = some fknots_of
  wb : G.fns[25]? = some fways_behind
  wo : G.fns[14]? = some fworths_of
  tb : G.fns[13]? = some fthrough_by
  eo : G.fns[15]? = some fend_of
  tu : G.fns[17]? = some fthrough_unless
  nb : G.fns[18]? = some fnumber_by
  iwh : G.fns[16]? = some fis_whole
theorem laid_out {G : Cfg} (hG : HasKn G) : ∀ (c : Cd) (n : Nat) (S : Store) (p y no : Int), c.ok → c.parts ≤ 1000 → c.deep + 1 ≤ n → run G n 19 [c.toD, .int p, .int y, .int no] S = .ok (knD (c.laid p y no)) S
  | .leaf s a b, n, S, p, y, no, h, hp, hn => by
    simp only [Cd.deep] at hn
    have hs := signs_ne h.1
    rw [run_at (by omega) hG.lo rfl]
    have hf : finish true S (.rt (.lst [.tup [.int no, .int y]]) S) = .ok (.lst [.tup [.int no, .int y]]) S := finish_here rfl
    simp [flaid_out, tflaid_out, hG.sg, hs, Cd.laid, Cd.toD, sz, hf, knD, pairD]
  | .nt c, n, S, p, y, no, h, hp, hn => by
    simp only [Cd.deep] at hn
    simp only [Cd.parts] at hp
    have ih := laid_out hG c (n - 1) S p no y h hp (by omega)
    rw [run_at (by omega) hG.lo rfl]
    have n1 : (("=" : Str) == ("not" : Str)) = false := rfl
    have n2 : (("<" : Str) == ("not" : Str)) = false := rfl
    have hf : finish true S (.rt (knD (c.laid p no y)) S) = .ok (knD (c.laid p no y)) S := finish_here (knD_plain _)
    simp only [Cd.toD]
    simp [flaid_out, tflaid_out, hG.sg, n1, n2, Cd.laid, ih, hf]
  | .jn w c d, n, S, p, y, no, h, hp, hn => by
    simp only [Cd.deep] at hn
    simp only [Cd.parts] at hp
    obtain ⟨h1, h2, h3⟩ := h
    have pin := parts_in hG.toHasPin c (n - 1) S h2 (by omega) (by omega)
    have hl := leaves_len c
    have i1 := laid_out hG c (n - 1) S p (p + c.parts) no h2 (by omega) (by omega)
    have i2 := laid_out hG c (n - 1) S p y (p + c.parts) h2 (by omega) (by omega)
    have i3 := laid_out hG d (n - 1) S (p + c.parts) y no h3 (by omega) (by omega)
    obtain ⟨n1, n2, n3⟩ := joins_ne h1
    rw [run_at (by omega) hG.lo rfl]
    have hf := fun ks => finish_here (S := S) (knD_plain ks)
    have hl1 := laid_len c p (p + c.parts) no
    have hl2 := laid_len c p y (p + c.parts)
    have hl3 := laid_len d (p + c.parts) y no
    have a1 := v_add_lst (S := S) (xs := (c.laid p (p + c.parts) no).map pairD) (ys := (d.laid (p + c.parts) y no).map pairD) (sz (by simp; omega))
    have a2 := v_add_lst (S := S) (xs := (c.laid p y (p + c.parts)).map pairD) (ys := (d.laid (p + c.parts) y no).map pairD) (sz (by simp; omega))
    have f1 := hf (c.laid p (p + c.parts) no ++ d.laid (p + c.parts) y no)
    have f2 := hf (c.laid p y (p + c.parts) ++ d.laid (p + c.parts) y no)
    simp only [knD, List.map_append] at i1 i2 i3 a1 a2 f1 f2
    simp only [Cd.toD]
    by_cases hw : w = ("and" : Str)
    · have e : isAnd w = true := decide_eq_true hw
      simp [flaid_out, tflaid_out, hG.sg, n1, n3, eq_true hw, Cd.laid, e, pin, hl, i1, i3, a1, f1, knD]
    · have e : isAnd w = false := decide_eq_false hw
      simp [flaid_out, tflaid_out, hG.sg, n1, n3, hw, Cd.laid, e, pin, hl, i2, i3, a2, f2, knD]
theorem knots_of {G : Cfg} (hG : HasKn G) {c : Cd} {n : Nat} {S : Store} (h : c.ok) (hp : c.parts ≤ 1000) (hn : c.deep + 2 ≤ n) : run G n 12 [c.toD] S = .ok (knD (c.laid 0 (-1) (-2))) S := by
  have e := laid_out hG c (n - 1) S 0 (-1) (-2) h hp (by omega)
  rw [run_at (by omega) hG.ko rfl]
  have hf := finish_here (S := S) (knD_plain (c.laid 0 (-1) (-2)))
  simp [fknots_of, tfknots_of, hG.holds, hG.fails, e, hf]

/-! ### worths -/
/-- an end, or a place behind -/
def okT (p e t : Int) : Prop := t = -1 ∨ t = -2 ∨ (p ≤ t ∧ t < e)
def Wf (e : Int) : Int → List (Int × Int) → Prop
  | _, [] => True
  | p, k :: ks => okT (p + 1) e k.1 ∧ okT (p + 1) e k.2 ∧ Wf e (p + 1) ks
theorem Wf.app {e : Int} : ∀ {p : Int} {a b : List (Int × Int)}, Wf e p a → Wf e (p + a.length) b → Wf e p (a ++ b)
  | p, [], b, _, h => by simpa using h
  | p, k :: a, b, h1, h2 => by
    refine ⟨h1.1, h1.2.1, Wf.app h1.2.2 ?_⟩
    rw [List.length_cons] at h2
    push_cast at h2
    rw [show p + 1 + (a.length : Int) = p + ((a.length : Int) + 1) by omega]
    exact h2
theorem okT.mono {p q e t : Int} (h : okT q e t) (hp : p ≤ q) : okT p e t := by
  rcases h with h | h | h
  · exact .inl h
  · exact .inr (.inl h)
  · exact .inr (.inr (by omega))
theorem laid_wf (e : Int) : ∀ (c : Cd) (p y n : Int), p + c.parts ≤ e → okT (p + c.parts) e y → okT (p + c.parts) e n → Wf e p (c.laid p y n)
  | .leaf .., p, y, n, _, hy, hn => ⟨hn, hy, trivial⟩
  | .nt c, p, y, n, he, hy, hn => laid_wf e c p n y he hn hy
  | .jn w c d, p, y, n, he, hy, hn => by
    have pd := parts_pos d
    simp only [Cd.parts] at he hy hn
    push_cast at he hy hn
    rw [Cd.laid]
    have hb : okT (p + c.parts) e (p + c.parts) := .inr (.inr (by omega))
    have hd : Wf e (p + c.parts) (d.laid (p + c.parts) y n) := laid_wf e d _ y n (by omega) (by rw [Int.add_assoc]; exact hy) (by rw [Int.add_assoc]; exact hn)
    cases h : isAnd w
    · rw [if_neg (by simp)]
      refine Wf.app (laid_wf e c p _ _ (by omega) (hy.mono (by omega)) hb) ?_
      rw [laid_len]
      exact hd
    · rw [if_pos rfl]
      refine Wf.app (laid_wf e c p _ _ (by omega) hb (hn.mono (by omega))) ?_
      rw [laid_len]
      exact hd
/-- the dict of ways -/
def dW : Int → List Nat → List (D × D)
  | _, [] => []
  | p, w :: ws => dW (p + 1) ws ++ [(.int p, .int w)]
theorem dW_len : ∀ (p : Int) (l : List Nat), (dW p l).length = l.length
  | _, [] => rfl
  | p, w :: ws => by rw [dW, List.length_append, dW_len (p + 1) ws]; rfl
theorem dW_keys : ∀ {p : Int} {l : List Nat} {x : D × D}, x ∈ dW p l → ∃ t, x.1 = .int t ∧ p ≤ t
  | p, w :: ws, x, h => by
    rw [dW] at h
    rcases List.mem_append.mp h with h | h
    · obtain ⟨t, h1, h2⟩ := dW_keys h
      exact ⟨t, h1, by omega⟩
    · have : x = (.int p, .int w) := by simpa using h
      exact ⟨p, by rw [this], Int.le_refl _⟩
theorem dW_put {p : Int} {l : List Nat} {w : Nat} : dPut (dW (p + 1) l) (.int p) (.inl p) (.int w) = dW p (w :: l) := by
  unfold dPut
  rw [if_neg]
  · rfl
  · intro h
    obtain ⟨x, hx, h⟩ := List.any_eq_true.mp h
    obtain ⟨t, h1, h2⟩ := dW_keys hx
    rw [h1] at h
    have h : (some (Sum.inl t) : Option Key) = some (.inl p) := of_decide_eq_true h
    cases h
    omega
theorem dW_at : ∀ {p : Int} {l : List Nat} {t : Int}, p ≤ t → t < p + l.length → dAt (dW p l) (.inl t) = some (.int (l.getD (t - p).toNat 0 : Nat))
  | p, [], t, h1, h2 => by simp at h2; omega
  | p, w :: ws, t, h1, h2 => by
    rw [dW]
    unfold dAt
    rw [List.find?_append]
    by_cases e : t = p
    · subst e
      have : (dW (t + 1) ws).find? (fun q => decide (kD q.1 = some (Sum.inl t))) = none := by
        rw [List.find?_eq_none]
        intro x hx h
        obtain ⟨s, h3, h4⟩ := dW_keys hx
        rw [h3] at h
        have h : (some (Sum.inl s) : Option Key) = some (.inl t) := of_decide_eq_true h
        cases h
        omega
      rw [this]
      simp [kD]
    · have ih := dW_at (p := p + 1) (l := ws) (t := t) (by omega) (by rw [List.length_cons] at h2; push_cast at h2; omega)
      unfold dAt at ih
      have e2 : (t - p).toNat = (t - (p + 1)).toNat + 1 := by omega
      cases hf : (dW (p + 1) ws).find? (fun q => decide (kD q.1 = some (Sum.inl t))) with
      | none =>
        rw [hf] at ih
        cases ih
      | some z =>
        rw [hf] at ih
        rw [e2]
        simpa using ih
theorem ways_len : ∀ (p : Int) (ks : List (Int × Int)), (ways p ks).length = ks.length
  | _, [] => rfl
  | p, k :: ks => by rw [ways, List.length_cons, List.length_cons, ways_len (p + 1) ks]
theorem lows_len : ∀ (p : Int) (ks : List (Int × Int)), (lows p ks).length = ks.length
  | _, [] => rfl
  | p, k :: ks => by rw [lows, List.length_cons, List.length_cons, lows_len (p + 1) ks]
@[simp high] theorem c_in_int2 {S : Store} {i a b : Int} : cmpV .isin (.int i) (.tup [.int a, .int b]) S = .ok (.bl (decide (a = i) || decide (b = i))) S := by
  show ofB (some (a == i || (b == i || false))) S = _
  rw [Bool.or_false]
  rfl
theorem ways_behind {G : Cfg} (hG : HasKn G) {n l : Nat} {S : Store} {kn : D} {p t : Int} {ws : List Nat} (hn : 1 ≤ n) (h : S[l]? = some (.dct (dW p ws))) (hp : 0 ≤ p) (ht : okT p (p + ws.length) t) :
    run G n 25 [kn, .ref l, .int t] S = .ok (.int (look p ws t : Nat)) S := by
  rw [run_at hn hG.wb rfl]
  rcases ht with rfl | rfl | ⟨h1, h2⟩
  · simp [fways_behind, tfways_behind, hG.holds, hG.fails, sz, look]
  · simp [fways_behind, tfways_behind, hG.holds, hG.fails, sz, look]
  · have e1 : ¬ (-1 : Int) = t := by omega
    have e2 : ¬ (-2 : Int) = t := by omega
    have e3 : ¬ t < 0 := by omega
    have hx := ix_dct (S := S) (l := l) (y := .int t) (k := .inl t) h rfl (dW_at h1 h2)
    simp [fways_behind, tfways_behind, hG.holds, hG.fails, sz, look, e1, e2, e3, hx]
end Ev


namespace Ev
open PySem PySem.Spec L2
section
variable {S0 : Store} {a b c x : Ob}
@[simp] theorem st2_0 : (S0 ++ [a, b])[S0.length]? = some a := by simp
@[simp] theorem st2_1 : (S0 ++ [a, b])[S0.length + 1]? = some b := by simp
@[simp] theorem st2_s0 : (S0 ++ [a, b]).set S0.length x = S0 ++ [x, b] := by simp
@[simp] theorem st2_s1 : (S0 ++ [a, b]).set (S0.length + 1) x = S0 ++ [a, x] := by simp
end
/-- places, from the last down -/
def downs (m : Nat) : List D := (List.range m).map fun k => .int ((m : Int) - 1 + (k : Nat) * (-1))
theorem downs_succ (m : Nat) : downs (m + 1) = .int m :: downs m := by
  unfold downs
  rw [List.range_succ_eq_map, List.map_cons, List.map_map]
  congr 1
  · congr 1
    push_cast
    omega
  · refine List.map_congr_left fun k _ => ?_
    show D.int _ = D.int _
    congr 1
    push_cast
    omega
def wbody : Ss := match tfworths_of with
  | .cons _ (.cons _ (.cons (.for _ _ b) _)) => b
  | _ => .nil
theorem wf_at {e : Int} : ∀ {p : Int} {pre suf : List (Int × Int)} {k : Int × Int}, Wf e p (pre ++ k :: suf) → okT (p + pre.length + 1) e k.1 ∧ okT (p + pre.length + 1) e k.2
  | p, [], suf, k, h => by simpa using ⟨h.1, h.2.1⟩
  | p, q :: pre, suf, k, h => by
    have := wf_at (p := p + 1) (pre := pre) h.2.2
    rw [List.length_cons]
    push_cast
    rw [show p + ((pre.length : Int) + 1) + 1 = p + 1 + (pre.length : Int) + 1 by omega]
    exact this
theorem at_K {K pre suf : List (Int × Int)} {k : Int × Int} {m : Nat} (hK : K = pre ++ k :: suf) (hm : pre.length = m) : atI (K.map pairD) (m : Int) = some (pairD k) := by
  subst hK
  subst hm
  rw [List.map_append, List.map_cons]
  have := at_pre (pre := pre.map pairD) (post := suf.map pairD) (x := pairD k)
  rwa [List.length_map] at this
theorem w_turn {G : Cfg} (hG : HasKn G) {n : Nat} (hn : 1 ≤ n) {K : List (Int × Int)} (hw : Wf K.length 0 K) (hz : K.length < 1000) {S0 : Store} (m : Nat) (pre suf : List (Int × Int)) (k : Int × Int) (o4 o5 o6 : Option D) (hK : K = pre ++ k :: suf) (hm : pre.length = m) :
    Ev.Ss.ev (run G n) G wbody [some (knD K), some (.ref S0.length), some (.ref (S0.length + 1)), some (.int m), o4, o5, o6] (S0 ++ [.dct (dW ((m + 1 : Nat) : Int) (ways ((m + 1 : Nat) : Int) suf)), .lst ((lows ((m + 1 : Nat) : Int) suf).map wD).reverse]) =
      .nx [some (knD K), some (.ref S0.length), some (.ref (S0.length + 1)), some (.int m), o4, some (.int (look ((m + 1 : Nat) : Int) (ways ((m + 1 : Nat) : Int) suf) k.1 : Nat)), some (.int (look ((m + 1 : Nat) : Int) (ways ((m + 1 : Nat) : Int) suf) k.2 : Nat))] (S0 ++ [.dct (dW m (ways m (k :: suf))), .lst ((lows m (k :: suf)).map wD).reverse]) := by
  have hlen : K.length = m + 1 + suf.length := by rw [hK]; simp; omega
  have hw' := wf_at (p := 0) (pre := pre) (suf := suf) (k := k) (by rw [← hK]; exact hw)
  have em : ((m + 1 : Nat) : Int) = (m : Int) + 1 := by omega
  rw [em]
  have ee : (0 : Int) + (pre.length : Int) + 1 = (m : Int) + 1 := by omega
  have el : (K.length : Int) = ((m : Int) + 1) + ((ways ((m : Int) + 1) suf).length : Nat) := by rw [ways_len, hlen]; push_cast; omega
  rw [ee, el] at hw'
  have hs : (S0 ++ [Ob.dct (dW ((m : Int) + 1) (ways ((m : Int) + 1) suf)), .lst ((lows ((m : Int) + 1) suf).map wD).reverse])[S0.length]? = some (.dct (dW ((m : Int) + 1) (ways ((m : Int) + 1) suf))) := by simp
  have b1 := ways_behind hG (kn := knD K) hn hs (by omega) hw'.1
  have b2 := ways_behind hG (kn := knD K) hn hs (by omega) hw'.2
  have ek := at_K hK hm
  have hz1 : (dW ((m : Int) + 1) (ways ((m : Int) + 1) suf)).length < sizeLine := by
    rw [dW_len, ways_len]
    exact Nat.lt_of_le_of_lt (show suf.length ≤ 1000 by omega) (by decide)
  have hz3 : (lows ((m : Int) + 1) suf).length < sizeLine := by
    rw [lows_len]
    exact Nat.lt_of_le_of_lt (show suf.length ≤ 1000 by omega) (by decide)
  have hp := fun d => put_dct (S := S0 ++ [Ob.dct (dW ((m : Int) + 1) (ways ((m : Int) + 1) suf)), .lst ((lows ((m : Int) + 1) suf).map wD).reverse]) (y := .int m) (k := .inl (m : Int)) (d := d) hs rfl hz1
  rw [ways, lows]
  simp only [wbody, tfworths_of]
  simp only [knD] at b1 b2 ⊢
  simp [ek, pairD, b1, b2, sz, hp, hz3, wD]
  have := dW_put (p := (m : Int)) (l := ways ((m : Int) + 1) suf) (w := look ((m : Int) + 1) (ways ((m : Int) + 1) suf) k.1 + look ((m : Int) + 1) (ways ((m : Int) + 1) suf) k.2)
  push_cast at this
  exact this
theorem w_loop {G : Cfg} (hG : HasKn G) {n : Nat} (hn : 1 ≤ n) {K : List (Int × Int)} (hw : Wf K.length 0 K) (hz : K.length < 1000) {S0 : Store} : ∀ (m : Nat) (pre suf : List (Int × Int)) (o3 o4 o5 o6 : Option D), K = pre ++ suf → pre.length = m →
    ∃ p3 p4 p5 p6, forGo (.nm 3) none (fun env S => Ev.Ss.ev (run G n) G wbody env S) (downs m) [some (knD K), some (.ref S0.length), some (.ref (S0.length + 1)), o3, o4, o5, o6] (S0 ++ [.dct (dW m (ways m suf)), .lst ((lows m suf).map wD).reverse]) =
      .nx [some (knD K), some (.ref S0.length), some (.ref (S0.length + 1)), p3, p4, p5, p6] (S0 ++ [.dct (dW 0 (ways 0 K)), .lst ((lows 0 K).map wD).reverse])
  | 0, pre, suf, o3, o4, o5, o6, hK, hm => by
    have : pre = [] := List.eq_nil_of_length_eq_zero hm
    subst this
    have hK : K = suf := hK
    subst hK
    exact ⟨o3, o4, o5, o6, rfl⟩
  | m + 1, pre, suf, o3, o4, o5, o6, hK, hm => by
    obtain ⟨pre', k, rfl⟩ : ∃ pre' k, pre = pre' ++ [k] := ⟨pre.dropLast, pre.getLast (by intro e; rw [e] at hm; cases hm), (List.dropLast_concat_getLast _).symm⟩
    have hm' : pre'.length = m := by simpa using hm
    have hK' : K = pre' ++ k :: suf := by rw [hK]; simp
    obtain ⟨q3, q4, q5, q6, ih⟩ := w_loop hG hn hw hz (S0 := S0) m pre' (k :: suf) (some (.int m)) o4 (some (.int (look ((m + 1 : Nat) : Int) (ways ((m + 1 : Nat) : Int) suf) k.1 : Nat))) (some (.int (look ((m + 1 : Nat) : Int) (ways ((m + 1 : Nat) : Int) suf) k.2 : Nat))) hK' hm'
    refine ⟨q3, q4, q5, q6, ?_⟩
    rw [downs_succ, for_step, asg_nm]
    simp only [List.set_cons_succ, List.set_cons_zero]
    rw [w_turn hG hn hw hz m pre' suf k o4 o5 o6 hK' hm']
    exact ih
theorem laid_len0 (c : Cd) : ((c.laid 0 (-1) (-2)).length : Int) = c.parts := by rw [laid_len]
/-- the row of worths, and how many ways there are -/
theorem worths_of {G : Cfg} (hG : HasKn G) {n : Nat} {S : Store} (c : Cd) (hp : c.parts < 1000) (hn : 2 ≤ n) : run G n 14 [knD (c.laid 0 (-1) (-2))] S = .ok (.tup [.lst ((c.wl 1 1).map wD), .int (c.tot 1 1 : Nat)]) S := by
  obtain ⟨K, hK⟩ : ∃ K, K = c.laid 0 (-1) (-2) := ⟨_, rfl⟩
  have hl : K.length = c.parts := by rw [hK, laid_len]
  have hw : Wf K.length 0 K := by
    rw [hl, hK]
    exact laid_wf c.parts c 0 _ _ (by omega) (.inl rfl) (.inr (.inl rfl))
  obtain ⟨p3, p4, p5, p6, e⟩ := w_loop hG (n := n - 1) (by omega) hw (by omega) (S0 := S) K.length K [] none none none none (by simp) rfl
  have hwl : lows 0 K = c.wl 1 1 := by rw [hK]; exact lows_all c
  have hww : ways 0 K = c.wws 1 1 := by rw [hK]; exact ways_all c
  rw [hwl, hww] at e
  rw [← hK]
  have hlen := wl_len c 1 1
  have hx : dAt (dW 0 (c.wws 1 1)) (.inl 0) = some (.int (c.tot 1 1 : Nat)) := by
    rw [dW_at (Int.le_refl _) (by rw [wws_len]; have := parts_pos c; omega)]
    have := wws_head c 1 1 []
    rw [List.append_nil] at this
    simp at this ⊢
    rw [this]
  have hi := ix_dct (S := S ++ [.dct (dW 0 (c.wws 1 1)), .lst ((c.wl 1 1).map wD).reverse]) (l := S.length) (y := .int 0) (by simp) rfl hx
  have hf : finish true S (.rt (.tup [.lst ((c.wl 1 1).map wD), .int (c.tot 1 1 : Nat)]) (S ++ [.dct (dW 0 (c.wws 1 1)), .lst ((c.wl 1 1).map wD).reverse])) = .ok (.tup [.lst ((c.wl 1 1).map wD), .int (c.tot 1 1 : Nat)]) S := finish_pure (by simp) (frz_plain (by simp [D.plain, D.plains, plains_w]))
  have hr : rngs [.int ((K.length : Int) - 1), .int (-1), .int (-1)] = some (downs K.length) := by
    show (if decide _ then some _ else none) = _
    rw [if_pos (decide_eq_true ⟨rfl, by omega, by omega, by decide, by decide⟩)]
    rw [show ((K.length : Int) - 1 - -1).toNat = K.length by omega]
    rfl
  have hb : fworths_of.body = .cons (.set 1 .dct0) (.cons (.set 2 (.lst true (.nil))) (.cons (.for (.nm 3) (.rng (.cons (.bin false .sub (.bf false .len (.var 0)) (.con (.int 1))) (.cons (.neg (.con (.int 1))) (.cons (.neg (.con (.int 1))) (.nil))))) wbody) (.cons (.ret (.tup (.cons (.rev false (.var 2)) (.cons (.ix (.var 1) (.con (.int 0))) (.nil))))) (.nil)))) := rfl
  rw [run_at (by omega) hG.wo rfl, hb]
  simp only [knD] at e ⊢
  rw [show (ways (K.length : Int) [] = []) from rfl, show (lows (K.length : Int) [] = []) from rfl] at e
  simp only [dW, List.map_nil, List.reverse_nil] at e
  simp [fworths_of, sz, hr, e, hi, hlen, show c.parts ≤ 1000000 by omega, hf]
end Ev


namespace Ev
open PySem PySem.Spec L2
@[simp] theorem int_bl {new : Bool} {b : Bool} {S : Store} : bfV new .int (.bl b) S = .ok (.int (if b then 1 else 0)) S := rfl
@[simp] theorem aug_add' {i j : Int} : augV .add (.int i) (.int j) = some (.int (i + j)) := rfl
@[simp] theorem aug_sub' {i j : Int} : augV .sub (.int i) (.int j) = some (.int (i - j)) := rfl
/-! ### bounds -/
theorem tot_ge : ∀ (c : Cd) (y n : Nat), y ≤ c.tot y n ∧ n ≤ c.tot y n
  | .leaf .., y, n => by simp only [Cd.tot]; omega
  | .nt c, y, n => by
    have := tot_ge c n y
    simp only [Cd.tot]
    omega
  | .jn w c d, y, n => by
    have h1 := tot_ge d y n
    simp only [Cd.tot]
    cases h : isAnd w
    · have h2 := tot_ge c y (d.tot y n)
      simp
      omega
    · have h2 := tot_ge c (d.tot y n) n
      simp
      omega
theorem wl_le : ∀ (c : Cd) (y n w : Nat), w ∈ c.wl y n → w ≤ c.tot y n
  | .leaf .., y, n, w, h => by
    have : w = n := by simpa [Cd.wl] using h
    simp only [Cd.tot]
    omega
  | .nt c, y, n, w, h => wl_le c n y w h
  | .jn v c d, y, n, w, h => by
    rw [Cd.wl] at h
    rw [Cd.tot]
    rcases List.mem_append.mp h with h | h
    · exact wl_le c _ _ w h
    · have h1 := wl_le d y n w h
      cases e : isAnd v
      · have := tot_ge c y (d.tot y n)
        simp
        omega
      · have := tot_ge c (d.tot y n) n
        simp
        omega
theorem tot_le : ∀ (c : Cd) (y n b : Nat), y ≤ b → n ≤ b → c.tot y n ≤ 2 ^ c.parts * b
  | .leaf .., y, n, b, h1, h2 => by simp only [Cd.tot, Cd.parts]; omega
  | .nt c, y, n, b, h1, h2 => tot_le c n y b h2 h1
  | .jn v c d, y, n, b, h1, h2 => by
    have hd := tot_le d y n b h1 h2
    have hp : 1 ≤ 2 ^ d.parts := Nat.one_le_two_pow
    have hb : b ≤ 2 ^ d.parts * b := Nat.le_mul_of_pos_left b hp
    rw [Cd.tot, Cd.parts, Nat.pow_add, Nat.mul_assoc]
    refine tot_le c _ _ _ ?_ ?_ <;> split <;> omega
theorem tot_small {c : Cd} (h : c.parts ≤ 8) : c.tot 1 1 ≤ 256 := by
  have h1 := tot_le c 1 1 1 (Nat.le_refl _) (Nat.le_refl _)
  have h2 : 2 ^ c.parts ≤ 2 ^ 8 := Nat.pow_le_pow_right (by decide) h
  omega
theorem tot_pos (c : Cd) : 1 ≤ c.tot 1 1 := (tot_ge c 1 1).1
theorem two_pow_parts {n : Nat} (h : n ≤ 8) : 2 ^ n ≤ 256 := by
  have h2 : 2 ^ n ≤ 2 ^ 8 := Nat.pow_le_pow_right (by decide) h
  omega

/-! ### the through of a number -/
def tbody : Ss := match tfthrough_by with
  | .cons _ (.cons _ (.cons _ (.cons (.whl _ b) _))) => b
  | _ => .nil
def ttest : E := .cmp .ge (.var 4) (.con (.int 0))
section
variable {G : Cfg} {n : Nat} {S0 : Store} {K : List (Int × Int)} {W : List Nat}
def tenv (K : List (Int × Int)) (W : List Nat) (l : Nat) (k : Nat) (a : Int) : Env := [some (knD K), some (.int k), some (.lst (W.map wD)), some (.ref l), some (.int a)]
def tW (G : Cfg) (n : Nat) (fuel : Nat) (env : Env) (S : Store) : SR := whlGo (fun env S => E.tst (run G n) G ttest env S) (fun env S => Ev.Ss.ev (run G n) G tbody env S) fuel env S
def TGo (G : Cfg) (n : Nat) (S0 : Store) (K : List (Int × Int)) (W : List Nat) (a : Int) (k : Nat) (f : List Nat) (a' : Int) (k' : Nat) (f' : List Nat) (m : Nat) : Prop :=
  ∀ fuel, tW G n (m + fuel) (tenv K W S0.length k a) (S0 ++ [.lst (f.map natD)]) = tW G n fuel (tenv K W S0.length k' a') (S0 ++ [.lst (f'.map natD)])
theorem TGo.trans {a k f a' k' f' m a'' k'' f'' m'} (h1 : TGo G n S0 K W a k f a' k' f' m) (h2 : TGo G n S0 K W a' k' f' a'' k'' f'' m') : TGo G n S0 K W a k f a'' k'' f'' (m + m') := fun fuel => by
  rw [Nat.add_assoc, h1, h2]
theorem atN {α : Type} {xs : List α} {p : Nat} {x : α} (h : xs[p]? = some x) : atI xs (p : Int) = some x := by
  have hl := (List.getElem?_eq_some_iff.mp h).1
  unfold atI ixN
  rw [if_pos (by omega), if_pos (by omega)]
  simpa using h
theorem ixN_nat {m p : Nat} (h : p < m) : ixN m (p : Int) = some p := by
  unfold ixN
  rw [if_pos (by omega), if_pos (by omega)]
  simp
theorem t_turn {p k w : Nat} {kn : Int × Int} {f : List Nat} (hK : K[p]? = some kn) (hW : W[p]? = some w) (hf : p < f.length) (hw : w < 2 ^ 100) :
    Ev.Ss.ev (run G n) G tbody (tenv K W S0.length k p) (S0 ++ [.lst (f.map natD)]) = .nx (tenv K W S0.length (if w ≤ k then k - w else k) (if w ≤ k then kn.2 else kn.1)) (S0 ++ [.lst ((f.set p (if w ≤ k then 1 else 0)).map natD)]) := by
  have e1 : atI (K.map pairD) (p : Int) = some (pairD kn) := atN (by rw [List.getElem?_map, hK]; rfl)
  have e2 : atI (W.map wD) (p : Int) = some (wD w) := atN (by rw [List.getElem?_map, hW]; rfl)
  have e3 : ∀ b : Int, atI ((f.map natD).set p (.int b)) (p : Int) = some (.int b) := fun b => atN (List.getElem?_set_self (by rw [List.length_map]; exact hf))
  have e4 : ixN f.length (p : Int) = some p := ixN_nat hf
  have m1 : ∀ b : Int, b.natAbs < 2 ^ 1 → okMul (w : Int) b = true := fun b hb => okMul_of 100 1 (by omega) hb (by omega)
  simp only [tenv]
  by_cases c : w ≤ k
  · have c' : (w : Int) ≤ (k : Int) := by omega
    have e3' := e3 1
    have ek : (k : Int) - (w : Int) = ((k - w : Nat) : Int) := by omega
    have hs : (f.map natD).set p (.int 1) = (f.set p 1).map natD := by rw [List.map_set]; rfl
    simp [tbody, tfthrough_by, knD, e1, e2, e4, wD, pairD, c, m1, e3', ek, natD]
  · have c' : ¬ (w : Int) ≤ (k : Int) := by omega
    have e3' := e3 0
    have hs : (f.map natD).set p (.int 0) = (f.set p 0).map natD := by rw [List.map_set]; rfl
    simp [tbody, tfthrough_by, knD, e1, e2, e4, wD, pairD, c, m1, e3', natD]
theorem t_step {p k w : Nat} {kn : Int × Int} {f : List Nat} (hK : K[p]? = some kn) (hW : W[p]? = some w) (hf : p < f.length) (hw : w < 2 ^ 100) :
    TGo G n S0 K W p k f (if w ≤ k then kn.2 else kn.1) (if w ≤ k then k - w else k) (f.set p (if w ≤ k then 1 else 0)) 1 := fun fuel => by
  have ge : (0 : Int) ≤ (p : Int) := by omega
  have ht : E.tst (run G n) G ttest (tenv K W S0.length k p) (S0 ++ [.lst (f.map natD)]) = .ok true (S0 ++ [.lst (f.map natD)]) := by simp [tenv, ttest, ge]
  rw [Nat.add_comm, tW, whlGo, ht]
  simp only [st_ok, if_true, t_turn hK hW hf hw]
  rfl
theorem get_mid {α : Type} {A B : List α} {x : α} {p : Nat} (h : A.length = p) : (A ++ x :: B)[p]? = some x := by
  subst h
  simp
theorem set_mid {α : Type} {A B : List α} {x y : α} {p : Nat} (h : A.length = p) : (A ++ x :: B).set p y = A ++ y :: B := by
  subst h
  simp
theorem t_block : ∀ (c : Cd) (p : Nat) (y no : Int) (Y N k : Nat) (KA KB : List (Int × Int)) (WA WB A B : List Nat) (r : List Nat) (t : Bool) (j : Nat), K = KA ++ (c.laid p y no ++ KB) → KA.length = p → W = WA ++ (c.wl Y N ++ WB) → WA.length = p → A.length = p → (∀ w ∈ W, w < 2 ^ 100) → k < c.tot Y N →
    c.dec Y N k = (r, t, j) → ∃ m, m ≤ c.parts ∧ TGo G n S0 K W p k (A ++ (List.replicate c.parts 2 ++ B)) (if t = true then y else no) j (A ++ (r ++ B)) m
  | .leaf s a b, p, y, no, Y, N, k, KA, KB, WA, WB, A, B, r, t, j, hK, hKA, hW, hWA, hA, hb, hk, hd => by
    refine ⟨1, Nat.le_refl _, ?_⟩
    have hK' : K[p]? = some (no, y) := by rw [hK]; exact get_mid hKA
    have hW' : W[p]? = some N := by rw [hW]; exact get_mid hWA
    have := t_step (G := G) (n := n) (S0 := S0) (k := k) (f := A ++ 2 :: B) hK' hW' (by simp; omega) (hb N (List.mem_of_getElem? hW'))
    rw [set_mid hA] at this
    show TGo G n S0 K W p k (A ++ 2 :: B) _ _ _ 1
    simp only [Cd.dec] at hd
    by_cases c : N ≤ k
    · rw [if_pos c] at hd
      cases hd
      simp only [if_pos c] at this
      exact this
    · rw [if_neg c] at hd
      cases hd
      simp only [if_neg c] at this
      exact this
  | .nt c, p, y, no, Y, N, k, KA, KB, WA, WB, A, B, r, t, j, hK, hKA, hW, hWA, hA, hb, hk, hd => by
    obtain ⟨r1, t1, j1, hr⟩ : ∃ r1 t1 j1, c.dec N Y k = (r1, t1, j1) := ⟨_, _, _, rfl⟩
    simp only [Cd.dec, hr] at hd
    cases hd
    obtain ⟨m, h1, h2⟩ := t_block c p no y N Y k KA KB WA WB A B r t1 j hK hKA hW hWA hA hb hk hr
    refine ⟨m, h1, ?_⟩
    cases t1 <;> exact h2
  | .jn w c d, p, y, no, Y, N, k, KA, KB, WA, WB, A, B, r, t, j, hK, hKA, hW, hWA, hA, hb, hk, hd => by
    have hK1 : K = KA ++ (c.laid p (if isAnd w then p + c.parts else y) (if isAnd w then no else p + c.parts) ++ (d.laid ((p + c.parts : Nat) : Int) y no ++ KB)) := by
      rw [hK, Cd.laid]
      push_cast
      cases h : isAnd w <;> simp
    have hW1 : W = WA ++ (c.wl (if isAnd w then d.tot Y N else Y) (if isAnd w then N else d.tot Y N) ++ (d.wl Y N ++ WB)) := by
      rw [hW, Cd.wl, List.append_assoc]
    have hf : A ++ (List.replicate (Cd.jn w c d).parts 2 ++ B) = A ++ (List.replicate c.parts 2 ++ (List.replicate d.parts 2 ++ B)) := by
      rw [Cd.parts, ← List.replicate_append_replicate, List.append_assoc]
    obtain ⟨r1, t1, j1, hr⟩ : ∃ r1 t1 j1, c.dec (if isAnd w then d.tot Y N else Y) (if isAnd w then N else d.tot Y N) k = (r1, t1, j1) := ⟨_, _, _, rfl⟩
    obtain ⟨m1, h1, g1⟩ := t_block c p _ _ _ _ k KA _ WA _ A (List.replicate d.parts 2 ++ B) r1 t1 j1 hK1 hKA hW1 hWA hA hb hk hr
    rw [hf]
    obtain ⟨d1, d2, d3⟩ := dec_ok c _ _ k hk
    rw [hr] at d1 d2 d3
    simp only [Cd.dec, hr] at hd
    simp only at d1 d2 d3
    have hl := sides_len c _ d1
    simp only at hl
    by_cases e : t1 = isAnd w
    · rw [beh e] at d3
      have eb : (if t1 = true then (if isAnd w = true then ((p : Int) + (c.parts : Int)) else y) else (if isAnd w = true then no else ((p : Int) + (c.parts : Int)))) = ((p + c.parts : Nat) : Int) := by
        push_cast
        cases h : isAnd w <;> simp_all
      rw [eb] at g1
      rw [if_pos e] at hd
      cases hd
      have hl2 := laid_len c p (if isAnd w then p + c.parts else y) (if isAnd w then no else p + c.parts)
      have hl3 := wl_len c (if isAnd w then d.tot Y N else Y) (if isAnd w then N else d.tot Y N)
      obtain ⟨m2, h2, g2⟩ := t_block d (p + c.parts) y no Y N j1 (KA ++ c.laid p (if isAnd w then p + c.parts else y) (if isAnd w then no else p + c.parts)) KB (WA ++ c.wl (if isAnd w then d.tot Y N else Y) (if isAnd w then N else d.tot Y N)) WB (A ++ r1) B _ _ _
        (by rw [List.append_assoc]; exact hK1) (by rw [List.length_append, hl2, hKA]) (by rw [List.append_assoc]; exact hW1) (by rw [List.length_append, hl3, hWA]) (by rw [List.length_append, hl, hA]) hb d3 rfl
      refine ⟨m1 + m2, by simp only [Cd.parts]; omega, ?_⟩
      have e1 : A ++ r1 ++ (List.replicate d.parts 2 ++ B) = A ++ (r1 ++ (List.replicate d.parts 2 ++ B)) := List.append_assoc _ _ _
      have e2 : ∀ z, A ++ r1 ++ (z ++ B) = A ++ ((r1 ++ z) ++ B) := fun z => by simp only [List.append_assoc]
      rw [e1, e2] at g2
      exact g1.trans g2
    · have eb : (if t1 = true then (if isAnd w = true then ((p : Int) + (c.parts : Int)) else y) else (if isAnd w = true then no else ((p : Int) + (c.parts : Int)))) = (if t1 = true then y else no) := by
        cases h : isAnd w <;> cases t1 <;> simp_all
      rw [eb] at g1
      rw [if_neg e] at hd
      cases hd
      refine ⟨m1, by simp only [Cd.parts]; omega, ?_⟩
      rw [List.append_assoc r1]
      exact g1
end
theorem flat_rep (k : Nat) (d : D) : (List.replicate k [d]).flatten = List.replicate k d := by
  induction k with
  | zero => rfl
  | succ k ih => rw [List.replicate_succ, List.flatten_cons, ih]; rfl
theorem v_rep {S : Store} {d : D} {k : Nat} (h : k ≤ 1000000) : binV true .mul (.lst [d]) (.int k) S = .ok (.ref S.length) (S ++ [.lst (List.replicate k d)]) := by
  have hd : decide (-(2 ^ 63) ≤ (k : Int) ∧ (k : Int) < 2 ^ 63 ∧ [d].length * k ≤ sizeLine) = true := decide_eq_true ⟨by omega, by omega, by simp; exact sz h⟩
  have hm : mkL true (List.replicate k d) S = .ok (.ref S.length) (S ++ [.lst (List.replicate k d)]) := mkL_new (by rw [List.length_replicate]; exact sz h)
  simp only [binV, lstOf_lst', hd, if_true, Int.toNat_natCast, flat_rep, hm]
theorem through_by {G : Cfg} (hG : HasKn G) (hL : 10 ≤ G.lim) {n : Nat} {S : Store} (c : Cd) {k : Nat} (hp : c.parts ≤ 8) (hn : 3 ≤ n) (hk : k < c.tot 1 1) : run G n 13 [knD (c.laid 0 (-1) (-2)), .int k] S = .ok (rowT (c.row k).1) S := by
  have hw := worths_of hG (n := n - 1) (S := S) c (by omega) (by omega)
  have hb : fthrough_by.body = .cons (.set 2 (.ix (.call 14 (.cons (.var 0) (.nil))) (.con (.int 0)))) (.cons (.set 3 (.bin true .mul (.lst false (.cons (.glb 8) (.nil))) (.bf false .len (.var 0)))) (.cons (.set 4 (.con (.int 0))) (.cons (.whl ttest tbody) (.cons (.ret (.bf false .tuple (.var 3))) (.nil))))) := rfl
  have hlen := laid_len c 0 (-1) (-2)
  have hr := v_rep (S := S) (d := .int 2) (k := c.parts) (by omega)
  have ht := tot_small hp
  obtain ⟨m, h1, h2⟩ := t_block (G := G) (n := n - 1) (S0 := S) (K := c.laid 0 (-1) (-2)) (W := c.wl 1 1) c 0 (-1) (-2) 1 1 k [] [] [] [] [] [] _ _ _ (by simp) rfl (by simp) rfl rfl (fun w hw => by
    have := wl_le c 1 1 w hw
    omega) hk rfl
  obtain ⟨f, hf⟩ : ∃ f, G.lim = m + (f + 1) := ⟨G.lim - m - 1, by omega⟩
  have h3 := h2 (f + 1)
  rw [← hf] at h3
  simp only [List.nil_append, List.append_nil, tenv, knD, List.map_replicate] at h3
  have h4 : ∀ (a : Int) (j : Nat) (S' : Store), a < 0 → tW G (n - 1) (f + 1) [some (D.lst ((c.laid 0 (-1) (-2)).map pairD)), some (D.int j), some (D.lst ((c.wl 1 1).map wD)), some (D.ref S.length), some (D.int a)] S' = .nx [some (D.lst ((c.laid 0 (-1) (-2)).map pairD)), some (D.int j), some (D.lst ((c.wl 1 1).map wD)), some (D.ref S.length), some (D.int a)] S' := fun a j S' ha => by
    rw [tW, whlGo]
    have : ¬ (0 : Int) ≤ a := by omega
    simp [ttest, this]
  rw [h4 _ _ _ (by split <;> omega)] at h3
  have hwl : Ev.St.ev (run G (n - 1)) G (.whl ttest tbody) [some (D.lst ((c.laid 0 (-1) (-2)).map pairD)), some (D.int k), some (D.lst ((c.wl 1 1).map wD)), some (D.ref S.length), some (D.int 0)] (S ++ [.lst (List.replicate c.parts (.int 2))]) = _ := h3
  have hfin : finish true S (.rt (.tup ((c.row k).1.map natD)) (S ++ [.lst ((c.row k).1.map natD)])) = .ok (.tup ((c.row k).1.map natD)) S := finish_pure (by simp) (frz_plain (plains_nat _))
  have hrl : (c.row k).1.length = c.parts := sides_len c _ (row_mem c hk)
  have htp : bfV false .tuple (.ref S.length) (S ++ [.lst ((c.row k).1.map natD)]) = .ok (.tup ((c.row k).1.map natD)) (S ++ [.lst ((c.row k).1.map natD)]) := by
    show (match lstOf (S ++ [.lst ((c.row k).1.map natD)]) (.ref S.length) with | some xs => mkT xs _ | none => .stuck) = _
    rw [lstOf_ref' (xs := (c.row k).1.map natD) (by simp)]
    exact mkT_val (sz (by rw [List.length_map]; omega))
  rw [run_at (by omega) hG.tb rfl, hb]
  simp only [Cd.row] at hfin htp
  simp only [knD] at hw
  obtain ⟨w, ew⟩ : ∃ w, w = St.whl ttest tbody := ⟨_, rfl⟩
  rw [← ew] at hwl ⊢
  simp [fthrough_by, knD, hw, sz, hlen, hr, hG.nota, hwl, hfin, htp]
  rfl
end Ev


namespace Ev
open PySem PySem.Spec L2
def tcall_throughs : Ss := (.cons (.ex (.call 6 (.cons (.var 0) (.nil)))) (.cons (.set 1 (.call 12 (.cons (.var 0) (.nil)))) (.cons (.set 3 (.comp false [2] (.call 13 (.cons (.var 1) (.cons (.var 2) (.nil)))) (.nm 2) (.rng (.cons (.ix (.call 14 (.cons (.var 1) (.nil))) (.con (.int 1))) (.nil))) (.nil))) (.cons (.ret (.comp true [4] (.tup (.cons (.var 4) (.cons (.cmp .eq (.call 15 (.cons (.var 1) (.cons (.var 4) (.nil)))) (.glb 6)) (.nil)))) (.nm 4) (.seq (.var 3)) (.nil))) (.nil)))))
def call_throughs : Fn := ⟨1, 5, false, tcall_throughs⟩
def tcpart_worths : Ss := (.cons (.ex (.call 6 (.cons (.var 0) (.nil)))) (.cons (.ret (.ix (.call 56 (.cons (.call 12 (.cons (.var 0) (.nil))) (.nil))) (.con (.int 0)))) (.nil)))
def cpart_worths : Fn := ⟨1, 1, false, tcpart_worths⟩
def tfall_throughs : Ss := (.cons (.ex (.call 6 (.cons (.var 0) (.nil)))) (.cons (.set 1 (.call 12 (.cons (.var 0) (.nil)))) (.cons (.set 3 (.comp false [2] (.call 13 (.cons (.var 1) (.cons (.var 2) (.nil)))) (.nm 2) (.rng (.cons (.ix (.call 14 (.cons (.var 1) (.nil))) (.con (.int 1))) (.nil))) (.nil))) (.cons (.ret (.comp false [4] (.tup (.cons (.var 4) (.cons (.cmp .eq (.call 15 (.cons (.var 1) (.cons (.var 4) (.nil)))) (.glb 6)) (.nil)))) (.nm 4) (.seq (.var 3)) (.nil))) (.nil)))))
def fall_throughs : Fn := ⟨1, 5, true, tfall_throughs⟩
def tfpart_worths : Ss := (.cons (.ex (.call 6 (.cons (.var 0) (.nil)))) (.cons (.ret (.ix (.call 14 (.cons (.call 12 (.cons (.var 0) (.nil))) (.nil))) (.con (.int 0)))) (.nil)))
def fpart_worths : Fn := ⟨1, 1, true, tfpart_worths⟩
structure HasTh (G : Cfg) : Prop extends HasKn G where
  woc : G.fns[56]? = some fworths_of → True
/-! ### where a through leads -/
def ebody : Ss := match tfend_of with
  | .cons _ (.cons _ (.cons _ (.cons _ (.cons (.whl _ b) _)))) => b
  | _ => .nil
/-- how many parts are asked -/
def asked (r : List Nat) : Nat := r.countP (fun x => !decide (x = 2))
theorem asked_app (a b : List Nat) : asked (a ++ b) = asked a + asked b := List.countP_append
theorem asked_two (k : Nat) : asked (List.replicate k 2) = 0 := by
  unfold asked
  rw [List.countP_replicate]
  rfl
section
variable {G : Cfg} {n : Nat} {S : Store} {K : List (Int × Int)} {R : List Nat} {o : Option D}
def eenv (K : List (Int × Int)) (R : List Nat) (o : Option D) (left a : Int) : Env := [some (knD K), some (rowT R), o, some (.int left), some (.int a)]
def eW (G : Cfg) (n : Nat) (fuel : Nat) (env : Env) (S : Store) : SR := whlGo (fun env S => E.tst (run G n) G ttest env S) (fun env S => Ev.Ss.ev (run G n) G ebody env S) fuel env S
def EGo (G : Cfg) (n : Nat) (S : Store) (K : List (Int × Int)) (R : List Nat) (o : Option D) (a left a' left' : Int) (m : Nat) : Prop :=
  ∀ fuel, eW G n (m + fuel) (eenv K R o left a) S = eW G n fuel (eenv K R o left' a') S
theorem EGo.trans {a left a' left' m a'' left'' m'} (h1 : EGo G n S K R o a left a' left' m) (h2 : EGo G n S K R o a' left' a'' left'' m') : EGo G n S K R o a left a'' left'' (m + m') := fun fuel => by
  rw [Nat.add_assoc, h1, h2]
theorem e_turn (hG : G.glbs[8]? = some (.int 2)) {p b : Nat} {kn : Int × Int} {left : Int} (hK : K[p]? = some kn) (hR : R[p]? = some b) (hb : b < 2) :
    Ev.Ss.ev (run G n) G ebody (eenv K R o left p) S = .nx (eenv K R o (left - 1) (if b = 1 then kn.2 else kn.1)) S := by
  have e1 : atI (K.map pairD) (p : Int) = some (pairD kn) := atN (by rw [List.getElem?_map, hK]; rfl)
  have e2 : atI (R.map natD) (p : Int) = some (natD b) := atN (by rw [List.getElem?_map, hR]; rfl)
  simp only [eenv]
  have hb' : b = 0 ∨ b = 1 := by omega
  rcases hb' with rfl | rfl
  · simp [ebody, tfend_of, knD, rowT, e1, e2, pairD, natD, hG]
  · simp [ebody, tfend_of, knD, rowT, e1, e2, pairD, natD, hG]
theorem e_step (hG : G.glbs[8]? = some (.int 2)) {p b : Nat} {kn : Int × Int} {left : Int} (hK : K[p]? = some kn) (hR : R[p]? = some b) (hb : b < 2) :
    EGo G n S K R o p left (if b = 1 then kn.2 else kn.1) (left - 1) 1 := fun fuel => by
  have ge : (0 : Int) ≤ (p : Int) := by omega
  have ht : E.tst (run G n) G ttest (eenv K R o left p) S = .ok true S := by simp [eenv, ttest, ge]
  rw [Nat.add_comm, eW, whlGo, ht]
  simp only [st_ok, if_true, e_turn hG hK hR hb]
  rfl
theorem e_block (hG : G.glbs[8]? = some (.int 2)) : ∀ (c : Cd) (p : Nat) (y no left : Int) (KA KB : List (Int × Int)) (A B : List Nat) (r : List Nat) (t : Bool), K = KA ++ (c.laid p y no ++ KB) → KA.length = p → A.length = p → R = A ++ (r ++ B) →
    (r, t) ∈ c.sides → ∃ m, m ≤ c.parts ∧ EGo G n S K R o p left (if t = true then y else no) (left - asked r) m
  | .leaf s a b, p, y, no, left, KA, KB, A, B, r, t, hK, hKA, hA, hR, hd => by
    refine ⟨1, Nat.le_refl _, ?_⟩
    have hK' : K[p]? = some (no, y) := by rw [hK]; exact get_mid hKA
    have hd : (r, t) ∈ [([0], false), ([1], true)] := hd
    simp at hd
    rcases hd with ⟨rfl, rfl⟩ | ⟨rfl, rfl⟩
    · have hR' : R[p]? = some 0 := by rw [hR]; exact get_mid hA
      exact e_step hG hK' hR' (by decide)
    · have hR' : R[p]? = some 1 := by rw [hR]; exact get_mid hA
      exact e_step hG hK' hR' (by decide)
  | .nt c, p, y, no, left, KA, KB, A, B, r, t, hK, hKA, hA, hR, hd => by
    obtain ⟨q, hq, e⟩ := List.mem_map.mp hd
    obtain ⟨r1, t1⟩ := q
    cases e
    obtain ⟨m, h1, h2⟩ := e_block hG c p no y left KA KB A B r1 t1 hK hKA hA hR hq
    refine ⟨m, h1, ?_⟩
    cases t1 <;> exact h2
  | .jn w c d, p, y, no, left, KA, KB, A, B, r, t, hK, hKA, hA, hR, hd => by
    have hK1 : K = KA ++ (c.laid p (if isAnd w then p + c.parts else y) (if isAnd w then no else p + c.parts) ++ (d.laid ((p + c.parts : Nat) : Int) y no ++ KB)) := by
      rw [hK, Cd.laid]
      push_cast
      cases h : isAnd w <;> simp
    obtain ⟨⟨r1, t1⟩, ha, ⟨e, ⟨r2, t2⟩, hb, e2⟩ | ⟨e, e2⟩⟩ := mem_jn hd
    · cases e2
      have hl := sides_len c _ ha
      simp only at hl e
      rw [List.append_assoc] at hR
      obtain ⟨m1, h1, g1⟩ := e_block hG c p _ _ left KA _ A _ r1 t1 hK1 hKA hA hR ha
      have eb : (if t1 = true then (if isAnd w = true then ((p : Int) + (c.parts : Int)) else y) else (if isAnd w = true then no else ((p : Int) + (c.parts : Int)))) = ((p + c.parts : Nat) : Int) := by
        push_cast
        cases h : isAnd w <;> simp_all
      rw [eb] at g1
      have hl2 := laid_len c p (if isAnd w then p + c.parts else y) (if isAnd w then no else p + c.parts)
      obtain ⟨m2, h2, g2⟩ := e_block hG d (p + c.parts) y no (left - asked r1) (KA ++ c.laid p (if isAnd w then p + c.parts else y) (if isAnd w then no else p + c.parts)) KB (A ++ r1) B r2 t2
        (by rw [List.append_assoc]; exact hK1) (by rw [List.length_append, hl2, hKA]) (by rw [List.length_append, hl, hA]) (by rw [List.append_assoc]; exact hR) hb
      refine ⟨m1 + m2, by simp only [Cd.parts]; omega, ?_⟩
      have el : left - (asked (r1 ++ r2) : Nat) = left - asked r1 - asked r2 := by rw [asked_app]; push_cast; omega
      rw [el]
      exact g1.trans g2
    · cases e2
      rw [List.append_assoc] at hR
      obtain ⟨m1, h1, g1⟩ := e_block hG c p _ _ left KA _ A _ r1 t1 hK1 hKA hA hR ha
      simp only at e
      have eb : (if t1 = true then (if isAnd w = true then ((p : Int) + (c.parts : Int)) else y) else (if isAnd w = true then no else ((p : Int) + (c.parts : Int)))) = (if t1 = true then y else no) := by
        cases h : isAnd w <;> cases t1 <;> simp_all
      rw [eb] at g1
      refine ⟨m1, by simp only [Cd.parts]; omega, ?_⟩
      rw [asked_app, asked_two]
      exact g1
end
theorem sides_le : ∀ (c : Cd), ∀ p ∈ c.sides, ∀ x ∈ p.1, x ≤ 2
  | .leaf .., p, h, x, hx => by
    have h : p ∈ [([0], false), ([1], true)] := h
    simp at h
    rcases h with rfl | rfl <;> simp at hx <;> omega
  | .nt c, p, h, x, hx => by
    obtain ⟨q, hq, rfl⟩ := List.mem_map.mp h
    exact sides_le c q hq x hx
  | .jn w c d, p, h, x, hx => by
    obtain ⟨a, ha, ⟨_, b, hb, rfl⟩ | ⟨_, rfl⟩⟩ := mem_jn h
    · rcases List.mem_append.mp hx with hx | hx
      · exact sides_le c a ha x hx
      · exact sides_le d b hb x hx
    · rcases List.mem_append.mp hx with hx | hx
      · exact sides_le c a ha x hx
      · rw [(List.mem_replicate.mp hx).2]
        exact Nat.le_refl _
theorem is_whole {G : Cfg} (hG : HasKn G) {n : Nat} {S : Store} {i a b : Int} (hn : 1 ≤ n) : run G n 16 [.int i, .int a, .int b] S = .ok (.bl (decide (a ≤ i) && decide (i ≤ b))) S := by
  rw [run_at hn hG.iwh rfl]
  by_cases h1 : a ≤ i
  · simp [fis_whole, tfis_whole, h1]
  · simp [fis_whole, tfis_whole, h1]
/-- some items of a list -/
theorem col_filter {S : Store} {t : Ev.T} {env : Env} {okf : Env → Store → R Bool} {evf : Env → Store → R D} {P : D → Bool} {xs : List D} (h : ∀ x ∈ xs, ∃ env1, t.asg x env = some env1 ∧ okf env1 S = .ok (P x) S ∧ evf env1 S = .ok x S) :
    colGo t none (step1 okf evf) env xs S = .ok (xs.filter P) S := by
  rw [col_map (f := fun x => if P x then [x] else []) fun x hx => by
    obtain ⟨env1, h1, h2, h3⟩ := h x hx
    refine ⟨env1, h1, ?_⟩
    unfold step1
    rw [h2]
    simp only [h3]
    cases P x <;> rfl]
  congr 1
  induction xs with
  | nil => rfl
  | cons a r ih =>
    rw [List.flatMap_cons, ih fun x hx => h x (List.mem_cons_of_mem _ hx), List.filter_cons]
    cases P a <;> rfl
theorem all_bl {new : Bool} {S : Store} {bs : List Bool} : bfV new .all (.lst (bs.map .bl)) S = .ok (.bl (bs.all id)) S := by
  have : ∀ bs : List Bool, blsOf (bs.map D.bl) = some bs := fun bs => by
    induction bs with
    | nil => rfl
    | cons b r ih =>
      show (blsOf (r.map D.bl)).map (b :: ·) = _
      rw [ih]
      rfl
  show (match blsOf (bs.map D.bl) with | some ns => R.ok (D.bl (ns.all id)) S | none => .stuck) = _
  rw [this]
def endI (t : Bool) : Int := if t = true then -1 else -2
theorem end_of {G : Cfg} (hG : HasKn G) (hL : 10 ≤ G.lim) {n : Nat} {S : Store} (c : Cd) {r : List Nat} {t : Bool} (hp : c.parts ≤ 8) (hn : 3 ≤ n) (hr : (r, t) ∈ c.sides) : run G n 15 [knD (c.laid 0 (-1) (-2)), rowT r] S = .ok (.int (endI t)) S := by
  have hlen := laid_len c 0 (-1) (-2)
  have hrl := sides_len c _ hr
  simp only at hrl
  obtain ⟨m, h1, h2⟩ := e_block (G := G) (n := n - 1) (S := S) (K := c.laid 0 (-1) (-2)) (R := r) (o := none) hG.nota c 0 (-1) (-2) (asked r) [] [] [] [] r t (by simp) rfl rfl (by simp) hr
  obtain ⟨f, hf⟩ : ∃ f, G.lim = m + (f + 1) := ⟨G.lim - m - 1, by omega⟩
  have h3 := h2 (f + 1)
  rw [← hf, Int.sub_self] at h3
  have h4 : eW G (n - 1) (f + 1) (eenv (c.laid 0 (-1) (-2)) r none 0 (if t = true then -1 else -2)) S = .nx (eenv (c.laid 0 (-1) (-2)) r none 0 (endI t)) S := by
    rw [eW, whlGo]
    cases t <;> simp [eenv, ttest, endI]
  rw [h4] at h3
  have hwl : Ev.St.ev (run G (n - 1)) G (.whl ttest ebody) [some (knD (c.laid 0 (-1) (-2))), some (rowT r), none, some (.int (asked r : Nat)), some (.int 0)] S = .nx [some (knD (c.laid 0 (-1) (-2))), some (rowT r), none, some (.int 0), some (.int (endI t))] S := h3
  obtain ⟨w, ew⟩ : ∃ w, w = St.whl ttest ebody := ⟨_, rfl⟩
  rw [← ew] at hwl
  obtain ⟨ea, eea⟩ : ∃ ea : E, ea = .comp false [2] (.call 16 (.cons (.var 2) (.cons (.con (.int 0)) (.cons (.glb 8) (.nil))))) (.nm 2) (.seq (.var 1)) (.nil) := ⟨_, rfl⟩
  obtain ⟨ef, eef⟩ : ∃ ef : E, ef = .comp false [2] (.var 2) (.nm 2) (.seq (.var 1)) (.cons (.cmp .ne (.var 2) (.glb 8)) (.nil)) := ⟨_, rfl⟩
  have hb : fend_of.body = .cons (.ite (.or (.nt (.isi (.var 1) .tuple)) (.cmp .ne (.bf false .len (.var 1)) (.bf false .len (.var 0)))) (.cons (.ret (.con .non)) (.nil)) (.nil)) (.cons (.ite (.nt (.bf false .all ea)) (.cons (.ret (.con .non)) (.nil)) (.nil)) (.cons (.set 3 (.bf false .len ef)) (.cons (.set 4 (.con (.int 0))) (.cons w (.cons (.ret (.ife (.cmp .eq (.var 3) (.con (.int 0))) (.var 4) (.con .non))) (.nil)))))) := by rw [ew, eea, eef]; rfl
  rw [run_at (by omega) hG.eo rfl, hb]
  simp only [knD, rowT] at hwl ⊢
  have hz : (r.map natD).length ≤ sizeLine := sz (by rw [List.length_map]; omega)
  have c1 : ∀ a b d e : Option D, E.ev (run G (n - 1)) G ea [a, some (.tup (r.map natD)), b, d, e] S = .ok (.lst ((r.map fun _ => true).map .bl)) S := fun a b d e => by
    rw [eea, ev_e_comp]
    simp only [ev_i_seq, ev_e_var, List.getElem?_cons_succ, List.getElem?_cons_zero, bind_ok', seqI_tup, wipe_cons, wipe_nil, comp_def, ev_et_nil, List.set_cons_succ, List.set_cons_zero]
    rw [comp_map (f := fun _ => .bl true) fun x hx => by
      obtain ⟨b, hb, rfl⟩ := List.mem_map.mp hx
      refine ⟨_, rfl, ?_⟩
      have hb2 := sides_le c _ hr b hb
      have hw := is_whole hG (n := n - 1) (S := S) (i := b) (a := 0) (b := 2) (by omega)
      have z1 : (0 : Int) ≤ b := by omega
      have z2 : (b : Int) ≤ 2 := by omega
      simp [z1, z2] at hw
      simp [natD, hG.nota, hw]]
    rw [bind_ok', mkL_val (by rw [List.length_map]; exact hz), List.map_map, List.map_map]
    rfl
  have c2 : ∀ a b d e : Option D, E.ev (run G (n - 1)) G ef [a, some (.tup (r.map natD)), b, d, e] S = .ok (.lst ((r.map natD).filter fun d => !decide (d = .int 2))) S := fun a b d e => by
    rw [eef, ev_e_comp]
    simp only [ev_i_seq, ev_e_var, List.getElem?_cons_succ, List.getElem?_cons_zero, bind_ok', seqI_tup, wipe_cons, wipe_nil, comp_def, List.set_cons_succ, List.set_cons_zero]
    rw [col_filter (P := fun d => !decide (d = .int 2)) fun x hx => by
      obtain ⟨b, hb, rfl⟩ := List.mem_map.mp hx
      refine ⟨_, rfl, ?_, ?_⟩
      · simp [natD, hG.nota]
      · simp [natD]]
    rw [bind_ok', mkL_val (Nat.le_trans (List.length_filter_le _ _) hz)]
  have hc : ((r.map natD).filter fun d => !decide (d = .int 2)).length = asked r := by
    rw [← List.countP_eq_length_filter, List.countP_map]
    unfold asked
    congr 1
    funext b
    have : (D.int (b : Int) = D.int 2) ↔ b = 2 := by
      constructor
      · intro h
        have := D.int.inj h
        omega
      · rintro rfl
        rfl
    simp only [Function.comp_def, natD, this]
  have ha := all_bl (new := false) (S := S) (bs := r.map fun _ => true)
  have ha2 : (r.map fun _ => true).all id = true := by simp
  rw [ha2] at ha
  have hf : finish true S (.rt (.int (endI t)) S) = .ok (.int (endI t)) S := fin_int
  simp only [List.map_map] at c1 ha
  simp [fend_of, hlen, hrl, c1, c2, ha, hc, hwl]
end Ev


namespace Ev
open PySem PySem.Spec L2
def tcworths_of : Ss := (.cons (.set 1 .dct0) (.cons (.set 2 (.lst true (.nil))) (.cons (.for (.nm 3) (.rng (.cons (.bin false .sub (.bf false .len (.var 0)) (.con (.int 1))) (.cons (.neg (.con (.int 1))) (.cons (.neg (.con (.int 1))) (.nil))))) (.cons (.asg (.tp (.cons (.nm 5) (.cons (.nm 6) (.nil)))) (.comp false [4] (.call 25 (.cons (.var 0) (.cons (.var 1) (.cons (.var 4) (.nil))))) (.nm 4) (.seq (.ix (.var 0) (.var 3))) (.nil))) (.cons (.put (.var 1) (.var 3) (.bin false .add (.var 5) (.var 6))) (.cons (.ex (.mth1 .append (.var 2) (.tup (.cons (.con (.int 0)) (.cons (.var 5) (.nil)))))) (.nil))))) (.cons (.ret (.tup (.cons (.rev true (.var 2)) (.cons (.ix (.var 1) (.con (.int 0))) (.nil))))) (.nil)))))
def cworths_of : Fn := ⟨1, 7, false, tcworths_of⟩
structure HasThr (G : Cfg) : Prop extends HasKn G where
  lim : 10 ≤ G.lim
/-! ### the number of a through -/
def nbody : Ss := match tfnumber_by with
  | .cons _ (.cons (.for _ _ b) _) => b
  | _ => .nil
theorem nb_loop {G : Cfg} {n : Nat} {S : Store} {a b : Option D} : ∀ (r w : List Nat) (acc : Nat) (o3 o4 o5 : Option D),
    ∃ p3 p4 p5, forGo (.tp (.cons (.nm 3) (.cons (.tp (.cons (.nm 4) (.cons (.nm 5) (.nil)))) (.nil)))) none (fun env S => Ev.Ss.ev (run G n) G nbody env S) (((r.map natD).zip (w.map wD)).map fun p => .tup [p.1, p.2]) [a, b, some (.int acc), o3, o4, o5] S =
      .nx [a, b, some (.int (acc + num r w : Nat)), p3, p4, p5] S
  | [], w, acc, o3, o4, o5 => ⟨o3, o4, o5, by simp [num]⟩
  | x :: r, [], acc, o3, o4, o5 => ⟨o3, o4, o5, by simp [num]⟩
  | x :: r, v :: w, acc, o3, o4, o5 => by
    obtain ⟨p3, p4, p5, ih⟩ := nb_loop (a := a) (b := b) r w (acc + (if x = 1 then v else 0)) (some (natD x)) (some (.int 0)) (some (.int v))
    refine ⟨p3, p4, p5, ?_⟩
    have e : Ev.Ss.ev (run G n) G nbody [a, b, some (.int acc), some (natD x), some (.int 0), some (.int v)] S = .nx [a, b, some (.int (acc + (if x = 1 then v else 0) : Nat)), some (natD x), some (.int 0), some (.int v)] S := by
      by_cases hx : x = 1
      · simp [nbody, tfnumber_by, natD, hx]
      · have hx2 : ¬ (x : Int) = 1 := by omega
        simp [nbody, tfnumber_by, natD, hx, hx2]
    rw [List.map_cons, List.map_cons, List.zip_cons_cons, List.map_cons, for_step]
    simp only [asg_tp, asg_cons, asg_nm, asg_nil, wD, List.set_cons_succ, List.set_cons_zero]
    rw [e]
    simp only
    rw [show num (x :: r) (v :: w) = (if x = 1 then v else 0) + num r w from rfl, ← Nat.add_assoc]
    exact ih
theorem number_by {G : Cfg} (hG : HasThr G) {n : Nat} {S : Store} (c : Cd) {r : List Nat} (hp : c.parts ≤ 8) (hn : 3 ≤ n) : run G n 18 [knD (c.laid 0 (-1) (-2)), rowT r] S = .ok (.int (num r (c.wl 1 1) : Nat)) S := by
  have hw := worths_of hG.toHasKn (n := n - 1) (S := S) c (by omega) (by omega)
  obtain ⟨p3, p4, p5, e⟩ := nb_loop (G := G) (n := n - 1) (S := S) (a := some (knD (c.laid 0 (-1) (-2)))) (b := some (rowT r)) r (c.wl 1 1) 0 none none none
  obtain ⟨w, ew⟩ : ∃ w, w = nbody := ⟨_, rfl⟩
  rw [← ew] at e
  have hb : fnumber_by.body = .cons (.set 2 (.con (.int 0))) (.cons (.for (.tp (.cons (.nm 3) (.cons (.tp (.cons (.nm 4) (.cons (.nm 5) (.nil)))) (.nil)))) (.zip (.var 1) (.ix (.call 14 (.cons (.var 0) (.nil))) (.con (.int 0)))) w) (.cons (.ret (.var 2)) (.nil))) := by rw [ew]; rfl
  rw [run_at (by omega) hG.nb rfl, hb]
  have s1 : srcD (.tup (r.map natD)) = some (r.map natD) := rfl
  have s2 : srcD (.lst ((c.wl 1 1).map wD)) = some ((c.wl 1 1).map wD) := rfl
  rw [show ((0 : Nat) : Int) = 0 from rfl] at e
  simp only [rowT] at e ⊢
  simp [fnumber_by, hw, s1, s2, e]
theorem number_of {G : Cfg} (hG : HasThr G) (hNof : G.fns[11]? = some fnumber_of) {n : Nat} {S : Store} (c : Cd) {r : List Nat} {t : Bool} (h : c.ok) (hd : c.deep ≤ 8) (hp : c.parts ≤ 8) (hn : c.deep + 10 ≤ n) (hr : (r, t) ∈ c.sides) : run G n 11 [c.toD, rowT r] S = .ok (.int (num r (c.wl 1 1) : Nat)) S := by
  have e1 := cond_unless hG.toHasCond (n := n - 1) (S := S) h hd hp (by omega)
  have e2 := knots_of hG.toHasKn (n := n - 1) (S := S) h (by omega) (by omega)
  have e3 : run G (n - 1) 17 [knD (c.laid 0 (-1) (-2)), rowT r] S = .ok .non S := by
    have := end_of hG.toHasKn hG.lim (n := n - 1 - 1) (S := S) c hp (by omega) hr
    rw [run_at (by omega) hG.tu rfl]
    simp [fthrough_unless, tfthrough_unless, this]
  have e4 := number_by hG (n := n - 1) (S := S) c (r := r) hp (by omega)
  rw [run_at (by omega) hNof rfl]
  simp [fnumber_of, tfnumber_of, e1, e2, e3, e4]
theorem through_at {G : Cfg} (hG : HasThr G) (hTa : G.fns[10]? = some fthrough_at) {n : Nat} {S : Store} (c : Cd) {k : Nat} (h : c.ok) (hd : c.deep ≤ 8) (hp : c.parts ≤ 8) (hn : c.deep + 10 ≤ n) (hk : k < c.tot 1 1) : run G n 10 [c.toD, .int k] S = .ok (rowT (c.row k).1) S := by
  have e1 := cond_unless hG.toHasCond (n := n - 1) (S := S) h hd hp (by omega)
  have e2 := knots_of hG.toHasKn (n := n - 1) (S := S) h (by omega) (by omega)
  have e3 := is_whole hG.toHasKn (n := n - 1) (S := S) (i := k) (a := 0) (b := (c.tot 1 1 : Int) - 1) (by omega)
  have e4 := worths_of hG.toHasKn (n := n - 1) (S := S) c (by omega) (by omega)
  have e5 := through_by hG.toHasKn hG.lim (n := n - 1) (S := S) c hp (by omega) hk
  have z1 : (0 : Int) ≤ k := by omega
  have z2 : (k : Int) ≤ (c.tot 1 1 : Int) - 1 := by omega
  simp only [z1, z2, decide_true, Bool.and_self] at e3
  have hf : finish true S (.rt (rowT (c.row k).1) S) = .ok (rowT (c.row k).1) S := finish_here (rowT_plain _)
  rw [run_at (by omega) hTa rfl]
  simp [fthrough_at, tfthrough_at, e1, e2, e3, e4, e5, hf]

/-! ### all throughs, worths -/
def thD (p : List Nat × Bool) : D := .tup [rowT p.1, .bl p.2]
def Cd.thr (c : Cd) : List (List Nat × Bool) := (List.range (c.tot 1 1)).map c.row
theorem thr_len (c : Cd) : c.thr.length = c.tot 1 1 := by simp [Cd.thr]
theorem plains_th : ∀ l : List (List Nat × Bool), D.plains (l.map thD) = true
  | [] => rfl
  | p :: l => by
    show ((rowT p.1).plain && (true && true) && D.plains (l.map thD)) = true
    rw [rowT_plain, plains_th l]
    rfl
theorem worths_ofC {G : Cfg} (hG : HasKn G) (hC : G.fns[56]? = some cworths_of) {n : Nat} {S : Store} (c : Cd) (hp : c.parts < 1000) (hn : 2 ≤ n) : run G n 56 [knD (c.laid 0 (-1) (-2))] S = .ok (.tup [.ref (S.length + 2), .int (c.tot 1 1 : Nat)]) (S ++ [.dct (dW 0 (c.wws 1 1)), .lst ((c.wl 1 1).map wD).reverse, .lst ((c.wl 1 1).map wD)]) := by
  obtain ⟨K, hK⟩ : ∃ K, K = c.laid 0 (-1) (-2) := ⟨_, rfl⟩
  have hl : K.length = c.parts := by rw [hK, laid_len]
  have hw : Wf K.length 0 K := by
    rw [hl, hK]
    exact laid_wf c.parts c 0 _ _ (by omega) (.inl rfl) (.inr (.inl rfl))
  obtain ⟨p3, p4, p5, p6, e⟩ := w_loop hG (n := n - 1) (by omega) hw (by omega) (S0 := S) K.length K [] none none none none (by simp) rfl
  have hwl : lows 0 K = c.wl 1 1 := by rw [hK]; exact lows_all c
  have hww : ways 0 K = c.wws 1 1 := by rw [hK]; exact ways_all c
  rw [hwl, hww] at e
  rw [← hK]
  have hlen := wl_len c 1 1
  have hx : dAt (dW 0 (c.wws 1 1)) (.inl 0) = some (.int (c.tot 1 1 : Nat)) := by
    rw [dW_at (Int.le_refl _) (by rw [wws_len]; have := parts_pos c; omega)]
    have := wws_head c 1 1 []
    rw [List.append_nil] at this
    simp at this ⊢
    rw [this]
  have hi := ix_dct (S := S ++ [.dct (dW 0 (c.wws 1 1)), .lst ((c.wl 1 1).map wD).reverse, .lst ((c.wl 1 1).map wD)]) (l := S.length) (y := .int 0) (by simp) rfl hx
  have hr : rngs [.int ((K.length : Int) - 1), .int (-1), .int (-1)] = some (downs K.length) := by
    show (if decide _ then some _ else none) = _
    rw [if_pos (decide_eq_true ⟨rfl, by omega, by omega, by decide, by decide⟩)]
    rw [show ((K.length : Int) - 1 - -1).toNat = K.length by omega]
    rfl
  obtain ⟨w, ew⟩ : ∃ w, w = wbody := ⟨_, rfl⟩
  rw [← ew] at e
  have hb : cworths_of.body = .cons (.set 1 .dct0) (.cons (.set 2 (.lst true (.nil))) (.cons (.for (.nm 3) (.rng (.cons (.bin false .sub (.bf false .len (.var 0)) (.con (.int 1))) (.cons (.neg (.con (.int 1))) (.cons (.neg (.con (.int 1))) (.nil))))) w) (.cons (.ret (.tup (.cons (.rev true (.var 2)) (.cons (.ix (.var 1) (.con (.int 0))) (.nil))))) (.nil)))) := by rw [ew]; rfl
  rw [run_at (by omega) hC rfl, hb]
  simp only [knD] at e ⊢
  rw [show (ways (K.length : Int) [] = []) from rfl, show (lows (K.length : Int) [] = []) from rfl] at e
  simp only [dW, List.map_nil, List.reverse_nil] at e
  simp [cworths_of, sz, hr, e, hi, hlen, show c.parts ≤ 1000000 by omega]
theorem part_worthsC {G : Cfg} (hG : HasThr G) (hC : G.fns[56]? = some cworths_of) (hP : G.fns[55]? = some cpart_worths) {n : Nat} {S : Store} (c : Cd) (h : c.ok) (hd : c.deep ≤ 8) (hp : c.parts ≤ 8) (hn : c.deep + 10 ≤ n) :
    run G n 55 [c.toD] S = .ok (.ref (S.length + 2)) (S ++ [.dct (dW 0 (c.wws 1 1)), .lst ((c.wl 1 1).map wD).reverse, .lst ((c.wl 1 1).map wD)]) := by
  have e1 := cond_unless hG.toHasCond (n := n - 1) (S := S) h hd hp (by omega)
  have e2 := knots_of hG.toHasKn (n := n - 1) (S := S) h (by omega) (by omega)
  have e4 := worths_ofC hG.toHasKn hC (n := n - 1) (S := S) c (by omega) (by omega)
  rw [run_at (by omega) hP rfl]
  simp [cpart_worths, tcpart_worths, e1, e2, e4]
theorem part_worths {G : Cfg} (hG : HasThr G) (hP : G.fns[38]? = some fpart_worths) {n : Nat} {S : Store} (c : Cd) (h : c.ok) (hd : c.deep ≤ 8) (hp : c.parts ≤ 8) (hn : c.deep + 10 ≤ n) :
    run G n 38 [c.toD] S = .ok (.lst ((c.wl 1 1).map wD)) S := by
  have e1 := cond_unless hG.toHasCond (n := n - 1) (S := S) h hd hp (by omega)
  have e2 := knots_of hG.toHasKn (n := n - 1) (S := S) h (by omega) (by omega)
  have e4 := worths_of hG.toHasKn (n := n - 1) (S := S) c (by omega) (by omega)
  have hf : finish true S (.rt (.lst ((c.wl 1 1).map wD)) S) = .ok (.lst ((c.wl 1 1).map wD)) S := finish_here (plains_w _)
  rw [run_at (by omega) hP rfl]
  simp [fpart_worths, tfpart_worths, e1, e2, e4, hf]
theorem rngs1 {m : Nat} (h : m < 2 ^ 60) : rngs [.int m] = some ((List.range m).map natD) := by
  have hd : decide (-(2 ^ 62) ≤ (m : Int) ∧ (m : Int) < 2 ^ 62) = true := decide_eq_true ⟨by omega, by omega⟩
  simp only [rngs, hd, if_true, Int.toNat_natCast, Int.zero_add]
  rfl
section
variable {G : Cfg} (hG : HasThr G) {n : Nat} {S : Store} (c : Cd)
include hG
theorem th_rows (h : c.ok) (hp : c.parts ≤ 8) (hn : 4 ≤ n) (a b d e : Option D) : E.ev (run G n) G (.comp false [2] (.call 13 (.cons (.var 1) (.cons (.var 2) (.nil)))) (.nm 2) (.rng (.cons (.ix (.call 14 (.cons (.var 1) (.nil))) (.con (.int 1))) (.nil))) (.nil)) [a, some (knD (c.laid 0 (-1) (-2))), b, d, e] S = .ok (.lst (c.thr.map fun p => rowT p.1)) S := by
  have ht := tot_small hp
  have e4 := worths_of hG.toHasKn (n := n) (S := S) c (by omega) (by omega)
  rw [ev_e_comp]
  simp only [ev_i_rng, ev_es_cons, ev_es_nil, ev_e_ix, ev_e_con, ev_e_call, ev_e_var, List.getElem?_cons_succ, List.getElem?_cons_zero, bind_ok', e4, ix_tup at1, rngs1 (show c.tot 1 1 < 2 ^ 60 by omega), wipe_cons, wipe_nil, comp_def, ev_et_nil, List.set_cons_succ, List.set_cons_zero]
  rw [comp_map (f := fun x => match x with | .int k => rowT (c.row k.toNat).1 | x => x) fun x hx => by
    obtain ⟨k, hk, rfl⟩ := List.mem_map.mp hx
    have hk := List.mem_range.mp hk
    have e5 := through_by hG.toHasKn hG.lim (n := n) (S := S) c hp (by omega) hk
    refine ⟨_, rfl, ?_⟩
    simp [natD, e5]]
  rw [bind_ok', mkL_val (by simp; exact sz (by omega)), List.map_map, Cd.thr, List.map_map]
  rfl
theorem th_pairs (new : Bool) (h : c.ok) (hp : c.parts ≤ 8) (hn : 4 ≤ n) (a b d : Option D) : E.ev (run G n) G (.comp new [4] (.tup (.cons (.var 4) (.cons (.cmp .eq (.call 15 (.cons (.var 1) (.cons (.var 4) (.nil)))) (.glb 6)) (.nil)))) (.nm 4) (.seq (.var 3)) (.nil)) [a, some (knD (c.laid 0 (-1) (-2))), b, some (.lst (c.thr.map fun p => rowT p.1)), d] S = mkL new (c.thr.map thD) S := by
  have ht := tot_small hp
  rw [ev_e_comp]
  simp only [ev_i_seq, ev_e_var, List.getElem?_cons_succ, List.getElem?_cons_zero, bind_ok', seqI_lst, wipe_cons, wipe_nil, comp_def, ev_et_nil, List.set_cons_succ, List.set_cons_zero]
  have key : ∀ l : List (List Nat × Bool), (∀ p ∈ l, p ∈ c.sides) → colGo (.nm 4) none (step1 (fun env S => R.ok true S) fun env S => E.ev (run G n) G (.tup (.cons (.var 4) (.cons (.cmp .eq (.call 15 (.cons (.var 1) (.cons (.var 4) (.nil)))) (.glb 6)) (.nil)))) env S) [a, some (knD (c.laid 0 (-1) (-2))), b, some (.lst (c.thr.map fun p => rowT p.1)), none] (l.map fun p => rowT p.1) S = .ok (l.map thD) S := fun l => by
    induction l with
    | nil => exact fun _ => rfl
    | cons p l ih =>
      intro hl
      have hps := hl p List.mem_cons_self
      have e5 := end_of hG.toHasKn hG.lim (n := n) (S := S) c (r := p.1) (t := p.2) hp (by omega) hps
      rw [List.map_cons, col_cons (ys := [thD p]) rfl ?_ (ih fun q hq => hl q (List.mem_cons_of_mem _ hq))]
      · rfl
      · have hx : ∀ t : Bool, decide (endI t = -1) = t := fun t => by cases t <;> rfl
        simp [e5, hG.holds, sz, thD, hx]
  have := key c.thr fun p hp' => by
    obtain ⟨k, hk, rfl⟩ := List.mem_map.mp hp'
    exact row_mem c (List.mem_range.mp hk)
  rw [this]
  rfl
end
theorem all_throughsC {G : Cfg} (hG : HasThr G) (hC : G.fns[54]? = some call_throughs) {n : Nat} {S : Store} (c : Cd) (h : c.ok) (hd : c.deep ≤ 8) (hp : c.parts ≤ 8) (hn : c.deep + 10 ≤ n) :
    run G n 54 [c.toD] S = .ok (.ref S.length) (S ++ [.lst (c.thr.map thD)]) := by
  have e1 := cond_unless hG.toHasCond (n := n - 1) (S := S) h hd hp (by omega)
  have e2 := knots_of hG.toHasKn (n := n - 1) (S := S) h (by omega) (by omega)
  have e3 := th_rows hG (n := n - 1) (S := S) c h hp (by omega)
  have e4 := th_pairs hG (n := n - 1) (S := S) c true h hp (by omega)
  have ht := tot_small hp
  have hz : (c.thr.map thD).length ≤ sizeLine := sz (by rw [List.length_map, thr_len]; omega)
  simp only [mkL_new hz] at e4
  obtain ⟨ea, eea⟩ : ∃ ea : E, ea = .comp false [2] (.call 13 (.cons (.var 1) (.cons (.var 2) (.nil)))) (.nm 2) (.rng (.cons (.ix (.call 14 (.cons (.var 1) (.nil))) (.con (.int 1))) (.nil))) (.nil) := ⟨_, rfl⟩
  obtain ⟨eb, eeb⟩ : ∃ ea : E, ea = .comp true [4] (.tup (.cons (.var 4) (.cons (.cmp .eq (.call 15 (.cons (.var 1) (.cons (.var 4) (.nil)))) (.glb 6)) (.nil)))) (.nm 4) (.seq (.var 3)) (.nil) := ⟨_, rfl⟩
  have hb : call_throughs.body = .cons (.ex (.call 6 (.cons (.var 0) (.nil)))) (.cons (.set 1 (.call 12 (.cons (.var 0) (.nil)))) (.cons (.set 3 ea) (.cons (.ret eb) (.nil)))) := by rw [eea, eeb]; rfl
  rw [run_at (by omega) hC rfl, hb]
  rw [← eea] at e3
  rw [← eeb] at e4
  simp [call_throughs, e1, e2, e3, e4]
theorem all_throughs {G : Cfg} (hG : HasThr G) (hC : G.fns[37]? = some fall_throughs) {n : Nat} {S : Store} (c : Cd) (h : c.ok) (hd : c.deep ≤ 8) (hp : c.parts ≤ 8) (hn : c.deep + 10 ≤ n) :
    run G n 37 [c.toD] S = .ok (.lst (c.thr.map thD)) S := by
  have e1 := cond_unless hG.toHasCond (n := n - 1) (S := S) h hd hp (by omega)
  have e2 := knots_of hG.toHasKn (n := n - 1) (S := S) h (by omega) (by omega)
  have e3 := th_rows hG (n := n - 1) (S := S) c h hp (by omega)
  have e4 := th_pairs hG (n := n - 1) (S := S) c false h hp (by omega)
  have ht := tot_small hp
  have hz : (c.thr.map thD).length ≤ sizeLine := sz (by rw [List.length_map, thr_len]; omega)
  simp only [mkL_val hz] at e4
  obtain ⟨ea, eea⟩ : ∃ ea : E, ea = .comp false [2] (.call 13 (.cons (.var 1) (.cons (.var 2) (.nil)))) (.nm 2) (.rng (.cons (.ix (.call 14 (.cons (.var 1) (.nil))) (.con (.int 1))) (.nil))) (.nil) := ⟨_, rfl⟩
  obtain ⟨eb, eeb⟩ : ∃ ea : E, ea = .comp false [4] (.tup (.cons (.var 4) (.cons (.cmp .eq (.call 15 (.cons (.var 1) (.cons (.var 4) (.nil)))) (.glb 6)) (.nil)))) (.nm 4) (.seq (.var 3)) (.nil) := ⟨_, rfl⟩
  have hb : fall_throughs.body = .cons (.ex (.call 6 (.cons (.var 0) (.nil)))) (.cons (.set 1 (.call 12 (.cons (.var 0) (.nil)))) (.cons (.set 3 ea) (.cons (.ret eb) (.nil)))) := by rw [eea, eeb]; rfl
  have hf : finish true S (.rt (.lst (c.thr.map thD)) S) = .ok (.lst (c.thr.map thD)) S := finish_here (plains_th _)
  rw [run_at (by omega) hC rfl, hb]
  rw [← eea] at e3
  rw [← eeb] at e4
  simp [fall_throughs, e1, e2, e3, e4, hf]
end Ev


namespace Ev
open PySem PySem.Spec L2
/-! ### data that may be shown, compared: what is asked of them, bounded by weight and depth -/
structure Okd (w p : Nat) (d : D) : Prop where
  pl : d.plain = true
  sh : d.pd.showable = true
  nd : d.pd.hasDict = false
  is : d.pd.intsShort 13 = true
  cl : d.pd.canLay0 = true
  dp : d.pd.depth ≤ p
  wt : d.pd.weight ≤ w
theorem Okd.mono {w p w' p' : Nat} {d : D} (h : Okd w p d) (hw : w ≤ w') (hp : p ≤ p') : Okd w' p' d :=
  ⟨h.pl, h.sh, h.nd, h.is, h.cl, Nat.le_trans h.dp hp, Nat.le_trans h.wt hw⟩
theorem small_nat : ∀ k : Nat, k < 1024 → (PyData.int (k : Int)).showable = true ∧ (PyData.int (k : Int)).intsShort 13 = true ∧ (PyData.int (k : Int)).weight ≤ 10 := by
  decide +kernel
theorem Okd.nat {k : Nat} (h : k < 1024) : Okd 10 0 (.int k) :=
  let ⟨h1, h2, h3⟩ := small_nat k h
  ⟨rfl, h1, rfl, h2, rfl, Nat.le_refl _, h3⟩
theorem Okd.bl {b : Bool} : Okd 0 0 (.bl b) := ⟨rfl, rfl, rfl, rfl, rfl, Nat.le_refl _, Nat.le_refl _⟩
theorem Okd.non : Okd 0 0 .non := ⟨rfl, rfl, rfl, rfl, rfl, Nat.le_refl _, Nat.le_refl _⟩
structure Okds (w p : Nat) (ds : List D) : Prop where
  pl : D.plains ds = true
  sh : PyData.showableAll (D.pds ds) = true
  nd : PyData.hasDictAll (D.pds ds) = false
  is : PyData.intsShortAll 13 (D.pds ds) = true
  cl : PyData.canLayAll0 (D.pds ds) = true
  dp : PyData.depthAll (D.pds ds) ≤ p
  wt : PyData.weightAll (D.pds ds) ≤ w
theorem Okds.nil {p : Nat} : Okds 0 p [] := ⟨rfl, rfl, rfl, rfl, rfl, Nat.zero_le _, Nat.le_refl _⟩
theorem Okds.cons {w w' p : Nat} {d : D} {ds : List D} (h : Okd w p d) (hs : Okds w' p ds) : Okds (w + 1 + w') p (d :: ds) := by
  refine ⟨?_, ?_, ?_, ?_, ?_, ?_, ?_⟩
  · show (d.plain && D.plains ds) = true
    rw [h.pl, hs.pl]
    rfl
  · show (d.pd.showable && PyData.showableAll (D.pds ds)) = true
    rw [h.sh, hs.sh]
    rfl
  · show (d.pd.hasDict || PyData.hasDictAll (D.pds ds)) = false
    rw [h.nd, hs.nd]
    rfl
  · show (d.pd.intsShort 13 && PyData.intsShortAll 13 (D.pds ds)) = true
    rw [h.is, hs.is]
    rfl
  · show (d.pd.canLay0 && PyData.canLayAll0 (D.pds ds)) = true
    rw [h.cl, hs.cl]
    rfl
  · show max d.pd.depth (PyData.depthAll (D.pds ds)) ≤ p
    have := h.dp
    have := hs.dp
    omega
  · show d.pd.weight + 1 + PyData.weightAll (D.pds ds) ≤ w + 1 + w'
    have := h.wt
    have := hs.wt
    omega
theorem Okds.all {w p : Nat} : ∀ {ds : List D}, (∀ d ∈ ds, Okd w p d) → Okds (ds.length * (w + 1)) p ds
  | [], _ => by simpa using Okds.nil
  | d :: ds, h => by
    have := (h d List.mem_cons_self).mono (Nat.le_refl w) (Nat.le_refl p)
    have hs := Okds.all fun x hx => h x (List.mem_cons_of_mem _ hx)
    have := this |> (Okds.cons · hs)
    rw [List.length_cons, Nat.add_mul, Nat.one_mul, Nat.add_comm]
    exact this
theorem Okds.lst {w p : Nat} {ds : List D} (h : Okds w p ds) : Okd w (p + 1) (.lst ds) :=
  ⟨h.pl, h.sh, h.nd, h.is, h.cl, Nat.succ_le_succ h.dp, h.wt⟩
theorem Okds.tup {w p : Nat} {ds : List D} (h : Okds w p ds) : Okd w (p + 1) (.tup ds) :=
  ⟨h.pl, h.sh, h.nd, h.is, h.cl, Nat.succ_le_succ h.dp, h.wt⟩
theorem Okd.repr {w p : Nat} {d : D} (h : Okd w p d) (hp : p ≤ 64) (hw : w ≤ 2 ^ 20) : okRepr d = true :=
  okRepr_by h.pl h.sh h.nd h.is h.cl (Nat.le_trans h.dp hp) (Nat.le_trans h.wt hw)
theorem Okd.shaped {w p : Nat} {d : D} (h : Okd w p d) (hp : p ≤ 64) : SeqAt.shaped d.pd = true := by
  unfold SeqAt.shaped
  rw [h.cl, decide_eq_true (Nat.le_trans h.dp hp)]
  rfl
/-- == of two such -/
theorem okd_eqv {w p w' p' : Nat} {a b : D} {S : Store} (ha : Okd w p a) (hb : Okd w' p' b) (hp : p ≤ 64) (hp' : p' ≤ 64) (hs : scalD a b = none) (va : view S a = a) (vb : view S b = b) : eqD S a b = some (PyData.eqv a.pd b.pd) := by
  unfold eqD
  rw [hs]
  simp only [va, vb, ha.pl, hb.pl, ha.shaped hp, hb.shaped hp', Bool.and_self, if_true]
/-! ### rows of small numbers -/
theorem okd_row {r : List Nat} (h : ∀ x ∈ r, x < 1024) : Okds (r.length * 11) 0 (r.map natD) := by
  have := Okds.all (w := 10) (p := 0) (ds := r.map natD) fun d hd => by
    obtain ⟨x, hx, rfl⟩ := List.mem_map.mp hd
    exact Okd.nat (h x hx)
  rwa [List.length_map] at this
theorem eqvAll_nat : ∀ a b : List Nat, PyData.eqvAll (D.pds (a.map natD)) (D.pds (b.map natD)) = (a == b)
  | [], [] => rfl
  | [], _ :: _ => rfl
  | _ :: _, [] => rfl
  | x :: a, y :: b => by
    show ((x : Int) == (y : Int) && PyData.eqvAll (D.pds (a.map natD)) (D.pds (b.map natD))) = _
    rw [eqvAll_nat a b]
    rw [Bool.eq_iff_iff]
    simp
    intro _
    exact Int.ofNat_inj
theorem eq_rowL {a b : List Nat} {S : Store} (ha : ∀ x ∈ a, x < 1024) (hb : ∀ x ∈ b, x < 1024) : cmpV .eq (rowL a) (rowL b) S = .ok (.bl (a == b)) S := by
  show ofB (eqD S (.lst (a.map natD)) (.lst (b.map natD))) S = _
  rw [okd_eqv (okd_row ha).lst (okd_row hb).lst (by decide) (by decide) rfl rfl rfl, ← eqvAll_nat a b]
  rfl
theorem eq_rowT {a b : List Nat} {S : Store} (ha : ∀ x ∈ a, x < 1024) (hb : ∀ x ∈ b, x < 1024) : cmpV .eq (rowT a) (rowT b) S = .ok (.bl (a == b)) S := by
  show ofB (eqD S (.tup (a.map natD)) (.tup (b.map natD))) S = _
  rw [okd_eqv (okd_row ha).tup (okd_row hb).tup (by decide) (by decide) rfl rfl rfl, ← eqvAll_nat a b]
  rfl
theorem ne_rowL {a b : List Nat} {S : Store} (ha : ∀ x ∈ a, x < 1024) (hb : ∀ x ∈ b, x < 1024) : cmpV .ne (rowL a) (rowL b) S = .ok (.bl (!(a == b))) S := by
  show ofB ((eqD S (.lst (a.map natD)) (.lst (b.map natD))).map (!·)) S = _
  rw [okd_eqv (okd_row ha).lst (okd_row hb).lst (by decide) (by decide) rfl rfl rfl, ← eqvAll_nat a b]
  rfl
theorem ne_rowT {a b : List Nat} {S : Store} (ha : ∀ x ∈ a, x < 1024) (hb : ∀ x ∈ b, x < 1024) : cmpV .ne (rowT a) (rowT b) S = .ok (.bl (!(a == b))) S := by
  show ofB ((eqD S (.tup (a.map natD)) (.tup (b.map natD))).map (!·)) S = _
  rw [okd_eqv (okd_row ha).tup (okd_row hb).tup (by decide) (by decide) rfl rfl rfl, ← eqvAll_nat a b]
  rfl
/-! ### sorted by number -/
theorem sort_nums {f : Nat → D} {ys : List Nat} {m : Nat} (hp : ys.Perm (List.range m)) (hle : ∀ a ∈ ys, ∀ b ∈ ys, leD (f a) (f b) = decide (a ≤ b)) : (ys.map f).mergeSort leD = (List.range m).map f := by
  rw [← List.map_mergeSort (r := fun a b => decide (a ≤ b)) fun a ha b hb => (hle a ha b hb).symm]
  congr 1
  refine List.Perm.eq_of_pairwise (le := fun a b => a ≤ b) (fun a b _ _ h1 h2 => Nat.le_antisymm h1 h2) ?_ ?_ ((List.mergeSort_perm _ _).trans hp)
  · have := List.pairwise_mergeSort (le := fun a b : Nat => decide (a ≤ b)) (fun a b c h1 h2 => by simp at h1 h2 ⊢; omega) (fun a b => by simp; omega) ys
    exact this.imp fun h => by simpa using h
  · exact List.pairwise_le_range
end Ev


namespace Ev
open PySem PySem.Spec L2
def tf_law_sides : Ss := (.cons (.set 1 (.ix (.var 0) (.con (.int 0)))) (.cons (.ite (.cmp .isin (.var 1) (.tup (.cons (.con (.str "=")) (.cons (.con (.str "<")) (.nil))))) (.cons (.ret (.lst false (.cons (.tup (.cons (.lst false (.cons (.con (.int 0)) (.nil))) (.cons (.con (.bl false)) (.nil)))) (.cons (.tup (.cons (.lst false (.cons (.con (.int 1)) (.nil))) (.cons (.con (.bl true)) (.nil)))) (.nil))))) (.nil)) (.nil)) (.cons (.set 2 (.call 9 (.cons (.ix (.var 0) (.con (.int 1))) (.nil)))) (.cons (.ite (.cmp .eq (.var 1) (.con (.str "not"))) (.cons (.ret (.comp false [3, 4] (.tup (.cons (.var 3) (.cons (.nt (.var 4)) (.nil)))) (.tp (.cons (.nm 3) (.cons (.nm 4) (.nil)))) (.seq (.var 2)) (.nil))) (.nil)) (.nil)) (.cons (.set 5 (.call 9 (.cons (.ix (.var 0) (.con (.int 2))) (.nil)))) (.cons (.set 6 (.bin false .mul (.lst false (.cons (.con (.int 2)) (.nil))) (.bf false .len (.ix (.ix (.var 5) (.con (.int 0))) (.con (.int 0)))))) (.cons (.set 7 (.lst true (.nil))) (.cons (.for (.tp (.cons (.nm 3) (.cons (.nm 4) (.nil)))) (.seq (.var 2)) (.cons (.ite (.cmp .eq (.var 4) (.cmp .eq (.var 1) (.con (.str "and")))) (.cons (.set 7 (.bin true .add (.var 7) (.comp false [8, 9] (.tup (.cons (.bin false .add (.var 3) (.var 8)) (.cons (.var 9) (.nil)))) (.tp (.cons (.nm 8) (.cons (.nm 9) (.nil)))) (.seq (.var 5)) (.nil)))) (.nil)) (.cons (.ex (.mth1 .append (.var 7) (.tup (.cons (.bin false .add (.var 3) (.var 6)) (.cons (.var 4) (.nil)))))) (.nil))) (.nil))) (.cons (.ret (.var 7)) (.nil))))))))))
def f_law_sides : Fn := ⟨1, 10, true, tf_law_sides⟩
def tf_law_worths : Ss := (.cons (.set 2 (.lst true (.nil))) (.cons (.for (.nm 3) (.rng (.cons (.var 1) (.nil))) (.cons (.set 5 (.comp false [4] (.var 4) (.nm 4) (.seq (.var 0)) (.cons (.cmp .lt (.ix (.var 4) (.var 3)) (.con (.int 2))) (.nil)))) (.cons (.set 6 (.cutB false (.ix (.var 5) (.con (.int 0))) (.var 3))) (.cons (.ex (.mth1 .append (.var 2) (.tup (.cons (.con (.int 0)) (.cons (.bf false .len (.comp false [4] (.var 4) (.nm 4) (.seq (.var 5)) (.cons (.cmp .eq (.cutB false (.var 4) (.bin false .add (.var 3) (.con (.int 1)))) (.bin false .add (.var 6) (.lst false (.cons (.con (.int 0)) (.nil))))) (.nil)))) (.nil)))))) (.nil))))) (.cons (.ret (.var 2)) (.nil))))
def f_law_worths : Fn := ⟨2, 7, true, tf_law_worths⟩
theorem frz_ref {S S0 : Store} {l : Nat} {xs : List D} (hl : S0.length ≤ l) (h : S[l]? = some (.lst xs)) (hp : D.plains xs = true) {k : Nat} : frz S S0.length (k + 1) (.ref l) = some (.lst xs) := by
  have hm : ∀ xs : List D, D.plains xs = true → xs.mapM (frz S S0.length k) = some xs := fun xs => by
    induction xs with
    | nil => exact fun _ => rfl
    | cons x xs ih =>
      intro h
      have h : (x.plain && D.plains xs) = true := h
      rw [Bool.and_eq_true] at h
      rw [List.mapM_cons, frz_plain h.1, ih h.2]
      rfl
  show frzW S0.length (fun l => match S[l]? with | some (.lst xs) => (xs.mapM (frz S S0.length k)).map D.lst | _ => none) (.ref l) = _
  show (if l < S0.length then some (D.ref l) else (match S[l]? with | some (.lst xs) => (xs.mapM (frz S S0.length k)).map D.lst | _ => none)) = _
  rw [if_neg (by omega), h]
  simp only [hm xs hp]
  rfl
/-- the end of a pure body that tells a list it laid -/
theorem finish_ref {S S0 : Store} {l : Nat} {xs : List D} (ht : S.take S0.length = S0) (hl : S0.length ≤ l) (h : S[l]? = some (.lst xs)) (hp : D.plains xs = true) : finish true S0 (.rt (.ref l) S) = .ok (.lst xs) S0 :=
  finish_pure ht (frz_ref hl h hp)
@[simp] theorem c_eq_bl {S : Store} {a b : Bool} : cmpV .eq (.bl a) (.bl b) S = .ok (.bl (decide (a = b))) S := (rfl)
@[simp] theorem c_ne_bl {S : Store} {a b : Bool} : cmpV .ne (.bl a) (.bl b) S = .ok (.bl (!decide (a = b))) S := (rfl)
def sdD (p : List Nat × Bool) : D := .tup [rowL p.1, .bl p.2]
theorem plains_sd : ∀ l : List (List Nat × Bool), D.plains (l.map sdD) = true
  | [] => rfl
  | p :: l => by
    show ((rowL p.1).plain && (true && true) && D.plains (l.map sdD)) = true
    rw [rowL_plain, plains_sd l]
    rfl
def sbody : Ss := match tf_law_sides with
  | .cons _ (.cons _ (.cons _ (.cons _ (.cons _ (.cons _ (.cons _ (.cons (.for _ _ b) _))))))) => b
  | _ => .nil
theorem v_addR {S : Store} {l : Nat} {xs ys : List D} (hx : S[l]? = some (.lst xs)) (h : xs.length + ys.length ≤ sizeLine) : binV true .add (.ref l) (.lst ys) S = .ok (.ref S.length) (S ++ [.lst (xs ++ ys)]) := by
  simp only [binV, lstOf_ref' hx, lstOf_lst']
  exact mkL_new (by rw [List.length_append]; exact h)
section
variable {G : Cfg} {n : Nat} {S : Store}
def jnf (w : Str) (d : Cd) (p : List Nat × Bool) : List (List Nat × Bool) := if p.2 = isAnd w then d.sides.map fun q => (p.1 ++ q.1, q.2) else [(p.1 ++ List.replicate d.parts 2, p.2)]
def sE1 : E := .comp false [8, 9] (.tup (.cons (.bin false .add (.var 3) (.var 8)) (.cons (.var 9) (.nil)))) (.tp (.cons (.nm 8) (.cons (.nm 9) (.nil)))) (.seq (.var 5)) (.nil)
theorem sd_comp {e : D} {w : Str} {a b : Option D} {fs : List (List Nat × Bool)} {r : List Nat} {t : Option D} {q : List (List Nat × Bool)} {u7 o8 o9 : Option D} (hq : ∀ p ∈ q, p.1.length ≤ 1000) (hr : r.length ≤ 1000) (hz : q.length ≤ 1000) {u : Option D} :
    E.ev (run G n) G sE1 [some e, a, b, some (rowL r), t, some (.lst (q.map sdD)), u, u7, o8, o9] S = .ok (.lst ((q.map fun p => (r ++ p.1, p.2)).map sdD)) S := by
  unfold sE1
  rw [ev_e_comp]
  simp only [ev_i_seq, ev_e_var, List.getElem?_cons_succ, List.getElem?_cons_zero, bind_ok', seqI_lst, wipe_cons, wipe_nil, comp_def, ev_et_nil, List.set_cons_succ, List.set_cons_zero]
  have key : ∀ l : List (List Nat × Bool), (∀ p ∈ l, p.1.length ≤ 1000) → colGo (.tp (.cons (.nm 8) (.cons (.nm 9) (.nil)))) none (step1 (fun env S => R.ok true S) fun env S => E.ev (run G n) G (.tup (.cons (.bin false .add (.var 3) (.var 8)) (.cons (.var 9) (.nil)))) env S) [some e, a, b, some (rowL r), t, some (.lst (q.map sdD)), u, u7, none, none] (l.map sdD) S = .ok ((l.map fun p => (r ++ p.1, p.2)).map sdD) S := fun l => by
    induction l with
    | nil => exact fun _ => rfl
    | cons p l ih =>
      intro hl
      have h1 := hl p List.mem_cons_self
      have ha := v_add_lst (S := S) (xs := r.map natD) (ys := p.1.map natD) (sz (by simp; omega))
      rw [List.map_cons, List.map_cons, List.map_cons, col_cons (ys := [sdD (r ++ p.1, p.2)]) rfl ?_ (ih fun q hq => hl q (List.mem_cons_of_mem _ hq))]
      · rfl
      · simp [rowL, ha, sz, sdD]
  rw [key q hq, bind_ok', mkL_val (sz (by simp; omega))]
theorem s_loop {e : D} {w : Str} {d : Cd} {a2 : Option D} (hd : d.parts ≤ 8) (hq : d.sides.length ≤ 1000) {S0 : Store} : ∀ (fs : List (List Nat × Bool)) (acc : List (List Nat × Bool)) (S : Store) (l : Nat) (o3 o4 o8 o9 : Option D), (∀ p ∈ fs, p.1.length ≤ 8) →
    acc.length + (fs.flatMap (jnf w d)).length ≤ 1000 → S.take S0.length = S0 → S0.length ≤ l → S[l]? = some (.lst (acc.map sdD)) →
    ∃ p3 p4 p8 p9 l' S', forGo (.tp (.cons (.nm 3) (.cons (.nm 4) (.nil)))) none (fun env S => Ev.Ss.ev (run G n) G sbody env S) (fs.map sdD) [some e, some (.str w), a2, o3, o4, some (.lst (d.sides.map sdD)), some (.lst (List.replicate d.parts (natD 2))), some (.ref l), o8, o9] S =
      .nx [some e, some (.str w), a2, p3, p4, some (.lst (d.sides.map sdD)), some (.lst (List.replicate d.parts (natD 2))), some (.ref l'), p8, p9] S' ∧ S'.take S0.length = S0 ∧ S0.length ≤ l' ∧ S'[l']? = some (.lst ((acc ++ fs.flatMap (jnf w d)).map sdD))
  | [], acc, S, l, o3, o4, o8, o9, hf, hz, ht, hl, hs => ⟨o3, o4, o8, o9, l, S, rfl, ht, hl, by simpa using hs⟩
  | p :: fs, acc, S, l, o3, o4, o8, o9, hf, hz, ht, hl, hs => by
    have hp := hf p List.mem_cons_self
    rw [List.flatMap_cons, List.length_append] at hz
    have hS : S0.length ≤ S.length := by
      have := congrArg List.length ht
      rw [List.length_take] at this
      omega
    have hlt : l < S.length := (List.getElem?_eq_some_iff.mp hs).1
    have hc := fun u7 => sd_comp (G := G) (n := n) (S := S) (e := e) (a := some (.str w)) (b := a2) (w := w) (fs := []) (r := p.1) (t := some (.bl p.2)) (q := d.sides) (u7 := u7) (o8 := o8) (o9 := o9) (u := some (.lst (List.replicate d.parts (natD 2)))) (fun q hq' => by have := sides_len d q hq'; omega) (by omega) hq
    have hw : cmpV .eq (.str w) (.str "and") S = .ok (.bl (isAnd w)) S := rfl
    have step : ∃ l2 S2, Ev.Ss.ev (run G n) G sbody [some e, some (.str w), a2, some (rowL p.1), some (.bl p.2), some (.lst (d.sides.map sdD)), some (.lst (List.replicate d.parts (natD 2))), some (.ref l), o8, o9] S =
        .nx [some e, some (.str w), a2, some (rowL p.1), some (.bl p.2), some (.lst (d.sides.map sdD)), some (.lst (List.replicate d.parts (natD 2))), some (.ref l2), o8, o9] S2 ∧ S2.take S0.length = S0 ∧ S0.length ≤ l2 ∧ S2[l2]? = some (.lst ((acc ++ jnf w d p).map sdD)) := by
      by_cases c : p.2 = isAnd w
      · have hj : jnf w d p = d.sides.map fun q => (p.1 ++ q.1, q.2) := if_pos c
        have hz2 : acc.length + d.sides.length ≤ 1000 := by
          rw [hj, List.length_map] at hz
          omega
        have ha := v_addR (ys := (d.sides.map fun q => (p.1 ++ q.1, q.2)).map sdD) hs (sz (by simp; omega))
        refine ⟨S.length, S ++ [.lst ((acc ++ jnf w d p).map sdD)], ?_, ?_, hS, by simp⟩
        · rw [hj, List.map_append]
          have hc' := hc (some (.ref l))
          obtain ⟨ex, eex⟩ : ∃ ex, ex = sE1 := ⟨_, rfl⟩
          rw [← eex] at hc'
          have hb : sbody = .cons (.ite (.cmp .eq (.var 4) (.cmp .eq (.var 1) (.con (.str "and")))) (.cons (.set 7 (.bin true .add (.var 7) ex)) (.nil)) (.cons (.ex (.mth1 .append (.var 7) (.tup (.cons (.bin false .add (.var 3) (.var 6)) (.cons (.var 4) (.nil)))))) (.nil))) (.nil) := by rw [eex]; rfl
          rw [hb]
          simp only [List.map_map] at hc' ha
          have c' : p.2 = decide (w = ("and" : Str)) := c
          simp [eq_true c', hc', ha]
        · rw [List.take_append_of_le_length hS, ht]
      · have hj : jnf w d p = [(p.1 ++ List.replicate d.parts 2, p.2)] := if_neg c
        have hz2 : acc.length + 1 ≤ 1000 := by
          rw [hj] at hz
          simp at hz
          omega
        refine ⟨l, S.set l (.lst ((acc ++ jnf w d p).map sdD)), ?_, ?_, hl, by rw [List.getElem?_set_self hlt]⟩
        · rw [hj]
          have ha := v_add_lst (S := S) (xs := p.1.map natD) (ys := List.replicate d.parts (natD 2)) (sz (by simp; omega))
          have hm := m_append (S := S) (x := sdD (p.1 ++ List.replicate d.parts 2, p.2)) hs (Nat.lt_of_le_of_lt (show (acc.map sdD).length ≤ 1000 by simp; omega) (by decide))
          have c' : ¬ p.2 = decide (w = ("and" : Str)) := c
          simp [sbody, tf_law_sides, eq_false c', rowL, ha, sz, hs]
          simp [sdD, rowL] at hm
          rw [hm]
          simp [sdD, rowL]
        · rw [List.take_set_of_le hl, ht]
    obtain ⟨l2, S2, e1, t2, hl2, hs2⟩ := step
    obtain ⟨p3, p4, p8, p9, l3, S3, e3, t3, hl3, hs3⟩ := s_loop (e := e) (w := w) (a2 := a2) hd hq fs (acc ++ jnf w d p) S2 l2 (some (rowL p.1)) (some (.bl p.2)) o8 o9 (fun q hq' => hf q (List.mem_cons_of_mem _ hq')) (by rw [List.length_append]; omega) t2 hl2 hs2
    refine ⟨p3, p4, p8, p9, l3, S3, ?_, t3, hl3, by rw [hs3, List.flatMap_cons, List.append_assoc]⟩
    have hsd : sdD p = .tup [rowL p.1, .bl p.2] := rfl
    rw [List.map_cons, for_step, hsd]
    simp only [asg_tp, asg_cons, asg_nm, asg_nil, List.set_cons_succ, List.set_cons_zero]
    rw [e1]
    exact e3
theorem sides_ne (c : Cd) : c.sides ≠ [] := fun e => by
  have h1 := sides_tot c
  rw [e] at h1
  have := tot_pos c
  simp at h1
  omega
theorem law_sides (hG : G.fns[9]? = some f_law_sides) : ∀ (c : Cd) (n : Nat) (S : Store), c.ok → c.parts ≤ 8 → c.deep ≤ n → run G n 9 [c.toD] S = .ok (.lst (c.sides.map sdD)) S
  | .leaf s a b, n, S, h, hp, hn => by
    simp only [Cd.deep] at hn
    have hs := signs_ne h.1
    rw [run_at (by omega) hG rfl]
    have hf : finish true S (.rt (.lst [.tup [.lst [.int 0], .bl false], .tup [.lst [.int 1], .bl true]]) S) = .ok (.lst [.tup [.lst [.int 0], .bl false], .tup [.lst [.int 1], .bl true]]) S := finish_here rfl
    simp [f_law_sides, tf_law_sides, hs, Cd.sides, Cd.toD, sz, hf, sdD, rowL, natD]
  | .nt c, n, S, h, hp, hn => by
    simp only [Cd.deep] at hn
    simp only [Cd.parts] at hp
    have ih := law_sides hG c (n - 1) S h hp (by omega)
    have ht := tot_small hp
    have hst := sides_tot c
    rw [run_at (by omega) hG rfl]
    have n1 : (("=" : Str) == ("not" : Str)) = false := rfl
    have n2 : (("<" : Str) == ("not" : Str)) = false := rfl
    have hf : finish true S (.rt (.lst ((c.sides.map fun p => (p.1, !p.2)).map sdD)) S) = .ok (.lst ((c.sides.map fun p => (p.1, !p.2)).map sdD)) S := finish_here (plains_sd _)
    obtain ⟨ex, eex⟩ : ∃ ex : E, ex = .comp false [3, 4] (.tup (.cons (.var 3) (.cons (.nt (.var 4)) (.nil)))) (.tp (.cons (.nm 3) (.cons (.nm 4) (.nil)))) (.seq (.var 2)) (.nil) := ⟨_, rfl⟩
    have key : ∀ (l : List (List Nat × Bool)) (x0 x1 x2 : Option D) (xs : List (Option D)), colGo (.tp (.cons (.nm 3) (.cons (.nm 4) (.nil)))) none (step1 (fun env S => R.ok true S) fun env S => E.ev (run G (n - 1)) G (.tup (.cons (.var 3) (.cons (.nt (.var 4)) (.nil)))) env S) (x0 :: x1 :: x2 :: none :: none :: xs) (l.map sdD) S = .ok ((l.map fun p => (p.1, !p.2)).map sdD) S := fun l x0 x1 x2 xs => by
      induction l with
      | nil => rfl
      | cons p l ih =>
        rw [List.map_cons, List.map_cons, List.map_cons, col_cons (ys := [sdD (p.1, !p.2)]) rfl ?_ ih]
        · rfl
        · simp [sz, sdD]
    have hc : ∀ (x0 x1 x3 x4 : Option D) (xs : List (Option D)), E.ev (run G (n - 1)) G ex (x0 :: x1 :: some (.lst (c.sides.map sdD)) :: x3 :: x4 :: xs) S = .ok (.lst ((c.sides.map fun p => (p.1, !p.2)).map sdD)) S := fun x0 x1 x3 x4 xs => by
      rw [eex, ev_e_comp]
      simp only [ev_i_seq, ev_e_var, List.getElem?_cons_succ, List.getElem?_cons_zero, bind_ok', seqI_lst, wipe_cons, wipe_nil, comp_def, ev_et_nil, List.set_cons_succ, List.set_cons_zero]
      rw [key, bind_ok', mkL_val (sz (by simp; omega))]
    have hb : f_law_sides.body = .cons (.set 1 (.ix (.var 0) (.con (.int 0)))) (.cons (.ite (.cmp .isin (.var 1) (.tup (.cons (.con (.str "=")) (.cons (.con (.str "<")) (.nil))))) (.cons (.ret (.lst false (.cons (.tup (.cons (.lst false (.cons (.con (.int 0)) (.nil))) (.cons (.con (.bl false)) (.nil)))) (.cons (.tup (.cons (.lst false (.cons (.con (.int 1)) (.nil))) (.cons (.con (.bl true)) (.nil)))) (.nil))))) (.nil)) (.nil)) (.cons (.set 2 (.call 9 (.cons (.ix (.var 0) (.con (.int 1))) (.nil)))) (.cons (.ite (.cmp .eq (.var 1) (.con (.str "not"))) (.cons (.ret ex) (.nil)) (.nil)) (match tf_law_sides with | .cons _ (.cons _ (.cons _ (.cons _ r))) => r | _ => .nil)))) := by rw [eex]; rfl
    rw [hb]
    simp only [Cd.toD]
    simp [f_law_sides, n1, n2, Cd.sides, sz, ih, hc, hf]
    simp only [List.map_map] at hf
    exact hf
  | .jn w c d, n, S, h, hp, hn => by
    simp only [Cd.deep] at hn
    have hp0 : (Cd.jn w c d).parts ≤ 8 := hp
    simp only [Cd.parts] at hp
    obtain ⟨h1, h2, h3⟩ := h
    have ih := law_sides hG c (n - 1) S h2 (by omega) (by omega)
    have ih2 := law_sides hG d (n - 1) S h3 (by omega) (by omega)
    have ht := tot_small hp0
    have hst := sides_tot (Cd.jn w c d)
    have htd := tot_small (c := d) (by omega)
    have hstd := sides_tot d
    have pd := parts_pos d
    obtain ⟨n1, n2, n3⟩ := joins_ne h1
    obtain ⟨p3, p4, p8, p9, l', S', e, t', hl', hs'⟩ := s_loop (G := G) (n := n - 1) (e := (Cd.jn w c d).toD) (w := w) (d := d) (a2 := some (.lst (c.sides.map sdD))) (by omega) (by omega) (S0 := S) c.sides [] (S ++ [.lst []]) S.length none none none none (fun p hq => by have := sides_len c p hq; omega) (by
      have : (c.sides.flatMap (jnf w d)).length = (Cd.jn w c d).sides.length := rfl
      rw [this]
      simp
      omega) (by simp) (Nat.le_refl _) (by simp)
    obtain ⟨q, Q, hQ⟩ : ∃ q Q, d.sides = q :: Q := by
      cases hs : d.sides with
      | nil => exact absurd hs (sides_ne d)
      | cons q Q => exact ⟨q, Q, rfl⟩
    have hql : q.1.length = d.parts := sides_len d q (by rw [hQ]; exact List.mem_cons_self)
    have hx : ixV (.lst (d.sides.map sdD)) (.int 0) S = .ok (.tup [.lst (q.1.map natD), .bl q.2]) S := ix_lst (by rw [hQ]; exact at0)
    have hr : binV false .mul (.lst [.int 2]) (.int d.parts) S = .ok (.lst (List.replicate d.parts (natD 2))) S := by
      have hd : decide (-(2 ^ 63) ≤ (d.parts : Int) ∧ (d.parts : Int) < 2 ^ 63 ∧ [D.int 2].length * d.parts ≤ sizeLine) = true := decide_eq_true ⟨by omega, by omega, by simp; exact sz (by omega)⟩
      have hm : mkL false (List.replicate d.parts (D.int 2)) S = .ok (.lst (List.replicate d.parts (D.int 2))) S := mkL_val (by rw [List.length_replicate]; exact sz (by omega))
      simp only [binV, lstOf_lst', hd, if_true, Int.toNat_natCast, flat_rep, hm]
      rfl
    obtain ⟨w', ew⟩ : ∃ w, w = sbody := ⟨_, rfl⟩
    rw [← ew] at e
    have hb : f_law_sides.body = .cons (.set 1 (.ix (.var 0) (.con (.int 0)))) (.cons (.ite (.cmp .isin (.var 1) (.tup (.cons (.con (.str "=")) (.cons (.con (.str "<")) (.nil))))) (.cons (.ret (.lst false (.cons (.tup (.cons (.lst false (.cons (.con (.int 0)) (.nil))) (.cons (.con (.bl false)) (.nil)))) (.cons (.tup (.cons (.lst false (.cons (.con (.int 1)) (.nil))) (.cons (.con (.bl true)) (.nil)))) (.nil))))) (.nil)) (.nil)) (.cons (.set 2 (.call 9 (.cons (.ix (.var 0) (.con (.int 1))) (.nil)))) (.cons (.ite (.cmp .eq (.var 1) (.con (.str "not"))) (match tf_law_sides with | .cons _ (.cons _ (.cons _ (.cons (.ite _ r _) _))) => r | _ => .nil) (.nil)) (.cons (.set 5 (.call 9 (.cons (.ix (.var 0) (.con (.int 2))) (.nil)))) (.cons (.set 6 (.bin false .mul (.lst false (.cons (.con (.int 2)) (.nil))) (.bf false .len (.ix (.ix (.var 5) (.con (.int 0))) (.con (.int 0)))))) (.cons (.set 7 (.lst true (.nil))) (.cons (.for (.tp (.cons (.nm 3) (.cons (.nm 4) (.nil)))) (.seq (.var 2)) w') (.cons (.ret (.var 7)) (.nil))))))))) := by rw [ew]; rfl
    rw [run_at (by omega) hG rfl, hb]
    have hf := finish_ref t' hl' hs' (plains_sd _)
    simp only [List.nil_append] at hf
    simp only [Cd.toD] at e ⊢
    simp [f_law_sides, n1, n3, sz, ih, ih2, hx, hql, hr, e]
    exact hf
end
end Ev


namespace Ev
open PySem PySem.Spec L2
/-- some items of a list, each told otherwise -/
theorem col_filterM {α : Type} {S : Store} {t : Ev.T} {env : Env} {okf : Env → Store → R Bool} {evf : Env → Store → R D} {f g : α → D} {P : α → Bool} : ∀ {xs : List α}, (∀ x ∈ xs, ∃ env1, t.asg (f x) env = some env1 ∧ okf env1 S = .ok (P x) S ∧ (P x = true → evf env1 S = .ok (g x) S)) →
    colGo t none (step1 okf evf) env (xs.map f) S = .ok ((xs.filter P).map g) S
  | [], _ => rfl
  | x :: xs, h => by
    obtain ⟨env1, h1, h2, h3⟩ := h x List.mem_cons_self
    have ih := col_filterM (okf := okf) (evf := evf) (g := g) (P := P) (f := f) fun y hy => h y (List.mem_cons_of_mem _ hy)
    have hs : step1 okf evf env1 S = .ok (if P x = true then [g x] else []) S := by
      unfold step1
      rw [h2]
      cases hp : P x with
      | true => simp only [h3 hp, if_true]
      | false => simp only [Bool.false_eq_true, if_false]
    rw [List.map_cons, col_cons h1 hs ih, List.filter_cons]
    cases P x <;> rfl
theorem cut_take {α : Type} {xs : List α} {i : Nat} : cutD xs none (some (i : Int)) = xs.take i := by
  unfold cutD
  rw [show HT.sIx xs.length 0 none = 0 from rfl, HT.sIx_nat, List.drop_zero, Nat.sub_zero]
  rw [← List.take_eq_take_min]
theorem cutB_lst {S : Store} {xs : List D} {i : Nat} (h : xs.length ≤ sizeLine) : cutV false (.lst xs) none (some (i : Int)) S = .ok (.lst (xs.take i)) S := by
  show mkL false (cutD xs none (some (i : Int))) S = _
  rw [cut_take, mkL_val (Nat.le_trans (by rw [List.length_take]; exact Nat.min_le_right _ _) h)]
theorem exts_one : ∀ l : List (List Nat × Bool), exts l [[]] [[]] = l.map (·.1)
  | [] => rfl
  | p :: l => by
    show (if p.2 = true then [[]] else [[]]).map (p.1 ++ ·) ++ exts l [[]] [[]] = _
    rw [exts_one l]
    cases p.2 <;> simp
theorem some_side : ∀ (c : Cd) (t : Bool), ∃ p ∈ c.sides, p.2 = t
  | .leaf .., t => by
    cases t
    · exact ⟨([0], false), by simp [Cd.sides], rfl⟩
    · exact ⟨([1], true), by simp [Cd.sides], rfl⟩
  | .nt c, t => by
    obtain ⟨p, h1, h2⟩ := some_side c (!t)
    exact ⟨(p.1, !p.2), List.mem_map.mpr ⟨p, h1, rfl⟩, by rw [h2]; simp⟩
  | .jn w c d, t => by
    obtain ⟨a, ha, ea⟩ := some_side c (isAnd w)
    obtain ⟨b, hb, eb⟩ := some_side d t
    exact ⟨_, jn_yes ha ea hb, eb⟩
/-- each part is asked in some side -/
theorem some_asked : ∀ (c : Cd) (i : Nat), i < c.parts → ∃ p ∈ c.sides, p.1.getD i 2 < 2
  | .leaf .., i, h => by
    have : i = 0 := by simp [Cd.parts] at h; exact h
    subst this
    exact ⟨([0], false), by simp [Cd.sides], by decide⟩
  | .nt c, i, h => by
    obtain ⟨p, h1, h2⟩ := some_asked c i h
    exact ⟨(p.1, !p.2), List.mem_map.mpr ⟨p, h1, rfl⟩, h2⟩
  | .jn w c d, i, h => by
    simp only [Cd.parts] at h
    by_cases hc : i < c.parts
    · obtain ⟨a, ha, h2⟩ := some_asked c i hc
      have hl := sides_len c a ha
      by_cases e : a.2 = isAnd w
      · obtain ⟨b, hb, _⟩ := some_side d true
        exact ⟨_, jn_yes ha e hb, by rw [gD_app (by omega)]; exact h2⟩
      · exact ⟨_, jn_no ha e, by rw [gD_app (by omega)]; exact h2⟩
    · obtain ⟨a, ha, e⟩ := some_side c (isAnd w)
      obtain ⟨b, hb, h2⟩ := some_asked d (i - c.parts) (by omega)
      have hl := sides_len c a ha
      exact ⟨_, jn_yes ha e hb, by rw [gD_app2 (by omega), hl]; exact h2⟩
def Cd.rows (c : Cd) : List (List Nat) := c.sides.map (·.1)
theorem rows_of {c : Cd} {r : List Nat} (h : r ∈ c.rows) : r.length = c.parts ∧ ∀ x ∈ r, x ≤ 2 := by
  obtain ⟨p, hp, rfl⟩ := List.mem_map.mp h
  exact ⟨sides_len c p hp, sides_le c p hp⟩
def askd (i : Nat) (R : List (List Nat)) : List (List Nat) := R.filter fun r => decide (r.getD i 2 < 2)
def behd (i : Nat) (x : List Nat) (R : List (List Nat)) : List (List Nat) := R.filter fun z => z.take (i + 1) == x.take i ++ [0]
theorem worth_at (c : Cd) {i : Nat} {x : List Nat} (hi : i < c.parts) (hx : x ∈ askd i c.rows) : (behd i x (askd i c.rows)).length = (c.wl 1 1).getD i 0 := by
  obtain ⟨h1, h2⟩ := List.mem_filter.mp hx
  have h2 : x.getD i 2 < 2 := of_decide_eq_true h2
  have hr : c.ext [[]] [[]] = c.rows := exts_one c.sides
  have := cnt c [[]] [[]] x i (by rw [hr]; exact h1) hi h2
  rw [hr] at this
  rw [show (c.wl 1 1).getD i 0 = (c.wl [[]].length [[]].length).getD i 0 from rfl, ← this]
  unfold behd askd
  rw [← List.countP_eq_length_filter, List.countP_filter]
  refine List.countP_congr fun z hz => ?_
  have hlx := (rows_of h1).1
  simp only [Bool.and_eq_true, decide_eq_true_eq]
  refine ⟨fun h => h.1, fun h => ⟨h, ?_⟩⟩
  have h : z.take (i + 1) = x.take i ++ [0] := eq_of_beq h
  have hz2 : z.getD i 2 = (z.take (i + 1)).getD i 2 := by
    rw [List.getD_eq_getElem?_getD, List.getD_eq_getElem?_getD, List.getElem?_take, if_pos (by omega)]
  rw [hz2, h, gD_app2 (by rw [List.length_take]; omega), List.length_take, Nat.min_eq_left (by omega), Nat.sub_self]
  decide
def wwb : Ss := match tf_law_worths with
  | .cons _ (.cons (.for _ _ b) _) => b
  | _ => .nil
section
variable {G : Cfg} {n : Nat}
theorem ww_turn (c : Cd) (hp : c.parts ≤ 8) {i : Nat} (hi : i < c.parts) {S0 : Store} {acc : List D} (hz : acc.length < 1000) {a o4 o5 o6 : Option D} : ∃ p5 p6,
    Ev.Ss.ev (run G n) G wwb [some (.lst (c.rows.map rowL)), a, some (.ref S0.length), some (.int i), o4, o5, o6] (S0 ++ [.lst acc]) =
      .nx [some (.lst (c.rows.map rowL)), a, some (.ref S0.length), some (.int i), o4, p5, p6] (S0 ++ [.lst (acc ++ [wD ((c.wl 1 1).getD i 0)])]) := by
  obtain ⟨S, hS⟩ : ∃ S, S = S0 ++ [Ob.lst acc] := ⟨_, rfl⟩
  have hS1 : S[S0.length]? = some (.lst acc) := by rw [hS]; simp
  have hS2 : ∀ o, S.set S0.length o = S0 ++ [o] := fun o => by rw [hS]; simp
  rw [← hS]
  have hrl : c.rows.length ≤ 256 := by
    unfold Cd.rows
    rw [List.length_map, sides_tot]
    exact tot_small hp
  obtain ⟨x, X, hX⟩ : ∃ x X, askd i c.rows = x :: X := by
    cases h : askd i c.rows with
    | nil =>
      obtain ⟨p, h1, h2⟩ := some_asked c i hi
      have : p.1 ∈ askd i c.rows := List.mem_filter.mpr ⟨List.mem_map.mpr ⟨p, h1, rfl⟩, decide_eq_true h2⟩
      rw [h] at this
      cases this
    | cons x X => exact ⟨x, X, rfl⟩
  have hxm : x ∈ askd i c.rows := by rw [hX]; exact List.mem_cons_self
  have hw := worth_at c hi hxm
  have hxr := rows_of (List.mem_filter.mp hxm).1
  have hal : (askd i c.rows).length ≤ 256 := Nat.le_trans (List.length_filter_le _ _) hrl
  have hbl : (behd i x (askd i c.rows)).length ≤ 256 := Nat.le_trans (List.length_filter_le _ _) hal
  have lt : ∀ {r : List Nat}, r.length = c.parts → atI (r.map natD) (i : Int) = some (natD (r.getD i 2)) := fun {r} h => atN (by
    rw [List.getElem?_map, List.getElem?_eq_getElem (by omega), List.getD_eq_getElem?_getD, List.getElem?_eq_getElem (by omega)]
    rfl)
  have c1 : ∀ (u5 u6 : Option D), E.ev (run G n) G (.comp false [4] (.var 4) (.nm 4) (.seq (.var 0)) (.cons (.cmp .lt (.ix (.var 4) (.var 3)) (.con (.int 2))) (.nil))) [some (.lst (c.rows.map rowL)), a, some (.ref S0.length), some (.int i), o4, u5, u6] S = .ok (.lst ((askd i c.rows).map rowL)) S := fun u5 u6 => by
    rw [ev_e_comp]
    simp only [ev_i_seq, ev_e_var, List.getElem?_cons_succ, List.getElem?_cons_zero, bind_ok', seqI_lst, wipe_cons, wipe_nil, comp_def, List.set_cons_succ, List.set_cons_zero]
    rw [col_filterM (P := fun r => decide (r.getD i 2 < 2)) (g := rowL) fun r hr => ⟨_, rfl, by
      have := lt (rows_of hr).1
      simp [rowL, this, natD]
      norm_cast, fun _ => rfl⟩]
    rw [bind_ok', mkL_val (sz (by rw [List.length_map]; exact Nat.le_trans hal (by decide)))]
    rfl
  have c2 : ∀ (u4 : Option D), E.ev (run G n) G (.comp false [4] (.var 4) (.nm 4) (.seq (.var 5)) (.cons (.cmp .eq (.cutB false (.var 4) (.bin false .add (.var 3) (.con (.int 1)))) (.bin false .add (.var 6) (.lst false (.cons (.con (.int 0)) (.nil))))) (.nil))) [some (.lst (c.rows.map rowL)), a, some (.ref S0.length), some (.int i), u4, some (.lst ((askd i c.rows).map rowL)), some (rowL (x.take i))] S = .ok (.lst ((behd i x (askd i c.rows)).map rowL)) S := fun u4 => by
    rw [ev_e_comp]
    simp only [ev_i_seq, ev_e_var, List.getElem?_cons_succ, List.getElem?_cons_zero, bind_ok', seqI_lst, wipe_cons, wipe_nil, comp_def, List.set_cons_succ, List.set_cons_zero]
    rw [col_filterM (P := fun z => z.take (i + 1) == x.take i ++ [0]) (g := rowL) fun r hr => ⟨_, rfl, by
      have hrr := rows_of (List.mem_filter.mp hr).1
      have e1 := cutB_lst (S := S) (xs := r.map natD) (i := i + 1) (sz (by rw [List.length_map]; omega))
      have e2 := v_add_lst (S := S) (xs := (x.take i).map natD) (ys := [.int 0]) (sz (by simp; omega))
      have e3 := eq_rowL (a := r.take (i + 1)) (b := x.take i ++ [0]) (S := S) (fun y hy => by have := hrr.2 y (List.mem_of_mem_take hy); omega) (fun y hy => by
        rcases List.mem_append.mp hy with hy | hy
        · have := hxr.2 y (List.mem_of_mem_take hy); omega
        · have : y = 0 := by simpa using hy
          omega)
      have e4 : rowL (x.take i ++ [0]) = .lst ((x.take i).map natD ++ [.int 0]) := by simp [rowL, natD]
      rw [e4] at e3
      simp only [rowL, List.map_take] at e1 e2 e3 ⊢
      push_cast at e1
      simp [e1, e2, e3, sz], fun _ => rfl⟩]
    rw [bind_ok', mkL_val (sz (by rw [List.length_map]; exact Nat.le_trans hbl (by decide)))]
    rfl
  have e5 := ix_lst (S := S) (xs := (askd i c.rows).map rowL) (i := 0) (x := rowL x) (by rw [hX]; exact at0)
  have e6 := cutB_lst (S := S) (xs := x.map natD) (i := i) (sz (by rw [List.length_map]; omega))
  have hm := m_append (S := S) (x := wD ((c.wl 1 1).getD i 0)) hS1 (Nat.lt_of_lt_of_le hz (by decide))
  obtain ⟨ea, eea⟩ : ∃ ea : E, ea = .comp false [4] (.var 4) (.nm 4) (.seq (.var 0)) (.cons (.cmp .lt (.ix (.var 4) (.var 3)) (.con (.int 2))) (.nil)) := ⟨_, rfl⟩
  obtain ⟨eb, eeb⟩ : ∃ eb : E, eb = .comp false [4] (.var 4) (.nm 4) (.seq (.var 5)) (.cons (.cmp .eq (.cutB false (.var 4) (.bin false .add (.var 3) (.con (.int 1)))) (.bin false .add (.var 6) (.lst false (.cons (.con (.int 0)) (.nil))))) (.nil)) := ⟨_, rfl⟩
  have hb : wwb = .cons (.set 5 ea) (.cons (.set 6 (.cutB false (.ix (.var 5) (.con (.int 0))) (.var 3))) (.cons (.ex (.mth1 .append (.var 2) (.tup (.cons (.con (.int 0)) (.cons (.bf false .len eb) (.nil)))))) (.nil))) := by rw [eea, eeb]; rfl
  rw [← eea] at c1
  rw [← eeb] at c2
  refine ⟨some (.lst ((askd i c.rows).map rowL)), some (rowL (x.take i)), ?_⟩
  rw [hb, ← hS2]
  have hwD : wD ((c.wl 1 1).getD i 0) = .tup [.int 0, .int ((behd i x (askd i c.rows)).length : Nat)] := by rw [hw]; rfl
  rw [hwD] at hm ⊢
  have e7 : rowL (x.take i) = .lst ((x.map natD).take i) := by simp [rowL]
  rw [e7] at c2 ⊢
  have e8 : rowL x = .lst (x.map natD) := rfl
  rw [e8] at e5
  simp [c1, e5, e6, c2, hS1, sz, hm]
theorem ww_loop (c : Cd) (hp : c.parts ≤ 8) {S0 : Store} {a o4 : Option D} : ∀ (is : List Nat) (acc : List D) (o3 o5 o6 : Option D), (∀ i ∈ is, i < c.parts) → acc.length + is.length < 1000 → ∃ p3 p5 p6,
    forGo (.nm 3) none (fun env S => Ev.Ss.ev (run G n) G wwb env S) (is.map natD) [some (.lst (c.rows.map rowL)), a, some (.ref S0.length), o3, o4, o5, o6] (S0 ++ [.lst acc]) =
      .nx [some (.lst (c.rows.map rowL)), a, some (.ref S0.length), p3, o4, p5, p6] (S0 ++ [.lst (acc ++ is.map fun i => wD ((c.wl 1 1).getD i 0))])
  | [], acc, o3, o5, o6, _, _ => ⟨o3, o5, o6, by simp⟩
  | i :: is, acc, o3, o5, o6, hi, hz => by
    rw [List.length_cons] at hz
    obtain ⟨p5, p6, e1⟩ := ww_turn (G := G) (n := n) c hp (hi i List.mem_cons_self) (S0 := S0) (acc := acc) (by omega) (a := a) (o4 := o4) (o5 := o5) (o6 := o6)
    obtain ⟨q3, q5, q6, e2⟩ := ww_loop c hp (S0 := S0) (a := a) (o4 := o4) is (acc ++ [wD ((c.wl 1 1).getD i 0)]) (some (.int i)) p5 p6 (fun j hj => hi j (List.mem_cons_of_mem _ hj)) (by simp; omega)
    refine ⟨q3, q5, q6, ?_⟩
    rw [List.map_cons, for_step, show natD i = .int i from rfl, asg_nm]
    simp only [List.set_cons_succ, List.set_cons_zero]
    rw [e1]
    simp only
    rw [e2, List.map_cons, List.append_assoc]
    rfl
theorem law_worths (hG : G.fns[36]? = some f_law_worths) (c : Cd) {S : Store} (hp : c.parts ≤ 8) (hn : 1 ≤ n) : run G n 36 [.lst (c.rows.map rowL), .int c.parts] S = .ok (.lst ((c.wl 1 1).map wD)) S := by
  obtain ⟨p3, p5, p6, e⟩ := ww_loop (G := G) (n := n - 1) c hp (S0 := S) (a := some (.int c.parts)) (o4 := none) (List.range c.parts) [] none none none (fun i hi => List.mem_range.mp hi) (by simp; omega)
  obtain ⟨w, ew⟩ : ∃ w, w = wwb := ⟨_, rfl⟩
  rw [← ew] at e
  have hb : f_law_worths.body = .cons (.set 2 (.lst true (.nil))) (.cons (.for (.nm 3) (.rng (.cons (.var 1) (.nil))) w) (.cons (.ret (.var 2)) (.nil))) := by rw [ew]; rfl
  have hr := rngs1 (m := c.parts) (by omega)
  have hl : (List.range c.parts).map (fun i => wD ((c.wl 1 1).getD i 0)) = (c.wl 1 1).map wD := by
    have hlen := wl_len c 1 1
    rw [← hlen]
    refine List.ext_getElem? fun j => ?_
    rw [List.getElem?_map, List.getElem?_map]
    by_cases h : j < (c.wl 1 1).length
    · rw [List.getElem?_range h, List.getElem?_eq_getElem h]
      simp [h]
    · rw [List.getElem?_eq_none (by simp; omega), List.getElem?_eq_none (by omega)]
      rfl
  rw [List.nil_append, hl] at e
  have hf : finish true S (.rt (.ref S.length) (S ++ [.lst ((c.wl 1 1).map wD)])) = .ok (.lst ((c.wl 1 1).map wD)) S := finish_ref (by simp) (Nat.le_refl _) (by simp) (plains_w _)
  rw [run_at (by omega) hG rfl, hb]
  simp [f_law_worths, sz, hr, e, hf]
end
end Ev


namespace Ev
open PySem PySem.Spec L2
/-! ### the law's drawing, walks over cells: for all laws of conditions -/
theorem cell_at' {G : Cfg} (hG : G.fns[0]? = some f_law_cell_at) {n : Nat} {ns : List Int} {S : Store} (hn : 1 ≤ n) : ∃ a, run G n 0 [.scr ns, .int 0] S = .ok (.int a) S := by
  rw [run_at hn hG rfl]
  cases ns with
  | nil => exact ⟨0, by simp [f_law_cell_at, tf_law_cell_at]⟩
  | cons a r =>
    refine ⟨a, ?_⟩
    have e : ixV (.scr (a :: r)) (.int 0) S = .ok (.int a) S := by
      show (match atI (a :: r) 0 with | some n => R.ok (D.int n) S | none => .stuck) = _
      simp [atI, ixN]
    simp [f_law_cell_at, tf_law_cell_at, e]
theorem cost_small {d : Nat} (h : d ≤ 7) : cost d + 2 ≤ 2 ^ 20 := by
  have : d = 0 ∨ d = 1 ∨ d = 2 ∨ d = 3 ∨ d = 4 ∨ d = 5 ∨ d = 6 ∨ d = 7 := by omega
  rcases this with rfl | rfl | rfl | rfl | rfl | rfl | rfl | rfl <;> decide +kernel
/-- a condition of at most m parts, at most d levels, by a state -/
theorem drawn_at {G : Cfg} (hG : HasDraw G) {n l : Nat} {S : Store} {st : List D} {B : Nat} (m d : Nat) (hn : 20 ≤ n) (h : S[l]? = some (.lst st)) (hs : stOk B st) (hB : B + 2 ^ 20 < 2 ^ 300) (hm : 1 ≤ m ∧ m ≤ 8) (hd : 1 ≤ d ∧ d ≤ 8) :
    ∃ (c : Cd) (st1 st2 st3 : List D) (r1 r2 : Int), run G n 1 [.ref l, .int m] S = .ok (.int r1) (S.set l (.lst st1)) ∧ run G n 1 [.ref l, .int d] (S.set l (.lst st1)) = .ok (.int r2) (S.set l (.lst st2)) ∧
    run G n 2 [.ref l, .int (1 + r1), .int (1 + r2)] (S.set l (.lst st2)) = .ok c.toD (S.set l (.lst st3)) ∧ c.ok ∧ c.parts ≤ m ∧ c.deep ≤ d ∧ stOk (B + 2 ^ 20) st3 := by
  have hl : l < S.length := (List.getElem?_eq_some_iff.mp h).1
  have hw : ∀ st : List D, (S.set l (.lst st))[l]? = some (.lst st) := fun st => List.getElem?_set_self hl
  obtain ⟨r1, st1, e1, h1, h2, s1⟩ := digit_at (n := n) (base := (m : Int)) (by omega) hG.dg h hs (by omega) (by omega)
  obtain ⟨r2, st2, e2, h3, h4, s2⟩ := digit_at (n := n) (base := (d : Int)) (by omega) hG.dg (hw st1) s1 (by omega) (by omega)
  rw [set_same] at e2
  obtain ⟨k, hk⟩ : ∃ k : Nat, r2 = k := ⟨r2.toNat, by omega⟩
  have hc := cost_small (d := k) (by omega)
  obtain ⟨c, st3, e3, k1, k2, k3, s3⟩ := grown hG k n l (S.set l (.lst st2)) st2 _ (1 + r1) (by omega) (hw st2) s2 (by omega) (by omega) (by omega)
  rw [set_same] at e3
  refine ⟨c, st1, st2, st3, r1, r2, e1, e2, ?_, k1, by omega, by omega, s3.mono (by omega)⟩
  rw [hk, Int.add_comm 1 (k : Int)]
  exact e3
/-- a condition by a new state -/
theorem drawn_new {G : Cfg} (hG : HasDraw G) {n : Nat} {S : Store} {a : Int} (m d : Nat) (hn : 20 ≤ n) (hm : 1 ≤ m ∧ m ≤ 8) (hd : 1 ≤ d ∧ d ≤ 8) :
    ∃ (c : Cd) (st1 st2 st3 : List D) (r1 r2 : Int), run G n 1 [.ref S.length, .int m] (S ++ [.lst [.int a]]) = .ok (.int r1) (S ++ [.lst st1]) ∧ run G n 1 [.ref S.length, .int d] (S ++ [.lst st1]) = .ok (.int r2) (S ++ [.lst st2]) ∧
    run G n 2 [.ref S.length, .int (1 + r1), .int (1 + r2)] (S ++ [.lst st2]) = .ok c.toD (S ++ [.lst st3]) ∧ c.ok ∧ c.parts ≤ m ∧ c.deep ≤ d ∧ stOk (2 ^ 20) st3 := by
  have hs : ∀ st st' : List D, (S ++ [Ob.lst st]).set S.length (.lst st') = S ++ [.lst st'] := fun st st' => by simp
  obtain ⟨c, st1, st2, st3, r1, r2, e1, e2, e3, k1, k2, k3, k4⟩ := drawn_at hG m d hn (l := S.length) (S := S ++ [.lst [.int a]]) (st := [.int a]) (B := 0) (by simp) (.inl ⟨a, rfl⟩) (by decide) hm hd
  rw [hs] at e1 e2 e3
  rw [hs] at e2 e3
  exact ⟨c, st1, st2, st3, r1, r2, e1, e2, e3, k1, k2, k3, by simpa using k4⟩
section
variable {S : Store} {t : Ev.T} {env : Env} {okf : Env → Store → R Bool} {evf : Env → Store → R D} {g : Option (Nat × List D)}
theorem gOk_ref {l : Nat} {xs : List D} (h : S[l]? = some (.lst xs)) : gOk (some (l, xs)) S = true := decide_eq_true h
theorem seqI_ref {l : Nat} {xs : List D} (h : S[l]? = some (.lst xs)) : seqItems S (.ref l) = some ⟨xs, some (l, xs)⟩ := by
  unfold seqItems
  simp only [h]
/-- a comprehension over a list that stays -/
theorem col_filterG {α : Type} {f h : α → D} {P : α → Bool} (hg : gOk g S = true) : ∀ {xs : List α}, (∀ x ∈ xs, ∃ env1, t.asg (f x) env = some env1 ∧ okf env1 S = .ok (P x) S ∧ (P x = true → evf env1 S = .ok (h x) S)) →
    colGo t g (step1 okf evf) env (xs.map f) S = .ok ((xs.filter P).map h) S
  | [], _ => by rw [List.map_nil, colGo, if_pos hg]; rfl
  | x :: xs, q => by
    obtain ⟨env1, h1, h2, h3⟩ := q x List.mem_cons_self
    have ih := col_filterG (h := h) (P := P) (f := f) hg fun y hy => q y (List.mem_cons_of_mem _ hy)
    have hs : step1 okf evf env1 S = .ok (if P x = true then [h x] else []) S := by
      unfold step1
      rw [h2]
      cases hp : P x with
      | true => simp only [h3 hp, if_true]
      | false => simp only [Bool.false_eq_true, if_false]
    rw [List.map_cons, colGo, if_pos hg, h1]
    simp only [hs, ih, List.filter_cons]
    cases P x <;> rfl
/-- all items of a list that stays, each told otherwise -/
theorem col_mapG {α : Type} {f h : α → D} {xs : List α} (hg : gOk g S = true) (q : ∀ x ∈ xs, ∃ env1, t.asg (f x) env = some env1 ∧ evf env1 S = .ok (h x) S) :
    colGo t g (step1 (fun _ S => .ok true S) evf) env (xs.map f) S = .ok (xs.map h) S := by
  rw [col_filterG (P := fun _ => true) (h := h) hg fun x hx => by
    obtain ⟨env1, h1, h2⟩ := q x hx
    exact ⟨env1, h1, rfl, fun _ => h2⟩]
  rw [List.filter_eq_self.mpr fun _ _ => rfl]
theorem for_stepG {body : Env → Store → SR} {x : D} {xs : List D} {env1 : Env} (hg : gOk g S = true) (h1 : t.asg x env = some env1) : forGo t g body (x :: xs) env S = match body env1 S with
      | .nx e S1 => forGo t g body xs e S1
      | .ct e S1 => forGo t g body xs e S1
      | .bk e S1 => .nx e S1
      | .rt d S1 => .rt d S1
      | .exc x e S1 => .exc x e S1
      | .stuck => .stuck := by
  rw [forGo, if_pos hg, h1] <;> rfl
theorem for_nilG {body : Env → Store → SR} (hg : gOk g S = true) : forGo t g body [] env S = .nx env S := by
  rw [forGo, if_pos hg]
end
/-- a loop that adds to a list at the store's end -/
theorem for_acc {α : Type} {t : Ev.T} {body : Env → Store → SR} {f h : α → D} {Inv : Env → Prop} {S0 : Store} {B : Nat} : ∀ {xs : List α},
    (∀ x ∈ xs, ∀ env acc, Inv env → acc.length < B → ∃ env1 env2, t.asg (f x) env = some env1 ∧ body env1 (S0 ++ [.lst acc]) = .nx env2 (S0 ++ [.lst (acc ++ [h x])]) ∧ Inv env2) →
    ∀ env acc, Inv env → acc.length + xs.length ≤ B → ∃ env', forGo t none body (xs.map f) env (S0 ++ [.lst acc]) = .nx env' (S0 ++ [.lst (acc ++ xs.map h)]) ∧ Inv env'
  | [], _, env, acc, hi, _ => ⟨env, by rw [List.map_nil, List.map_nil, List.append_nil]; rfl, hi⟩
  | x :: xs, q, env, acc, hi, hz => by
    rw [List.length_cons] at hz
    obtain ⟨env1, env2, h1, h2, h3⟩ := q x List.mem_cons_self env acc hi (by omega)
    obtain ⟨env', h4, h5⟩ := for_acc (fun y hy => q y (List.mem_cons_of_mem _ hy)) env2 (acc ++ [h x]) h3 (by rw [List.length_append, List.length_singleton]; omega)
    refine ⟨env', ?_, h5⟩
    rw [List.map_cons, for_step, h1]
    simp only [h2, h4, List.map_cons, List.append_assoc, List.singleton_append]
/-- a loop that leaves the store -/
theorem for_same {α : Type} {t : Ev.T} {body : Env → Store → SR} {f : α → D} {Inv : Env → Prop} {S : Store} {g : Option (Nat × List D)} (hg : gOk g S = true) : ∀ {xs : List α},
    (∀ x ∈ xs, ∀ env, Inv env → ∃ env1 env2, t.asg (f x) env = some env1 ∧ body env1 S = .nx env2 S ∧ Inv env2) →
    ∀ env, Inv env → ∃ env', forGo t g body (xs.map f) env S = .nx env' S ∧ Inv env'
  | [], _, env, hi => ⟨env, for_nilG hg, hi⟩
  | x :: xs, q, env, hi => by
    obtain ⟨env1, env2, h1, h2, h3⟩ := q x List.mem_cons_self env hi
    obtain ⟨env', h4, h5⟩ := for_same hg (fun y hy => q y (List.mem_cons_of_mem _ hy)) env2 h3
    refine ⟨env', ?_, h5⟩
    rw [List.map_cons, for_stepG hg h1]
    simp only [h2, h4]
/-- the law's loop over its numbers: each turn ends by itself -/
theorem turns {body : Env → Store → SR} {s : D} {m : Nat} (turn : ∀ (a : Int) (rest : List (Option D)) (S : Store), rest.length = m → ∃ rest' S', body (some s :: some (.int a) :: rest) S = .nx (some s :: some (.int a) :: rest') S' ∧ rest'.length = m) :
    ∀ (as : List Int) (o : Option D) (rest : List (Option D)) (S : Store), rest.length = m → ∃ o' rest' S', forGo (.nm 1) none body (as.map .int) (some s :: o :: rest) S = .nx (some s :: o' :: rest') S' ∧ rest'.length = m
  | [], o, rest, S, h => ⟨o, rest, S, rfl, h⟩
  | a :: as, o, rest, S, h => by
    obtain ⟨r1, S1, e1, h1⟩ := turn a rest S h
    obtain ⟨o2, r2, S2, e2, h2⟩ := turns turn as (some (.int a)) r1 S1 h1
    refine ⟨o2, r2, S2, ?_, h2⟩
    rw [List.map_cons, for_step, asg_nm]
    simp only [List.set_cons_succ, List.set_cons_zero]
    rw [e1]
    exact e2
theorem cut_small {ns : List Int} (hl : ns.length ≤ 63) {a b : Option Int} : (cutD ns a b).length ≤ 63 := by
  unfold cutD
  rw [List.length_take, List.length_drop]
  omega
theorem num_sum : ∀ (r w : List Nat), r.length = w.length → (((List.range r.length).filter fun k => decide (r.getD k 0 = 1)).map fun k => w.getD k 0).sum = num r w
  | [], [], _ => rfl
  | x :: r, v :: w, h => by
    have ih := num_sum r w (by simpa using h)
    rw [List.length_cons, List.range_succ_eq_map, List.filter_cons, num, ← ih]
    have e : (((List.range r.length).map Nat.succ).filter fun k => decide ((x :: r).getD k 0 = 1)).map (fun k => (v :: w).getD k 0) = ((List.range r.length).filter fun k => decide (r.getD k 0 = 1)).map fun k => w.getD k 0 := by
      rw [List.filter_map, List.map_map]
      rfl
    by_cases hx : x = 1
    · subst hx
      simp only [List.getD_cons_zero, decide_true, if_true, List.map_cons, List.sum_cons, e]
    · simp only [List.getD_cons_zero, hx, decide_false, if_false, Bool.false_eq_true, e]
      omega
theorem intsOf_nat : ∀ l : List Nat, intsOf (l.map natD) = some (l.map fun x : Nat => (x : Int))
  | [] => rfl
  | x :: l => by
    show (intsOf (l.map natD)).map ((x : Int) :: ·) = _
    rw [intsOf_nat l]
    rfl
theorem sum_nat {new : Bool} {S : Store} {l : List Nat} : bfV new .sum (.lst (l.map natD)) S = .ok (.int (l.sum : Nat)) S := by
  have e : ∀ l : List Nat, (l.map fun x : Nat => (x : Int)).sum = (l.sum : Nat) := fun l => by
    induction l with
    | nil => rfl
    | cons x l ih => rw [List.map_cons, List.sum_cons, List.sum_cons, ih]; push_cast; rfl
  rw [sum_lst (intsOf_nat l), e]
end Ev


namespace Ev
open PySem PySem.Spec L2
def tfis_held : Ss := (.cons (.ex (.call 6 (.cons (.var 0) (.nil)))) (.cons (.ex (.call 43 (.cons (.var 1) (.nil)))) (.cons (.ret (.call 44 (.cons (.var 0) (.cons (.var 1) (.nil))))) (.nil))))
def fis_held : Fn := ⟨2, 2, true, tfis_held⟩
def tfasked_parts : Ss := (.cons (.ex (.call 6 (.cons (.var 0) (.nil)))) (.cons (.ex (.call 43 (.cons (.var 1) (.nil)))) (.cons (.set 2 (.call 7 (.cons (.var 0) (.nil)))) (.cons (.set 3 (.call 12 (.cons (.var 0) (.nil)))) (.cons (.set 4 (.bin true .mul (.lst false (.cons (.glb 8) (.nil))) (.bf false .len (.var 2)))) (.cons (.set 5 (.con (.int 0))) (.cons (.whl (.cmp .ge (.var 5) (.con (.int 0))) (.cons (.put (.var 4) (.var 5) (.bf false .int (.call 45 (.cons (.ix (.var 2) (.var 5)) (.cons (.var 1) (.nil)))))) (.cons (.set 5 (.ix (.ix (.var 3) (.var 5)) (.ix (.var 4) (.var 5)))) (.nil)))) (.cons (.ret (.bf false .tuple (.var 4))) (.nil)))))))))
def fasked_parts : Fn := ⟨2, 6, true, tfasked_parts⟩
def tfvalues_unless : Ss := (.cons (.ite (.nt (.call 46 (.cons (.var 0) (.nil)))) (.cons (.rse 3) (.nil)) (.nil)) (.nil))
def fvalues_unless : Fn := ⟨1, 1, true, tfvalues_unless⟩
def tfheld_at : Ss := (.cons (.set 2 (.ix (.var 0) (.con (.int 0)))) (.cons (.ite (.cmp .isin (.var 2) (.glb 2)) (.cons (.ret (.call 45 (.cons (.var 0) (.cons (.var 1) (.nil))))) (.nil)) (.nil)) (.cons (.ite (.cmp .eq (.var 2) (.con (.str "not"))) (.cons (.ret (.nt (.call 44 (.cons (.ix (.var 0) (.con (.int 1))) (.cons (.var 1) (.nil)))))) (.nil)) (.nil)) (.cons (.ite (.cmp .eq (.var 2) (.con (.str "and"))) (.cons (.ret (.and (.call 44 (.cons (.ix (.var 0) (.con (.int 1))) (.cons (.var 1) (.nil)))) (.call 44 (.cons (.ix (.var 0) (.con (.int 2))) (.cons (.var 1) (.nil)))))) (.nil)) (.nil)) (.cons (.ret (.or (.call 44 (.cons (.ix (.var 0) (.con (.int 1))) (.cons (.var 1) (.nil)))) (.call 44 (.cons (.ix (.var 0) (.con (.int 2))) (.cons (.var 1) (.nil)))))) (.nil))))))
def fheld_at : Fn := ⟨2, 3, true, tfheld_at⟩
def tfpart_holds : Ss := (.cons (.asg (.tp (.cons (.nm 2) (.cons (.nm 3) (.cons (.nm 4) (.nil))))) (.var 0)) (.cons (.ite (.cmp .eq (.var 2) (.con (.str "="))) (.cons (.ret (.cmp .eq (.call 47 (.cons (.var 3) (.cons (.var 1) (.nil)))) (.call 47 (.cons (.var 4) (.cons (.var 1) (.nil)))))) (.nil)) (.nil)) (.cons (.ret (.cmp .lt (.call 47 (.cons (.var 3) (.cons (.var 1) (.nil)))) (.call 47 (.cons (.var 4) (.cons (.var 1) (.nil)))))) (.nil))))
def fpart_holds : Fn := ⟨2, 5, true, tfpart_holds⟩
def tfare_values : Ss := (.cons (.ite (.or (.nt (.isi (.var 0) .tuple)) (.cmp .ne (.bf false .len (.var 0)) (.bf false .len (.glb 4)))) (.cons (.ret (.con (.bl false))) (.nil)) (.nil)) (.cons (.ret (.bf false .all (.comp false [1] (.call 16 (.cons (.var 1) (.cons (.con (.int 0)) (.cons (.bin false .sub (.bf false .len (.glb 5)) (.con (.int 1))) (.nil))))) (.nm 1) (.seq (.var 0)) (.nil)))) (.nil)))
def fare_values : Fn := ⟨1, 2, true, tfare_values⟩
def tfword_worth : Ss := (.cons (.ex (.call 43 (.cons (.var 1) (.nil)))) (.cons (.ite (.cmp .isin (.var 0) (.glb 4)) (.cons (.ret (.ix (.var 1) (.mth1 .sindex (.glb 4) (.var 0)))) (.nil)) (.nil)) (.cons (.ret (.mth1 .sindex (.glb 5) (.var 0))) (.nil))))
def fword_worth : Fn := ⟨2, 2, true, tfword_worth⟩
/-! ### values; what is asked of a condition -/
structure HasAsk (G : Cfg) : Prop extends HasThr G where
  ih : G.fns[41]? = some fis_held
  ap : G.fns[42]? = some fasked_parts
  vu : G.fns[43]? = some fvalues_unless
  ha : G.fns[44]? = some fheld_at
  ph : G.fns[45]? = some fpart_holds
  av : G.fns[46]? = some fare_values
  ww : G.fns[47]? = some fword_worth
/-- the number of a sign -/
def wv (v : Nat × Nat × Nat) (c : Nat) : Nat := if c = 97 then v.1 else if c = 98 then v.2.1 else if c = 99 then v.2.2 else c - 48
def wvS (v : Nat × Nat × Nat) (z : Str) : Nat := wv v (z.cps.toList.headD 0)
def Cd.bit (v : Nat × Nat × Nat) : Str → Str → Str → Bool := fun s a b => if s = ("=" : Str) then decide (wvS v a = wvS v b) else decide (wvS v a < wvS v b)
def Cd.ask (v : Nat × Nat × Nat) : Cd → List Nat × Bool
  | .leaf s a b => ([if Cd.bit v s a b = true then 1 else 0], Cd.bit v s a b)
  | .nt c => ((c.ask v).1, !(c.ask v).2)
  | .jn w c d => if (c.ask v).2 = isAnd w then ((c.ask v).1 ++ (d.ask v).1, (d.ask v).2) else ((c.ask v).1 ++ List.replicate d.parts 2, (c.ask v).2)
theorem ask_side (v : Nat × Nat × Nat) : ∀ c : Cd, c.ask v ∈ c.sides
  | .leaf s a b => by
    show _ ∈ [([0], false), ([1], true)]
    simp only [Cd.ask]
    cases Cd.bit v s a b <;> simp
  | .nt c => List.mem_map.mpr ⟨_, ask_side v c, rfl⟩
  | .jn w c d => by
    simp only [Cd.ask]
    by_cases e : (c.ask v).2 = isAnd w
    · rw [if_pos e]
      exact jn_yes (ask_side v c) e (ask_side v d)
    · rw [if_neg e]
      exact jn_no (ask_side v c) e
def vD (v : Nat × Nat × Nat) : D := .tup [.int v.1, .int v.2.1, .int v.2.2]
def vOk (v : Nat × Nat × Nat) : Prop := v.1 < 4 ∧ v.2.1 < 4 ∧ v.2.2 < 4
section
variable {G : Cfg} {n : Nat} {S : Store} {v : Nat × Nat × Nat}
theorem are_values (hG : HasAsk G) (hn : 2 ≤ n) (hv : vOk v) : run G n 46 [vD v] S = .ok (.bl true) S := by
  obtain ⟨h1, h2, h3⟩ := hv
  have w := fun (k : Nat) (hk : k < 4) => is_whole hG.toHasKn (n := n - 1) (S := S) (i := k) (a := 0) (b := 3) (by omega)
  have w' : ∀ k : Nat, k < 4 → run G (n - 1) 16 [.int k, .int 0, .int 3] S = .ok (.bl true) S := fun k hk => by
    rw [w k hk]
    have z1 : (0 : Int) ≤ k := by omega
    have z2 : (k : Int) ≤ 3 := by omega
    simp [z1, z2]
  have l3 : Str.length "abc" = 3 := by decide +kernel
  have l4 : Str.length "0123" = 4 := by decide +kernel
  have hb := fun new => all_bl (new := new) (S := S) (bs := [true, true, true])
  have hb' : bfV false .all (.lst [.bl true, .bl true, .bl true]) S = .ok (.bl true) S := hb false
  rw [run_at (by omega) hG.av rfl]
  simp [fare_values, tfare_values, vD, hG.pl, hG.nu, sz, l3, l4, w' _ h1, w' _ h2, w' _ h3, hb']
theorem values_unless (hG : HasAsk G) (hn : 3 ≤ n) (hv : vOk v) : run G n 43 [vD v] S = .ok .non S := by
  have := are_values hG (n := n - 1) (S := S) (by omega) hv
  rw [run_at (by omega) hG.vu rfl]
  simp [fvalues_unless, tfvalues_unless, this]
theorem word_worth (hG : HasAsk G) (hn : 4 ≤ n) (hv : vOk v) {c : Nat} (hc : c ∈ wordC) : run G n 47 [.str ⟨#[c]⟩, vD v] S = .ok (.int (wv v c : Nat)) S := by
  have hu := values_unless hG (n := n - 1) (S := S) (by omega) hv
  have hc : c ∈ [97, 98, 99, 48, 49, 50, 51] := hc
  have hb : fword_worth.body = .cons (.ex (.call 43 (.cons (.var 1) (.nil)))) (.cons (.ite (.cmp .isin (.var 0) (.glb 4)) (.cons (.ret (.ix (.var 1) (.mth1 .sindex (.glb 4) (.var 0)))) (.nil)) (.nil)) (.cons (.ret (.mth1 .sindex (.glb 5) (.var 0))) (.nil))) := rfl
  rw [run_at (by omega) hG.ww rfl, hb]
  have inn : ∀ c, cmpV .isin (.str ⟨#[c]⟩) (.str "abc") S = .ok (.bl (decide (c ∈ [97, 98, 99]))) S := fun c => rfl
  have ixa : ∀ (z : Str) (i : Nat) (r : List Nat), Builtin.Str.occurrences "abc" z 0 (Str.length "abc") 1 = i :: r → mthV .sindex (.str "abc") [.str z] S = .ok (.int i) S := fun z i r e => by
    show (match Builtin.Str.occurrences "abc" z 0 (Str.length "abc") 1 with | i :: _ => R.ok (D.int (i : Nat)) S | [] => .stuck) = _
    rw [e]
  have ixn : ∀ (z : Str) (i : Nat) (r : List Nat), Builtin.Str.occurrences "0123" z 0 (Str.length "0123") 1 = i :: r → mthV .sindex (.str "0123") [.str z] S = .ok (.int i) S := fun z i r e => by
    show (match Builtin.Str.occurrences "0123" z 0 (Str.length "0123") 1 with | i :: _ => R.ok (D.int (i : Nat)) S | [] => .stuck) = _
    rw [e]
  simp at hc
  rcases hc with rfl | rfl | rfl | rfl | rfl | rfl | rfl
  · have i1 := ixa ⟨#[97]⟩ 0 [] (by decide +kernel)
    simp only [vD] at hu ⊢
    simp [fword_worth, hu, hG.pl, hG.nu, inn, i1, wv]
  · have i1 := ixa ⟨#[98]⟩ 1 [] (by decide +kernel)
    simp only [vD] at hu ⊢
    simp [fword_worth, hu, hG.pl, hG.nu, inn, i1, wv]
  · have i1 := ixa ⟨#[99]⟩ 2 [] (by decide +kernel)
    simp only [vD] at hu ⊢
    simp [fword_worth, hu, hG.pl, hG.nu, inn, i1, wv]
  · have i1 := ixn ⟨#[48]⟩ 0 [] (by decide +kernel)
    simp only [vD] at hu ⊢
    simp [fword_worth, hu, hG.pl, hG.nu, inn, i1, wv]
  · have i1 := ixn ⟨#[49]⟩ 1 [] (by decide +kernel)
    simp only [vD] at hu ⊢
    simp [fword_worth, hu, hG.pl, hG.nu, inn, i1, wv]
  · have i1 := ixn ⟨#[50]⟩ 2 [] (by decide +kernel)
    simp only [vD] at hu ⊢
    simp [fword_worth, hu, hG.pl, hG.nu, inn, i1, wv]
  · have i1 := ixn ⟨#[51]⟩ 3 [] (by decide +kernel)
    simp only [vD] at hu ⊢
    simp [fword_worth, hu, hG.pl, hG.nu, inn, i1, wv]
theorem part_holds (hG : HasAsk G) (hn : 5 ≤ n) (hv : vOk v) {s a b : Str} (h : (Cd.leaf s a b).ok) : run G n 45 [(Cd.leaf s a b).toD, vD v] S = .ok (.bl (Cd.bit v s a b)) S := by
  obtain ⟨h1, ⟨x, h2, rfl⟩, y, h3, rfl⟩ := h
  have w1 := word_worth hG (n := n - 1) (S := S) (by omega) hv h2
  have w2 := word_worth hG (n := n - 1) (S := S) (by omega) hv h3
  have e1 : wvS v ⟨#[x]⟩ = wv v x := rfl
  have e2 : wvS v ⟨#[y]⟩ = wv v y := rfl
  rw [run_at (by omega) hG.ph rfl]
  simp only [Cd.toD, Cd.bit, e1, e2]
  by_cases hs : s = ("=" : Str)
  · have : ((wv v x : Nat) : Int) = (wv v y : Nat) ↔ wv v x = wv v y := by omega
    simp [fpart_holds, tfpart_holds, eq_true hs, w1, w2, this]
  · have : ((wv v x : Nat) : Int) < (wv v y : Nat) ↔ wv v x < wv v y := by omega
    simp [fpart_holds, tfpart_holds, hs, w1, w2, this]
theorem held_at (hG : HasAsk G) (hv : vOk v) : ∀ (c : Cd) (n : Nat) (S : Store), c.ok → c.deep + 5 ≤ n → run G n 44 [c.toD, vD v] S = .ok (.bl (c.ask v).2) S
  | .leaf s a b, n, S, h, hn => by
    simp only [Cd.deep] at hn
    have hs := signs_ne h.1
    have hp := part_holds hG (n := n - 1) (S := S) (by omega) hv h
    rw [run_at (by omega) hG.ha rfl]
    simp only [Cd.toD] at hp ⊢
    simp [fheld_at, tfheld_at, hG.sg, hs, hp, Cd.ask]
  | .nt c, n, S, h, hn => by
    simp only [Cd.deep] at hn
    have ih := held_at hG hv c (n - 1) S h (by omega)
    have n1 : (("=" : Str) == ("not" : Str)) = false := rfl
    have n2 : (("<" : Str) == ("not" : Str)) = false := rfl
    rw [run_at (by omega) hG.ha rfl]
    simp only [Cd.toD]
    simp [fheld_at, tfheld_at, hG.sg, n1, n2, ih, Cd.ask]
  | .jn w c d, n, S, h, hn => by
    simp only [Cd.deep] at hn
    obtain ⟨h1, h2, h3⟩ := h
    have ih := held_at hG hv c (n - 1) S h2 (by omega)
    have ih2 := held_at hG hv d (n - 1) S h3 (by omega)
    obtain ⟨n1, n2, n3⟩ := joins_ne h1
    rw [run_at (by omega) hG.ha rfl]
    simp only [Cd.toD, Cd.ask]
    by_cases hw : w = ("and" : Str)
    · have e : isAnd w = true := decide_eq_true hw
      rw [e]
      cases ht : (c.ask v).2
      · simp [fheld_at, tfheld_at, hG.sg, n1, n3, eq_true hw, ih, ih2, ht]
      · simp [fheld_at, tfheld_at, hG.sg, n1, n3, eq_true hw, ih, ih2, ht]
    · have e : isAnd w = false := decide_eq_false hw
      rw [e]
      cases ht : (c.ask v).2
      · simp [fheld_at, tfheld_at, hG.sg, n1, n3, hw, ih, ih2, ht]
      · simp [fheld_at, tfheld_at, hG.sg, n1, n3, hw, ih, ih2, ht]
theorem is_held (hG : HasAsk G) (hv : vOk v) {c : Cd} (h : c.ok) (hd : c.deep ≤ 8) (hp : c.parts ≤ 8) (hn : c.deep + 10 ≤ n) : run G n 41 [c.toD, vD v] S = .ok (.bl (c.ask v).2) S := by
  have e1 := cond_unless hG.toHasCond (n := n - 1) (S := S) h hd hp (by omega)
  have e2 := values_unless hG (n := n - 1) (S := S) (by omega) hv
  have e3 := held_at hG hv c (n - 1) S h (by omega)
  rw [run_at (by omega) hG.ih rfl]
  simp [fis_held, tfis_held, e1, e2, e3]
/-! ### the parts asked, walked -/
def abody : Ss := match tfasked_parts with
  | .cons _ (.cons _ (.cons _ (.cons _ (.cons _ (.cons _ (.cons (.whl _ b) _)))))) => b
  | _ => .nil
def atest : E := .cmp .ge (.var 5) (.con (.int 0))
end
section
variable {G : Cfg} {n : Nat} {S0 : Store} {K : List (Int × Int)} {P : List Cd} {v : Nat × Nat × Nat} {o : Option D}
def aenv (o : Option D) (v : Nat × Nat × Nat) (K : List (Int × Int)) (P : List Cd) (l : Nat) (a : Int) : Env := [o, some (vD v), some (.lst (P.map Cd.toD)), some (knD K), some (.ref l), some (.int a)]
def aW (G : Cfg) (n : Nat) (fuel : Nat) (env : Env) (S : Store) : SR := whlGo (fun env S => E.tst (run G n) G atest env S) (fun env S => Ev.Ss.ev (run G n) G abody env S) fuel env S
def AGo (G : Cfg) (n : Nat) (S0 : Store) (o : Option D) (v : Nat × Nat × Nat) (K : List (Int × Int)) (P : List Cd) (a : Int) (f : List Nat) (a' : Int) (f' : List Nat) (m : Nat) : Prop :=
  ∀ fuel, aW G n (m + fuel) (aenv o v K P S0.length a) (S0 ++ [.lst (f.map natD)]) = aW G n fuel (aenv o v K P S0.length a') (S0 ++ [.lst (f'.map natD)])
theorem AGo.trans {a f a' f' m a'' f'' m'} (h1 : AGo G n S0 o v K P a f a' f' m) (h2 : AGo G n S0 o v K P a' f' a'' f'' m') : AGo G n S0 o v K P a f a'' f'' (m + m') := fun fuel => by
  rw [Nat.add_assoc, h1, h2]
theorem a_turn (hG : HasAsk G) (hn : 5 ≤ n) (hv : vOk v) {p : Nat} {kn : Int × Int} {f : List Nat} {s a b : Str} (hK : K[p]? = some kn) (hP : P[p]? = some (.leaf s a b)) (h : (Cd.leaf s a b).ok) (hf : p < f.length) :
    Ev.Ss.ev (run G n) G abody (aenv o v K P S0.length p) (S0 ++ [.lst (f.map natD)]) = .nx (aenv o v K P S0.length (if Cd.bit v s a b = true then kn.2 else kn.1)) (S0 ++ [.lst ((f.set p (if Cd.bit v s a b = true then 1 else 0)).map natD)]) := by
  have e1 : atI (K.map pairD) (p : Int) = some (pairD kn) := atN (by rw [List.getElem?_map, hK]; rfl)
  have e2 : atI (P.map Cd.toD) (p : Int) = some (Cd.leaf s a b).toD := atN (by rw [List.getElem?_map, hP]; rfl)
  have e3 : ∀ b : Int, atI ((f.map natD).set p (.int b)) (p : Int) = some (.int b) := fun b => atN (List.getElem?_set_self (by rw [List.length_map]; exact hf))
  have e4 : ixN f.length (p : Int) = some p := ixN_nat hf
  have e5 := part_holds hG (n := n) (S := S0 ++ [.lst (f.map natD)]) hn hv h
  simp only [aenv]
  cases c : Cd.bit v s a b
  · rw [c] at e5
    have e3' := e3 0
    have hs : (f.map natD).set p (.int 0) = (f.set p 0).map natD := by rw [List.map_set]; rfl
    simp [abody, tfasked_parts, knD, e1, e2, e4, pairD, e3', e5, natD]
  · rw [c] at e5
    have e3' := e3 1
    have hs : (f.map natD).set p (.int 1) = (f.set p 1).map natD := by rw [List.map_set]; rfl
    simp [abody, tfasked_parts, knD, e1, e2, e4, pairD, e3', e5, natD]
theorem a_step (hG : HasAsk G) (hn : 5 ≤ n) (hv : vOk v) {p : Nat} {kn : Int × Int} {f : List Nat} {s a b : Str} (hK : K[p]? = some kn) (hP : P[p]? = some (.leaf s a b)) (h : (Cd.leaf s a b).ok) (hf : p < f.length) :
    AGo G n S0 o v K P p f (if Cd.bit v s a b = true then kn.2 else kn.1) (f.set p (if Cd.bit v s a b = true then 1 else 0)) 1 := fun fuel => by
  have ge : (0 : Int) ≤ (p : Int) := by omega
  have ht : E.tst (run G n) G atest (aenv o v K P S0.length p) (S0 ++ [.lst (f.map natD)]) = .ok true (S0 ++ [.lst (f.map natD)]) := by simp [aenv, atest, ge]
  rw [Nat.add_comm, aW, whlGo, ht]
  simp only [st_ok, if_true, a_turn hG hn hv hK hP h hf]
  rfl
theorem a_block (hG : HasAsk G) (hn : 5 ≤ n) (hv : vOk v) : ∀ (c : Cd) (p : Nat) (y no : Int) (KA KB : List (Int × Int)) (PA PB : List Cd) (A B : List Nat) (r : List Nat) (t : Bool), c.ok → K = KA ++ (c.laid p y no ++ KB) → KA.length = p → P = PA ++ (c.leaves ++ PB) → PA.length = p → A.length = p → c.ask v = (r, t) →
    ∃ m, m ≤ c.parts ∧ AGo G n S0 o v K P p (A ++ (List.replicate c.parts 2 ++ B)) (if t = true then y else no) (A ++ (r ++ B)) m
  | .leaf s a b, p, y, no, KA, KB, PA, PB, A, B, r, t, h, hK, hKA, hP, hPA, hA, hd => by
    refine ⟨1, Nat.le_refl _, ?_⟩
    have hK' : K[p]? = some (no, y) := by rw [hK]; exact get_mid hKA
    have hP' : P[p]? = some (.leaf s a b) := by rw [hP]; exact get_mid hPA
    have := a_step (G := G) (n := n) (S0 := S0) (o := o) (f := A ++ 2 :: B) hG hn hv hK' hP' h (by simp; omega)
    rw [set_mid hA] at this
    simp only [Cd.ask] at hd
    cases hd
    exact this
  | .nt c, p, y, no, KA, KB, PA, PB, A, B, r, t, h, hK, hKA, hP, hPA, hA, hd => by
    obtain ⟨r1, t1, hr⟩ : ∃ r1 t1, c.ask v = (r1, t1) := ⟨_, _, rfl⟩
    simp only [Cd.ask, hr] at hd
    cases hd
    obtain ⟨m, h1, h2⟩ := a_block hG hn hv c p no y KA KB PA PB A B r t1 h hK hKA hP hPA hA hr
    refine ⟨m, h1, ?_⟩
    cases t1 <;> exact h2
  | .jn w c d, p, y, no, KA, KB, PA, PB, A, B, r, t, h, hK, hKA, hP, hPA, hA, hd => by
    have hK1 : K = KA ++ (c.laid p (if isAnd w then p + c.parts else y) (if isAnd w then no else p + c.parts) ++ (d.laid ((p + c.parts : Nat) : Int) y no ++ KB)) := by
      rw [hK, Cd.laid]
      push_cast
      cases h : isAnd w <;> simp
    have hP1 : P = PA ++ (c.leaves ++ (d.leaves ++ PB)) := by rw [hP, Cd.leaves, List.append_assoc]
    have hf : A ++ (List.replicate (Cd.jn w c d).parts 2 ++ B) = A ++ (List.replicate c.parts 2 ++ (List.replicate d.parts 2 ++ B)) := by
      rw [Cd.parts, ← List.replicate_append_replicate, List.append_assoc]
    obtain ⟨r1, t1, hr⟩ : ∃ r1 t1, c.ask v = (r1, t1) := ⟨_, _, rfl⟩
    obtain ⟨r2, t2, hr2⟩ : ∃ r2 t2, d.ask v = (r2, t2) := ⟨_, _, rfl⟩
    obtain ⟨m1, h1, g1⟩ := a_block hG hn hv c p _ _ KA _ PA _ A (List.replicate d.parts 2 ++ B) r1 t1 h.2.1 hK1 hKA hP1 hPA hA hr
    rw [hf]
    simp only [Cd.ask, hr, hr2] at hd
    have hl := sides_len c _ (ask_side v c)
    rw [hr] at hl
    simp only at hl
    by_cases e : t1 = isAnd w
    · have eb : (if t1 = true then (if isAnd w = true then ((p : Int) + (c.parts : Int)) else y) else (if isAnd w = true then no else ((p : Int) + (c.parts : Int)))) = ((p + c.parts : Nat) : Int) := by
        push_cast
        cases h : isAnd w <;> simp_all
      rw [eb] at g1
      rw [if_pos e] at hd
      cases hd
      have hl2 := laid_len c p (if isAnd w then p + c.parts else y) (if isAnd w then no else p + c.parts)
      have hl3 := leaves_len c
      obtain ⟨m2, h2, g2⟩ := a_block hG hn hv d (p + c.parts) y no (KA ++ c.laid p (if isAnd w then p + c.parts else y) (if isAnd w then no else p + c.parts)) KB (PA ++ c.leaves) PB (A ++ r1) B _ _ h.2.2
        (by rw [List.append_assoc]; exact hK1) (by rw [List.length_append, hl2, hKA]) (by rw [List.append_assoc]; exact hP1) (by rw [List.length_append, hl3, hPA]) (by rw [List.length_append, hl, hA]) hr2
      refine ⟨m1 + m2, by simp only [Cd.parts]; omega, ?_⟩
      have e1 : A ++ r1 ++ (List.replicate d.parts 2 ++ B) = A ++ (r1 ++ (List.replicate d.parts 2 ++ B)) := List.append_assoc _ _ _
      have e2 : ∀ z, A ++ r1 ++ (z ++ B) = A ++ ((r1 ++ z) ++ B) := fun z => by simp only [List.append_assoc]
      rw [e1, e2] at g2
      exact g1.trans g2
    · have eb : (if t1 = true then (if isAnd w = true then ((p : Int) + (c.parts : Int)) else y) else (if isAnd w = true then no else ((p : Int) + (c.parts : Int)))) = (if t1 = true then y else no) := by
        cases h : isAnd w <;> cases t1 <;> simp_all
      rw [eb] at g1
      rw [if_neg e] at hd
      cases hd
      refine ⟨m1, by simp only [Cd.parts]; omega, ?_⟩
      rw [List.append_assoc r1]
      exact g1
end
theorem asked_parts {G : Cfg} (hG : HasAsk G) {n : Nat} {S : Store} {v : Nat × Nat × Nat} (hv : vOk v) (c : Cd) (h : c.ok) (hd : c.deep ≤ 8) (hp : c.parts ≤ 8) (hn : c.deep + 10 ≤ n) : run G n 42 [c.toD, vD v] S = .ok (rowT (c.ask v).1) S := by
  have e1 := cond_unless hG.toHasCond (n := n - 1) (S := S) h hd hp (by omega)
  have e2 := values_unless hG (n := n - 1) (S := S) (by omega) hv
  have e3 := parts_in hG.toHasPin c (n - 1) S h (by omega) (by omega)
  have e4 := knots_of hG.toHasKn (n := n - 1) (S := S) h (by omega) (by omega)
  have hll := leaves_len c
  have hr := v_rep (S := S) (d := .int 2) (k := c.parts) (by omega)
  obtain ⟨m, h1, h2⟩ := a_block (G := G) (n := n - 1) (S0 := S) (K := c.laid 0 (-1) (-2)) (P := c.leaves) (o := some c.toD) hG (by omega) hv c 0 (-1) (-2) [] [] [] [] [] [] _ _ h (by simp) rfl (by simp) rfl rfl rfl
  obtain ⟨f, hf⟩ : ∃ f, G.lim = m + (f + 1) := ⟨G.lim - m - 1, by have := hG.lim; omega⟩
  have h3 := h2 (f + 1)
  rw [← hf] at h3
  simp only [List.nil_append, List.append_nil, aenv, knD, List.map_replicate] at h3
  have h4 : ∀ (a : Int) (S' : Store), a < 0 → aW G (n - 1) (f + 1) [some c.toD, some (vD v), some (.lst (c.leaves.map Cd.toD)), some (D.lst ((c.laid 0 (-1) (-2)).map pairD)), some (D.ref S.length), some (D.int a)] S' = .nx [some c.toD, some (vD v), some (.lst (c.leaves.map Cd.toD)), some (D.lst ((c.laid 0 (-1) (-2)).map pairD)), some (D.ref S.length), some (D.int a)] S' := fun a S' ha => by
    rw [aW, whlGo]
    have : ¬ (0 : Int) ≤ a := by omega
    simp [atest, this]
  rw [h4 _ _ (by split <;> omega)] at h3
  have hwl : Ev.St.ev (run G (n - 1)) G (.whl atest abody) [some c.toD, some (vD v), some (.lst (c.leaves.map Cd.toD)), some (D.lst ((c.laid 0 (-1) (-2)).map pairD)), some (D.ref S.length), some (D.int 0)] (S ++ [.lst (List.replicate c.parts (.int 2))]) = _ := h3
  have hfin : finish true S (.rt (.tup ((c.ask v).1.map natD)) (S ++ [.lst ((c.ask v).1.map natD)])) = .ok (.tup ((c.ask v).1.map natD)) S := finish_pure (by simp) (frz_plain (plains_nat _))
  have hrl : (c.ask v).1.length = c.parts := sides_len c _ (ask_side v c)
  have htp : bfV false .tuple (.ref S.length) (S ++ [.lst ((c.ask v).1.map natD)]) = .ok (.tup ((c.ask v).1.map natD)) (S ++ [.lst ((c.ask v).1.map natD)]) := by
    show (match lstOf (S ++ [.lst ((c.ask v).1.map natD)]) (.ref S.length) with | some xs => mkT xs _ | none => .stuck) = _
    rw [lstOf_ref' (xs := (c.ask v).1.map natD) (by simp)]
    exact mkT_val (sz (by rw [List.length_map]; omega))
  obtain ⟨w, ew⟩ : ∃ w, w = St.whl atest abody := ⟨_, rfl⟩
  have hb : fasked_parts.body = .cons (.ex (.call 6 (.cons (.var 0) (.nil)))) (.cons (.ex (.call 43 (.cons (.var 1) (.nil)))) (.cons (.set 2 (.call 7 (.cons (.var 0) (.nil)))) (.cons (.set 3 (.call 12 (.cons (.var 0) (.nil)))) (.cons (.set 4 (.bin true .mul (.lst false (.cons (.glb 8) (.nil))) (.bf false .len (.var 2)))) (.cons (.set 5 (.con (.int 0))) (.cons w (.cons (.ret (.bf false .tuple (.var 4))) (.nil)))))))) := by rw [ew]; rfl
  rw [run_at (by omega) hG.ap rfl, hb]
  rw [← ew] at hwl
  simp only [knD] at e4
  simp [fasked_parts, e1, e2, e3, e4, sz, hll, hr, hG.nota, hwl, htp, hfin]
  rfl
end Ev


namespace Ev
open PySem PySem.Spec L2
def tf_law_worth : Ss := (.cons (.ite (.cmp .isin (.var 0) (.con (.str "abc"))) (.cons (.ret (.ix (.var 1) (.mth1 .sindex (.con (.str "abc")) (.var 0)))) (.nil)) (.nil)) (.cons (.ret (.bf false .int (.var 0))) (.nil)))
def f_law_worth : Fn := ⟨2, 2, true, tf_law_worth⟩
def tf_law_true : Ss := (.cons (.set 2 (.ix (.var 0) (.con (.int 0)))) (.cons (.ite (.cmp .eq (.var 2) (.con (.str "not"))) (.cons (.ret (.nt (.call 50 (.cons (.ix (.var 0) (.con (.int 1))) (.cons (.var 1) (.nil)))))) (.nil)) (.nil)) (.cons (.ite (.cmp .eq (.var 2) (.con (.str "and"))) (.cons (.ret (.and (.call 50 (.cons (.ix (.var 0) (.con (.int 1))) (.cons (.var 1) (.nil)))) (.call 50 (.cons (.ix (.var 0) (.con (.int 2))) (.cons (.var 1) (.nil)))))) (.nil)) (.nil)) (.cons (.ite (.cmp .eq (.var 2) (.con (.str "or"))) (.cons (.ret (.or (.call 50 (.cons (.ix (.var 0) (.con (.int 1))) (.cons (.var 1) (.nil)))) (.call 50 (.cons (.ix (.var 0) (.con (.int 2))) (.cons (.var 1) (.nil)))))) (.nil)) (.nil)) (.cons (.ite (.cmp .eq (.var 2) (.con (.str "="))) (.cons (.ret (.cmp .eq (.call 48 (.cons (.ix (.var 0) (.con (.int 1))) (.cons (.var 1) (.nil)))) (.call 48 (.cons (.ix (.var 0) (.con (.int 2))) (.cons (.var 1) (.nil)))))) (.nil)) (.nil)) (.cons (.ret (.cmp .lt (.call 48 (.cons (.ix (.var 0) (.con (.int 1))) (.cons (.var 1) (.nil)))) (.call 48 (.cons (.ix (.var 0) (.con (.int 2))) (.cons (.var 1) (.nil)))))) (.nil)))))))
def f_law_true : Fn := ⟨2, 3, true, tf_law_true⟩
def tf_law_answers : Ss := (.cons (.set 2 (.ix (.var 0) (.con (.int 0)))) (.cons (.ite (.cmp .isin (.var 2) (.tup (.cons (.con (.str "=")) (.cons (.con (.str "<")) (.nil))))) (.cons (.ret (.lst false (.cons (.bf false .int (.call 50 (.cons (.var 0) (.cons (.var 1) (.nil))))) (.nil)))) (.nil)) (.nil)) (.cons (.set 3 (.call 49 (.cons (.ix (.var 0) (.con (.int 1))) (.cons (.var 1) (.nil))))) (.cons (.ite (.cmp .eq (.var 2) (.con (.str "not"))) (.cons (.ret (.var 3)) (.nil)) (.nil)) (.cons (.ite (.cmp .eq (.call 50 (.cons (.ix (.var 0) (.con (.int 1))) (.cons (.var 1) (.nil)))) (.cmp .eq (.var 2) (.con (.str "and")))) (.cons (.ret (.bin false .add (.var 3) (.call 49 (.cons (.ix (.var 0) (.con (.int 2))) (.cons (.var 1) (.nil)))))) (.nil)) (.nil)) (.cons (.ret (.bin false .add (.var 3) (.bin false .mul (.lst false (.cons (.con (.int 2)) (.nil))) (.bf false .len (.call 31 (.cons (.ix (.var 0) (.con (.int 2))) (.nil))))))) (.nil)))))))
def f_law_answers : Fn := ⟨2, 4, true, tf_law_answers⟩
/-! ### the law's own reading of conditions (k12, k76, k77) -/
structure HasOwn (G : Cfg) : Prop where
  olp : G.fns[31]? = some f_law_parts
  olw : G.fns[48]? = some f_law_worth
  ola : G.fns[49]? = some f_law_answers
  olt : G.fns[50]? = some f_law_true
section
variable {G : Cfg} {v : Nat × Nat × Nat}
theorem own_worth (hG : HasOwn G) {n : Nat} {S : Store} (hn : 1 ≤ n) {c : Nat} (hc : c ∈ wordC) : run G n 48 [.str ⟨#[c]⟩, vD v] S = .ok (.int (wv v c : Nat)) S := by
  have hc : c ∈ [97, 98, 99, 48, 49, 50, 51] := hc
  rw [run_at (by omega) hG.olw rfl]
  have inn : ∀ c, cmpV .isin (.str ⟨#[c]⟩) (.str "abc") S = .ok (.bl (decide (c ∈ [97, 98, 99]))) S := fun c => rfl
  have ixa : ∀ (z : Str) (i : Nat) (r : List Nat), Builtin.Str.occurrences "abc" z 0 (Str.length "abc") 1 = i :: r → mthV .sindex (.str "abc") [.str z] S = .ok (.int i) S := fun z i r e => by
    show (match Builtin.Str.occurrences "abc" z 0 (Str.length "abc") 1 with | i :: _ => R.ok (D.int (i : Nat)) S | [] => .stuck) = _
    rw [e]
  have int1 : ∀ (c : Nat) (i : Int), PySem.intText? ⟨#[c]⟩ = some i → bfV false .int (.str ⟨#[c]⟩) S = .ok (.int i) S := fun c i e => by
    show (match PySem.intText? ⟨#[c]⟩ with | some n => if decide ((Str.length ⟨#[c]⟩) ≤ 640) then R.ok (D.int n) S else .stuck | none => .stuck) = _
    rw [e]
    rfl
  simp only [vD]
  simp at hc
  rcases hc with rfl | rfl | rfl | rfl | rfl | rfl | rfl
  · have i1 := ixa ⟨#[97]⟩ 0 [] (by decide +kernel)
    simp [f_law_worth, tf_law_worth, inn, i1, wv]
  · have i1 := ixa ⟨#[98]⟩ 1 [] (by decide +kernel)
    simp [f_law_worth, tf_law_worth, inn, i1, wv]
  · have i1 := ixa ⟨#[99]⟩ 2 [] (by decide +kernel)
    simp [f_law_worth, tf_law_worth, inn, i1, wv]
  · have i1 := int1 48 0 (by decide +kernel)
    simp [f_law_worth, tf_law_worth, inn, i1, wv]
  · have i1 := int1 49 1 (by decide +kernel)
    simp [f_law_worth, tf_law_worth, inn, i1, wv]
  · have i1 := int1 50 2 (by decide +kernel)
    simp [f_law_worth, tf_law_worth, inn, i1, wv]
  · have i1 := int1 51 3 (by decide +kernel)
    simp [f_law_worth, tf_law_worth, inn, i1, wv]
theorem own_parts (hG : HasOwn G) : ∀ (c : Cd) (n : Nat) (S : Store), c.ok → c.parts ≤ 1000 → c.deep ≤ n → run G n 31 [c.toD] S = .ok (.lst (c.leaves.map Cd.toD)) S
  | .leaf s a b, n, S, h, hp, hn => by
    simp only [Cd.deep] at hn
    have hs := signs_ne h.1
    rw [run_at (by omega) hG.olp rfl]
    have hf : finish true S (.rt (.lst [.tup [.str s, .str a, .str b]]) S) = .ok (.lst [.tup [.str s, .str a, .str b]]) S := finish_here rfl
    simp [f_law_parts, tf_law_parts, hs, Cd.leaves, Cd.toD, sz, hf]
  | .nt c, n, S, h, hp, hn => by
    simp only [Cd.deep] at hn
    simp only [Cd.parts] at hp
    have ih := own_parts hG c (n - 1) S h hp (by omega)
    have hl := leaves_len c
    have hd := deep_pos c
    rw [run_at (by omega) hG.olp rfl]
    have n1 : (("=" : Str) == ("not" : Str)) = false := rfl
    have n2 : (("<" : Str) == ("not" : Str)) = false := rfl
    have hf : finish true S (.rt (.lst (c.leaves.map Cd.toD)) S) = .ok (.lst (c.leaves.map Cd.toD)) S := finish_here (plain_map _)
    have ha := v_add_lst (S := S) (xs := []) (ys := c.leaves.map Cd.toD) (sz (by simp; omega))
    simp at ha
    simp only [Cd.toD]
    simp [f_law_parts, tf_law_parts, n1, n2, Cd.leaves, sz, ih, hf, ha]
  | .jn w c d, n, S, h, hp, hn => by
    simp only [Cd.deep] at hn
    simp only [Cd.parts] at hp
    obtain ⟨h1, h2, h3⟩ := h
    have ih := own_parts hG c (n - 1) S h2 (by omega) (by omega)
    have ih2 := own_parts hG d (n - 1) S h3 (by omega) (by omega)
    have hl := leaves_len c
    have hl2 := leaves_len d
    have hd := deep_pos c
    obtain ⟨n1, _, _⟩ := joins_ne h1
    rw [run_at (by omega) hG.olp rfl]
    have hf : finish true S (.rt (.lst (c.leaves.map Cd.toD ++ d.leaves.map Cd.toD)) S) = .ok (.lst (c.leaves.map Cd.toD ++ d.leaves.map Cd.toD)) S := finish_here (by
      rw [← List.map_append]
      exact plain_map _)
    have ha := v_add_lst (S := S) (xs := []) (ys := c.leaves.map Cd.toD) (sz (by simp; omega))
    have ha2 := v_add_lst (S := S) (xs := c.leaves.map Cd.toD) (ys := d.leaves.map Cd.toD) (sz (by simp; omega))
    simp at ha ha2
    simp only [Cd.toD]
    simp [f_law_parts, tf_law_parts, n1, Cd.leaves, sz, ih, ih2, hf, ha, ha2]
theorem own_true (hG : HasOwn G) : ∀ (c : Cd) (n : Nat) (S : Store), c.ok → c.deep + 1 ≤ n → run G n 50 [c.toD, vD v] S = .ok (.bl (c.ask v).2) S
  | .leaf s a b, n, S, h, hn => by
    simp only [Cd.deep] at hn
    obtain ⟨h1, ⟨x, h2, rfl⟩, y, h3, rfl⟩ := h
    have w1 := own_worth (v := v) hG (n := n - 1) (S := S) (by omega) h2
    have w2 := own_worth (v := v) hG (n := n - 1) (S := S) (by omega) h3
    have e1 : wvS v ⟨#[x]⟩ = wv v x := rfl
    have e2 : wvS v ⟨#[y]⟩ = wv v y := rfl
    rw [run_at (by omega) hG.olt rfl]
    simp only [Cd.toD, Cd.ask, Cd.bit, e1, e2]
    have k1 : s ≠ ("not" : Str) ∧ s ≠ ("and" : Str) ∧ s ≠ ("or" : Str) := by
      simp [signs] at h1
      rcases h1 with rfl | rfl <;> decide +kernel
    by_cases hs : s = ("=" : Str)
    · have : ((wv v x : Nat) : Int) = (wv v y : Nat) ↔ wv v x = wv v y := by omega
      simp [f_law_true, tf_law_true, eq_true hs, k1.1, k1.2.1, k1.2.2, w1, w2, this]
    · have : ((wv v x : Nat) : Int) < (wv v y : Nat) ↔ wv v x < wv v y := by omega
      simp [f_law_true, tf_law_true, hs, k1.1, k1.2.1, k1.2.2, w1, w2, this]
  | .nt c, n, S, h, hn => by
    simp only [Cd.deep] at hn
    have ih := own_true hG c (n - 1) S h (by omega)
    rw [run_at (by omega) hG.olt rfl]
    simp only [Cd.toD]
    simp [f_law_true, tf_law_true, ih, Cd.ask]
  | .jn w c d, n, S, h, hn => by
    simp only [Cd.deep] at hn
    obtain ⟨h1, h2, h3⟩ := h
    have ih := own_true hG c (n - 1) S h2 (by omega)
    have ih2 := own_true hG d (n - 1) S h3 (by omega)
    obtain ⟨n1, n2, n3⟩ := joins_ne h1
    rw [run_at (by omega) hG.olt rfl]
    simp only [Cd.toD, Cd.ask]
    by_cases hw : w = ("and" : Str)
    · have e : isAnd w = true := decide_eq_true hw
      rw [e]
      cases ht : (c.ask v).2
      · simp [f_law_true, tf_law_true, n3, eq_true hw, ih, ih2, ht]
      · simp [f_law_true, tf_law_true, n3, eq_true hw, ih, ih2, ht]
    · have e : isAnd w = false := decide_eq_false hw
      have ho : w = ("or" : Str) := by
        simp [joins] at h1
        exact h1.resolve_left hw
      rw [e]
      cases ht : (c.ask v).2
      · simp [f_law_true, tf_law_true, n3, hw, eq_true ho, ih, ih2, ht]
      · simp [f_law_true, tf_law_true, n3, hw, eq_true ho, ih, ih2, ht]
theorem v_repL {S : Store} {d : D} {k : Nat} (h : k ≤ 1000) : binV false .mul (.lst [d]) (.int k) S = .ok (.lst (List.replicate k d)) S := by
  have hd : decide (-(2 ^ 63) ≤ (k : Int) ∧ (k : Int) < 2 ^ 63 ∧ [d].length * k ≤ sizeLine) = true := decide_eq_true ⟨by omega, by omega, by simp; exact sz (by omega)⟩
  have hm : mkL false (List.replicate k d) S = .ok (.lst (List.replicate k d)) S := mkL_val (by rw [List.length_replicate]; exact sz (by omega))
  simp only [binV, lstOf_lst', hd, if_true, Int.toNat_natCast, flat_rep, hm]
theorem own_answers (hG : HasOwn G) : ∀ (c : Cd) (n : Nat) (S : Store), c.ok → c.parts ≤ 900 → c.deep + 2 ≤ n → run G n 49 [c.toD, vD v] S = .ok (rowL (c.ask v).1) S
  | .leaf s a b, n, S, h, hp, hn => by
    simp only [Cd.deep] at hn
    have hs := signs_ne h.1
    have ht := own_true (v := v) hG (.leaf s a b) (n - 1) S h (by simp only [Cd.deep]; omega)
    rw [run_at (by omega) hG.ola rfl]
    simp only [Cd.toD] at ht ⊢
    have hf : ∀ i : Int, finish true S (.rt (.lst [.int i]) S) = .ok (.lst [.int i]) S := fun i => finish_here rfl
    cases e : Cd.bit v s a b
    · simp [Cd.ask, e] at ht
      simp [f_law_answers, tf_law_answers, hs, ht, Cd.ask, e, sz, rowL, natD, hf]
    · simp [Cd.ask, e] at ht
      simp [f_law_answers, tf_law_answers, hs, ht, Cd.ask, e, sz, rowL, natD, hf]
  | .nt c, n, S, h, hp, hn => by
    simp only [Cd.deep] at hn
    simp only [Cd.parts] at hp
    have ih := own_answers hG c (n - 1) S h hp (by omega)
    have n1 : (("=" : Str) == ("not" : Str)) = false := rfl
    have n2 : (("<" : Str) == ("not" : Str)) = false := rfl
    have hf : finish true S (.rt (rowL (c.ask v).1) S) = .ok (rowL (c.ask v).1) S := finish_here (rowL_plain _)
    rw [run_at (by omega) hG.ola rfl]
    simp only [Cd.toD]
    simp [f_law_answers, tf_law_answers, n1, n2, ih, Cd.ask, hf, sz]
  | .jn w c d, n, S, h, hp, hn => by
    simp only [Cd.deep] at hn
    simp only [Cd.parts] at hp
    obtain ⟨h1, h2, h3⟩ := h
    have ih := own_answers hG c (n - 1) S h2 (by omega) (by omega)
    have ih2 := own_answers hG d (n - 1) S h3 (by omega) (by omega)
    have t1 := own_true (v := v) hG c (n - 1) S h2 (by omega)
    have pp := own_parts hG d (n - 1) S h3 (by omega) (by omega)
    have hl2 := leaves_len d
    have l1 := sides_len c _ (ask_side v c)
    have l2 := sides_len d _ (ask_side v d)
    have hr := v_repL (S := S) (d := .int 2) (k := d.parts) (by omega)
    have a1 := v_add_lst (S := S) (xs := (c.ask v).1.map natD) (ys := (d.ask v).1.map natD) (sz (by simp; omega))
    have a2 := v_add_lst (S := S) (xs := (c.ask v).1.map natD) (ys := List.replicate d.parts (.int 2)) (sz (by simp; omega))
    obtain ⟨n1, n2, n3⟩ := joins_ne h1
    have hand : decide (w = ("and" : Str)) = isAnd w := rfl
    rw [run_at (by omega) hG.ola rfl]
    simp only [Cd.toD, Cd.ask]
    by_cases e : (c.ask v).2 = isAnd w
    · have hf : finish true S (.rt (rowL ((c.ask v).1 ++ (d.ask v).1)) S) = .ok (rowL ((c.ask v).1 ++ (d.ask v).1)) S := finish_here (rowL_plain _)
      rw [if_pos e]
      simp only [rowL, List.map_append] at ih ih2 hf ⊢
      simp [f_law_answers, tf_law_answers, n1, n3, ih, ih2, t1, hand, eq_true e, a1, hf, sz]
    · have hf : finish true S (.rt (rowL ((c.ask v).1 ++ List.replicate d.parts 2)) S) = .ok (rowL ((c.ask v).1 ++ List.replicate d.parts 2)) S := finish_here (rowL_plain _)
      have en : natD 2 = .int 2 := rfl
      rw [if_neg e]
      simp only [rowL, List.map_append, List.map_replicate, en] at ih ih2 hf ⊢
      simp [f_law_answers, tf_law_answers, n1, n3, ih, ih2, t1, hand, eq_false e, pp, hl2, hr, a2, hf, sz]
end
end Ev


namespace Ev
open PySem PySem.Spec L2
/-! ### sorted of two lists of the same things -/
theorem leD_trans {a b c : D} (h1 : leD a b = true) (h2 : leD b c = true) : leD a c = true := by
  have h1 : (!PySem.W.dataLt b.pd a.pd) = true := h1
  have h2 : (!PySem.W.dataLt c.pd b.pd) = true := h2
  show (!PySem.W.dataLt c.pd a.pd) = true
  rw [Bool.not_eq_true'] at h1 h2 ⊢
  cases h : PySem.W.dataLt c.pd a.pd with
  | false => rfl
  | true =>
    rcases PyProof.Rows.lex_negTrans _ (PySem.W.keyToks b.pd) _ h with h' | h'
    · exact absurd (show PySem.W.dataLt c.pd b.pd = true from h') (by rw [h2]; decide)
    · exact absurd (show PySem.W.dataLt b.pd a.pd = true from h') (by rw [h1]; decide)
theorem leD_total (a b : D) : (leD a b || leD b a) = true := by
  show (!PySem.W.dataLt b.pd a.pd || !PySem.W.dataLt a.pd b.pd) = true
  cases h : PySem.W.dataLt b.pd a.pd with
  | false => rfl
  | true =>
    cases h2 : PySem.W.dataLt a.pd b.pd with
    | false => rfl
    | true =>
      have := PyProof.Rows.lex_trans _ _ _ h h2
      rw [PyProof.Rows.lex_irrefl] at this
      cases this
theorem sort_perm {xs ys : List D} (h : xs.Perm ys) (inj : ∀ a ∈ xs, ∀ b ∈ xs, PySem.W.keyToks a.pd = PySem.W.keyToks b.pd → a = b) : xs.mergeSort leD = ys.mergeSort leD := by
  refine List.Perm.eq_of_pairwise (le := fun a b => leD a b = true) (fun a b ha hb h1 h2 => ?_) (List.pairwise_mergeSort (le := leD) (fun a b c => leD_trans) leD_total xs) (List.pairwise_mergeSort (le := leD) (fun a b c => leD_trans) leD_total ys) ((List.mergeSort_perm _ _).trans (h.trans (List.mergeSort_perm _ _).symm))
  have ha : a ∈ xs := List.mem_mergeSort.mp ha
  have hb : b ∈ xs := h.symm.subset (List.mem_mergeSort.mp hb)
  have h1 : (!PySem.W.dataLt b.pd a.pd) = true := h1
  have h2 : (!PySem.W.dataLt a.pd b.pd) = true := h2
  rw [Bool.not_eq_true'] at h1 h2
  exact inj a ha b hb (PyProof.Rows.lex_total _ _ h2 h1)
theorem toks_row : ∀ (a b : List Nat) (u w : List (Int ⊕ List Nat)), PySem.W.keyToksAll (D.pds (a.map natD)) ++ u = PySem.W.keyToksAll (D.pds (b.map natD)) ++ w → a = b ∧ u = w
  | [], [], u, w, h => ⟨rfl, (List.cons.inj h).2⟩
  | [], y :: b, u, w, h => by
    have h : Sum.inl (0 : Int) :: u = Sum.inl (1 : Int) :: (PySem.W.keyToks (natD y).pd ++ PySem.W.keyToksAll (D.pds (b.map natD)) ++ w) := by
      rw [List.append_assoc]
      exact h
    have := Sum.inl.inj (List.cons.inj h).1
    omega
  | x :: a, [], u, w, h => by
    have h : Sum.inl (1 : Int) :: (PySem.W.keyToks (natD x).pd ++ PySem.W.keyToksAll (D.pds (a.map natD)) ++ u) = Sum.inl (0 : Int) :: w := by
      rw [List.append_assoc]
      exact h
    have := Sum.inl.inj (List.cons.inj h).1
    omega
  | x :: a, y :: b, u, w, h => by
    have h : Sum.inl (1 : Int) :: (Sum.inl (x : Int) :: (PySem.W.keyToksAll (D.pds (a.map natD)) ++ u)) = Sum.inl (1 : Int) :: (Sum.inl (y : Int) :: (PySem.W.keyToksAll (D.pds (b.map natD)) ++ w)) := h
    have h2 := (List.cons.inj h).2
    have h3 := Sum.inl.inj (List.cons.inj h2).1
    obtain ⟨i1, i2⟩ := toks_row a b u w (List.cons.inj h2).2
    have : x = y := by omega
    rw [this, i1]
    exact ⟨rfl, i2⟩
theorem toks_th {p q : List Nat × Bool} (h : PySem.W.keyToks (thD p).pd = PySem.W.keyToks (thD q).pd) : thD p = thD q := by
  have h : Sum.inl (1 : Int) :: (PySem.W.keyToksAll (D.pds (p.1.map natD)) ++ [Sum.inl 1, Sum.inl (if p.2 = true then 1 else 0), Sum.inl 0]) = Sum.inl (1 : Int) :: (PySem.W.keyToksAll (D.pds (q.1.map natD)) ++ [Sum.inl 1, Sum.inl (if q.2 = true then 1 else 0), Sum.inl 0]) := h
  obtain ⟨h1, h2⟩ := toks_row _ _ _ _ (List.cons.inj h).2
  have h3 := (List.cons.inj h2).2
  have h4 := Sum.inl.inj (List.cons.inj h3).1
  have h5 : p.2 = q.2 := by
    cases hp : p.2 <;> cases hq : q.2 <;> simp [hp, hq] at h4 <;> rfl
  unfold thD
  rw [h1, h5]
theorem alike_th (p q : List Nat × Bool) : PySem.W.alike (thD p).pd (thD q).pd = true := by
  show (PySem.W.alikeAll (D.pds (p.1.map natD)) (D.pds (q.1.map natD)) && (true && true)) = true
  rw [alike_nat']
  rfl
where alike_nat' : ∀ a b : List Nat, PySem.W.alikeAll (D.pds (a.map natD)) (D.pds (b.map natD)) = true
  | [], _ => by cases ‹List Nat› <;> rfl
  | _ :: _, [] => rfl
  | x :: a, y :: b => by
    show (true && PySem.W.alikeAll (D.pds (a.map natD)) (D.pds (b.map natD))) = true
    rw [alike_nat' a b]
    rfl
theorem okd_th {p : List Nat × Bool} (h : p.1.length ≤ 8) (h2 : ∀ x ∈ p.1, x ≤ 2) : Okd 110 2 (thD p) := by
  have hr : Okd 100 1 (rowT p.1) := (okd_row (r := p.1) fun x hx => by have := h2 x hx; omega).tup.mono (by omega) (by omega)
  exact ((Okds.cons hr (Okds.cons (Okd.bl.mono (Nat.zero_le 0) (Nat.zero_le 1)) Okds.nil)).tup).mono (by omega) (by omega)
theorem okd_ths {l : List (List Nat × Bool)} (h : ∀ p ∈ l, p.1.length ≤ 8 ∧ ∀ x ∈ p.1, x ≤ 2) (hl : l.length ≤ 512) : Okd (256 * 256) 3 (.lst (l.map thD)) := by
  have := Okds.all (w := 110) (p := 2) (ds := l.map thD) fun d hd => by
    obtain ⟨p, hp', rfl⟩ := List.mem_map.mp hd
    exact okd_th (h p hp').1 (h p hp').2
  rw [List.length_map] at this
  exact this.lst.mono (by omega) (by omega)
theorem okSort_th {l : List (List Nat × Bool)} (h : ∀ p ∈ l, p.1.length ≤ 8 ∧ ∀ x ∈ p.1, x ≤ 2) : okSort (l.map thD) = true := by
  unfold okSort
  have h1 : D.plains (l.map thD) = true := plains_th l
  have h2 : (l.map thD).all (fun a => SeqAt.shaped a.pd && (l.map thD).all fun b => PySem.W.alike a.pd b.pd) = true := by
    rw [List.all_eq_true]
    intro a ha
    obtain ⟨p, hp', rfl⟩ := List.mem_map.mp ha
    rw [(okd_th (h p hp').1 (h p hp').2).shaped (by decide), Bool.true_and, List.all_eq_true]
    intro b hb
    obtain ⟨q, hq', rfl⟩ := List.mem_map.mp hb
    exact alike_th _ _
  have h3 : (l.map thD).all tup1 = true := by
    rw [List.all_eq_true]
    intro a ha
    obtain ⟨p, hp', rfl⟩ := List.mem_map.mp ha
    rfl
  rw [h1, h2, h3]
  rfl
/-! ### one thing compared with itself -/
theorem eq_same {w p : Nat} {xs : List D} {S : Store} (h : Okd w p (.lst xs)) (hp : p ≤ 64) : cmpV .eq (.lst xs) (.lst xs) S = .ok (.bl true) S := by
  show ofB (eqD S (.lst xs) (.lst xs)) S = _
  rw [okd_eqv h h hp hp rfl rfl rfl, eqv_self _ h.cl]
  rfl
theorem ne_same {w p : Nat} {xs : List D} {S : Store} (h : Okd w p (.lst xs)) (hp : p ≤ 64) : cmpV .ne (.lst xs) (.lst xs) S = .ok (.bl false) S := by
  show ofB ((eqD S (.lst xs) (.lst xs)).map (!·)) S = _
  rw [okd_eqv h h hp hp rfl rfl rfl, eqv_self _ h.cl]
  rfl
theorem okd_leaves {c : Cd} (h : c.ok) (hp : c.parts ≤ 8) : Okd 1024 2 (.lst (c.leaves.map Cd.toD)) := by
  obtain ⟨i1, i2, i3, i4, i5, i6⟩ := list_facts (cs := c.leaves) (leaves_ok h)
  have hl := leaves_len c
  exact ⟨plain_map _, i1, i2, i3, i4, by show PyData.depthAll _ + 1 ≤ 2; omega, by show PyData.weightAll _ ≤ _; omega⟩
theorem okd_wl' {c : Cd} (hp : c.parts ≤ 8) : Okd 300 2 (.lst ((c.wl 1 1).map wD)) := by
  have ht := tot_small hp
  have h := Okds.all (w := 20) (p := 1) (ds := (c.wl 1 1).map wD) fun d hd => by
    obtain ⟨w, hw, rfl⟩ := List.mem_map.mp hd
    have hw2 := wl_le c 1 1 w hw
    have h0 : Okd 1 0 (.int 0) := ⟨rfl, by decide +kernel, rfl, by decide +kernel, rfl, by decide, by decide⟩
    exact ((Okds.cons h0 (Okds.cons (Okd.nat (k := w) (by omega)) Okds.nil)).tup).mono (by omega) (by omega)
  rw [List.length_map, wl_len] at h
  exact h.lst.mono (by omega) (by omega)
/-! ### throughs of joined conditions -/
theorem thr_sides {c : Cd} {p : List Nat × Bool} (h : p ∈ c.thr) : p ∈ c.sides := by
  obtain ⟨k, hk, rfl⟩ := List.mem_map.mp h
  exact row_mem c (List.mem_range.mp hk)
theorem thr_small {c : Cd} (hp : c.parts ≤ 8) {p : List Nat × Bool} (h : p ∈ c.thr) : p.1.length ≤ 8 ∧ ∀ x ∈ p.1, x ≤ 2 := by
  have := sides_len c p (thr_sides h)
  exact ⟨by omega, sides_le c p (thr_sides h)⟩
theorem thr_nt (c : Cd) : (Cd.nt c).thr = c.thr.map fun p => (p.1, !p.2) := by
  unfold Cd.thr
  rw [List.map_map]
  rfl
theorem dec_swap {w t : Str} (h : isAnd t = !isAnd w) (c d : Cd) : ∀ y n : Nat, (Cd.nt (.jn t (.nt c) (.nt d))).tot y n = (Cd.jn w c d).tot y n ∧ ∀ k, (Cd.nt (.jn t (.nt c) (.nt d))).dec y n k = (Cd.jn w c d).dec y n k := fun y n => by
  cases e : isAnd w
  · rw [e] at h
    have h : isAnd t = true := h
    refine ⟨by simp [Cd.tot, e, h], fun k => ?_⟩
    simp only [Cd.dec, Cd.tot, Cd.parts, e, h, if_true, Bool.false_eq_true, if_false]
    obtain ⟨r1, t1, j1, hr⟩ : ∃ r1 t1 j1, c.dec y (d.tot y n) k = (r1, t1, j1) := ⟨_, _, _, rfl⟩
    rw [hr]
    cases t1 <;> simp
  · rw [e] at h
    have h : isAnd t = false := h
    refine ⟨by simp [Cd.tot, e, h], fun k => ?_⟩
    simp only [Cd.dec, Cd.tot, Cd.parts, e, h, if_true, Bool.false_eq_true, if_false]
    obtain ⟨r1, t1, j1, hr⟩ : ∃ r1 t1 j1, c.dec (d.tot y n) n k = (r1, t1, j1) := ⟨_, _, _, rfl⟩
    rw [hr]
    cases t1 <;> simp
theorem thr_swap {w t : Str} (h : isAnd t = !isAnd w) (c d : Cd) : (Cd.nt (.jn t (.nt c) (.nt d))).thr = (Cd.jn w c d).thr := by
  unfold Cd.thr
  rw [(dec_swap h c d 1 1).1]
  refine List.map_congr_left fun k _ => ?_
  unfold Cd.row
  rw [(dec_swap h c d 1 1).2 k]
theorem ask_swap {w t : Str} (h : isAnd t = !isAnd w) (v : Nat × Nat × Nat) (c d : Cd) : (Cd.nt (.jn t (.nt c) (.nt d))).ask v = (Cd.jn w c d).ask v := by
  simp only [Cd.ask, Cd.parts, h]
  cases e : isAnd w <;> cases e2 : (c.ask v).2 <;> simp
def jnT (w : Str) (d : Cd) (p : List Nat × Bool) : List (List Nat × Bool) := if p.2 = isAnd w then d.thr.map fun q => (p.1 ++ q.1, q.2) else [(p.1 ++ List.replicate d.parts 2, p.2)]
theorem flatMap_perm {α β : Type} {f g : α → List β} : ∀ {l : List α}, (∀ a ∈ l, (f a).Perm (g a)) → (l.flatMap f).Perm (l.flatMap g)
  | [], _ => List.Perm.refl _
  | a :: l, h => by
    rw [List.flatMap_cons, List.flatMap_cons]
    exact (h a List.mem_cons_self).append (flatMap_perm fun b hb => h b (List.mem_cons_of_mem _ hb))
theorem thr_jn (w : Str) (c d : Cd) : (Cd.jn w c d).thr.Perm (c.thr.flatMap (jnT w d)) := by
  refine (rows_perm _).trans ?_
  have h1 : (c.thr.flatMap (jnT w d)).Perm (c.sides.flatMap (jnT w d)) := (rows_perm c).flatMap_right _
  have h2 : (c.sides.flatMap (jnT w d)).Perm (Cd.jn w c d).sides := by
    rw [Cd.sides]
    refine flatMap_perm fun p _ => ?_
    unfold jnT
    by_cases e : p.2 = isAnd w
    · rw [if_pos e, if_pos e]
      exact (rows_perm d).map _
    · rw [if_neg e, if_neg e]
  exact (h1.trans h2).symm
end Ev


namespace Ev
open PySem PySem.Spec L2
def tf_law_all_values : Ss := (.cons (.ret (.comp false [0] (.tup (.cons (.bin false .fdiv (.var 0) (.con (.int 16))) (.cons (.bin false .mod (.bin false .fdiv (.var 0) (.con (.int 4))) (.con (.int 4))) (.cons (.bin false .mod (.var 0) (.con (.int 4))) (.nil))))) (.nm 0) (.rng (.cons (.con (.int 64)) (.nil))) (.nil))) (.nil))
def f_law_all_values : Fn := ⟨0, 1, true, tf_law_all_values⟩
def tf_law_not_right : Ss := (.cons (.set 1 (.tup (.cons (.con (.str "not")) (.cons (.var 0) (.nil))))) (.cons (.ite (.or (.cmp .ne (.call 32 (.cons (.var 1) (.nil))) (.call 32 (.cons (.var 0) (.nil)))) (.cmp .ne (.call 38 (.cons (.var 1) (.nil))) (.call 38 (.cons (.var 0) (.nil))))) (.cons (.ret (.con (.bl false))) (.nil)) (.nil)) (.cons (.ret (.cmp .eq (.call 37 (.cons (.var 1) (.nil))) (.comp false [2, 3] (.tup (.cons (.var 2) (.cons (.nt (.var 3)) (.nil)))) (.tp (.cons (.nm 2) (.cons (.nm 3) (.nil)))) (.seq (.call 37 (.cons (.var 0) (.nil)))) (.nil)))) (.nil))))
def f_law_not_right : Fn := ⟨1, 4, true, tf_law_not_right⟩
def tf_law_joined_right : Ss := (.cons (.set 3 (.cmp .eq (.var 0) (.con (.str "and")))) (.cons (.set 4 (.bin false .mul (.tup (.cons (.con (.int 2)) (.nil))) (.bf false .len (.call 32 (.cons (.var 2) (.nil)))))) (.cons (.set 5 (.lst true (.nil))) (.cons (.for (.tp (.cons (.nm 6) (.cons (.nm 7) (.nil)))) (.seq (.call 37 (.cons (.var 1) (.nil)))) (.cons (.ite (.cmp .eq (.var 7) (.var 3)) (.cons (.set 5 (.bin true .add (.var 5) (.comp false [8, 9] (.tup (.cons (.bin false .add (.var 6) (.var 8)) (.cons (.var 9) (.nil)))) (.tp (.cons (.nm 8) (.cons (.nm 9) (.nil)))) (.seq (.call 37 (.cons (.var 2) (.nil)))) (.nil)))) (.nil)) (.cons (.ex (.mth1 .append (.var 5) (.tup (.cons (.bin false .add (.var 6) (.var 4)) (.cons (.var 7) (.nil)))))) (.nil))) (.nil))) (.cons (.set 10 (.tup (.cons (.var 0) (.cons (.var 1) (.cons (.var 2) (.nil)))))) (.cons (.set 11 (.call 37 (.cons (.var 10) (.nil)))) (.cons (.ite (.or (.cmp .ne (.bf false .sorted (.var 11)) (.bf false .sorted (.var 5))) (.cmp .ne (.comp false [6, 7] (.call 11 (.cons (.var 10) (.cons (.var 6) (.nil)))) (.tp (.cons (.nm 6) (.cons (.nm 7) (.nil)))) (.seq (.var 11)) (.nil)) (.lrng1 false (.bf false .len (.var 5))))) (.cons (.ret (.con (.bl false))) (.nil)) (.nil)) (.cons (.set 12 (.cutA false (.call 38 (.cons (.var 10) (.nil))) (.bf false .len (.call 32 (.cons (.var 1) (.nil)))))) (.cons (.ret (.and (.cmp .eq (.var 12) (.call 38 (.cons (.var 2) (.nil)))) (.cmp .eq (.call 32 (.cons (.var 10) (.nil))) (.bin false .add (.call 32 (.cons (.var 1) (.nil))) (.call 32 (.cons (.var 2) (.nil))))))) (.nil))))))))))
def f_law_joined_right : Fn := ⟨3, 13, true, tf_law_joined_right⟩
structure HasCs (G : Cfg) : Prop extends HasAsk G where
  nof : G.fns[11]? = some fnumber_of
  pof : G.fns[32]? = some fparts_of
  at_ : G.fns[37]? = some fall_throughs
  pw : G.fns[38]? = some fpart_worths
theorem HasCs.parts {G : Cfg} (h : HasCs G) : HasParts G := { toHasPin := h.toHasPin, pof := h.pof }
def vals64 : List (Nat × Nat × Nat) := (List.range 64).map fun k => (k / 16, k / 4 % 4, k % 4)
theorem vals_ok {v : Nat × Nat × Nat} (h : v ∈ vals64) : vOk v := by
  obtain ⟨k, hk, rfl⟩ := List.mem_map.mp h
  have hk := List.mem_range.mp hk
  show k / 16 < 4 ∧ k / 4 % 4 < 4 ∧ k % 4 < 4
  omega
theorem plains_v : ∀ l : List (Nat × Nat × Nat), D.plains (l.map vD) = true
  | [] => rfl
  | p :: l => by
    show (true && D.plains (l.map vD)) = true
    rw [plains_v l]
    rfl
section
variable {G : Cfg} {n : Nat} {S : Store}
theorem all_values (hG : G.fns[40]? = some f_law_all_values) (hn : 1 ≤ n) : run G n 40 [] S = .ok (.lst (vals64.map vD)) S := by
  have d1 : okDiv 16 = true := okDiv_of ⟨by omega, by decide⟩
  have d2 : okDiv 4 = true := okDiv_of ⟨by omega, by decide⟩
  have e : ∀ (e0 : Option D), E.ev (run G (n - 1)) G (.comp false [0] (.tup (.cons (.bin false .fdiv (.var 0) (.con (.int 16))) (.cons (.bin false .mod (.bin false .fdiv (.var 0) (.con (.int 4))) (.con (.int 4))) (.cons (.bin false .mod (.var 0) (.con (.int 4))) (.nil))))) (.nm 0) (.rng (.cons (.con (.int 64)) (.nil))) (.nil)) [e0] S = .ok (.lst (vals64.map vD)) S := fun e0 => by
    rw [ev_e_comp]
    have hr : rngs [.int 64] = some ((List.range 64).map natD) := rngs1 (m := 64) (by decide)
    simp only [ev_i_rng, ev_es_cons, ev_es_nil, ev_e_con, bind_ok', hr, wipe_cons, wipe_nil, comp_def, ev_et_nil, List.set_cons_zero]
    rw [col_mapG (f := natD) (h := fun k => vD (k / 16, k / 4 % 4, k % 4)) rfl fun k hk => ⟨_, rfl, by
      have f1 : (k : Int).fdiv 16 = ((k / 16 : Nat) : Int) := by rw [Int.fdiv_eq_ediv_of_nonneg _ (by omega)]; rfl
      have f2 : (k : Int).fdiv 4 = ((k / 4 : Nat) : Int) := by rw [Int.fdiv_eq_ediv_of_nonneg _ (by omega)]; rfl
      have f3 : ((k / 4 : Nat) : Int).fmod 4 = ((k / 4 % 4 : Nat) : Int) := by rw [Int.fmod_eq_emod_of_nonneg _ (by omega)]; rfl
      have f4 : (k : Int).fmod 4 = ((k % 4 : Nat) : Int) := by rw [Int.fmod_eq_emod_of_nonneg _ (by omega)]; rfl
      simp only [natD, vD]
      simp only [ev_e_tup, ev_es_cons, ev_es_nil, ev_e_bin, ev_e_var, ev_e_con, List.set_cons_zero, List.getElem?_cons_zero, bind_ok', v_fdiv_int d1, v_fdiv_int d2, f1, f2, v_mod_int (show ¬ (4 : Int) = 0 by decide), f3, f4]
      exact mkT_val (sz (by simp))⟩]
    rw [bind_ok', mkL_val (sz (by simp)), vals64, List.map_map]
    rfl
  obtain ⟨ea, eea⟩ : ∃ ea : E, ea = .comp false [0] (.tup (.cons (.bin false .fdiv (.var 0) (.con (.int 16))) (.cons (.bin false .mod (.bin false .fdiv (.var 0) (.con (.int 4))) (.con (.int 4))) (.cons (.bin false .mod (.var 0) (.con (.int 4))) (.nil))))) (.nm 0) (.rng (.cons (.con (.int 64)) (.nil))) (.nil) := ⟨_, rfl⟩
  rw [← eea] at e
  have hb : f_law_all_values.body = .cons (.ret ea) (.nil) := by rw [eea]; rfl
  have hf : finish true S (.rt (.lst (vals64.map vD)) S) = .ok (.lst (vals64.map vD)) S := finish_here (plains_v _)
  rw [run_at hn hG rfl, hb]
  simp [f_law_all_values, e, hf]
theorem nt_toD (c : Cd) : (Cd.nt c).toD = .tup [.str "not", c.toD] := rfl
theorem jn_toD (w : Str) (c d : Cd) : (Cd.jn w c d).toD = .tup [.str w, c.toD, d.toD] := rfl
theorem not_right (hG : HasCs G) (hN : G.fns[39]? = some f_law_not_right) {c : Cd} (h : c.ok) (hd : c.deep ≤ 7) (hp : c.parts ≤ 8) (hn : 20 ≤ n) : run G n 39 [c.toD] S = .ok (.bl true) S := by
  have hnt : (Cd.nt c).ok := h
  have hdn : (Cd.nt c).deep ≤ 8 := by show c.deep + 1 ≤ 8; omega
  have p1 := parts_of hG.parts (n := n - 1) (S := S) (c := .nt c) hnt hdn hp (by omega)
  have p2 := parts_of hG.parts (n := n - 1) (S := S) (c := c) h (by omega) hp (by omega)
  have w1 := part_worths hG.toHasThr hG.pw (n := n - 1) (S := S) (.nt c) hnt hdn hp (by omega)
  have w2 := part_worths hG.toHasThr hG.pw (n := n - 1) (S := S) c h (by omega) hp (by omega)
  have t1 := all_throughs hG.toHasThr hG.at_ (n := n - 1) (S := S) (.nt c) hnt hdn hp (by omega)
  have t2 := all_throughs hG.toHasThr hG.at_ (n := n - 1) (S := S) c h (by omega) hp (by omega)
  have ht := tot_small hp
  rw [nt_toD] at p1 w1 t1
  have n1 := leaves_same (c := c) (S := S) h
  have n2 := ne_same (S := S) (okd_wl' (c := c) hp) (by decide)
  have n3 := eq_same (S := S) (okd_ths (l := c.thr.map fun p => (p.1, !p.2)) (fun p hp' => by
    obtain ⟨q, hq, rfl⟩ := List.mem_map.mp hp'
    exact (thr_small hp hq : q.1.length ≤ 8 ∧ ∀ x ∈ q.1, x ≤ 2)) (by rw [List.length_map, thr_len]; omega)) (by decide)
  have key : ∀ x0 x1 x2 x3 : Option D, x0 = some c.toD → E.ev (run G (n - 1)) G (.comp false [2, 3] (.tup (.cons (.var 2) (.cons (.nt (.var 3)) (.nil)))) (.tp (.cons (.nm 2) (.cons (.nm 3) (.nil)))) (.seq (.call 37 (.cons (.var 0) (.nil)))) (.nil)) [x0, x1, x2, x3] S = .ok (.lst ((c.thr.map fun p => (p.1, !p.2)).map thD)) S := fun x0 x1 x2 x3 h0 => by
    subst h0
    rw [ev_e_comp]
    simp only [ev_i_seq, ev_e_call, ev_es_cons, ev_es_nil, ev_e_var, List.getElem?_cons_zero, bind_ok', t2, seqI_lst, wipe_cons, wipe_nil, comp_def, ev_et_nil, List.set_cons_succ, List.set_cons_zero]
    rw [col_mapG (f := thD) (h := fun p => thD (p.1, !p.2)) rfl fun p hp' => ⟨_, rfl, by simp [sz, thD]⟩]
    rw [bind_ok', mkL_val (sz (by rw [List.length_map, thr_len]; omega)), List.map_map]
    rfl
  obtain ⟨ea, eea⟩ : ∃ ea : E, ea = .comp false [2, 3] (.tup (.cons (.var 2) (.cons (.nt (.var 3)) (.nil)))) (.tp (.cons (.nm 2) (.cons (.nm 3) (.nil)))) (.seq (.call 37 (.cons (.var 0) (.nil)))) (.nil) := ⟨_, rfl⟩
  rw [← eea] at key
  have hb : f_law_not_right.body = .cons (.set 1 (.tup (.cons (.con (.str "not")) (.cons (.var 0) (.nil))))) (.cons (.ite (.or (.cmp .ne (.call 32 (.cons (.var 1) (.nil))) (.call 32 (.cons (.var 0) (.nil)))) (.cmp .ne (.call 38 (.cons (.var 1) (.nil))) (.call 38 (.cons (.var 0) (.nil))))) (.cons (.ret (.con (.bl false))) (.nil)) (.nil)) (.cons (.ret (.cmp .eq (.call 37 (.cons (.var 1) (.nil))) ea)) (.nil))) := by rw [eea]; rfl
  rw [run_at (by omega) hN rfl, hb]
  have key' := key (some c.toD) (some (.tup [.str "not", c.toD])) none none rfl
  have l1 : (Cd.nt c).leaves = c.leaves := rfl
  have l2 : (Cd.nt c).wl 1 1 = c.wl 1 1 := rfl
  rw [l1] at p1
  rw [l2] at w1
  rw [thr_nt] at t1
  obtain ⟨T, hT⟩ : ∃ T, T = (c.thr.map fun p => (p.1, !p.2)).map thD := ⟨_, rfl⟩
  rw [← hT] at t1 key' n3
  simp [f_law_not_right, sz, p1, p2, w1, w2, n1, n2, t1, key', n3]
/-! ### two joined -/
def jbody : Ss := match tf_law_joined_right with
  | .cons _ (.cons _ (.cons _ (.cons (.for _ _ b) _))) => b
  | _ => .nil
def jE : E := .comp false [8, 9] (.tup (.cons (.bin false .add (.var 6) (.var 8)) (.cons (.var 9) (.nil)))) (.tp (.cons (.nm 8) (.cons (.nm 9) (.nil)))) (.seq (.call 37 (.cons (.var 2) (.nil)))) (.nil)
theorem v_add_tup {S : Store} {new : Bool} {xs ys : List D} (h : (xs ++ ys).length ≤ sizeLine) : binV new .add (.tup xs) (.tup ys) S = .ok (.tup (xs ++ ys)) S := mkT_val h
theorem j_comp (hG : HasCs G) (hn : 20 ≤ n) {d : Cd} (h : d.ok) (hd : d.deep ≤ 8) (hp : d.parts ≤ 8) {r : List Nat} (hr : r.length ≤ 8) {x0 x1 x3 x4 x5 x7 x8 x9 x10 x11 x12 : Option D} :
    E.ev (run G n) G jE [x0, x1, some d.toD, x3, x4, x5, some (rowT r), x7, x8, x9, x10, x11, x12] S = .ok (.lst ((d.thr.map fun q => (r ++ q.1, q.2)).map thD)) S := by
  have t2 := all_throughs hG.toHasThr hG.at_ (n := n) (S := S) d h hd hp (by omega)
  have ht := tot_small hp
  unfold jE
  rw [ev_e_comp]
  simp only [ev_i_seq, ev_e_call, ev_es_cons, ev_es_nil, ev_e_var, List.getElem?_cons_succ, List.getElem?_cons_zero, bind_ok', t2, seqI_lst, wipe_cons, wipe_nil, comp_def, ev_et_nil, List.set_cons_succ, List.set_cons_zero]
  rw [col_mapG (f := thD) (h := fun q => thD (r ++ q.1, q.2)) rfl fun q hq => ⟨_, rfl, by
    have hs := (thr_small hp hq).1
    have ha := v_add_tup (S := S) (new := false) (xs := r.map natD) (ys := q.1.map natD) (sz (by simp; omega))
    simp [rowT, sz, thD, ha]⟩]
  rw [bind_ok', mkL_val (sz (by rw [List.length_map, thr_len]; omega)), List.map_map]
  rfl
theorem j_turn (hG : HasCs G) (hn : 20 ≤ n) {w : Str} {d : Cd} (h : d.ok) (hd : d.deep ≤ 8) (hp : d.parts ≤ 8) {p : List Nat × Bool} (hr : p.1.length ≤ 8) {S0 : Store} {acc : List (List Nat × Bool)} {S : Store} {l : Nat} {x0 x1 x8 x9 x10 x11 x12 : Option D}
    (hz : acc.length + (jnT w d p).length ≤ 1000) (ht : S.take S0.length = S0) (hl : S0.length ≤ l) (hs : S[l]? = some (.lst (acc.map thD))) : ∃ l2 S2,
    Ev.Ss.ev (run G n) G jbody [x0, x1, some d.toD, some (.bl (isAnd w)), some (.tup (List.replicate d.parts (natD 2))), some (.ref l), some (rowT p.1), some (.bl p.2), x8, x9, x10, x11, x12] S =
      .nx [x0, x1, some d.toD, some (.bl (isAnd w)), some (.tup (List.replicate d.parts (natD 2))), some (.ref l2), some (rowT p.1), some (.bl p.2), x8, x9, x10, x11, x12] S2 ∧ S2.take S0.length = S0 ∧ S0.length ≤ l2 ∧ S2[l2]? = some (.lst ((acc ++ jnT w d p).map thD)) := by
  have hS : S0.length ≤ S.length := by
    have := congrArg List.length ht
    rw [List.length_take] at this
    omega
  have hlt : l < S.length := (List.getElem?_eq_some_iff.mp hs).1
  by_cases c : p.2 = isAnd w
  · have hj : jnT w d p = d.thr.map fun q => (p.1 ++ q.1, q.2) := if_pos c
    have hz2 : acc.length + d.thr.length ≤ 1000 := by
      rw [hj, List.length_map] at hz
      omega
    have hc := j_comp hG hn h hd hp hr (S := S) (x0 := x0) (x1 := x1) (x3 := some (.bl (isAnd w))) (x4 := some (.tup (List.replicate d.parts (natD 2)))) (x5 := some (.ref l)) (x7 := some (.bl p.2)) (x8 := x8) (x9 := x9) (x10 := x10) (x11 := x11) (x12 := x12)
    obtain ⟨Y, hY⟩ : ∃ Y, Y = (d.thr.map fun q => (p.1 ++ q.1, q.2)).map thD := ⟨_, rfl⟩
    have ha := v_addR (ys := Y) hs (sz (by rw [hY]; simp; omega))
    refine ⟨S.length, S ++ [.lst ((acc ++ jnT w d p).map thD)], ?_, ?_, hS, by simp⟩
    · rw [hj, List.map_append, ← hY]
      rw [← hY] at hc
      obtain ⟨ex, eex⟩ : ∃ ex, ex = jE := ⟨_, rfl⟩
      rw [← eex] at hc
      have hb : jbody = .cons (.ite (.cmp .eq (.var 7) (.var 3)) (.cons (.set 5 (.bin true .add (.var 5) ex)) (.nil)) (.cons (.ex (.mth1 .append (.var 5) (.tup (.cons (.bin false .add (.var 6) (.var 4)) (.cons (.var 7) (.nil)))))) (.nil))) (.nil) := by rw [eex]; rfl
      rw [hb]
      simp [eq_true c, hc, ha]
    · rw [List.take_append_of_le_length hS, ht]
  · have hj : jnT w d p = [(p.1 ++ List.replicate d.parts 2, p.2)] := if_neg c
    have hz2 : acc.length + 1 ≤ 1000 := by
      rw [hj] at hz
      simp at hz
      omega
    refine ⟨l, S.set l (.lst ((acc ++ jnT w d p).map thD)), ?_, ?_, hl, by rw [List.getElem?_set_self hlt]⟩
    · rw [hj]
      have ha := v_add_tup (S := S) (new := false) (xs := p.1.map natD) (ys := List.replicate d.parts (natD 2)) (sz (by simp; omega))
      have hm := m_append (S := S) (x := thD (p.1 ++ List.replicate d.parts 2, p.2)) hs (Nat.lt_of_le_of_lt (show (acc.map thD).length ≤ 1000 by simp; omega) (by decide))
      simp [jbody, tf_law_joined_right, eq_false c, rowT, ha, sz, hs]
      simp [thD, rowT] at hm
      rw [hm]
      simp [thD, rowT]
    · rw [List.take_set_of_le hl, ht]
def InvJ (w : Str) (d : Cd) (x0 x1 x10 x11 x12 : Option D) (l : Nat) (env : Env) : Prop := ∃ y6 y7 y8 y9, env = [x0, x1, some d.toD, some (.bl (isAnd w)), some (.tup (List.replicate d.parts (natD 2))), some (.ref l), y6, y7, y8, y9, x10, x11, x12]
theorem j_loop (hG : HasCs G) (hn : 20 ≤ n) {w : Str} {d : Cd} (h : d.ok) (hd : d.deep ≤ 8) (hp : d.parts ≤ 8) {S0 : Store} {x0 x1 x10 x11 x12 : Option D} : ∀ (fs : List (List Nat × Bool)) (acc : List (List Nat × Bool)) (S : Store) (l : Nat) (env : Env), (∀ p ∈ fs, p.1.length ≤ 8) → InvJ w d x0 x1 x10 x11 x12 l env →
    acc.length + (fs.flatMap (jnT w d)).length ≤ 1000 → S.take S0.length = S0 → S0.length ≤ l → S[l]? = some (.lst (acc.map thD)) →
    ∃ l' S' env', forGo (.tp (.cons (.nm 6) (.cons (.nm 7) (.nil)))) none (fun env S => Ev.Ss.ev (run G n) G jbody env S) (fs.map thD) env S = .nx env' S' ∧ InvJ w d x0 x1 x10 x11 x12 l' env' ∧ S'.take S0.length = S0 ∧ S0.length ≤ l' ∧ S'[l']? = some (.lst ((acc ++ fs.flatMap (jnT w d)).map thD))
  | [], acc, S, l, env, hf, hi, hz, ht, hl, hs => ⟨l, S, env, rfl, hi, ht, hl, by simpa using hs⟩
  | p :: fs, acc, S, l, env, hf, hi, hz, ht, hl, hs => by
    obtain ⟨y6, y7, y8, y9, rfl⟩ := hi
    rw [List.flatMap_cons, List.length_append] at hz
    obtain ⟨l2, S2, e1, t2, hl2, hs2⟩ := j_turn (w := w) (x0 := x0) (x1 := x1) (x8 := y8) (x9 := y9) (x10 := x10) (x11 := x11) (x12 := x12) hG hn h hd hp (hf p List.mem_cons_self) (S0 := S0) (acc := acc) (by omega) ht hl hs
    obtain ⟨l3, S3, env3, e3, hi3, t3, hl3, hs3⟩ := j_loop (w := w) (x0 := x0) (x1 := x1) (x10 := x10) (x11 := x11) (x12 := x12) hG hn h hd hp fs (acc ++ jnT w d p) S2 l2 _ (fun q hq' => hf q (List.mem_cons_of_mem _ hq')) ⟨_, _, _, _, rfl⟩ (by rw [List.length_append]; omega) t2 hl2 hs2
    refine ⟨l3, S3, env3, ?_, hi3, t3, hl3, by rw [hs3, List.flatMap_cons, List.append_assoc]⟩
    have hsd : thD p = .tup [rowT p.1, .bl p.2] := rfl
    rw [List.map_cons, for_step, hsd]
    simp only [asg_tp, asg_cons, asg_nm, asg_nil, List.set_cons_succ, List.set_cons_zero]
    rw [e1]
    exact e3
end
end Ev


namespace Ev
open PySem PySem.Spec L2
def tf_law_of_values : Ss := (.cons (.set 2 (.comp false [1] (.call 49 (.cons (.var 0) (.cons (.var 1) (.nil)))) (.nm 1) (.seq (.call 40 (.nil))) (.nil))) (.cons (.ret (.comp false [3, 4] (.var 3) (.tp (.cons (.nm 3) (.cons (.nm 4) (.nil)))) (.seq (.call 9 (.cons (.var 0) (.nil)))) (.cons (.cmp .isin (.var 3) (.var 2)) (.nil)))) (.nil)))
def f_law_of_values : Fn := ⟨1, 5, true, tf_law_of_values⟩
def tf_law_shows : Ss := (.cons (.set 5 (.comp false [3, 4] (.tup (.cons (.var 3) (.cons (.var 4) (.nil)))) (.tp (.cons (.nm 3) (.cons (.nm 4) (.nil)))) (.seq (.call 9 (.cons (.var 0) (.nil)))) (.cons (.cmp .isin (.var 3) (.var 2)) (.nil)))) (.cons (.for (.tp (.cons (.nm 6) (.cons (.nm 7) (.nil)))) (.seq (.var 5)) (.cons (.for (.tp (.cons (.nm 8) (.cons (.nm 9) (.nil)))) (.seq (.var 5)) (.cons (.ite (.and (.cmp .eq (.ix (.var 6) (.var 1)) (.con (.int 0))) (.and (.cmp .eq (.ix (.var 8) (.var 1)) (.con (.int 1))) (.cmp .ne (.var 7) (.var 9)))) (.cons (.set 11 (.comp false [10] (.var 10) (.nm 10) (.rng (.cons (.bf false .len (.var 6)) (.nil))) (.cons (.and (.cmp .ne (.var 10) (.var 1)) (.and (.cmp .nin (.con (.int 2)) (.tup (.cons (.ix (.var 6) (.var 10)) (.cons (.ix (.var 8) (.var 10)) (.nil))))) (.cmp .ne (.ix (.var 6) (.var 10)) (.ix (.var 8) (.var 10))))) (.nil)))) (.cons (.ite (.cmp .eq (.var 11) (.lst false (.nil))) (.cons (.ret (.tup (.cons (.bf false .tuple (.var 6)) (.cons (.bf false .tuple (.var 8)) (.nil))))) (.nil)) (.nil)) (.nil))) (.nil)) (.nil))) (.nil))) (.cons (.ret (.con .non)) (.nil))))
def f_law_shows : Fn := ⟨3, 12, true, tf_law_shows⟩
/-- a loop that ends at the first item that tells something -/
theorem for_find {α : Type} {t : Ev.T} {body : Env → Store → SR} {f : α → D} {h : α → Option D} {Inv : Env → Prop} {S : Store} : ∀ {xs : List α},
    (∀ x ∈ xs, ∀ env, Inv env → ∃ env1, t.asg (f x) env = some env1 ∧ (match h x with | some d => body env1 S = .rt d S | none => ∃ env2, body env1 S = .nx env2 S ∧ Inv env2)) →
    ∀ env, Inv env → (match xs.findSome? h with | some d => forGo t none body (xs.map f) env S = .rt d S | none => ∃ env', forGo t none body (xs.map f) env S = .nx env' S ∧ Inv env')
  | [], _, env, hi => ⟨env, rfl, hi⟩
  | x :: xs, q, env, hi => by
    obtain ⟨env1, h1, h2⟩ := q x List.mem_cons_self env hi
    rw [List.findSome?_cons]
    cases hx : h x with
    | some d =>
      rw [hx] at h2
      simp only at h2 ⊢
      rw [List.map_cons, for_step, h1]
      simp only [h2]
    | none =>
      rw [hx] at h2
      simp only at h2 ⊢
      obtain ⟨env2, h3, h4⟩ := h2
      have ih := for_find (h := h) (Inv := Inv) (fun y hy => q y (List.mem_cons_of_mem _ hy)) env2 h4
      have e : forGo t none body ((x :: xs).map f) env S = forGo t none body (xs.map f) env2 S := by
        rw [List.map_cons, for_step, h1]
        simp only [h3]
      rw [e]
      exact ih
theorem okd_rows {R : List (List Nat)} (h : ∀ r ∈ R, r.length ≤ 8 ∧ ∀ x ∈ r, x ≤ 2) (hl : R.length ≤ 512) : Okd (256 * 256) 2 (.lst (R.map rowL)) := by
  have := Okds.all (w := 100) (p := 1) (ds := R.map rowL) fun d hd => by
    obtain ⟨r, hr, rfl⟩ := List.mem_map.mp hd
    have := h r hr
    exact ((okd_row (r := r) fun x hx => by have := this.2 x hx; omega).lst).mono (by omega) (by omega)
  rw [List.length_map] at this
  exact this.lst.mono (by omega) (by omega)
/-- a row in a list of rows -/
theorem in_rows {r : List Nat} {R : List (List Nat)} {S : Store} (hr : r.length ≤ 8 ∧ ∀ x ∈ r, x ≤ 2) (h : ∀ r ∈ R, r.length ≤ 8 ∧ ∀ x ∈ r, x ≤ 2) (hl : R.length ≤ 512) : cmpV .isin (rowL r) (.lst (R.map rowL)) S = .ok (.bl (decide (r ∈ R))) S := by
  have o1 := (okd_row (r := r) fun x hx => by have := hr.2 x hx; omega).lst
  have o2 := okd_rows h hl
  have e1 : inSeq (rowL r) (R.map rowL) = none := rfl
  have e2 : inDat (rowL r) (R.map rowL) = some ((R.map rowL).any fun y => PyData.eqv y.pd (rowL r).pd) := by
    unfold inDat
    have p1 : (rowL r).plain = true := o1.pl
    have p2 : D.plains (R.map rowL) = true := o2.pl
    have p3 : SeqAt.shaped (rowL r).pd = true := o1.shaped (by decide)
    have p4 : SeqAt.shaped (.list (D.pds (R.map rowL))) = true := o2.shaped (by decide)
    rw [p1, p2, p3, p4]
    rfl
  show ofB (match inSeq (rowL r) (R.map rowL) with | some b => some b | none => inDat (rowL r) (R.map rowL)) S = _
  rw [e1, e2]
  show Ev.R.ok (D.bl _) S = _
  congr 2
  rw [List.any_map, Bool.eq_iff_iff, List.any_eq_true, decide_eq_true_eq]
  have e : ∀ z, ((fun y => PyData.eqv y.pd (rowL r).pd) ∘ rowL) z = (z == r) := fun z => eqvAll_nat z r
  simp only [e, beq_iff_eq]
  exact ⟨fun ⟨z, h1, h2⟩ => h2 ▸ h1, fun h => ⟨r, h, rfl⟩⟩
section
variable {G : Cfg} {n : Nat} {S : Store}
/-- the rows that some values lead to -/
def Cd.vrows (c : Cd) : List (List Nat) := c.rows.filter fun r => decide (r ∈ vals64.map fun v => (c.ask v).1)
theorem own_of_values (hG : HasOwn G) (hS : G.fns[9]? = some f_law_sides) (hV : G.fns[40]? = some f_law_all_values) (hO : G.fns[52]? = some f_law_of_values) {c : Cd} (h : c.ok) (hp : c.parts ≤ 8) (hn : c.deep + 5 ≤ n) :
    run G n 52 [c.toD] S = .ok (.lst (c.vrows.map rowL)) S := by
  have av := all_values hV (n := n - 1) (S := S) (by omega)
  have ls := law_sides hS c (n - 1) S h hp (by omega)
  have ht := tot_small hp
  have hst := sides_tot c
  have hz64 : vals64.length = 64 := by simp [vals64]
  have k1 : ∀ (x1 x2 x3 x4 : Option D), E.ev (run G (n - 1)) G (.comp false [1] (.call 49 (.cons (.var 0) (.cons (.var 1) (.nil)))) (.nm 1) (.seq (.call 40 (.nil))) (.nil)) [some c.toD, x1, x2, x3, x4] S = .ok (.lst ((vals64.map fun v => (c.ask v).1).map rowL)) S := fun x1 x2 x3 x4 => by
    rw [ev_e_comp]
    simp only [ev_i_seq, ev_e_call, ev_es_nil, bind_ok', av, seqI_lst, wipe_cons, wipe_nil, comp_def, ev_et_nil, List.set_cons_succ, List.set_cons_zero]
    rw [col_mapG (f := vD) (h := fun v => rowL (c.ask v).1) rfl fun v hv => ⟨_, rfl, by
      have := own_answers (v := v) hG c (n - 1) S h (by omega) (by omega)
      simp [this]⟩]
    rw [bind_ok', mkL_val (sz (by rw [List.length_map, hz64]; decide)), List.map_map]
    rfl
  have k2 : ∀ (x1 x3 x4 : Option D), E.ev (run G (n - 1)) G (.comp false [3, 4] (.var 3) (.tp (.cons (.nm 3) (.cons (.nm 4) (.nil)))) (.seq (.call 9 (.cons (.var 0) (.nil)))) (.cons (.cmp .isin (.var 3) (.var 2)) (.nil))) [some c.toD, x1, some (.lst ((vals64.map fun v => (c.ask v).1).map rowL)), x3, x4] S = .ok (.lst (c.vrows.map rowL)) S := fun x1 x3 x4 => by
    rw [ev_e_comp]
    simp only [ev_i_seq, ev_e_call, ev_es_cons, ev_es_nil, ev_e_var, List.getElem?_cons_succ, List.getElem?_cons_zero, bind_ok', ls, seqI_lst, wipe_cons, wipe_nil, comp_def, List.set_cons_succ, List.set_cons_zero]
    rw [col_filterM (f := sdD) (P := fun p => decide (p.1 ∈ vals64.map fun v => (c.ask v).1)) (g := fun p => rowL p.1) fun p hp' => ⟨_, rfl, by
      have hl := sides_len c p hp'
      have hi := in_rows (S := S) (r := p.1) (R := vals64.map fun v => (c.ask v).1) ⟨by omega, sides_le c p hp'⟩ (fun r hr => by
        obtain ⟨v, _, rfl⟩ := List.mem_map.mp hr
        exact ⟨by have := sides_len c _ (ask_side v c); omega, sides_le c _ (ask_side v c)⟩) (by rw [List.length_map, hz64]; decide)
      simp only [ev_et_cons, ev_e_cmp, ev_e_var, List.set_cons_succ, List.set_cons_zero, List.getElem?_cons_succ, List.getElem?_cons_zero, bind_ok']
      rw [hi]
      rfl, fun _ => by simp⟩]
    rw [bind_ok', mkL_val (Nat.le_trans (by rw [List.length_map]; exact List.length_filter_le _ _) (sz (by omega)))]
    unfold Cd.vrows Cd.rows
    rw [List.filter_map, List.map_map]
    rfl
  have hpl : D.plains (c.vrows.map rowL) = true := by
    generalize c.vrows = l
    induction l with
    | nil => rfl
    | cons r l ih =>
      show ((rowL r).plain && D.plains (l.map rowL)) = true
      rw [rowL_plain, ih]
      rfl
  have hf : finish true S (.rt (.lst (c.vrows.map rowL)) S) = .ok (.lst (c.vrows.map rowL)) S := finish_here hpl
  obtain ⟨ea, eea⟩ : ∃ ea : E, ea = .comp false [1] (.call 49 (.cons (.var 0) (.cons (.var 1) (.nil)))) (.nm 1) (.seq (.call 40 (.nil))) (.nil) := ⟨_, rfl⟩
  obtain ⟨eb, eeb⟩ : ∃ ea : E, ea = .comp false [3, 4] (.var 3) (.tp (.cons (.nm 3) (.cons (.nm 4) (.nil)))) (.seq (.call 9 (.cons (.var 0) (.nil)))) (.cons (.cmp .isin (.var 3) (.var 2)) (.nil)) := ⟨_, rfl⟩
  rw [← eea] at k1
  rw [← eeb] at k2
  obtain ⟨Z, hZ⟩ : ∃ Z, Z = (vals64.map fun v => (c.ask v).1).map rowL := ⟨_, rfl⟩
  rw [← hZ] at k2
  simp only [← hZ] at k1
  have hb : f_law_of_values.body = .cons (.set 2 ea) (.cons (.ret eb) (.nil)) := by rw [eea, eeb]; rfl
  rw [run_at (by omega) hO rfl, hb]
  simp [f_law_of_values, k1, k2, hf]
end
end Ev


namespace Ev
open PySem PySem.Spec L2
/-! ### the law's own pairs that show a part -/
def unlk (part : Nat) (a b : List Nat) : List Nat := (List.range a.length).filter fun k => decide (k ≠ part) && (!(decide (a.getD k 0 = 2) || decide (b.getD k 0 = 2)) && !decide (a.getD k 0 = b.getD k 0))
def pairOk (part : Nat) (lo hi : List Nat × Bool) : Bool := decide (lo.1.getD part 0 = 0) && (decide (hi.1.getD part 0 = 1) && (!decide (lo.2 = hi.2) && (unlk part lo.1 hi.1 == [])))
def showsIn (part : Nat) (l : List (List Nat × Bool)) : Option (List Nat × List Nat) := l.findSome? fun lo => l.findSome? fun hi => if pairOk part lo hi then some (lo.1, hi.1) else none
def showD : Option (List Nat × List Nat) → D
  | some p => .tup [rowT p.1, rowT p.2]
  | none => .non
def shI : Ss := match tf_law_shows with
  | .cons _ (.cons (.for _ _ (.cons (.for _ _ b) _)) _) => b
  | _ => .nil
def shO : Ss := match tf_law_shows with
  | .cons _ (.cons (.for _ _ b) _) => b
  | _ => .nil
def shE : E := .comp false [10] (.var 10) (.nm 10) (.rng (.cons (.bf false .len (.var 6)) (.nil))) (.cons (.and (.cmp .ne (.var 10) (.var 1)) (.and (.cmp .nin (.con (.int 2)) (.tup (.cons (.ix (.var 6) (.var 10)) (.cons (.ix (.var 8) (.var 10)) (.nil))))) (.cmp .ne (.ix (.var 6) (.var 10)) (.ix (.var 8) (.var 10))))) (.nil))
@[simp high] theorem c_nin_int2 {S : Store} {i a b : Int} : cmpV .nin (.int i) (.tup [.int a, .int b]) S = .ok (.bl (!(decide (a = i) || decide (b = i)))) S := by
  show ofB (some (!(a == i || (b == i || false)))) S = _
  rw [Bool.or_false]
  rfl
theorem at_row {r : List Nat} {k : Nat} (h : k < r.length) : atI (r.map natD) (k : Int) = some (.int (r.getD k 0 : Nat)) := atN (by
  rw [List.getElem?_map, List.getElem?_eq_getElem h, List.getD_eq_getElem?_getD, List.getElem?_eq_getElem h]
  rfl)
theorem dec_nat {a b : Nat} : decide ((a : Int) = (b : Int)) = decide (a = b) := by
  rw [Bool.eq_iff_iff]
  simp
  omega
section
variable {G : Cfg} {n : Nat} {S : Store}
theorem sh_comp {part : Nat} {a b : List Nat} (ha : a.length ≤ 8) (hb : b.length = a.length) {x0 x2 x3 x4 x5 x7 x9 x10 x11 : Option D} :
    E.ev (run G n) G shE [x0, some (.int part), x2, x3, x4, x5, some (rowL a), x7, some (rowL b), x9, x10, x11] S = .ok (rowL (unlk part a b)) S := by
  have hr := rngs1 (m := a.length) (by omega)
  unfold shE
  rw [ev_e_comp]
  simp only [ev_i_rng, ev_es_cons, ev_es_nil, ev_e_bf, ev_e_var, List.getElem?_cons_succ, List.getElem?_cons_zero, bind_ok', rowL, len_lst, List.length_map, hr, wipe_cons, wipe_nil, comp_def, List.set_cons_succ, List.set_cons_zero]
  rw [col_filterM (f := natD) (P := fun k => decide (k ≠ part) && (!(decide (a.getD k 0 = 2) || decide (b.getD k 0 = 2)) && !decide (a.getD k 0 = b.getD k 0))) (g := natD) fun k hk => ⟨_, rfl, by
    have hk := List.mem_range.mp hk
    have e1 := at_row (r := a) hk
    have e2 := at_row (r := b) (k := k) (by omega)
    have i1 := ix_lst (S := S) e1
    have i2 := ix_lst (S := S) e2
    generalize a.getD k 0 = u at i1 ⊢
    generalize b.getD k 0 = w at i2 ⊢
    have d1 : ((k : Int) = (part : Int)) ↔ k = part := by omega
    have d2 : ((u : Int) = 2) ↔ u = 2 := by omega
    have d3 : ((w : Int) = 2) ↔ w = 2 := by omega
    have d4 : ((u : Int) = (w : Int)) ↔ u = w := by omega
    have c1 : k = part ∨ k ≠ part := by omega
    have c2 : u = 2 ∨ u ≠ 2 := by omega
    have c3 : w = 2 ∨ w ≠ 2 := by omega
    have c4 : u = w ∨ u ≠ w := by omega
    simp only [natD]
    rcases c1 with c1 | c1
    · simp [eq_true c1, d1]
    · rcases c2 with c2 | c2
      · simp [c1, d1, i1, i2, sz, d2, d3, eq_true c2]
      · rcases c3 with c3 | c3
        · simp [c1, d1, i1, i2, sz, d2, d3, c2, eq_true c3]
        · rcases c4 with c4 | c4
          · simp [c1, d1, i1, i2, sz, d2, d3, c2, c3, d4, eq_true c4]
          · simp [c1, d1, i1, i2, sz, d2, d3, c2, c3, d4, c4], fun _ => by simp⟩]
  rw [bind_ok', mkL_val (Nat.le_trans (by rw [List.length_map]; exact List.length_filter_le _ _) (sz (by rw [List.length_range]; omega)))]
  rfl
theorem unlk_small {part : Nat} {a b : List Nat} (ha : a.length ≤ 8) : ∀ x ∈ unlk part a b, x < 1024 := fun x hx => by
  have := List.mem_range.mp (List.mem_filter.mp hx).1
  omega
theorem sh_turn {part : Nat} {lo hi : List Nat × Bool} (ha : lo.1.length ≤ 8) (hb : hi.1.length = lo.1.length) (hp : part < lo.1.length) {x0 x2 x3 x4 x5 x10 x11 : Option D} : ∃ y10 y11,
    Ev.Ss.ev (run G n) G shI [x0, some (.int part), x2, x3, x4, x5, some (rowL lo.1), some (.bl lo.2), some (rowL hi.1), some (.bl hi.2), x10, x11] S =
      if pairOk part lo hi then .rt (.tup [rowT lo.1, rowT hi.1]) S else .nx [x0, some (.int part), x2, x3, x4, x5, some (rowL lo.1), some (.bl lo.2), some (rowL hi.1), some (.bl hi.2), y10, y11] S := by
  have e1 := ix_lst (S := S) (at_row (r := lo.1) hp)
  have e2 := ix_lst (S := S) (at_row (r := hi.1) (k := part) (by omega))
  have k1 := sh_comp (G := G) (n := n) (S := S) (part := part) ha hb (x0 := x0) (x2 := x2) (x3 := x3) (x4 := x4) (x5 := x5) (x7 := some (.bl lo.2)) (x9 := some (.bl hi.2)) (x10 := x10) (x11 := x11)
  have q1 := eq_rowL (S := S) (a := unlk part lo.1 hi.1) (b := []) (unlk_small ha) (by simp)
  have t1 : bfV false .tuple (rowL lo.1) S = .ok (rowT lo.1) S := tuple_lst (sz (by simp; omega))
  have t2 : bfV false .tuple (rowL hi.1) S = .ok (rowT hi.1) S := tuple_lst (sz (by simp; omega))
  obtain ⟨ex, eex⟩ : ∃ ex, ex = shE := ⟨_, rfl⟩
  rw [← eex] at k1
  have hbd : shI = .cons (.ite (.and (.cmp .eq (.ix (.var 6) (.var 1)) (.con (.int 0))) (.and (.cmp .eq (.ix (.var 8) (.var 1)) (.con (.int 1))) (.cmp .ne (.var 7) (.var 9)))) (.cons (.set 11 ex) (.cons (.ite (.cmp .eq (.var 11) (.lst false (.nil))) (.cons (.ret (.tup (.cons (.bf false .tuple (.var 6)) (.cons (.bf false .tuple (.var 8)) (.nil))))) (.nil)) (.nil)) (.nil))) (.nil)) (.nil) := by rw [eex]; rfl
  rw [hbd]
  have hU : rowL (unlk part lo.1 hi.1) = .lst ((unlk part lo.1 hi.1).map natD) := rfl
  unfold pairOk
  generalize hu : unlk part lo.1 hi.1 = U at k1 q1 hU ⊢
  generalize lo.1.getD part 0 = u at e1 ⊢
  generalize hi.1.getD part 0 = w at e2 ⊢
  have d1 : ((u : Int) = 0) ↔ u = 0 := by omega
  have d2 : ((w : Int) = 1) ↔ w = 1 := by omega
  have e1' : ixV (rowL lo.1) (.int part) S = .ok (.int u) S := e1
  have e2' : ixV (rowL hi.1) (.int part) S = .ok (.int w) S := e2
  have q1' : cmpV .eq (rowL U) (.lst []) S = .ok (.bl (U == [])) S := q1
  by_cases c1 : u = 0
  · by_cases c2 : w = 1
    · by_cases c3 : lo.2 = hi.2
      · exact ⟨x10, x11, by simp [e1', e2', d1, d2, eq_true c1, eq_true c2, eq_true c3]⟩
      · refine ⟨x10, some (rowL U), ?_⟩
        cases hU2 : (U == [])
        · rw [hU2] at q1'
          simp [e1', e2', d1, d2, eq_true c1, eq_true c2, eq_false c3, k1, sz, q1', t1, t2]
        · rw [hU2] at q1'
          simp [e1', e2', d1, d2, eq_true c1, eq_true c2, eq_false c3, k1, sz, q1', t1, t2]
    · exact ⟨x10, x11, by simp [e1', e2', d1, d2, eq_true c1, c2]⟩
  · exact ⟨x10, x11, by simp [e1', e2', d1, d2, c1]⟩
end
end Ev


namespace Ev
open PySem PySem.Spec L2
/-! ### all ways through a condition, in the order of their numbers -/
theorem num_sd {c : Cd} {a r : List Nat} {v w : List Nat} {y n : Nat} {t : Bool} (ha : (a, t) ∈ c.sides) : num (a ++ r) (c.wl y n ++ w) = num a (c.wl y n) + num r w := num_app (by rw [sides_len c _ ha, wl_len])
theorem sides_lt : ∀ (c : Cd) (y n : Nat), 0 < y → 0 < n → c.sides.Pairwise fun p q => num p.1 (c.wl y n) + (if p.2 = true then y else n) ≤ num q.1 (c.wl y n)
  | .leaf s a b, y, n, _, _ => by
    show List.Pairwise _ [([0], false), ([1], true)]
    simp [num, Cd.wl]
  | .nt c, y, n, hy, hn => by
    rw [Cd.sides, List.pairwise_map]
    refine (sides_lt c n y hn hy).imp fun {p q} h => ?_
    show num p.1 (c.wl n y) + (if (!p.2) = true then y else n) ≤ num q.1 (c.wl n y)
    cases e : p.2 <;> rw [e] at h <;> simpa using h
  | .jn w c d, y, n, hy, hn => by
    have hd : 0 < d.tot y n := Nat.lt_of_lt_of_le hy (tot_ge d y n).1
    have ih1 := sides_lt c (if isAnd w then d.tot y n else y) (if isAnd w then n else d.tot y n) (by split <;> assumption) (by split <;> assumption)
    have ih2 := sides_lt d y n hy hn
    rw [Cd.sides, List.pairwise_flatMap]
    refine ⟨fun a ha => ?_, ?_⟩
    · have ha' : (a.1, a.2) ∈ c.sides := ha
      by_cases e : a.2 = isAnd w
      · rw [if_pos e, List.pairwise_map]
        refine ih2.imp fun {p q} h => ?_
        show num (a.1 ++ p.1) _ + (if p.2 = true then y else n) ≤ num (a.1 ++ q.1) _
        rw [Cd.wl, num_sd (v := []) ha', num_sd (v := []) ha']
        omega
      · rw [if_neg e]
        simp
    · refine (List.Pairwise.and_mem.mp ih1).imp fun {a b} h => ?_
      obtain ⟨ha, hb, h⟩ := h
      have ha' : (a.1, a.2) ∈ c.sides := ha
      have hb' : (b.1, b.2) ∈ c.sides := hb
      intro p hp q hq
      have lo : num a.1 (c.wl (if isAnd w then d.tot y n else y) (if isAnd w then n else d.tot y n)) ≤ num a.1 (c.wl (if isAnd w then d.tot y n else y) (if isAnd w then n else d.tot y n)) := Nat.le_refl _
      have hq2 : num b.1 (c.wl (if isAnd w then d.tot y n else y) (if isAnd w then n else d.tot y n)) ≤ num q.1 ((Cd.jn w c d).wl y n) := by
        rw [Cd.wl]
        by_cases e : b.2 = isAnd w
        · rw [if_pos e] at hq
          obtain ⟨z, hz, rfl⟩ := List.mem_map.mp hq
          rw [num_sd (v := []) hb']
          omega
        · rw [if_neg e] at hq
          cases List.mem_singleton.mp hq
          rw [num_sd (v := []) hb']
          omega
      refine Nat.le_trans ?_ hq2
      refine Nat.le_trans ?_ h
      rw [Cd.wl]
      by_cases e : a.2 = isAnd w
      · rw [if_pos e] at hp
        obtain ⟨z, hz, rfl⟩ := List.mem_map.mp hp
        rw [num_sd (v := []) ha', beh e]
        have := (dec_of d y n z hz ((if z.2 = true then y else n) - 1) (by split <;> omega)).1
        show _ + (if z.2 = true then y else n) ≤ _
        have : 0 < (if z.2 = true then y else n) := by split <;> assumption
        omega
      · rw [if_neg e] at hp
        cases List.mem_singleton.mp hp
        rw [num_sd (v := []) ha', beh' e, num_two]
        exact Nat.le_refl _
theorem sides_asc (c : Cd) : c.sides.Pairwise fun p q => num p.1 (c.wl 1 1) < num q.1 (c.wl 1 1) := (sides_lt c 1 1 (by decide) (by decide)).imp fun {p q} h => by
  cases e : p.2 <;> rw [e] at h <;> simp at h <;> omega
/-! ### the first that is found: two lists in one order, with the same things -/
theorem find_same {α β : Type} {k : α → Nat} {g : α → Option β} : ∀ (l' l : List α), l'.Pairwise (fun a b => k a < k b) → l.Pairwise (fun a b => k a ≤ k b) → (∀ x, x ∈ l ↔ x ∈ l') → l.findSome? g = l'.findSome? g
  | [], l, _, _, hm => by
    have : l = [] := List.eq_nil_iff_forall_not_mem.mpr fun x hx => by simpa using (hm x).mp hx
    rw [this]
  | x :: t, l, h', h, hm => by
    obtain ⟨h1, h2⟩ := List.pairwise_cons.mp h'
    have inj : ∀ y ∈ l, k y = k x → y = x := fun y hy e => by
      rcases List.mem_cons.mp ((hm y).mp hy) with z | z
      · exact z
      · exact absurd e (Nat.ne_of_gt (h1 y z))
    have xl : x ∈ l := (hm x).mpr List.mem_cons_self
    have keep : ∀ (l : List α), l.Pairwise (fun a b => k a ≤ k b) → (∀ y ∈ l, k x ≤ k y ∧ (k y = k x → y = x)) → l.findSome? g = (if (∃ y ∈ l, k y = k x) then g x else none).or ((l.filter fun y => decide (k y ≠ k x)).findSome? g) := by
      intro l
      induction l with
      | nil => intro _ _; simp
      | cons a l ih =>
        intro hp hk
        obtain ⟨p1, p2⟩ := List.pairwise_cons.mp hp
        have ih := ih p2 fun y hy => hk y (List.mem_cons_of_mem _ hy)
        rw [List.findSome?_cons]
        by_cases e : k a = k x
        · have ea : a = x := (hk a List.mem_cons_self).2 e
          subst ea
          rw [if_pos ⟨a, List.mem_cons_self, rfl⟩, List.filter_cons_of_neg (by simp)]
          cases eg : g a with
          | some b => simp
          | none =>
            simp only [Option.none_or]
            rw [ih]
            split
            · rw [eg]; simp
            · simp
        · have no : ¬ ∃ y ∈ a :: l, k y = k x := fun ⟨y, hy, ey⟩ => by
            rcases List.mem_cons.mp hy with z | z
            · exact e (z ▸ ey)
            · have := p1 y z
              have := (hk a List.mem_cons_self).1
              omega
          have no2 : ¬ ∃ y ∈ l, k y = k x := fun ⟨y, hy, ey⟩ => no ⟨y, List.mem_cons_of_mem _ hy, ey⟩
          rw [if_neg no2] at ih
          rw [if_neg no, List.filter_cons_of_pos (by simpa using e), List.findSome?_cons]
          simp only [Option.none_or] at ih ⊢
          rw [← ih]
    rw [keep l h fun y hy => ⟨by
      rcases List.mem_cons.mp ((hm y).mp hy) with z | z
      · rw [z]; exact Nat.le_refl _
      · exact Nat.le_of_lt (h1 y z), inj y hy⟩, if_pos ⟨x, xl, rfl⟩, List.findSome?_cons]
    rw [find_same t (l.filter fun y => decide (k y ≠ k x)) h2 (h.filter _) fun y => by
      rw [List.mem_filter]
      constructor
      · rintro ⟨hy, hk⟩
        rcases List.mem_cons.mp ((hm y).mp hy) with z | z
        · subst z; simp at hk
        · exact z
      · intro hy
        exact ⟨(hm y).mpr (List.mem_cons_of_mem _ hy), by simpa using Nat.ne_of_gt (h1 y hy)⟩]
    cases g x <;> simp
end Ev


namespace Ev
open PySem PySem.Spec L2
/-! ### the program: alike but at one part; a part's number -/
def tfare_alike_but : Ss := (.cons (.for (.tp (.cons (.nm 3) (.cons (.tp (.cons (.nm 4) (.cons (.nm 5) (.nil)))) (.nil)))) (.enz (.var 0) (.var 1)) (.cons (.ite (.and (.cmp .ne (.var 3) (.var 2)) (.and (.cmp .nin (.glb 8) (.tup (.cons (.var 4) (.cons (.var 5) (.nil))))) (.cmp .ne (.var 4) (.var 5)))) (.cons (.ret (.con (.bl false))) (.nil)) (.nil)) (.nil))) (.cons (.ret (.con (.bl true))) (.nil)))
def fare_alike_but : Fn := ⟨3, 6, true, tfare_alike_but⟩
def tfpart_unless : Ss := (.cons (.ite (.nt (.call 16 (.cons (.var 1) (.cons (.con (.int 0)) (.cons (.bin false .sub (.bf false .len (.var 0)) (.con (.int 1))) (.nil)))))) (.cons (.rse 1) (.nil)) (.nil)) (.nil))
def fpart_unless : Fn := ⟨2, 2, true, tfpart_unless⟩
def tffirst_pair : Ss := (.cons (.set 4 (.bf false .sorted (.comp false [3] (.tup (.cons (.call 18 (.cons (.var 0) (.cons (.var 3) (.nil)))) (.cons (.var 3) (.nil)))) (.nm 3) (.seq (.var 2)) (.nil)))) (.cons (.for (.tp (.cons (.nm 5) (.cons (.nm 6) (.nil)))) (.seq (.var 4)) (.cons (.for (.tp (.cons (.nm 7) (.cons (.nm 8) (.nil)))) (.seq (.var 4)) (.cons (.ite (.and (.cmp .eq (.tup (.cons (.ix (.var 6) (.var 1)) (.cons (.ix (.var 8) (.var 1)) (.nil)))) (.tup (.cons (.con (.int 0)) (.cons (.con (.int 1)) (.nil))))) (.cmp .ne (.call 15 (.cons (.var 0) (.cons (.var 6) (.nil)))) (.call 15 (.cons (.var 0) (.cons (.var 8) (.nil)))))) (.cons (.ite (.call 26 (.cons (.var 6) (.cons (.var 8) (.cons (.var 1) (.nil))))) (.cons (.ret (.tup (.cons (.var 6) (.cons (.var 8) (.nil))))) (.nil)) (.nil)) (.nil)) (.nil)) (.nil))) (.nil))) (.cons (.ret (.con .non)) (.nil))))
def ffirst_pair : Fn := ⟨3, 9, true, tffirst_pair⟩
def tfshown_by : Ss := (.cons (.ex (.call 6 (.cons (.var 0) (.nil)))) (.cons (.set 3 (.call 12 (.cons (.var 0) (.nil)))) (.cons (.ex (.call 21 (.cons (.var 3) (.cons (.var 1) (.nil))))) (.cons (.ite (.nt (.isi (.var 2) .list)) (.cons (.rse 2) (.nil)) (.nil)) (.cons (.for (.nm 4) (.seq (.var 2)) (.cons (.ex (.call 17 (.cons (.var 3) (.cons (.var 4) (.nil))))) (.nil))) (.cons (.ret (.call 22 (.cons (.var 3) (.cons (.var 1) (.cons (.var 2) (.nil)))))) (.nil)))))))
def fshown_by : Fn := ⟨3, 5, true, tfshown_by⟩
def unlP (part : Nat) (p : (Nat × Nat) × Nat) : Bool := decide (p.2 ≠ part) && (!(decide (p.1.1 = 2) || decide (p.1.2 = 2)) && !decide (p.1.1 = p.1.2))
theorem unl_find {part : Nat} {a b : List Nat} (hl : b.length = a.length) : ((a.zip b).zipIdx.findSome? fun p => if unlP part p then some (D.bl false) else none) = if unlk part a b == [] then none else some (.bl false) := by
  have key : ∀ (x : Nat × Nat) (k : Nat), (x, k) ∈ (a.zip b).zipIdx ↔ k < a.length ∧ x = (a.getD k 0, b.getD k 0) := fun x k => by
    rw [List.mk_mem_zipIdx_iff_getElem?, List.getElem?_zip_eq_some]
    constructor
    · rintro ⟨h1, h2⟩
      have l1 := (List.getElem?_eq_some_iff.mp h1).1
      refine ⟨l1, ?_⟩
      rw [List.getD_eq_getElem?_getD, List.getD_eq_getElem?_getD, h1, h2]
      rfl
    · rintro ⟨l1, rfl⟩
      refine ⟨?_, ?_⟩
      · simp [List.getElem?_eq_getElem l1]
      · simp [List.getElem?_eq_getElem (show k < b.length by omega)]
  by_cases c : unlk part a b = []
  · rw [c, if_pos (by rfl), List.findSome?_eq_none_iff]
    rintro ⟨x, k⟩ hx
    obtain ⟨h1, rfl⟩ := (key x k).mp hx
    rw [if_neg]
    intro hc
    have : k ∈ unlk part a b := List.mem_filter.mpr ⟨List.mem_range.mpr h1, hc⟩
    rw [c] at this
    cases this
  · have hb : (unlk part a b == []) = false := by simpa using c
    rw [hb]
    simp only [Bool.false_eq_true, if_false]
    obtain ⟨k, hk⟩ := List.exists_mem_of_ne_nil _ c
    obtain ⟨h1, h2⟩ := List.mem_filter.mp hk
    have h1 := List.mem_range.mp h1
    cases e : ((a.zip b).zipIdx.findSome? fun p => if unlP part p then some (D.bl false) else none) with
    | none =>
      have := List.findSome?_eq_none_iff.mp e _ ((key (a.getD k 0, b.getD k 0) k).mpr ⟨h1, rfl⟩)
      have h2 : unlP part ((a.getD k 0, b.getD k 0), k) = true := h2
      rw [if_pos h2] at this
      cases this
    | some d =>
      obtain ⟨x, _, hx⟩ := List.exists_of_findSome?_eq_some e
      split at hx
      · cases hx; rfl
      · cases hx
def alB : Ss := match tfare_alike_but with
  | .cons (.for _ _ b) _ => b
  | _ => .nil
section
variable {G : Cfg} {n : Nat} {S : Store}
theorem alike_but (hA : G.fns[26]? = some fare_alike_but) (hN : G.glbs[8]? = some (.int 2)) {a b : List Nat} {part : Nat} (hl : b.length = a.length) (hn : 1 ≤ n) : run G n 26 [rowT a, rowT b, .int part] S = .ok (.bl (unlk part a b == [])) S := by
  have lp := for_find (t := .tp (.cons (.nm 3) (.cons (.tp (.cons (.nm 4) (.cons (.nm 5) (.nil)))) (.nil)))) (body := fun env S => Ev.Ss.ev (run G (n - 1)) G alB env S) (f := fun p : (Nat × Nat) × Nat => .tup [.int (p.2 : Nat), .tup [natD p.1.1, natD p.1.2]]) (h := fun p => if unlP part p then some (D.bl false) else none)
    (Inv := fun env => ∃ x y z, env = [some (rowT a), some (rowT b), some (.int part), x, y, z]) (S := S) (xs := (a.zip b).zipIdx) (fun p _ env he => by
      obtain ⟨x, y, z, rfl⟩ := he
      obtain ⟨⟨u, w⟩, k⟩ := p
      refine ⟨[some (rowT a), some (rowT b), some (.int part), some (.int (k : Nat)), some (natD u), some (natD w)], by simp [asg_tp, asg_cons, asg_nm, asg_nil], ?_⟩
      have hbd : alB = .cons (.ite (.and (.cmp .ne (.var 3) (.var 2)) (.and (.cmp .nin (.glb 8) (.tup (.cons (.var 4) (.cons (.var 5) (.nil))))) (.cmp .ne (.var 4) (.var 5)))) (.cons (.ret (.con (.bl false))) (.nil)) (.nil)) (.nil) := rfl
      have d1 : ((k : Int) = (part : Int)) ↔ k = part := by omega
      have d2 : ((u : Int) = 2) ↔ u = 2 := by omega
      have d3 : ((w : Int) = 2) ↔ w = 2 := by omega
      have d4 : ((u : Int) = (w : Int)) ↔ u = w := by omega
      have c1 : k = part ∨ k ≠ part := by omega
      have c2 : u = 2 ∨ u ≠ 2 := by omega
      have c3 : w = 2 ∨ w ≠ 2 := by omega
      have c4 : u = w ∨ u ≠ w := by omega
      simp only [hbd, natD, unlP]
      rcases c1 with c1 | c1
      · simp [eq_true c1, d1]
      · rcases c2 with c2 | c2
        · simp [c1, d1, sz, d2, d3, eq_true c2, hN]
        · rcases c3 with c3 | c3
          · simp [c1, d1, sz, d2, d3, c2, eq_true c3, hN]
          · rcases c4 with c4 | c4
            · simp [c1, d1, sz, d2, d3, c2, c3, d4, eq_true c4, hN]
            · simp [c1, d1, sz, d2, d3, c2, c3, d4, c4, hN]) [some (rowT a), some (rowT b), some (.int part), none, none, none] ⟨_, _, _, rfl⟩
  rw [unl_find hl] at lp
  have s1 : srcD (.tup (a.map natD)) = some (a.map natD) := rfl
  have s2 : srcD (.tup (b.map natD)) = some (b.map natD) := rfl
  have e : ((a.map natD).zip (b.map natD)).zipIdx.map (fun p => D.tup [.int (p.2 : Nat), .tup [p.1.1, p.1.2]]) = (a.zip b).zipIdx.map fun p => .tup [.int (p.2 : Nat), .tup [natD p.1.1, natD p.1.2]] := by
    rw [List.zip_map, List.zipIdx_map, List.map_map]
    rfl
  obtain ⟨w, ew⟩ : ∃ w, w = alB := ⟨_, rfl⟩
  rw [← ew] at lp
  have hb : fare_alike_but.body = .cons (.for (.tp (.cons (.nm 3) (.cons (.tp (.cons (.nm 4) (.cons (.nm 5) (.nil)))) (.nil)))) (.enz (.var 0) (.var 1)) w) (.cons (.ret (.con (.bl true))) (.nil)) := by rw [ew]; rfl
  rw [run_at (by omega) hA rfl, hb]
  simp only [rowT] at lp ⊢
  cases u : (unlk part a b == [])
  · rw [u] at lp
    simp only [Bool.false_eq_true, if_false] at lp
    simp [fare_alike_but, s1, s2, e, lp]
  · rw [u] at lp
    simp only [if_true] at lp
    obtain ⟨env', lp, _⟩ := lp
    simp [fare_alike_but, s1, s2, e, lp]
end
end Ev


namespace Ev
open PySem PySem.Spec L2
/-! ### the program: the first two throughs that show a part -/
def nrD (c : Cd) (p : List Nat × Bool) : D := .tup [.int (num p.1 (c.wl 1 1) : Nat), rowT p.1]
def byNum (c : Cd) (R : List (List Nat × Bool)) : List (List Nat × Bool) := R.mergeSort fun p q => leD (nrD c p) (nrD c q)
theorem nr_le {c : Cd} {p q : List Nat × Bool} (h : leD (nrD c p) (nrD c q) = true) : num p.1 (c.wl 1 1) ≤ num q.1 (c.wl 1 1) := by
  have h : (!PySem.W.dataLt (.tuple (.int (num q.1 (c.wl 1 1) : Nat) :: D.pds [rowT q.1])) (.tuple (.int (num p.1 (c.wl 1 1) : Nat) :: D.pds [rowT p.1]))) = true := h
  rw [PySem.W.dataLt_tuple, PySem.W.dataLt_cons rfl] at h
  by_cases e : (num q.1 (c.wl 1 1)) = num p.1 (c.wl 1 1)
  · omega
  · rw [if_neg (by show ¬ (((num q.1 (c.wl 1 1) : Nat) : Int) == ((num p.1 (c.wl 1 1) : Nat) : Int)) = true; simp; omega), PySem.W.dataLt_int] at h
    simp at h
    omega
theorem byNum_asc (c : Cd) (R : List (List Nat × Bool)) : (byNum c R).Pairwise fun p q => num p.1 (c.wl 1 1) ≤ num q.1 (c.wl 1 1) :=
  (List.pairwise_mergeSort (le := fun p q => leD (nrD c p) (nrD c q)) (fun a b c h1 h2 => leD_trans h1 h2) (fun a b => leD_total _ _) R).imp fun h => nr_le h
theorem byNum_mem {c : Cd} {R : List (List Nat × Bool)} {p : List Nat × Bool} : p ∈ byNum c R ↔ p ∈ R := List.mem_mergeSort
theorem okd_nr {c : Cd} {p : List Nat × Bool} (hp : c.parts ≤ 8) (h : p ∈ c.sides) : Okd 120 2 (nrD c p) := by
  have hl := sides_len c p h
  have hs := sides_le c p h
  have ht := tot_small hp
  have hn := (num_row c h).1
  have hr : Okd 100 1 (rowT p.1) := (okd_row (r := p.1) fun x hx => by have := hs x hx; omega).tup.mono (by omega) (by omega)
  exact ((Okds.cons ((Okd.nat (k := num p.1 (c.wl 1 1)) (by omega)).mono (Nat.le_refl _) (Nat.zero_le 1)) (Okds.cons hr Okds.nil)).tup).mono (by omega) (by omega)
theorem plains_nr {c : Cd} : ∀ l : List (List Nat × Bool), D.plains (l.map (nrD c)) = true
  | [] => rfl
  | p :: l => by
    show ((nrD c p).plain && D.plains (l.map (nrD c))) = true
    rw [plains_nr l, Bool.and_true]
    show (true && ((rowT p.1).plain && true)) = true
    rw [rowT_plain]
    rfl
theorem alike_nr {c : Cd} (p q : List Nat × Bool) : PySem.W.alike (nrD c p).pd (nrD c q).pd = true := by
  show (true && (PySem.W.alikeAll (D.pds (p.1.map natD)) (D.pds (q.1.map natD)) && true)) = true
  rw [alike_th.alike_nat']
  rfl
theorem okSort_nr {c : Cd} {l : List (List Nat × Bool)} (hp : c.parts ≤ 8) (h : ∀ p ∈ l, p ∈ c.sides) : okSort (l.map (nrD c)) = true := by
  unfold okSort
  have h2 : (l.map (nrD c)).all (fun a => SeqAt.shaped a.pd && (l.map (nrD c)).all fun b => PySem.W.alike a.pd b.pd) = true := by
    rw [List.all_eq_true]
    intro a ha
    obtain ⟨p, hp', rfl⟩ := List.mem_map.mp ha
    rw [(okd_nr hp (h p hp')).shaped (by decide), Bool.true_and, List.all_eq_true]
    intro b hb
    obtain ⟨q, _, rfl⟩ := List.mem_map.mp hb
    exact alike_nr p q
  have h3 : (l.map (nrD c)).all tup1 = true := by
    rw [List.all_eq_true]
    intro a ha
    obtain ⟨p, _, rfl⟩ := List.mem_map.mp ha
    rfl
  rw [plains_nr l, h2, h3]
  rfl
theorem find_map {α β γ : Type} {g : α → Option β} {f : β → γ} : ∀ l : List α, (l.findSome? fun x => (g x).map f) = (l.findSome? g).map f
  | [] => rfl
  | x :: l => by
    rw [List.findSome?_cons, List.findSome?_cons, find_map l]
    cases g x <;> rfl
/-- by sorted throughs or by all of the condition that are among them: the same -/
theorem shows_same {c : Cd} {R : List (List Nat × Bool)} {part : Nat} (h : ∀ p ∈ R, p ∈ c.sides) : showsIn part (byNum c R) = showsIn part (c.sides.filter fun p => decide (p.1 ∈ R.map (·.1))) := by
  have hm : ∀ p, p ∈ byNum c R ↔ p ∈ c.sides.filter fun p => decide (p.1 ∈ R.map (·.1)) := fun p => by
    rw [byNum_mem, List.mem_filter]
    constructor
    · intro hp
      exact ⟨h p hp, decide_eq_true (List.mem_map.mpr ⟨p, hp, rfl⟩)⟩
    · rintro ⟨h1, h2⟩
      obtain ⟨q, hq, e⟩ := List.mem_map.mp (of_decide_eq_true h2)
      have k1 := num_row c h1
      have k2 := num_row c (h q hq)
      have e : q.1 = p.1 := e
      rw [← k1.2, ← e, k2.2]
      exact hq
  have asc := (sides_asc c).filter (fun p => decide (p.1 ∈ R.map (·.1)))
  unfold showsIn
  rw [find_same _ _ asc (byNum_asc c R) hm]
  congr 1
  funext lo
  exact find_same _ _ asc (byNum_asc c R) hm
def fpI : Ss := match tffirst_pair with
  | .cons _ (.cons (.for _ _ (.cons (.for _ _ b) _)) _) => b
  | _ => .nil
structure HasFp (G : Cfg) : Prop extends HasThr G where
  fp : G.fns[22]? = some ffirst_pair
  al : G.fns[26]? = some fare_alike_but
section
variable {G : Cfg} {n : Nat} {S : Store}
theorem fp_turn (hG : HasFp G) {c : Cd} (hp : c.parts ≤ 8) (hn : 3 ≤ n) {part : Nat} {lo hi : List Nat × Bool} (h1 : lo ∈ c.sides) (h2 : hi ∈ c.sides) (hq : part < c.parts) {x2 x3 x4 : Option D} :
    Ev.Ss.ev (run G n) G fpI [some (knD (c.laid 0 (-1) (-2))), some (.int part), x2, x3, x4, some (.int (num lo.1 (c.wl 1 1) : Nat)), some (rowT lo.1), some (.int (num hi.1 (c.wl 1 1) : Nat)), some (rowT hi.1)] S =
      if pairOk part lo hi then .rt (.tup [rowT lo.1, rowT hi.1]) S else .nx [some (knD (c.laid 0 (-1) (-2))), some (.int part), x2, x3, x4, some (.int (num lo.1 (c.wl 1 1) : Nat)), some (rowT lo.1), some (.int (num hi.1 (c.wl 1 1) : Nat)), some (rowT hi.1)] S := by
  have l1 := sides_len c lo h1
  have l2 := sides_len c hi h2
  have e1 : ixV (rowT lo.1) (.int part) S = .ok (.int (lo.1.getD part 0 : Nat)) S := ix_tup (at_row (by omega))
  have e2 : ixV (rowT hi.1) (.int part) S = .ok (.int (hi.1.getD part 0 : Nat)) S := ix_tup (at_row (by omega))
  have e3 := end_of hG.toHasKn hG.lim (n := n) (S := S) c (r := lo.1) (t := lo.2) hp hn h1
  have e4 := end_of hG.toHasKn hG.lim (n := n) (S := S) c (r := hi.1) (t := hi.2) hp hn h2
  have e5 := alike_but (n := n) (S := S) hG.al hG.nota (a := lo.1) (b := hi.1) (part := part) (by omega) (by omega)
  have s1 := sides_le c lo h1
  have s2 := sides_le c hi h2
  have g1 : lo.1.getD part 0 ≤ 2 := by
    rw [List.getD_eq_getElem?_getD, List.getElem?_eq_getElem (show part < lo.1.length by omega)]
    exact s1 _ (List.getElem_mem _)
  have g2 : hi.1.getD part 0 ≤ 2 := by
    rw [List.getD_eq_getElem?_getD, List.getElem?_eq_getElem (show part < hi.1.length by omega)]
    exact s2 _ (List.getElem_mem _)
  have hbd : fpI = .cons (.ite (.and (.cmp .eq (.tup (.cons (.ix (.var 6) (.var 1)) (.cons (.ix (.var 8) (.var 1)) (.nil)))) (.tup (.cons (.con (.int 0)) (.cons (.con (.int 1)) (.nil))))) (.cmp .ne (.call 15 (.cons (.var 0) (.cons (.var 6) (.nil)))) (.call 15 (.cons (.var 0) (.cons (.var 8) (.nil)))))) (.cons (.ite (.call 26 (.cons (.var 6) (.cons (.var 8) (.cons (.var 1) (.nil))))) (.cons (.ret (.tup (.cons (.var 6) (.cons (.var 8) (.nil))))) (.nil)) (.nil)) (.nil)) (.nil)) (.nil) := rfl
  rw [hbd]
  unfold pairOk
  generalize lo.1.getD part 0 = u at e1 g1 ⊢
  generalize hi.1.getD part 0 = w at e2 g2 ⊢
  generalize unlk part lo.1 hi.1 = U at e5 ⊢
  have q : cmpV .eq (.tup [.int u, .int w]) (.tup [.int 0, .int 1]) S = .ok (.bl (decide (u = 0) && decide (w = 1))) S := by
    have q := eq_rowT (S := S) (a := [u, w]) (b := [0, 1]) (by simp; omega) (by simp)
    rw [show ([u, w] == [0, 1]) = (decide (u = 0) && decide (w = 1)) from by rw [Bool.eq_iff_iff]; simp] at q
    exact q
  have r1 : (rowT lo.1).plain = true := rowT_plain _
  have ne : ∀ a b : Bool, (endI a = endI b) ↔ a = b := fun a b => by cases a <;> cases b <;> simp [endI]
  by_cases c1 : u = 0
  · by_cases c2 : w = 1
    · by_cases c3 : lo.2 = hi.2
      · simp [e1, e2, sz, q, e3, e4, ne, eq_true c1, eq_true c2, eq_true c3]
      · cases hU : (U == []) <;> rw [hU] at e5 <;> simp [e1, e2, sz, q, e3, e4, ne, eq_true c1, eq_true c2, eq_false c3, e5]
    · simp [e1, e2, sz, q, eq_true c1, eq_false c2]
  · simp [e1, e2, sz, q, eq_false c1]
end
end Ev


namespace Ev
open PySem PySem.Spec L2
section
variable {G : Cfg} {n : Nat} {S : Store}
theorem sort_nr {c : Cd} {R : List (List Nat × Bool)} (hp : c.parts ≤ 8) (hR : ∀ p ∈ R, p ∈ c.sides) (hz : R.length ≤ 1000) : bfV false .sorted (.lst (R.map (nrD c))) S = .ok (.lst ((byNum c R).map (nrD c))) S := by
  show (match lstOf S (.lst (R.map (nrD c))) with | some xs => if okSort xs then mkL false (xs.mergeSort leD) S else .stuck | none => .stuck) = _
  have e : (R.map (nrD c)).mergeSort leD = (byNum c R).map (nrD c) := by
    unfold byNum
    rw [← List.map_mergeSort (r := fun p q => leD (nrD c p) (nrD c q)) fun a _ b _ => rfl]
  show (if okSort (R.map (nrD c)) then mkL false ((R.map (nrD c)).mergeSort leD) S else .stuck) = _
  rw [if_pos (okSort_nr hp hR), e, mkL_val (sz (by rw [List.length_map, byNum, List.length_mergeSort]; omega))]
def pairD' (p : List Nat × List Nat) : D := .tup [rowT p.1, rowT p.2]
def fpO : Ss := match tffirst_pair with
  | .cons _ (.cons (.for _ _ b) _) => b
  | _ => .nil
def fpC : E := .comp false [3] (.tup (.cons (.call 18 (.cons (.var 0) (.cons (.var 3) (.nil)))) (.cons (.var 3) (.nil)))) (.nm 3) (.seq (.var 2)) (.nil)
theorem first_pair (hG : HasFp G) {c : Cd} (hp : c.parts ≤ 8) (hn : 5 ≤ n) {part : Nat} (hq : part < c.parts) {R : List (List Nat × Bool)} (hR : ∀ p ∈ R, p ∈ c.sides) (hz : R.length ≤ 1000) :
    run G n 22 [knD (c.laid 0 (-1) (-2)), .int part, .lst (R.map fun p => rowT p.1)] S = .ok (showD (showsIn part (byNum c R))) S := by
  obtain ⟨P, hP⟩ : ∃ P, P = byNum c R := ⟨_, rfl⟩
  have hPs : ∀ p ∈ P, p ∈ c.sides := fun p h => hR p (byNum_mem.mp (hP ▸ h))
  have k1 : ∀ (x1 x3 x4 x5 x6 x7 x8 : Option D), E.ev (run G (n - 1)) G fpC [some (knD (c.laid 0 (-1) (-2))), x1, some (.lst (R.map fun p => rowT p.1)), x3, x4, x5, x6, x7, x8] S = .ok (.lst (R.map (nrD c))) S := fun x1 x3 x4 x5 x6 x7 x8 => by
    unfold fpC
    rw [ev_e_comp]
    simp only [ev_i_seq, ev_e_var, List.getElem?_cons_succ, List.getElem?_cons_zero, bind_ok', seqI_lst, wipe_cons, wipe_nil, comp_def, ev_et_nil, List.set_cons_succ, List.set_cons_zero]
    rw [col_mapG (f := fun p : List Nat × Bool => rowT p.1) (h := nrD c) rfl fun p hp' => ⟨_, rfl, by
      have := number_by hG.toHasThr (n := n - 1) (S := S) c (r := p.1) hp (by omega)
      simp [this, sz, nrD]⟩]
    rw [bind_ok', mkL_val (sz (by rw [List.length_map]; omega))]
  have k2 := sort_nr (S := S) hp hR hz
  rw [← hP] at k2
  obtain ⟨Z, hZ⟩ : ∃ Z, Z = D.lst (P.map (nrD c)) := ⟨_, rfl⟩
  have sZ : seqItems S Z = some ⟨P.map (nrD c), none⟩ := by rw [hZ]; rfl
  let Env0 : Env → Prop := fun env => ∃ x5 x6 x7 x8, env = [some (knD (c.laid 0 (-1) (-2))), some (.int part), some (.lst (R.map fun p => rowT p.1)), none, some Z, x5, x6, x7, x8]
  let h2 : List Nat × Bool → List Nat × Bool → Option D := fun lo hi => if pairOk part lo hi then some (.tup [rowT lo.1, rowT hi.1]) else none
  have inner : ∀ lo ∈ P, ∀ x7 x8, (match P.findSome? (h2 lo) with
      | some d => Ev.Ss.ev (run G (n - 1)) G fpO [some (knD (c.laid 0 (-1) (-2))), some (.int part), some (.lst (R.map fun p => rowT p.1)), none, some Z, some (.int (num lo.1 (c.wl 1 1) : Nat)), some (rowT lo.1), x7, x8] S = .rt d S
      | none => ∃ env', Ev.Ss.ev (run G (n - 1)) G fpO [some (knD (c.laid 0 (-1) (-2))), some (.int part), some (.lst (R.map fun p => rowT p.1)), none, some Z, some (.int (num lo.1 (c.wl 1 1) : Nat)), some (rowT lo.1), x7, x8] S = .nx env' S ∧ Env0 env') := fun lo hlo x7 x8 => by
    have lp := for_find (t := .tp (.cons (.nm 7) (.cons (.nm 8) (.nil)))) (body := fun env S => Ev.Ss.ev (run G (n - 1)) G fpI env S) (f := nrD c) (h := h2 lo) (S := S) (xs := P)
      (Inv := fun env => ∃ x7 x8, env = [some (knD (c.laid 0 (-1) (-2))), some (.int part), some (.lst (R.map fun p => rowT p.1)), none, some Z, some (.int (num lo.1 (c.wl 1 1) : Nat)), some (rowT lo.1), x7, x8])
      (fun hi hhi env he => by
        obtain ⟨y7, y8, rfl⟩ := he
        refine ⟨[some (knD (c.laid 0 (-1) (-2))), some (.int part), some (.lst (R.map fun p => rowT p.1)), none, some Z, some (.int (num lo.1 (c.wl 1 1) : Nat)), some (rowT lo.1), some (.int (num hi.1 (c.wl 1 1) : Nat)), some (rowT hi.1)], rfl, ?_⟩
        have t := fp_turn hG (n := n - 1) (S := S) hp (by omega) (hPs lo hlo) (hPs hi hhi) hq (x2 := some (.lst (R.map fun p => rowT p.1))) (x3 := none) (x4 := some Z)
        show (match h2 lo hi with | some d => Ev.Ss.ev (run G (n - 1)) G fpI _ S = .rt d S | none => _)
        cases e : pairOk part lo hi
        · rw [show h2 lo hi = none from by simp only [h2, e]; rfl]
          rw [e] at t
          exact ⟨_, t, _, _, rfl⟩
        · rw [show h2 lo hi = some (.tup [rowT lo.1, rowT hi.1]) from by simp only [h2, e]; rfl]
          rw [e] at t
          exact t) _ ⟨x7, x8, rfl⟩
    obtain ⟨w, ew⟩ : ∃ w, w = fpI := ⟨_, rfl⟩
    rw [← ew] at lp
    have hb : fpO = .cons (.for (.tp (.cons (.nm 7) (.cons (.nm 8) (.nil)))) (.seq (.var 4)) w) (.nil) := by rw [ew]; rfl
    rw [hb]
    cases e : P.findSome? (h2 lo) with
    | some d =>
      rw [e] at lp
      simp only at lp ⊢
      simp [sZ, lp]
    | none =>
      rw [e] at lp
      obtain ⟨env', lp, y7, y8, rfl⟩ := lp
      simp only
      exact ⟨[some (knD (c.laid 0 (-1) (-2))), some (.int part), some (.lst (R.map fun p => rowT p.1)), none, some Z, some (.int (num lo.1 (c.wl 1 1) : Nat)), some (rowT lo.1), y7, y8], by simp [sZ, lp], _, _, _, _, rfl⟩
  have outer := for_find (t := .tp (.cons (.nm 5) (.cons (.nm 6) (.nil)))) (body := fun env S => Ev.Ss.ev (run G (n - 1)) G fpO env S) (f := nrD c) (h := fun lo => P.findSome? (h2 lo)) (S := S) (xs := P) (Inv := Env0)
    (fun lo hlo env he => by
      obtain ⟨y5, y6, y7, y8, rfl⟩ := he
      exact ⟨_, rfl, inner lo hlo y7 y8⟩) _ ⟨none, none, none, none, rfl⟩
  have res : (P.findSome? fun lo => P.findSome? (h2 lo)) = (showsIn part P).map pairD' := by
    unfold showsIn
    rw [← find_map]
    congr 1
    funext lo
    rw [← find_map]
    congr 1
    funext hi
    simp only [h2]
    split <;> rfl
  rw [res] at outer
  obtain ⟨ec, eec⟩ : ∃ ec, ec = fpC := ⟨_, rfl⟩
  rw [← eec] at k1
  obtain ⟨w, ew⟩ : ∃ w, w = fpO := ⟨_, rfl⟩
  rw [← ew] at outer
  have hb : ffirst_pair.body = .cons (.set 4 (.bf false .sorted ec)) (.cons (.for (.tp (.cons (.nm 5) (.cons (.nm 6) (.nil)))) (.seq (.var 4)) w) (.cons (.ret (.con .non)) (.nil))) := by rw [ew, eec]; rfl
  rw [run_at (by omega) hG.fp rfl, hb]
  rw [← hZ] at k2
  have pl : ∀ p : List Nat × List Nat, (D.tup [rowT p.1, rowT p.2]).plain = true := fun p => by
    show ((rowT p.1).plain && ((rowT p.2).plain && true)) = true
    rw [rowT_plain, rowT_plain]
    rfl
  cases e : showsIn part P with
  | none =>
    rw [e] at outer
    obtain ⟨env', outer, x5, x6, x7, x8, rfl⟩ := outer
    rw [← hP, e]
    simp [ffirst_pair, k1, k2, sZ, outer, showD]
  | some p =>
    rw [e] at outer
    have outer : forGo _ none _ (P.map (nrD c)) _ S = .rt (.tup [rowT p.1, rowT p.2]) S := outer
    rw [← hP, e]
    simp [ffirst_pair, k1, k2, sZ, outer, showD, pl p]
end
end Ev


namespace Ev
open PySem PySem.Spec L2
/-! ### the program: shown_by -/
structure HasSb (G : Cfg) : Prop extends HasFp G where
  sb : G.fns[20]? = some fshown_by
  pu : G.fns[21]? = some fpart_unless
/-- what is no part's number -/
def oddP (c : Cd) (d : D) : Prop := (∃ i : Int, d = .int i ∧ (i < 0 ∨ (c.parts : Int) ≤ i)) ∨ (∃ b, d = .bl b) ∨ d = .non ∨ ∃ z, d = .str z
section
variable {G : Cfg} {n : Nat} {S : Store}
theorem no_whole (hG : HasKn G) (hn : 1 ≤ n) {d : D} {a b : Int} (h : (∃ x, d = .bl x) ∨ d = .non ∨ ∃ z, d = .str z) : run G n 16 [d, .int a, .int b] S = .ok (.bl false) S := by
  rw [run_at hn hG.iwh rfl]
  rcases h with ⟨x, rfl⟩ | rfl | ⟨z, rfl⟩
  · have e : isiD S .bool (.bl x) = some true := rfl
    simp [fis_whole, tfis_whole, e]
  · have e : isiD S .bool .non = some false := rfl
    have e2 : isiD S .int .non = some false := rfl
    simp [fis_whole, tfis_whole, e, e2]
  · have e : isiD S .bool (.str z) = some false := rfl
    have e2 : isiD S .int (.str z) = some false := rfl
    simp [fis_whole, tfis_whole, e, e2]
theorem kn_len (c : Cd) : bfV false .len (knD (c.laid 0 (-1) (-2))) S = .ok (.int c.parts) S := by
  show R.ok (D.int (((c.laid 0 (-1) (-2)).map pairD).length : Nat)) S = _
  rw [List.length_map, laid_len]
theorem part_ok (hG : HasSb G) (hn : 2 ≤ n) {c : Cd} {part : Nat} (h : part < c.parts) : run G n 21 [knD (c.laid 0 (-1) (-2)), .int part] S = .ok .non S := by
  have e := is_whole hG.toHasKn (n := n - 1) (S := S) (i := part) (a := 0) (b := (c.parts : Int) - 1) (by omega)
  rw [show (decide ((0 : Int) ≤ part) && decide ((part : Int) ≤ (c.parts : Int) - 1)) = true from by simp; omega] at e
  have l := kn_len (S := S) c
  rw [run_at (by omega) hG.pu rfl]
  simp [fpart_unless, tfpart_unless, l, e]
theorem part_no (hG : HasSb G) (hn : 2 ≤ n) {c : Cd} {d : D} (h : oddP c d) : run G n 21 [knD (c.laid 0 (-1) (-2)), d] S = .exc ⟨1, []⟩ S := by
  have e : run G (n - 1) 16 [d, .int 0, .int ((c.parts : Int) - 1)] S = .ok (.bl false) S := by
    rcases h with ⟨i, rfl, h⟩ | h
    · rw [is_whole hG.toHasKn (by omega)]
      congr 2
      rw [Bool.eq_false_iff]
      intro h'
      simp at h'
      omega
    · exact no_whole hG.toHasKn (by omega) h
  have l := kn_len (S := S) c
  rw [run_at (by omega) hG.pu rfl]
  simp [fpart_unless, tfpart_unless, l, e, finish]
def sbB : Ss := .cons (.ex (.call 17 (.cons (.var 3) (.cons (.var 4) (.nil))))) (.nil)
theorem shown_by (hG : HasSb G) {c : Cd} (h : c.ok) (hd : c.deep ≤ 8) (hp : c.parts ≤ 8) (hn : c.deep + 12 ≤ n) {part : Nat} (hq : part < c.parts) {R : List (List Nat × Bool)} (hR : ∀ p ∈ R, p ∈ c.sides) (hz : R.length ≤ 1000) :
    run G n 20 [c.toD, .int part, .lst (R.map fun p => rowT p.1)] S = .ok (showD (showsIn part (c.sides.filter fun p => decide (p.1 ∈ R.map (·.1))))) S := by
  have e1 := cond_unless hG.toHasCond (n := n - 1) (S := S) h hd hp (by omega)
  have e2 := knots_of hG.toHasKn (n := n - 1) (S := S) h (by omega) (by omega)
  have e3 := part_ok hG (n := n - 1) (S := S) (c := c) (by omega) hq
  have e4 := first_pair hG.toHasFp (n := n - 1) (S := S) hp (by omega) hq hR hz
  rw [shows_same hR] at e4
  have lp := for_find (t := .nm 4) (body := fun env S => Ev.Ss.ev (run G (n - 1)) G sbB env S) (f := fun p : List Nat × Bool => rowT p.1) (h := fun _ => none) (S := S) (xs := R)
    (Inv := fun env => ∃ x, env = [some c.toD, some (.int part), some (.lst (R.map fun p => rowT p.1)), some (knD (c.laid 0 (-1) (-2))), x]) (fun p hp' env he => by
      obtain ⟨x, rfl⟩ := he
      have e5 : run G (n - 1) 17 [knD (c.laid 0 (-1) (-2)), rowT p.1] S = .ok .non S := by
        have := end_of hG.toHasKn hG.lim (n := n - 1 - 1) (S := S) c (r := p.1) (t := p.2) hp (by omega) (hR p hp')
        rw [run_at (by omega) hG.tu rfl]
        simp [fthrough_unless, tfthrough_unless, this]
      exact ⟨_, rfl, _, by simp [sbB, e5]; rfl, _, rfl⟩) [some c.toD, some (.int part), some (.lst (R.map fun p => rowT p.1)), some (knD (c.laid 0 (-1) (-2))), none] ⟨_, rfl⟩
  have en : (R.findSome? fun _ => (none : Option D)) = none := List.findSome?_eq_none_iff.mpr fun _ _ => rfl
  rw [en] at lp
  obtain ⟨env', lp, x, rfl⟩ := lp
  obtain ⟨Z, hZ⟩ : ∃ Z, Z = D.lst (R.map fun p => rowT p.1) := ⟨_, rfl⟩
  have sZ : seqItems S Z = some ⟨R.map fun p => rowT p.1, none⟩ := by rw [hZ]; rfl
  have iZ : isiD S .list Z = some true := by rw [hZ]; rfl
  rw [← hZ] at lp e4 ⊢
  obtain ⟨w, ew⟩ : ∃ w, w = sbB := ⟨_, rfl⟩
  rw [← ew] at lp
  have hb : fshown_by.body = .cons (.ex (.call 6 (.cons (.var 0) (.nil)))) (.cons (.set 3 (.call 12 (.cons (.var 0) (.nil)))) (.cons (.ex (.call 21 (.cons (.var 3) (.cons (.var 1) (.nil))))) (.cons (.ite (.nt (.isi (.var 2) .list)) (.cons (.rse 2) (.nil)) (.nil)) (.cons (.for (.nm 4) (.seq (.var 2)) w) (.cons (.ret (.call 22 (.cons (.var 3) (.cons (.var 1) (.cons (.var 2) (.nil)))))) (.nil)))))) := by rw [ew]; rfl
  rw [run_at (by omega) hG.sb rfl, hb]
  generalize showsIn part (c.sides.filter fun p => decide (p.1 ∈ R.map (·.1))) = o at e4 ⊢
  have pl : (showD o).plain = true := by
    cases o with
    | none => rfl
    | some p =>
      show ((rowT p.1).plain && ((rowT p.2).plain && true)) = true
      rw [rowT_plain, rowT_plain]
      rfl
  simp [fshown_by, e1, e2, e3, e4, iZ, sZ, lp, pl]
theorem shown_no (hG : HasSb G) {c : Cd} (h : c.ok) (hd : c.deep ≤ 8) (hp : c.parts ≤ 8) (hn : c.deep + 12 ≤ n) {d t : D} (hq : oddP c d) : run G n 20 [c.toD, d, t] S = .exc ⟨1, []⟩ S := by
  have e1 := cond_unless hG.toHasCond (n := n - 1) (S := S) h hd hp (by omega)
  have e2 := knots_of hG.toHasKn (n := n - 1) (S := S) h (by omega) (by omega)
  have e3 := part_no hG (n := n - 1) (S := S) (by omega) hq
  rw [run_at (by omega) hG.sb rfl]
  simp [fshown_by, tfshown_by, e1, e2, e3, finish]
end
end Ev


namespace Ev
open PySem PySem.Spec L2
/-! ### the way that any row of answers leads: its end and how many parts are asked, none where a 2 is met -/
def Cd.go : Cd → List Nat → Option (Bool × Nat)
  | .leaf .., r => if r = [0] then some (false, 1) else if r = [1] then some (true, 1) else none
  | .nt c, r => (c.go r).map fun q => (!q.1, q.2)
  | .jn w c d, r => match c.go (r.take c.parts) with
    | none => none
    | some (t, k) => if t = isAnd w then (d.go (r.drop c.parts)).map fun q => (q.1, k + q.2) else some (t, k)
theorem go_side : ∀ (c : Cd) (r : List Nat) (t : Bool), (r, t) ∈ c.sides → c.go r = some (t, asked r)
  | .leaf s a b, r, t, h => by
    have h : (r, t) ∈ [([0], false), ([1], true)] := h
    simp at h
    rcases h with ⟨rfl, rfl⟩ | ⟨rfl, rfl⟩ <;> rfl
  | .nt c, r, t, h => by
    obtain ⟨⟨r1, t1⟩, hq, e⟩ := List.mem_map.mp h
    cases e
    rw [Cd.go, go_side c r1 t1 hq]
    rfl
  | .jn w c d, r, t, h => by
    obtain ⟨⟨r1, t1⟩, ha, ⟨e, ⟨r2, t2⟩, hb, e2⟩ | ⟨e, e2⟩⟩ := mem_jn h
    · cases e2
      have hl := sides_len c _ ha
      rw [Cd.go, show (r1 ++ r2).take c.parts = r1 from by rw [← hl]; simp, show (r1 ++ r2).drop c.parts = r2 from by rw [← hl]; simp, go_side c r1 t1 ha]
      show (if t1 = isAnd w then (d.go r2).map (fun q => (q.1, asked r1 + q.2)) else some (t1, asked r1)) = _
      rw [if_pos e, go_side d r2 t2 hb, asked_app]
      rfl
    · cases e2
      have hl := sides_len c _ ha
      have et : List.take c.parts (r1 ++ List.replicate d.parts 2) = r1 := by rw [← hl]; simp
      rw [Cd.go, et, go_side c r1 t1 ha]
      show (if t1 = isAnd w then _ else some (t1, asked r1)) = _
      rw [if_neg e, asked_app, asked_two]
      rfl
theorem asked_zero : ∀ {r : List Nat}, asked r = 0 → r = List.replicate r.length 2
  | [], _ => rfl
  | x :: r, h => by
    unfold asked at h
    rw [List.countP_eq_zero] at h
    rw [List.length_cons, List.replicate_succ]
    have h1 := h x List.mem_cons_self
    have h2 : asked r = 0 := by
      unfold asked
      rw [List.countP_eq_zero]
      exact fun y hy => h y (List.mem_cons_of_mem _ hy)
    rw [← asked_zero h2]
    congr 1
    simpa using h1
theorem go_le : ∀ (c : Cd) (r : List Nat) (t : Bool) (k : Nat), r.length = c.parts → c.go r = some (t, k) → k ≤ asked r ∧ (k = asked r → (r, t) ∈ c.sides)
  | .leaf s a b, r, t, k, _, h => by
    rw [Cd.go] at h
    split at h
    · rename_i e
      cases h
      subst e
      exact ⟨by decide, fun _ => List.mem_cons_self⟩
    · split at h
      · rename_i e
        cases h
        subst e
        exact ⟨by decide, fun _ => List.mem_cons_of_mem _ List.mem_cons_self⟩
      · cases h
  | .nt c, r, t, k, hl, h => by
    rw [Cd.go] at h
    obtain ⟨⟨t1, k1⟩, h1, e⟩ := Option.map_eq_some_iff.mp h
    cases e
    obtain ⟨g1, g2⟩ := go_le c r t1 k1 hl h1
    exact ⟨g1, fun e => List.mem_map.mpr ⟨(r, t1), g2 e, rfl⟩⟩
  | .jn w c d, r, t, k, hl, h => by
    have hl : r.length = c.parts + d.parts := hl
    rw [Cd.go] at h
    have er : r = r.take c.parts ++ r.drop c.parts := (List.take_append_drop _ _).symm
    have l1 : (r.take c.parts).length = c.parts := by rw [List.length_take]; omega
    have l2 : (r.drop c.parts).length = d.parts := by rw [List.length_drop]; omega
    have ea : asked r = asked (r.take c.parts) + asked (r.drop c.parts) := by rw [← asked_app, ← er]
    cases h1 : c.go (r.take c.parts) with
    | none => rw [h1] at h; cases h
    | some q =>
      obtain ⟨t1, k1⟩ := q
      rw [h1] at h
      obtain ⟨g1, g2⟩ := go_le c _ t1 k1 l1 h1
      simp only at h
      split at h
      · rename_i e
        obtain ⟨⟨t2, k2⟩, h2, e2⟩ := Option.map_eq_some_iff.mp h
        cases e2
        obtain ⟨f1, f2⟩ := go_le d _ _ k2 l2 h2
        refine ⟨by omega, fun ek => ?_⟩
        rw [er]
        exact jn_yes (g2 (by omega)) e (f2 (by omega))
      · rename_i e
        cases h
        refine ⟨by omega, fun ek => ?_⟩
        have z : asked (r.drop c.parts) = 0 := by omega
        have m := jn_no (d := d) (g2 (by omega)) e
        rw [er, asked_zero z, l2]
        exact m
theorem go_iff {c : Cd} {r : List Nat} (hl : r.length = c.parts) : r ∈ c.rows ↔ ∃ t, c.go r = some (t, asked r) := by
  constructor
  · intro h
    obtain ⟨⟨r1, t⟩, h2, e⟩ := List.mem_map.mp h
    cases e
    exact ⟨t, go_side c _ t h2⟩
  · rintro ⟨t, h⟩
    exact List.mem_map.mpr ⟨(r, t), (go_le c r t _ hl h).2 rfl, rfl⟩
section
variable {G : Cfg} {n : Nat} {S : Store} {K : List (Int × Int)} {R : List Nat} {o : Option D}
theorem e_two (hG : G.glbs[8]? = some (.int 2)) {p : Nat} {left : Int} (hR : R[p]? = some 2) (fuel : Nat) : eW G n (fuel + 1) (eenv K R o left p) S = .rt .non S := by
  have e2 : atI (R.map natD) (p : Int) = some (natD 2) := atN (by rw [List.getElem?_map, hR]; rfl)
  have ge : (0 : Int) ≤ (p : Int) := by omega
  have ht : E.tst (run G n) G ttest (eenv K R o left p) S = .ok true S := by simp [eenv, ttest, ge]
  have hb : Ev.Ss.ev (run G n) G ebody (eenv K R o left p) S = .rt .non S := by
    simp only [eenv]
    simp [ebody, tfend_of, rowT, e2, natD, hG]
  rw [eW, whlGo, ht]
  simp only [st_ok, if_true, hb]
def ENo (G : Cfg) (n : Nat) (S : Store) (K : List (Int × Int)) (R : List Nat) (o : Option D) (a left : Int) (m : Nat) : Prop := ∀ fuel, eW G n (m + (fuel + 1)) (eenv K R o left a) S = .rt .non S
theorem e_any (hG : G.glbs[8]? = some (.int 2)) : ∀ (c : Cd) (p : Nat) (y no left : Int) (KA KB : List (Int × Int)) (A B : List Nat) (r : List Nat), K = KA ++ (c.laid p y no ++ KB) → KA.length = p → A.length = p → R = A ++ (r ++ B) → r.length = c.parts → (∀ x ∈ r, x ≤ 2) →
    match c.go r with
    | some (t, k) => ∃ m, m ≤ c.parts ∧ EGo G n S K R o p left (if t = true then y else no) (left - k) m
    | none => ∃ m, m ≤ c.parts ∧ ENo G n S K R o p left m
  | .leaf s a b, p, y, no, left, KA, KB, A, B, r, hK, hKA, hA, hR, hl, hx => by
    have hK' : K[p]? = some (no, y) := by rw [hK]; exact get_mid hKA
    obtain ⟨x, rfl⟩ : ∃ x, r = [x] := List.length_eq_one_iff.mp hl
    have hR' : R[p]? = some x := by rw [hR]; exact get_mid hA
    have : x = 0 ∨ x = 1 ∨ x = 2 := by have := hx x (by simp); omega
    rcases this with rfl | rfl | rfl
    · exact ⟨1, Nat.le_refl _, e_step hG hK' hR' (by decide)⟩
    · exact ⟨1, Nat.le_refl _, e_step hG hK' hR' (by decide)⟩
    · exact ⟨0, Nat.zero_le _, fun fuel => by rw [Nat.zero_add]; exact e_two hG hR' fuel⟩
  | .nt c, p, y, no, left, KA, KB, A, B, r, hK, hKA, hA, hR, hl, hx => by
    have ih := e_any hG c p no y left KA KB A B r hK hKA hA hR hl hx
    rw [Cd.go]
    cases e : c.go r with
    | none => rw [e] at ih; exact ih
    | some q =>
      obtain ⟨t, k⟩ := q
      rw [e] at ih
      obtain ⟨m, h1, h2⟩ := ih
      refine ⟨m, h1, ?_⟩
      cases t <;> exact h2
  | .jn w c d, p, y, no, left, KA, KB, A, B, r, hK, hKA, hA, hR, hl, hx => by
    have hl : r.length = c.parts + d.parts := hl
    have hK1 : K = KA ++ (c.laid p (if isAnd w then p + c.parts else y) (if isAnd w then no else p + c.parts) ++ (d.laid ((p + c.parts : Nat) : Int) y no ++ KB)) := by
      rw [hK, Cd.laid]
      push_cast
      cases h : isAnd w <;> simp
    obtain ⟨r1, r2, rfl, l1, l2⟩ : ∃ r1 r2, r = r1 ++ r2 ∧ r1.length = c.parts ∧ r2.length = d.parts := ⟨r.take c.parts, r.drop c.parts, (List.take_append_drop _ _).symm, by rw [List.length_take]; omega, by rw [List.length_drop]; omega⟩
    rw [List.append_assoc] at hR
    have ih1 := e_any hG c p _ _ left KA _ A _ r1 hK1 hKA hA hR l1 (fun x h => hx x (List.mem_append_left _ h))
    rw [Cd.go, show (r1 ++ r2).take c.parts = r1 from by rw [← l1]; simp, show (r1 ++ r2).drop c.parts = r2 from by rw [← l1]; simp]
    cases e1 : c.go r1 with
    | none =>
      rw [e1] at ih1
      obtain ⟨m, h1, h2⟩ := ih1
      exact ⟨m, by simp only [Cd.parts]; omega, h2⟩
    | some q =>
      obtain ⟨t1, k1⟩ := q
      rw [e1] at ih1
      obtain ⟨m1, h1, g1⟩ := ih1
      simp only
      by_cases e : t1 = isAnd w
      · rw [if_pos e]
        have eb : (if t1 = true then (if isAnd w = true then ((p : Int) + (c.parts : Int)) else y) else (if isAnd w = true then no else ((p : Int) + (c.parts : Int)))) = ((p + c.parts : Nat) : Int) := by
          push_cast
          cases h : isAnd w <;> simp_all
        rw [eb] at g1
        have hl2 := laid_len c p (if isAnd w then p + c.parts else y) (if isAnd w then no else p + c.parts)
        have ih2 := e_any hG d (p + c.parts) y no (left - k1) (KA ++ c.laid p (if isAnd w then p + c.parts else y) (if isAnd w then no else p + c.parts)) KB (A ++ r1) B r2
          (by rw [List.append_assoc]; exact hK1) (by rw [List.length_append, hl2, hKA]) (by rw [List.length_append, l1, hA]) (by rw [List.append_assoc]; exact hR) l2 (fun x h => hx x (List.mem_append_right _ h))
        cases e2 : d.go r2 with
        | none =>
          rw [e2] at ih2
          obtain ⟨m2, h2, g2⟩ := ih2
          exact ⟨m1 + m2, by simp only [Cd.parts]; omega, fun fuel => by rw [Nat.add_assoc, g1]; exact g2 fuel⟩
        | some q2 =>
          obtain ⟨t2, k2⟩ := q2
          rw [e2] at ih2
          obtain ⟨m2, h2, g2⟩ := ih2
          refine ⟨m1 + m2, by simp only [Cd.parts]; omega, ?_⟩
          have el : left - ((k1 + k2 : Nat) : Int) = left - k1 - k2 := by push_cast; omega
          show EGo G n S K R o p left _ (left - ((k1 + k2 : Nat) : Int)) _
          rw [el]
          exact g1.trans g2
      · rw [if_neg e]
        have eb : (if t1 = true then (if isAnd w = true then ((p : Int) + (c.parts : Int)) else y) else (if isAnd w = true then no else ((p : Int) + (c.parts : Int)))) = (if t1 = true then y else no) := by
          cases h : isAnd w <;> cases t1 <;> simp_all
        rw [eb] at g1
        exact ⟨m1, by simp only [Cd.parts]; omega, g1⟩
end
end Ev


namespace Ev
open PySem PySem.Spec L2
/-! ### end_of on any thing -/
def okA : D → Bool
  | .int i => decide (0 ≤ i) && decide (i ≤ 2)
  | _ => false
def natOf : D → Nat
  | .int i => i.toNat
  | _ => 0
def oneD : D → Prop
  | .int _ => True
  | .bl _ => True
  | .str _ => True
  | .non => True
  | _ => False
theorem okA_nat {d : D} (h : okA d = true) : d = natD (natOf d) ∧ natOf d ≤ 2 := by
  cases d with
  | int i =>
    simp [okA] at h
    refine ⟨?_, by simp [natOf]; omega⟩
    show D.int i = D.int ((i.toNat : Nat) : Int)
    rw [Int.toNat_of_nonneg h.1]
  | _ => cases h
theorem okA_all : ∀ {ds : List D}, ds.all okA = true → ds = (ds.map natOf).map natD ∧ ∀ x ∈ ds.map natOf, x ≤ 2
  | [], _ => ⟨rfl, by simp⟩
  | d :: ds, h => by
    rw [List.all_cons, Bool.and_eq_true] at h
    obtain ⟨h1, h2⟩ := okA_nat h.1
    obtain ⟨h3, h4⟩ := okA_all h.2
    refine ⟨?_, fun x hx => ?_⟩
    · rw [List.map_cons, List.map_cons, ← h1, ← h3]
    · rw [List.map_cons] at hx
      rcases List.mem_cons.mp hx with rfl | hx
      · exact h2
      · exact h4 x hx
def endD (c : Cd) (ds : List D) : D := if ds.length = c.parts ∧ ds.all okA = true then (match c.go (ds.map natOf) with | some (t, k) => if asked (ds.map natOf) = k then .int (endI t) else .non | none => .non) else .non
section
variable {G : Cfg} {n : Nat} {S : Store}
theorem whole_one (hG : HasKn G) (hn : 1 ≤ n) {d : D} (h : oneD d) : run G n 16 [d, .int 0, .int 2] S = .ok (.bl (okA d)) S := by
  cases d with
  | int i => exact is_whole hG hn
  | bl b => exact no_whole hG hn (.inl ⟨_, rfl⟩)
  | str z => exact no_whole hG hn (.inr (.inr ⟨_, rfl⟩))
  | non => exact no_whole hG hn (.inr (.inl rfl))
  | _ => exact h.elim
theorem end_noTup (hG : HasKn G) (hn : 3 ≤ n) {d kn : D} (h : isiD S .tuple d = some false) : run G n 15 [kn, d] S = .ok .non S := by
  rw [run_at (by omega) hG.eo rfl]
  simp [fend_of, tfend_of, h]
theorem end_any (hG : HasKn G) (hL : 10 ≤ G.lim) (c : Cd) (hp : c.parts ≤ 8) (hn : 3 ≤ n) {ds : List D} (hz : ds.length ≤ 1000) (h1 : ∀ d ∈ ds, oneD d) : run G n 15 [knD (c.laid 0 (-1) (-2)), .tup ds] S = .ok (endD c ds) S := by
  have hlen := laid_len c 0 (-1) (-2)
  have lk : bfV false .len (knD (c.laid 0 (-1) (-2))) S = .ok (.int c.parts) S := kn_len c
  have it : isiD S .tuple (.tup ds) = some true := rfl
  have lt : bfV false .len (.tup ds) S = .ok (.int (ds.length : Nat)) S := rfl
  by_cases hl : ds.length = c.parts
  · obtain ⟨ea, eea⟩ : ∃ ea : E, ea = .comp false [2] (.call 16 (.cons (.var 2) (.cons (.con (.int 0)) (.cons (.glb 8) (.nil))))) (.nm 2) (.seq (.var 1)) (.nil) := ⟨_, rfl⟩
    obtain ⟨ef, eef⟩ : ∃ ef : E, ef = .comp false [2] (.var 2) (.nm 2) (.seq (.var 1)) (.cons (.cmp .ne (.var 2) (.glb 8)) (.nil)) := ⟨_, rfl⟩
    obtain ⟨w, ew⟩ : ∃ w, w = St.whl ttest ebody := ⟨_, rfl⟩
    have hb : fend_of.body = .cons (.ite (.or (.nt (.isi (.var 1) .tuple)) (.cmp .ne (.bf false .len (.var 1)) (.bf false .len (.var 0)))) (.cons (.ret (.con .non)) (.nil)) (.nil)) (.cons (.ite (.nt (.bf false .all ea)) (.cons (.ret (.con .non)) (.nil)) (.nil)) (.cons (.set 3 (.bf false .len ef)) (.cons (.set 4 (.con (.int 0))) (.cons w (.cons (.ret (.ife (.cmp .eq (.var 3) (.con (.int 0))) (.var 4) (.con .non))) (.nil)))))) := by rw [ew, eea, eef]; rfl
    have c1 : ∀ a b d e : Option D, E.ev (run G (n - 1)) G ea [a, some (.tup ds), b, d, e] S = .ok (.lst ((ds.map okA).map .bl)) S := fun a b d e => by
      rw [eea, ev_e_comp]
      simp only [ev_i_seq, ev_e_var, List.getElem?_cons_succ, List.getElem?_cons_zero, bind_ok', seqI_tup, wipe_cons, wipe_nil, comp_def, ev_et_nil, List.set_cons_succ, List.set_cons_zero]
      rw [comp_map (f := fun d => .bl (okA d)) fun x hx => by
        have hw := whole_one hG (n := n - 1) (S := S) (by omega) (h1 x hx)
        exact ⟨_, rfl, by simp [hG.nota, hw]⟩]
      rw [bind_ok', mkL_val (sz (by rw [List.length_map]; omega)), List.map_map]
      rfl
    have ca : bfV false .all (.lst ((ds.map okA).map .bl)) S = .ok (.bl (ds.all okA)) S := by
      rw [all_bl]
      congr 2
      rw [List.all_map]
      rfl
    obtain ⟨LB, eLB⟩ : ∃ LB, LB = (ds.map okA).map D.bl := ⟨_, rfl⟩
    simp only [← eLB] at c1 ca
    rw [run_at (by omega) hG.eo rfl, hb]
    by_cases ha : ds.all okA = true
    · rw [ha] at ca
      obtain ⟨er, hx⟩ := okA_all ha
      obtain ⟨r, hr⟩ : ∃ r, r = ds.map natOf := ⟨_, rfl⟩
      have hrl : r.length = c.parts := by rw [hr, List.length_map, hl]
      have ee : endD c ds = (match c.go r with | some (t, k) => if asked r = k then .int (endI t) else .non | none => .non) := by
        rw [hr]
        exact if_pos ⟨hl, ha⟩
      rw [← hr] at er hx
      have c2 : ∀ a b d e : Option D, E.ev (run G (n - 1)) G ef [a, some (.tup ds), b, d, e] S = .ok (.lst ((r.map natD).filter fun d => !decide (d = .int 2))) S := fun a b d e => by
        rw [eef, ev_e_comp, er]
        simp only [ev_i_seq, ev_e_var, List.getElem?_cons_succ, List.getElem?_cons_zero, bind_ok', seqI_tup, wipe_cons, wipe_nil, comp_def, List.set_cons_succ, List.set_cons_zero]
        rw [col_filter (P := fun d => !decide (d = .int 2)) fun x hx => by
          obtain ⟨b, hb, rfl⟩ := List.mem_map.mp hx
          refine ⟨_, rfl, ?_, ?_⟩
          · simp [natD, hG.nota]
          · simp [natD]]
        rw [bind_ok', mkL_val (Nat.le_trans (List.length_filter_le _ _) (sz (by rw [List.length_map]; omega)))]
      have hc : ((r.map natD).filter fun d => !decide (d = .int 2)).length = asked r := by
        rw [← List.countP_eq_length_filter, List.countP_map]
        unfold asked
        congr 1
        funext b
        have : (D.int (b : Int) = D.int 2) ↔ b = 2 := by
          constructor
          · intro h
            have := D.int.inj h
            omega
          · rintro rfl
            rfl
        simp only [Function.comp_def, natD, this]
      have lf : bfV false .len (.lst ((r.map natD).filter fun d => !decide (d = .int 2))) S = .ok (.int (asked r : Nat)) S := by
        rw [len_lst, hc]
      obtain ⟨LF, eLF⟩ : ∃ LF, LF = (r.map natD).filter fun d => !decide (d = .int 2) := ⟨_, rfl⟩
      simp only [← eLF] at c2 lf
      have et : D.tup ds = rowT r := by rw [er]; rfl
      have lp := e_any (G := G) (n := n - 1) (S := S) (K := c.laid 0 (-1) (-2)) (R := r) (o := none) hG.nota c 0 (-1) (-2) (asked r) [] [] [] [] r (by simp) rfl rfl (by simp) hrl hx
      rw [ee]
      obtain ⟨kn, ekn⟩ : ∃ kn, kn = knD (c.laid 0 (-1) (-2)) := ⟨_, rfl⟩
      cases e : c.go r with
      | none =>
        rw [e] at lp
        obtain ⟨m, h1, h2⟩ := lp
        obtain ⟨f, hf⟩ : ∃ f, G.lim = m + (f + 1) := ⟨G.lim - m - 1, by omega⟩
        have h3 := h2 f
        rw [← hf] at h3
        have hwl : Ev.St.ev (run G (n - 1)) G (.whl ttest ebody) [some (knD (c.laid 0 (-1) (-2))), some (rowT r), none, some (.int (asked r : Nat)), some (.int 0)] S = .rt .non S := h3
        rw [← ew, ← et, ← ekn] at hwl
        rw [← ekn] at lk ⊢
        simp [fend_of, it, lt, lk, hl, c1, ca, c2, lf, hwl]
      | some q =>
        obtain ⟨t, k⟩ := q
        rw [e] at lp
        obtain ⟨m, h1, h2⟩ := lp
        obtain ⟨f, hf⟩ : ∃ f, G.lim = m + (f + 1) := ⟨G.lim - m - 1, by omega⟩
        have h3 := h2 (f + 1)
        rw [← hf] at h3
        have h4 : ∀ left : Int, eW G (n - 1) (f + 1) (eenv (c.laid 0 (-1) (-2)) r none left (if t = true then -1 else -2)) S = .nx (eenv (c.laid 0 (-1) (-2)) r none left (endI t)) S := fun left => by
          rw [eW, whlGo]
          cases t <;> simp [eenv, ttest, endI]
        rw [h4] at h3
        have hwl : Ev.St.ev (run G (n - 1)) G (.whl ttest ebody) [some (knD (c.laid 0 (-1) (-2))), some (rowT r), none, some (.int (asked r : Nat)), some (.int 0)] S = .nx [some (knD (c.laid 0 (-1) (-2))), some (rowT r), none, some (.int ((asked r : Int) - k)), some (.int (endI t))] S := h3
        rw [← ew, ← et, ← ekn] at hwl
        rw [← ekn] at lk ⊢
        have hf : finish true S (.rt (.int (endI t)) S) = .ok (.int (endI t)) S := fin_int
        by_cases ek : asked r = k
        · have z : (asked r : Int) - k = 0 := by omega
          rw [z] at hwl
          simp [fend_of, it, lt, lk, hl, c1, ca, c2, lf, hwl, hf, eq_true ek]
        · have z : ¬ ((asked r : Int) - k = 0) := by omega
          simp [fend_of, it, lt, lk, hl, c1, ca, c2, lf, hwl, z, ek]
    · have ha' : ds.all okA = false := by simpa using ha
      rw [ha'] at ca
      have : endD c ds = .non := if_neg fun z => ha z.2
      rw [this]
      generalize knD (c.laid 0 (-1) (-2)) = kn at lk ⊢
      simp [fend_of, it, lt, lk, hl, c1, ca]
  · have : endD c ds = .non := if_neg fun z => hl z.1
    rw [this, run_at (by omega) hG.eo rfl]
    have ne : ¬ ((ds.length : Int) = (c.parts : Int)) := by omega
    generalize knD (c.laid 0 (-1) (-2)) = kn at lk ⊢
    simp [fend_of, tfend_of, it, lt, lk, ne]
theorem endD_non {c : Cd} {ds : List D} : endD c ds = .non ↔ ¬ ∃ r ∈ c.rows, ds = r.map natD := by
  constructor
  · rintro h ⟨r, hr, rfl⟩
    obtain ⟨⟨r1, t⟩, hm, e⟩ := List.mem_map.mp hr
    cases e
    have hl := sides_len c _ hm
    have hs := sides_le c _ hm
    have e1 : (r1.map natD).map natOf = r1 := by
      rw [List.map_map]
      refine (List.map_congr_left fun x _ => ?_).trans (List.map_id _)
      show ((x : Int)).toNat = x
      omega
    have e2 : (r1.map natD).all okA = true := by
      rw [List.all_eq_true]
      intro d hd
      obtain ⟨x, hx, rfl⟩ := List.mem_map.mp hd
      have := hs x hx
      show (decide (0 ≤ (x : Int)) && decide ((x : Int) ≤ 2)) = true
      simp
      omega
    have : endD c (r1.map natD) = .int (endI t) := by
      unfold endD
      rw [if_pos ⟨by rw [List.length_map]; exact hl, e2⟩, e1, go_side c r1 t hm]
      exact if_pos rfl
    rw [this] at h
    cases h
  · intro h
    unfold endD
    split
    · rename_i hh
      obtain ⟨er, hx⟩ := okA_all hh.2
      have hl : (ds.map natOf).length = c.parts := by rw [List.length_map]; exact hh.1
      cases e : c.go (ds.map natOf) with
      | none => rfl
      | some q =>
        obtain ⟨t, k⟩ := q
        show (if asked (ds.map natOf) = k then D.int (endI t) else .non) = .non
        refine if_neg fun ek => h ⟨_, (go_iff hl).mpr ⟨t, by rw [e, ek]⟩, er⟩
    · rfl
end
end Ev


namespace Ev
open PySem PySem.Spec L2
/-! ### what is no through is refused -/
structure HasK14a (G : Cfg) : Prop extends HasSb G where
  nof : G.fns[11]? = some fnumber_of
  ta : G.fns[10]? = some fthrough_at
/-- what is no through of c -/
def badT (c : Cd) (S : Store) (d : D) : Prop := isiD S .tuple d = some false ∨ ∃ ds, d = .tup ds ∧ ds.length ≤ 1000 ∧ (∀ x ∈ ds, oneD x) ∧ ¬ ∃ r ∈ c.rows, ds = r.map natD
section
variable {G : Cfg} {n : Nat} {S : Store} {c : Cd}
theorem end_bad (hG : HasThr G) (hp : c.parts ≤ 8) (hn : 3 ≤ n) {d : D} (h : badT c S d) : run G n 15 [knD (c.laid 0 (-1) (-2)), d] S = .ok .non S := by
  rcases h with h | ⟨ds, rfl, h1, h2, h3⟩
  · exact end_noTup hG.toHasKn hn h
  · rw [end_any hG.toHasKn hG.lim c hp hn h1 h2, endD_non.mpr h3]
theorem thr_no (hG : HasThr G) (hp : c.parts ≤ 8) (hn : 4 ≤ n) {d : D} (h : badT c S d) : run G n 17 [knD (c.laid 0 (-1) (-2)), d] S = .exc ⟨2, []⟩ S := by
  have e := end_bad hG hp (n := n - 1) (by omega) h
  rw [run_at (by omega) hG.tu rfl]
  simp [fthrough_unless, tfthrough_unless, e, finish]
theorem thr_ok (hG : HasThr G) (hp : c.parts ≤ 8) (hn : 4 ≤ n) {r : List Nat} (h : r ∈ c.rows) : run G n 17 [knD (c.laid 0 (-1) (-2)), rowT r] S = .ok .non S := by
  obtain ⟨⟨r1, t⟩, hm, e⟩ := List.mem_map.mp h
  cases e
  have := end_of hG.toHasKn hG.lim (n := n - 1) (S := S) c hp (by omega) hm
  rw [run_at (by omega) hG.tu rfl]
  simp [fthrough_unless, tfthrough_unless, this]
theorem number_no (hG : HasK14a G) (h : c.ok) (hd : c.deep ≤ 8) (hp : c.parts ≤ 8) (hn : c.deep + 12 ≤ n) {d : D} (hb : badT c S d) : run G n 11 [c.toD, d] S = .exc ⟨2, []⟩ S := by
  have e1 := cond_unless hG.toHasCond (n := n - 1) (S := S) h hd hp (by omega)
  have e2 := knots_of hG.toHasKn (n := n - 1) (S := S) h (by omega) (by omega)
  have e3 := thr_no hG.toHasThr hp (n := n - 1) (by omega) hb
  rw [run_at (by omega) hG.nof rfl]
  simp [fnumber_of, tfnumber_of, e1, e2, e3, finish]
theorem parts_one : ∀ c : Cd, 1 ≤ c.parts
  | .leaf .. => Nat.le_refl _
  | .nt c => parts_one c
  | .jn _ c d => Nat.le_trans (parts_one c) (Nat.le_add_right _ _)
theorem shown_list (hG : HasSb G) (h : c.ok) (hd : c.deep ≤ 8) (hp : c.parts ≤ 8) (hn : c.deep + 12 ≤ n) {t : D} (ht : isiD S .list t = some false) : run G n 20 [c.toD, .int 0, t] S = .exc ⟨2, []⟩ S := by
  have e1 := cond_unless hG.toHasCond (n := n - 1) (S := S) h hd hp (by omega)
  have e2 := knots_of hG.toHasKn (n := n - 1) (S := S) h (by omega) (by omega)
  have e3 := part_ok hG (n := n - 1) (S := S) (c := c) (part := 0) (by omega) (parts_one c)
  have e3' : run G (n - 1) 21 [knD (c.laid 0 (-1) (-2)), .int 0] S = .ok .non S := e3
  rw [run_at (by omega) hG.sb rfl]
  simp [fshown_by, tfshown_by, e1, e2, e3', ht, finish]
theorem shown_bad (hG : HasSb G) (h : c.ok) (hd : c.deep ≤ 8) (hp : c.parts ≤ 8) (hn : c.deep + 12 ≤ n) {r : List Nat} (hr : r ∈ c.rows) {d : D} (hb : badT c S d) : run G n 20 [c.toD, .int 0, .lst [rowT r, d]] S = .exc ⟨2, []⟩ S := by
  have e1 := cond_unless hG.toHasCond (n := n - 1) (S := S) h hd hp (by omega)
  have e2 := knots_of hG.toHasKn (n := n - 1) (S := S) h (by omega) (by omega)
  have e3 : run G (n - 1) 21 [knD (c.laid 0 (-1) (-2)), .int 0] S = .ok .non S := part_ok hG (n := n - 1) (S := S) (c := c) (part := 0) (by omega) (parts_one c)
  have e4 := thr_ok hG.toHasThr hp (n := n - 1) (S := S) (by omega) hr
  have e5 := thr_no hG.toHasThr hp (n := n - 1) (by omega) hb
  have il : isiD S .list (.lst [rowT r, d]) = some true := rfl
  rw [run_at (by omega) hG.sb rfl]
  simp [fshown_by, tfshown_by, e1, e2, e3, e4, e5, il, finish]
/-- what is no number of a through -/
def oddN (c : Cd) (d : D) : Prop := (∃ i : Int, d = .int i ∧ (i < 0 ∨ (c.tot 1 1 : Int) ≤ i)) ∨ (∃ b, d = .bl b) ∨ d = .non ∨ ∃ z, d = .str z
theorem at_no (hG : HasK14a G) (h : c.ok) (hd : c.deep ≤ 8) (hp : c.parts ≤ 8) (hn : c.deep + 12 ≤ n) {d : D} (hb : oddN c d) : run G n 10 [c.toD, d] S = .exc ⟨1, []⟩ S := by
  have e1 := cond_unless hG.toHasCond (n := n - 1) (S := S) h hd hp (by omega)
  have e2 := knots_of hG.toHasKn (n := n - 1) (S := S) h (by omega) (by omega)
  have e3 := worths_of hG.toHasKn (n := n - 1) (S := S) c (by omega) (by omega)
  have e4 : run G (n - 1) 16 [d, .int 0, .int ((c.tot 1 1 : Int) - 1)] S = .ok (.bl false) S := by
    rcases hb with ⟨i, rfl, h⟩ | h
    · rw [is_whole hG.toHasKn (by omega)]
      congr 2
      rw [Bool.eq_false_iff]
      intro h'
      simp at h'
      omega
    · exact no_whole hG.toHasKn (by omega) h
  rw [run_at (by omega) hG.ta rfl]
  simp [fthrough_at, tfthrough_at, e1, e2, e3, e4, finish]
end
end Ev


namespace Ev
open PySem PySem.Spec L2
/-! ### the law: whether a row is one of some -/
def tf_law_is_one : Ss := (.cons (.ite (.nt (.isi (.var 0) .tuple)) (.cons (.ret (.con (.bl false))) (.nil)) (.nil)) (.cons (.set 3 (.comp false [2] (.var 2) (.nm 2) (.seq (.var 0)) (.cons (.or (.isi (.var 2) .bool) (.nt (.isi (.var 2) .int))) (.nil)))) (.cons (.ret (.and (.cmp .eq (.var 3) (.lst false (.nil))) (.cmp .isin (.bf false .list (.var 0)) (.var 1)))) (.nil))))
def f_law_is_one : Fn := ⟨2, 4, true, tf_law_is_one⟩
/-- what stands in a changed row -/
def cellD (d : D) : Prop := (∃ i, d = .int i) ∨ (∃ b, d = .bl b) ∨ d = .non ∨ d = .str "1"
theorem cell_one {d : D} (h : cellD d) : oneD d := by
  rcases h with ⟨i, rfl⟩ | ⟨b, rfl⟩ | rfl | rfl <;> trivial
def isInt : D → Bool
  | .int _ => true
  | _ => false
theorem cells_flat : ∀ {ds : List D}, (∀ d ∈ ds, cellD d) → D.plains ds = true ∧ PyData.canLayAll0 (D.pds ds) = true ∧ PyData.depthAll (D.pds ds) = 0
  | [], _ => ⟨rfl, rfl, rfl⟩
  | d :: ds, h => by
    obtain ⟨h1, h2, h3⟩ := cells_flat (ds := ds) fun x hx => h x (List.mem_cons_of_mem _ hx)
    have hd : d.plain = true ∧ d.pd.canLay0 = true ∧ d.pd.depth = 0 := by
      rcases h d List.mem_cons_self with ⟨i, rfl⟩ | ⟨b, rfl⟩ | rfl | rfl
      · exact ⟨rfl, rfl, rfl⟩
      · exact ⟨rfl, rfl, rfl⟩
      · exact ⟨rfl, rfl, rfl⟩
      · exact ⟨rfl, by decide +kernel, rfl⟩
    refine ⟨?_, ?_, ?_⟩
    · show (d.plain && D.plains ds) = true
      rw [hd.1, h1]
      rfl
    · show (d.pd.canLay0 && PyData.canLayAll0 (D.pds ds)) = true
      rw [hd.2.1, h2]
      rfl
    · show max d.pd.depth (PyData.depthAll (D.pds ds)) = 0
      rw [hd.2.2, h3]
      rfl
theorem cells_shaped {ds : List D} (h : ∀ d ∈ ds, cellD d) : SeqAt.shaped (D.pd (.lst ds)) = true := by
  obtain ⟨_, h2, h3⟩ := cells_flat h
  show (PyData.canLayAll0 (D.pds ds) && decide (PyData.depthAll (D.pds ds) + 1 ≤ 64)) = true
  rw [h2, h3]
  rfl
section
variable {G : Cfg} {n : Nat} {S : Store} {c : Cd}
theorem eq_nil {ds : List D} (h : ∀ d ∈ ds, cellD d) : cmpV .eq (.lst ds) (.lst []) S = .ok (.bl ds.isEmpty) S := by
  have e : eqD S (.lst ds) (.lst []) = some ds.isEmpty := by
    show (if (D.lst ds).plain && (D.lst []).plain && SeqAt.shaped (D.pd (.lst ds)) && SeqAt.shaped (D.pd (.lst [])) then some (PyData.eqv (D.pd (.lst ds)) (D.pd (.lst []))) else none) = _
    have p1 : (D.lst ds).plain = true := (cells_flat h).1
    have p2 : (D.lst []).plain = true := rfl
    have p3 : SeqAt.shaped (D.pd (.lst [])) = true := by decide +kernel
    rw [p1, p2, cells_shaped h, p3]
    cases ds <;> rfl
  show ofB (eqD S (.lst ds) (.lst [])) S = _
  rw [e]
  rfl
theorem eqv_ints : ∀ (r : List Nat) (is : List Int), PyData.eqvAll (D.pds (r.map natD)) (D.pds (is.map D.int)) = decide (r.map (fun x : Nat => (x : Int)) = is)
  | [], [] => rfl
  | [], i :: is => rfl
  | x :: r, [] => rfl
  | x :: r, i :: is => by
    show ((((x : Nat) : Int) == i) && PyData.eqvAll (D.pds (r.map natD)) (D.pds (is.map D.int))) = _
    rw [eqv_ints r is, Bool.eq_iff_iff]
    simp
theorem ints_map : ∀ {ds : List D}, ds.all isInt = true → ∃ is : List Int, ds = is.map D.int
  | [], _ => ⟨[], rfl⟩
  | d :: ds, h => by
    rw [List.all_cons, Bool.and_eq_true] at h
    obtain ⟨is, e⟩ := ints_map h.2
    cases d with
    | int i => exact ⟨i :: is, by rw [e]; rfl⟩
    | _ => cases h.1
theorem in_any (hp : c.parts ≤ 8) {is : List Int} : cmpV .isin (.lst (is.map D.int)) (.lst (c.rows.map rowL)) S = .ok (.bl (decide (∃ r ∈ c.rows, is.map D.int = r.map natD))) S := by
  have hR : ∀ r ∈ c.rows, r.length ≤ 8 ∧ ∀ x ∈ r, x ≤ 2 := fun r hr => by
    obtain ⟨p, hp', rfl⟩ := List.mem_map.mp hr
    exact ⟨by have := sides_len c p hp'; omega, sides_le c p hp'⟩
  have hl : c.rows.length ≤ 512 := by
    rw [Cd.rows, List.length_map, sides_tot]
    have := tot_small hp
    omega
  have hc : ∀ d ∈ is.map D.int, cellD d := fun d hd => by
    obtain ⟨i, _, rfl⟩ := List.mem_map.mp hd
    exact .inl ⟨i, rfl⟩
  have o2 := okd_rows hR hl
  have e1 : inSeq (.lst (is.map D.int)) (c.rows.map rowL) = none := rfl
  have e2 : inDat (.lst (is.map D.int)) (c.rows.map rowL) = some ((c.rows.map rowL).any fun y => PyData.eqv y.pd (D.pd (.lst (is.map D.int)))) := by
    unfold inDat
    have p1 : (D.lst (is.map D.int)).plain = true := (cells_flat hc).1
    have p2 : D.plains (c.rows.map rowL) = true := o2.pl
    have p4 : SeqAt.shaped (.list (D.pds (c.rows.map rowL))) = true := o2.shaped (by decide)
    rw [p1, p2, cells_shaped hc, p4]
    rfl
  show ofB (match inSeq (.lst (is.map D.int)) (c.rows.map rowL) with | some b => some b | none => inDat (.lst (is.map D.int)) (c.rows.map rowL)) S = _
  rw [e1, e2]
  show Ev.R.ok (D.bl _) S = _
  congr 2
  rw [List.any_map, Bool.eq_iff_iff, List.any_eq_true, decide_eq_true_eq]
  have e : ∀ z, ((fun y => PyData.eqv y.pd (D.pd (.lst (is.map D.int)))) ∘ rowL) z = decide (z.map (fun x : Nat => (x : Int)) = is) := fun z => eqv_ints z is
  simp only [e, decide_eq_true_eq]
  constructor
  · rintro ⟨z, h1, rfl⟩
    exact ⟨z, h1, by rw [List.map_map]; rfl⟩
  · rintro ⟨z, h1, h2⟩
    refine ⟨z, h1, ?_⟩
    have : (is.map D.int) = (z.map (fun x : Nat => (x : Int))).map D.int := by rw [h2, List.map_map]; rfl
    exact ((List.map_inj_right fun a b h => D.int.inj h).mp this).symm
end
end Ev


namespace Ev
open PySem PySem.Spec L2
/-! ### the law's own look for a pair -/
def shC : E := .comp false [3, 4] (.tup (.cons (.var 3) (.cons (.var 4) (.nil)))) (.tp (.cons (.nm 3) (.cons (.nm 4) (.nil)))) (.seq (.call 9 (.cons (.var 0) (.nil)))) (.cons (.cmp .isin (.var 3) (.var 2)) (.nil))
def Cd.among (c : Cd) (L : List (List Nat)) : List (List Nat × Bool) := c.sides.filter fun p => decide (p.1 ∈ L)
section
variable {G : Cfg} {n : Nat} {S : Store}
theorem own_shows (hS : G.fns[9]? = some f_law_sides) (hH : G.fns[53]? = some f_law_shows) {c : Cd} (h : c.ok) (hp : c.parts ≤ 8) (hn : c.deep + 5 ≤ n) {part : Nat} (hq : part < c.parts) {L : List (List Nat)} (hL : ∀ r ∈ L, r.length ≤ 8 ∧ ∀ x ∈ r, x ≤ 2) (hz : L.length ≤ 512) :
    run G n 53 [c.toD, .int part, .lst (L.map rowL)] S = .ok (showD (showsIn part (c.among L))) S := by
  obtain ⟨P, hP⟩ : ∃ P, P = c.among L := ⟨_, rfl⟩
  have hPs : ∀ p ∈ P, p ∈ c.sides := fun p h => (List.mem_filter.mp (show p ∈ c.sides.filter _ from hP ▸ h)).1
  have ls := law_sides hS c (n - 1) S h hp (by omega)
  have ht := tot_small hp
  have hst := sides_tot c
  have k1 : ∀ (x1 x3 x4 x5 x6 x7 x8 x9 x10 x11 : Option D), E.ev (run G (n - 1)) G shC [some c.toD, x1, some (.lst (L.map rowL)), x3, x4, x5, x6, x7, x8, x9, x10, x11] S = .ok (.lst (P.map sdD)) S := fun x1 x3 x4 x5 x6 x7 x8 x9 x10 x11 => by
    unfold shC
    rw [ev_e_comp]
    simp only [ev_i_seq, ev_e_call, ev_es_cons, ev_es_nil, ev_e_var, List.getElem?_cons_succ, List.getElem?_cons_zero, bind_ok', ls, seqI_lst, wipe_cons, wipe_nil, comp_def, List.set_cons_succ, List.set_cons_zero]
    rw [col_filterM (f := sdD) (P := fun p => decide (p.1 ∈ L)) (g := sdD) fun p hp' => ⟨_, rfl, by
      have hl := sides_len c p hp'
      have hi := in_rows (S := S) (r := p.1) (R := L) ⟨by omega, sides_le c p hp'⟩ hL hz
      simp only [ev_et_cons, ev_e_cmp, ev_e_var, List.set_cons_succ, List.set_cons_zero, List.getElem?_cons_succ, List.getElem?_cons_zero, bind_ok']
      rw [hi]
      rfl, fun _ => by simp [sz, sdD]⟩]
    rw [bind_ok', mkL_val (Nat.le_trans (by rw [List.length_map]; exact List.length_filter_le _ _) (sz (by omega))), hP]
    rfl
  obtain ⟨Z, hZ⟩ : ∃ Z, Z = D.lst (P.map sdD) := ⟨_, rfl⟩
  have sZ : seqItems S Z = some ⟨P.map sdD, none⟩ := by rw [hZ]; rfl
  let Env0 : Env → Prop := fun env => ∃ x3 x4 x6 x7 x8 x9 x10 x11, env = [some c.toD, some (.int part), some (.lst (L.map rowL)), x3, x4, some Z, x6, x7, x8, x9, x10, x11]
  let h2 : List Nat × Bool → List Nat × Bool → Option D := fun lo hi => if pairOk part lo hi then some (.tup [rowT lo.1, rowT hi.1]) else none
  have inner : ∀ lo ∈ P, ∀ x3 x4 x8 x9 x10 x11, (match P.findSome? (h2 lo) with
      | some d => Ev.Ss.ev (run G (n - 1)) G shO [some c.toD, some (.int part), some (.lst (L.map rowL)), x3, x4, some Z, some (rowL lo.1), some (.bl lo.2), x8, x9, x10, x11] S = .rt d S
      | none => ∃ env', Ev.Ss.ev (run G (n - 1)) G shO [some c.toD, some (.int part), some (.lst (L.map rowL)), x3, x4, some Z, some (rowL lo.1), some (.bl lo.2), x8, x9, x10, x11] S = .nx env' S ∧ Env0 env') := fun lo hlo x3 x4 x8 x9 x10 x11 => by
    have hl1 := sides_len c lo (hPs lo hlo)
    have lp := for_find (t := .tp (.cons (.nm 8) (.cons (.nm 9) (.nil)))) (body := fun env S => Ev.Ss.ev (run G (n - 1)) G shI env S) (f := sdD) (h := h2 lo) (S := S) (xs := P)
      (Inv := fun env => ∃ x8 x9 x10 x11, env = [some c.toD, some (.int part), some (.lst (L.map rowL)), x3, x4, some Z, some (rowL lo.1), some (.bl lo.2), x8, x9, x10, x11])
      (fun hi hhi env he => by
        obtain ⟨y8, y9, y10, y11, rfl⟩ := he
        refine ⟨[some c.toD, some (.int part), some (.lst (L.map rowL)), x3, x4, some Z, some (rowL lo.1), some (.bl lo.2), some (rowL hi.1), some (.bl hi.2), y10, y11], rfl, ?_⟩
        have hl2 := sides_len c hi (hPs hi hhi)
        obtain ⟨z10, z11, t⟩ := sh_turn (G := G) (n := n - 1) (S := S) (part := part) (lo := lo) (hi := hi) (by omega) (by omega) (by omega) (x0 := some c.toD) (x2 := some (.lst (L.map rowL))) (x3 := x3) (x4 := x4) (x5 := some Z) (x10 := y10) (x11 := y11)
        show (match h2 lo hi with | some d => Ev.Ss.ev (run G (n - 1)) G shI _ S = .rt d S | none => _)
        cases e : pairOk part lo hi
        · rw [show h2 lo hi = none from by simp only [h2, e]; rfl]
          rw [e] at t
          exact ⟨_, t, _, _, _, _, rfl⟩
        · rw [show h2 lo hi = some (.tup [rowT lo.1, rowT hi.1]) from by simp only [h2, e]; rfl]
          rw [e] at t
          exact t) _ ⟨x8, x9, x10, x11, rfl⟩
    obtain ⟨w, ew⟩ : ∃ w, w = shI := ⟨_, rfl⟩
    rw [← ew] at lp
    have hb : shO = .cons (.for (.tp (.cons (.nm 8) (.cons (.nm 9) (.nil)))) (.seq (.var 5)) w) (.nil) := by rw [ew]; rfl
    rw [hb]
    cases e : P.findSome? (h2 lo) with
    | some d =>
      rw [e] at lp
      simp only at lp ⊢
      simp [sZ, lp]
    | none =>
      rw [e] at lp
      obtain ⟨env', lp, y8, y9, y10, y11, rfl⟩ := lp
      simp only
      exact ⟨[some c.toD, some (.int part), some (.lst (L.map rowL)), x3, x4, some Z, some (rowL lo.1), some (.bl lo.2), y8, y9, y10, y11], by simp [sZ, lp], _, _, _, _, _, _, _, _, rfl⟩
  have outer := for_find (t := .tp (.cons (.nm 6) (.cons (.nm 7) (.nil)))) (body := fun env S => Ev.Ss.ev (run G (n - 1)) G shO env S) (f := sdD) (h := fun lo => P.findSome? (h2 lo)) (S := S) (xs := P) (Inv := Env0)
    (fun lo hlo env he => by
      obtain ⟨y3, y4, y6, y7, y8, y9, y10, y11, rfl⟩ := he
      exact ⟨_, rfl, inner lo hlo y3 y4 y8 y9 y10 y11⟩) [some c.toD, some (.int part), some (.lst (L.map rowL)), none, none, some Z, none, none, none, none, none, none] ⟨_, _, _, _, _, _, _, _, rfl⟩
  have res : (P.findSome? fun lo => P.findSome? (h2 lo)) = (showsIn part P).map pairD' := by
    unfold showsIn
    rw [← find_map]
    congr 1
    funext lo
    rw [← find_map]
    congr 1
    funext hi
    simp only [h2]
    split <;> rfl
  rw [res] at outer
  obtain ⟨ec, eec⟩ : ∃ ec, ec = shC := ⟨_, rfl⟩
  rw [← eec, ← hZ] at k1
  obtain ⟨w, ew⟩ : ∃ w, w = shO := ⟨_, rfl⟩
  rw [← ew] at outer
  have hb : f_law_shows.body = .cons (.set 5 ec) (.cons (.for (.tp (.cons (.nm 6) (.cons (.nm 7) (.nil)))) (.seq (.var 5)) w) (.cons (.ret (.con .non)) (.nil))) := by rw [ew, eec]; rfl
  rw [run_at (by omega) hH rfl, hb]
  have pl : ∀ p : List Nat × List Nat, (D.tup [rowT p.1, rowT p.2]).plain = true := fun p => by
    show ((rowT p.1).plain && ((rowT p.2).plain && true)) = true
    rw [rowT_plain, rowT_plain]
    rfl
  rw [← hP]
  cases e : showsIn part P with
  | none =>
    rw [e] at outer
    obtain ⟨env', outer, x3, x4, x6, x7, x8, x9, x10, x11, rfl⟩ := outer
    simp [f_law_shows, k1, sZ, outer, showD]
  | some p =>
    rw [e] at outer
    have outer : forGo _ none _ (P.map sdD) _ S = .rt (.tup [rowT p.1, rowT p.2]) S := outer
    simp [f_law_shows, k1, sZ, outer, showD, pl p]
end
end Ev


namespace Ev
open PySem PySem.Spec L2
/-! ### the law of the pairs that show: its turns -/
def tflaw_10 : Ss := (.cons (.for (.nm 1) (.seq (.bin false .add (.lst false (.cons (.call 0 (.cons (.var 0) (.cons (.con (.int 0)) (.nil)))) (.cons (.con (.int 1)) (.nil)))) (.cutC false (.var 0) (.con (.int 1)) (.con (.int 6))))) (.cons (.set 2 (.lst true (.cons (.var 1) (.nil)))) (.cons (.set 3 (.call 2 (.cons (.var 2) (.cons (.bin false .add (.con (.int 1)) (.call 1 (.cons (.var 2) (.cons (.con (.int 8)) (.nil))))) (.cons (.bin false .add (.con (.int 1)) (.call 1 (.cons (.var 2) (.cons (.con (.int 5)) (.nil))))) (.nil)))))) (.cons (.set 6 (.comp false [4, 5] (.var 4) (.tp (.cons (.nm 4) (.cons (.nm 5) (.nil)))) (.seq (.call 9 (.cons (.var 3) (.nil)))) (.nil))) (.cons (.set 8 (.comp false [7] (.call 4 (.cons (.var 2) (.cons (.var 6) (.nil)))) (.nm 7) (.rng (.cons (.call 1 (.cons (.var 2) (.cons (.con (.int 7)) (.nil)))) (.nil))) (.nil))) (.cons (.for (.nm 9) (.seq (.tup (.cons (.var 8) (.cons (.bin false .add (.var 8) (.cutB false (.var 8) (.con (.int 2)))) (.cons (.var 6) (.cons (.rev false (.var 6)) (.cons (.call 52 (.cons (.var 3) (.nil))) (.cons (.lst false (.nil)) (.nil))))))))) (.cons (.for (.nm 10) (.rng (.cons (.bf false .len (.ix (.var 6) (.con (.int 0)))) (.nil))) (.cons (.set 11 (.comp false [4] (.bf false .tuple (.var 4)) (.nm 4) (.seq (.var 9)) (.nil))) (.cons (.set 12 (.call 53 (.cons (.var 3) (.cons (.var 10) (.cons (.var 9) (.nil)))))) (.cons (.ite (.or (.cmp .ne (.bf false .repr (.call 20 (.cons (.var 3) (.cons (.var 10) (.cons (.var 11) (.nil)))))) (.bf false .repr (.var 12))) (.cmp .ne (.var 11) (.comp false [4] (.bf false .tuple (.var 4)) (.nm 4) (.seq (.var 9)) (.nil)))) (.cons (.ret (.con (.bl false))) (.nil)) (.nil)) (.cons (.ite (.cmp .ne (.bf false .repr (.call 20 (.cons (.var 3) (.cons (.var 10) (.cons (.rev false (.var 11)) (.nil)))))) (.bf false .repr (.var 12))) (.cons (.ret (.con (.bl false))) (.nil)) (.nil)) (.nil)))))) (.nil))) (.cons (.set 13 (.call 4 (.cons (.var 2) (.cons (.lst false (.cons (.bf false .len (.ix (.var 6) (.con (.int 0)))) (.cons (.neg (.con (.int 1))) (.cons (.con (.bl true)) (.cons (.con .non) (.cons (.con (.str "0")) (.cons (.bin false .pow (.con (.int 10)) (.con (.int 30))) (.nil)))))))) (.nil))))) (.cons (.for (.nm 14) (.seq (.tup (.cons (.lst false (.cons (.bf false .tuple (.ix (.var 6) (.con (.int 0)))) (.nil))) (.cons (.con .non) (.cons (.lst false (.cons (.tup (.nil)) (.nil))) (.nil)))))) (.cons (.ite (.cmp .ne (.told (.call 20 (.cons (.var 3) (.cons (.var 13) (.cons (.var 14) (.nil)))))) (.tup (.cons (.con (.str "refused")) (.cons (.lst false (.cons (.con (.str "number")) (.nil))) (.nil))))) (.cons (.ret (.con (.bl false))) (.nil)) (.nil)) (.nil))) (.nil))))))))) (.cons (.ret (.con (.bl true))) (.nil)))
def flaw_10 : Fn := ⟨1, 15, true, tflaw_10⟩
structure HasK76 (G : Cfg) : Prop extends HasSb G, HasDraw G, HasOwn G where
  ca : G.fns[0]? = some f_law_cell_at
  sd : G.fns[9]? = some f_law_sides
  vs : G.fns[40]? = some f_law_all_values
  ov : G.fns[52]? = some f_law_of_values
  sh : G.fns[53]? = some f_law_shows
  law : G.fns[51]? = some flaw_10
section
variable {G : Cfg} {n : Nat} {S : Store}
theorem pick_ds {l : Nat} {st : List D} {B : Nat} {xs : List D} (hn : 2 ≤ n) (hG : HasDraw G) (h : S[l]? = some (.lst st)) (hs : stOk B st) (hB : B < 2 ^ 300) (hw : 1 ≤ xs.length ∧ xs.length < 1000) :
    ∃ d st', run G n 4 [.ref l, .lst xs] S = .ok d (S.set l (.lst st')) ∧ d ∈ xs ∧ stOk (B + 1) st' := by
  obtain ⟨r, st', e, h1, h2, h3⟩ := digit_at (n := n - 1) (base := (xs.length : Nat)) (by omega) hG.dg h hs hB (by omega)
  obtain ⟨d, hd, hd2⟩ := atI_mem (xs := xs) h1 h2
  have hr : frz (S.set l (.lst st')) S.length 3 d = frz (S.set l (.lst st')) S.length 3 d := rfl
  refine ⟨d, st', ?_, hd, h3⟩
  rw [run_at (by omega) hG.pk rfl]
  have hx : ixV (.lst xs) (.int r) (S.set l (.lst st')) = .ok d (S.set l (.lst st')) := ix_lst hd2
  simp [f_law_pick, tf_law_pick, e, hx]
/-- rows that are drawn -/
theorem picks {c : Cd} {env : Env} (hn : 2 ≤ n) (hG : HasDraw G) (hp : c.parts ≤ 8) {okf : Env → Store → R Bool} {evf : Env → Store → R D} {S0 : Store} (hok : ∀ e S, okf e S = .ok true S) (hev : ∀ x S, evf (env.set 7 (some x)) S = run G n 4 [.ref S0.length, .lst (c.rows.map rowL)] S) :
    ∀ (xs : List D) (st : List D) (B : Nat), stOk B st → B + xs.length ≤ 2 ^ 40 → ∃ (L : List (List Nat)) (st' : List D), colGo (.nm 7) none (step1 okf evf) env xs (S0 ++ [.lst st]) = .ok (L.map rowL) (S0 ++ [.lst st']) ∧ L.length = xs.length ∧ (∀ r ∈ L, r ∈ c.rows) ∧ stOk (B + xs.length) st'
  | [], st, B, hs, _ => ⟨[], st, rfl, rfl, fun _ h => (by cases h), hs⟩
  | x :: xs, st, B, hs, hB => by
    have hl : c.rows.length = c.tot 1 1 := by rw [Cd.rows, List.length_map, sides_tot]
    have ht := tot_small hp
    have hpos := tot_pos c
    obtain ⟨d, st1, e, hd, h1⟩ := pick_ds (n := n) (S := S0 ++ [.lst st]) (l := S0.length) (B := B) (xs := c.rows.map rowL) hn hG (by simp) hs (Nat.lt_of_le_of_lt (Nat.le_trans (Nat.le_add_right _ _) hB) (by decide)) (by rw [List.length_map]; omega)
    obtain ⟨r, hr, rfl⟩ := List.mem_map.mp hd
    have hset : (S0 ++ [Ob.lst st]).set S0.length (.lst st1) = S0 ++ [.lst st1] := by simp
    rw [hset] at e
    obtain ⟨L, st', e2, h2, h3, h4⟩ := picks hn hG hp hok hev xs st1 (B + 1) h1 (by rw [List.length_cons] at hB; omega)
    refine ⟨r :: L, st', ?_, by simp [h2], fun q hq => ?_, by rw [List.length_cons]; exact (show B + (xs.length + 1) = B + 1 + xs.length by omega) ▸ h4⟩
    · rw [List.map_cons]
      refine col_cons (ys := [rowL r]) (env1 := env.set 7 (some x)) (S2 := S0 ++ [.lst st1]) rfl ?_ e2
      unfold step1
      rw [hok]
      simp only
      rw [hev, e]
      rfl
    · rcases List.mem_cons.mp hq with rfl | hq
      · exact hr
      · exact h3 q hq
end
end Ev


namespace Ev
open PySem PySem.Spec L2
def tf_law_changed_1 : Ss := (.cons (.set 2 (.call 1 (.cons (.var 0) (.cons (.bin false .add (.bf false .len (.var 1)) (.con (.int 1))) (.nil))))) (.cons (.set 3 (.call 4 (.cons (.var 0) (.cons (.lst false (.cons (.con (.int 0)) (.cons (.con (.int 1)) (.cons (.con (.int 2)) (.cons (.con (.int 0)) (.cons (.con (.int 1)) (.cons (.con (.int 2)) (.cons (.con (.int 3)) (.cons (.neg (.con (.int 1))) (.cons (.con (.bl true)) (.cons (.con (.bl false)) (.cons (.con (.str "1")) (.cons (.con .non) (.cons (.bin false .pow (.con (.int 10)) (.con (.int 40))) (.nil))))))))))))))) (.nil))))) (.cons (.set 4 (.call 1 (.cons (.var 0) (.cons (.con (.int 4)) (.nil))))) (.cons (.ite (.cmp .lt (.var 4) (.con (.int 2))) (.cons (.ret (.bin false .add (.bin false .add (.cutB false (.var 1) (.var 2)) (.tup (.cons (.var 3) (.nil)))) (.cutA false (.var 1) (.bin false .add (.var 2) (.con (.int 1)))))) (.nil)) (.nil)) (.cons (.ret (.ix (.lst false (.cons (.bin false .add (.bin false .add (.cutB false (.var 1) (.var 2)) (.tup (.cons (.var 3) (.nil)))) (.cutA false (.var 1) (.var 2))) (.cons (.bin false .add (.cutB false (.var 1) (.var 2)) (.cutA false (.var 1) (.bin false .add (.var 2) (.con (.int 1))))) (.nil)))) (.bin false .sub (.var 4) (.con (.int 2))))) (.nil))))))
def f_law_changed_1 : Fn := ⟨2, 5, false, tf_law_changed_1⟩
section
variable {G : Cfg} {n : Nat} {S : Store} {c : Cd}
theorem is_one (hO : G.fns[27]? = some f_law_is_one) (hn : 1 ≤ n) (hp : c.parts ≤ 8) {ds : List D} (hz : ds.length ≤ 1000) (h : ∀ d ∈ ds, cellD d) : run G n 27 [.tup ds, .lst (c.rows.map rowL)] S = .ok (.bl (decide (∃ r ∈ c.rows, ds = r.map natD))) S := by
  have it : isiD S .tuple (.tup ds) = some true := rfl
  obtain ⟨ec, eec⟩ : ∃ ec : E, ec = .comp false [2] (.var 2) (.nm 2) (.seq (.var 0)) (.cons (.or (.isi (.var 2) .bool) (.nt (.isi (.var 2) .int))) (.nil)) := ⟨_, rfl⟩
  have k1 : ∀ a b d : Option D, E.ev (run G (n - 1)) G ec [some (.tup ds), a, b, d] S = .ok (.lst (ds.filter fun d => !isInt d)) S := fun a b d => by
    rw [eec, ev_e_comp]
    simp only [ev_i_seq, ev_e_var, List.getElem?_cons_succ, List.getElem?_cons_zero, bind_ok', seqI_tup, wipe_cons, wipe_nil, comp_def, List.set_cons_succ, List.set_cons_zero]
    rw [col_filter (P := fun d => !isInt d) fun x hx => by
      refine ⟨_, rfl, ?_, by simp⟩
      rcases h x hx with ⟨i, rfl⟩ | ⟨b, rfl⟩ | rfl | rfl
      · have e1 : isiD S .bool (.int i) = some false := rfl
        have e2 : isiD S .int (.int i) = some true := rfl
        simp [e1, e2, isInt]
      · have e1 : isiD S .bool (.bl b) = some true := rfl
        simp [e1, isInt]
      · have e1 : isiD S .bool .non = some false := rfl
        have e2 : isiD S .int .non = some false := rfl
        simp [e1, e2, isInt]
      · have e1 : isiD S .bool (.str "1") = some false := rfl
        have e2 : isiD S .int (.str "1") = some false := rfl
        simp [e1, e2, isInt]]
    rw [bind_ok', mkL_val (Nat.le_trans (List.length_filter_le _ _) (sz (by omega)))]
  have k2 := eq_nil (S := S) (ds := ds.filter fun d => !isInt d) fun d hd => h d (List.mem_filter.mp hd).1
  have k3 : bfV false .list (.tup ds) S = .ok (.lst ds) S := by
    show mkL false ds S = _
    exact mkL_val (sz (by omega))
  have hb : f_law_is_one.body = .cons (.ite (.nt (.isi (.var 0) .tuple)) (.cons (.ret (.con (.bl false))) (.nil)) (.nil)) (.cons (.set 3 ec) (.cons (.ret (.and (.cmp .eq (.var 3) (.lst false (.nil))) (.cmp .isin (.bf false .list (.var 0)) (.var 1)))) (.nil))) := by rw [eec]; rfl
  rw [run_at (by omega) hO rfl, hb]
  obtain ⟨F, hF⟩ : ∃ F, F = ds.filter fun d => !isInt d := ⟨_, rfl⟩
  rw [← hF] at k2
  simp only [← hF] at k1
  have z0 : (0 : Nat) ≤ sizeLine := Nat.zero_le _
  by_cases ha : ds.all isInt = true
  · obtain ⟨is, rfl⟩ := ints_map ha
    have hf : F.isEmpty = true := by
      rw [hF, List.isEmpty_iff, List.filter_eq_nil_iff]
      intro d hd
      obtain ⟨i, _, rfl⟩ := List.mem_map.mp hd
      simp [isInt]
    rw [hf] at k2
    have k4 := in_any (S := S) hp (is := is)
    generalize decide (∃ r ∈ c.rows, is.map D.int = r.map natD) = B at k4 ⊢
    generalize c.rows.map rowL = RR at k4 ⊢
    generalize is.map D.int = ds at k1 k3 k4 it ⊢
    simp [f_law_is_one, it, k1, k2, k3, k4]
  · have hf : F.isEmpty = false := by
      rw [Bool.eq_false_iff]
      intro z
      apply ha
      rw [List.isEmpty_iff, hF, List.filter_eq_nil_iff] at z
      rw [List.all_eq_true]
      intro d hd
      simpa using z d hd
    rw [hf] at k2
    have no : decide (∃ r ∈ c.rows, ds = r.map natD) = false := by
      rw [decide_eq_false_iff_not]
      rintro ⟨r, _, rfl⟩
      apply ha
      rw [List.all_eq_true]
      intro d hd
      obtain ⟨x, _, rfl⟩ := List.mem_map.mp hd
      rfl
    rw [no]
    simp [f_law_is_one, it, k1, k2]
theorem is_none (hO : G.fns[27]? = some f_law_is_one) (hn : 1 ≤ n) {d R : D} (h : isiD S .tuple d = some false) : run G n 27 [d, R] S = .ok (.bl false) S := by
  rw [run_at (by omega) hO rfl]
  simp [f_law_is_one, tf_law_is_one, h]
theorem cutD_mem {xs : List D} {a b : Option Int} {d : D} (h : d ∈ cutD xs a b) : d ∈ xs := by
  unfold cutD at h
  exact List.mem_of_mem_drop (List.mem_of_mem_take h)
theorem cutD_len {xs : List D} {a b : Option Int} : (cutD xs a b).length ≤ xs.length := by
  unfold cutD
  rw [List.length_take, List.length_drop]
  omega
theorem cut_tup {xs : List D} {a b : Option Int} : cutV false (.tup xs) a b S = .ok (.tup (cutD xs a b)) S := rfl
def odds14 : List D := [.int 0, .int 1, .int 2, .int 0, .int 1, .int 2, .int 3, .int (-1), .bl true, .bl false, .str "1", .non, .int (10 ^ 40)]
theorem odds14_cell {d : D} (h : d ∈ odds14) : cellD d := by
  simp only [odds14, List.mem_cons, List.not_mem_nil, or_false] at h
  rcases h with rfl | rfl | rfl | rfl | rfl | rfl | rfl | rfl | rfl | rfl | rfl | rfl | rfl <;> first | exact .inl ⟨_, rfl⟩ | exact .inr (.inl ⟨_, rfl⟩) | exact .inr (.inr (.inl rfl)) | exact .inr (.inr (.inr rfl))
def eO14 : E := .lst false (.cons (.con (.int 0)) (.cons (.con (.int 1)) (.cons (.con (.int 2)) (.cons (.con (.int 0)) (.cons (.con (.int 1)) (.cons (.con (.int 2)) (.cons (.con (.int 3)) (.cons (.neg (.con (.int 1))) (.cons (.con (.bl true)) (.cons (.con (.bl false)) (.cons (.con (.str "1")) (.cons (.con .non) (.cons (.bin false .pow (.con (.int 10)) (.con (.int 40))) (.nil))))))))))))))
theorem odds14_v {env : Env} : E.ev (run G n) G eO14 env S = .ok (.lst odds14) S := by
  have hpow : binV false .pow (.int 10) (.int 40) S = .ok (.int (10 ^ 40)) S := by rfl
  unfold eO14 odds14
  simp only [ev_e_lst, ev_es_cons, ev_es_nil, ev_e_con, ev_e_neg, ev_e_bin, bind_ok', hpow]
  rw [mkL_val (sz (by simp))]
theorem changed (hG : HasDraw G) (hC : G.fns[24]? = some f_law_changed_1) (hn : 4 ≤ n) {l : Nat} {st : List D} {B : Nat} {ds : List D} (h : S[l]? = some (.lst st)) (hs : stOk B st) (hB : B ≤ 2 ^ 40) (hz : ds.length ≤ 300) (hc : ∀ d ∈ ds, cellD d) :
    ∃ ds' st', run G n 24 [.ref l, .tup ds] S = .ok (.tup ds') (S.set l (.lst st')) ∧ (∀ d ∈ ds', cellD d) ∧ ds'.length ≤ 2 * ds.length + 1 ∧ stOk (B + 3) st' := by
  have hl : l < S.length := (List.getElem?_eq_some_iff.mp h).1
  obtain ⟨r1, st1, e1, a1, b1, s1⟩ := digit_at (n := n - 1) (base := ((ds.length : Nat) : Int) + 1) (by omega) hG.dg h hs (Nat.lt_of_le_of_lt hB (by decide)) (by omega)
  have h1 : (S.set l (.lst st1))[l]? = some (.lst st1) := by simp [hl]
  obtain ⟨d, st2, e2, m2, s2⟩ := pick_ds (n := n - 1) (xs := odds14) (by omega) hG h1 s1 (Nat.lt_of_le_of_lt (Nat.succ_le_succ hB) (by decide)) (by simp [odds14])
  rw [set_same] at e2
  have h2 : (S.set l (.lst st2))[l]? = some (.lst st2) := by simp [hl]
  obtain ⟨r3, st3, e3, a3, b3, s3⟩ := digit_at (n := n - 1) (base := 4) (by omega) hG.dg h2 s2 (Nat.lt_of_le_of_lt (Nat.succ_le_succ (Nat.succ_le_succ hB)) (by decide)) (by omega)
  rw [set_same] at e3
  have hd := odds14_cell m2
  obtain ⟨S3, hS3⟩ : ∃ S3, S3 = S.set l (.lst st3) := ⟨_, rfl⟩
  rw [← hS3] at e3
  have cd : ∀ a b, ∀ x ∈ cutD ds a b, cellD x := fun a b x hx => hc x (cutD_mem hx)
  have lens : ∀ a b, (cutD ds a b).length ≤ ds.length := fun a b => cutD_len
  have le1 : bfV false .len (.tup ds) S = .ok (.int (ds.length : Nat)) S := rfl
  have add1 : ∀ a b (c : List D), c.length ≤ 2 → binV false .add (.tup (cutD ds a b)) (.tup c) S3 = .ok (.tup (cutD ds a b ++ c)) S3 := fun a b c h => v_add_tup (sz (by have := lens a b; rw [List.length_append]; omega))
  have add2 : ∀ a b a' b' (c : List D), c.length ≤ 2 → binV false .add (.tup (cutD ds a b ++ c)) (.tup (cutD ds a' b')) S3 = .ok (.tup (cutD ds a b ++ c ++ cutD ds a' b')) S3 := fun a b a' b' c h => v_add_tup (sz (by have := lens a b; have := lens a' b'; rw [List.length_append, List.length_append]; omega))
  have add3 : ∀ a b a' b', binV false .add (.tup (cutD ds a b)) (.tup (cutD ds a' b')) S3 = .ok (.tup (cutD ds a b ++ cutD ds a' b')) S3 := fun a b a' b' => v_add_tup (sz (by have := lens a b; have := lens a' b'; rw [List.length_append]; omega))
  obtain ⟨eO, eeO⟩ : ∃ e, e = eO14 := ⟨_, rfl⟩
  have eo := fun env => odds14_v (G := G) (n := n - 1) (S := S.set l (.lst st1)) (env := env)
  simp only [← eeO] at eo
  have hb : f_law_changed_1.body = .cons (.set 2 (.call 1 (.cons (.var 0) (.cons (.bin false .add (.bf false .len (.var 1)) (.con (.int 1))) (.nil))))) (.cons (.set 3 (.call 4 (.cons (.var 0) (.cons eO (.nil))))) (.cons (.set 4 (.call 1 (.cons (.var 0) (.cons (.con (.int 4)) (.nil))))) (.cons (.ite (.cmp .lt (.var 4) (.con (.int 2))) (.cons (.ret (.bin false .add (.bin false .add (.cutB false (.var 1) (.var 2)) (.tup (.cons (.var 3) (.nil)))) (.cutA false (.var 1) (.bin false .add (.var 2) (.con (.int 1)))))) (.nil)) (.nil)) (.cons (.ret (.ix (.lst false (.cons (.bin false .add (.bin false .add (.cutB false (.var 1) (.var 2)) (.tup (.cons (.var 3) (.nil)))) (.cutA false (.var 1) (.var 2))) (.cons (.bin false .add (.cutB false (.var 1) (.var 2)) (.cutA false (.var 1) (.bin false .add (.var 2) (.con (.int 1))))) (.nil)))) (.bin false .sub (.var 4) (.con (.int 2))))) (.nil))))) := by rw [eeO]; rfl
  generalize odds14 = od at e2 eo
  rw [run_at (by omega) hC rfl, hb]
  by_cases c1 : r3 < 2
  · refine ⟨cutD ds none (some r1) ++ [d] ++ cutD ds (some (r1 + 1)) none, st3, ?_, ?_, ?_, s3⟩
    · simp [f_law_changed_1, le1, e1, e2, e3, eo, eq_true c1, cut_tup, add1, add2, sz, ← hS3]
    · intro x hx
      rcases List.mem_append.mp hx with hx | hx
      · rcases List.mem_append.mp hx with hx | hx
        · exact cd _ _ x hx
        · rw [List.mem_singleton.mp hx]; exact hd
      · exact cd _ _ x hx
    · have := lens none (some r1)
      have := lens (some (r1 + 1)) none
      rw [List.length_append, List.length_append, List.length_singleton]
      omega
  · have c2 : r3 = 2 ∨ r3 = 3 := by omega
    rcases c2 with rfl | rfl
    · refine ⟨cutD ds none (some r1) ++ [d] ++ cutD ds (some r1) none, st3, ?_, ?_, ?_, s3⟩
      · have ix : ∀ x y : D, ixV (.lst [x, y]) (.int 0) S3 = .ok x S3 := fun x y => ix_lst rfl
        simp [f_law_changed_1, le1, e1, e2, e3, eo, cut_tup, add1, add2, add3, sz, ix, ← hS3]
      · intro x hx
        rcases List.mem_append.mp hx with hx | hx
        · rcases List.mem_append.mp hx with hx | hx
          · exact cd _ _ x hx
          · rw [List.mem_singleton.mp hx]; exact hd
        · exact cd _ _ x hx
      · have := lens none (some r1)
        have := lens (some r1) none
        rw [List.length_append, List.length_append, List.length_singleton]
        omega
    · refine ⟨cutD ds none (some r1) ++ cutD ds (some (r1 + 1)) none, st3, ?_, ?_, ?_, s3⟩
      · have ix : ∀ x y : D, ixV (.lst [x, y]) (.int 1) S3 = .ok y S3 := fun x y => ix_lst rfl
        simp [f_law_changed_1, le1, e1, e2, e3, eo, cut_tup, add1, add2, add3, sz, ix, ← hS3]
      · intro x hx
        rcases List.mem_append.mp hx with hx | hx <;> exact cd _ _ x hx
      · have := lens none (some r1)
        have := lens (some (r1 + 1)) none
        rw [List.length_append]
        omega
end
end Ev


namespace Ev
open PySem PySem.Spec L2
def lk76 : Ss := match tflaw_10 with
  | .cons (.for _ _ b) _ => b
  | _ => .nil
def lkA : Ss := match lk76 with
  | .cons _ (.cons _ (.cons _ (.cons _ (.cons (.for _ _ b) _)))) => b
  | _ => .nil
def lkP : Ss := match lkA with
  | .cons (.for _ _ b) _ => b
  | _ => .nil
def lkB : Ss := match lk76 with
  | .cons _ (.cons _ (.cons _ (.cons _ (.cons _ (.cons _ (.cons (.for _ _ b) _)))))) => b
  | _ => .nil
def cmT : E := .comp false [4] (.bf false .tuple (.var 4)) (.nm 4) (.seq (.var 9)) (.nil)
section
variable {G : Cfg} {n : Nat} {S : Store} {c : Cd}
theorem okd_pair (hp : c.parts ≤ 8) {part : Nat} {L : List (List Nat)} : Okd 300 2 (showD (showsIn part (c.among L))) := by
  have hin : ∀ p ∈ c.among L, p ∈ c.sides := fun p h => (List.mem_filter.mp h).1
  have hr : ∀ p ∈ c.sides, Okd 100 1 (rowT p.1) := fun p h => by
    have hl := sides_len c p h
    have hs := sides_le c p h
    exact (okd_row (r := p.1) fun x hx => by have := hs x hx; omega).tup.mono (by omega) (by omega)
  cases e : showsIn part (c.among L) with
  | none => exact Okd.non.mono (Nat.zero_le _) (Nat.zero_le _)
  | some p =>
    obtain ⟨lo, h1, e⟩ := List.exists_of_findSome?_eq_some e
    obtain ⟨hi, h2, e⟩ := List.exists_of_findSome?_eq_some e
    split at e
    · cases e
      exact ((Okds.cons (hr lo (hin lo h1)) (Okds.cons (hr hi (hin hi h2)) Okds.nil)).tup).mono (by omega) (by omega)
    · cases e
theorem repr_pair (hp : c.parts ≤ 8) {part : Nat} {L : List (List Nat)} : ∃ z : Str, bfV false .repr (showD (showsIn part (c.among L))) S = .ok (.str z) S := by
  have h := (okd_pair (part := part) (L := L) hp).repr (by decide) (by decide)
  generalize showsIn part (c.among L) = o at h ⊢
  cases o with
  | none => exact ⟨"None", rfl⟩
  | some p => exact ⟨_, repr_tup h⟩
theorem rows_back {L : List (List Nat)} (hL : ∀ r ∈ L, r ∈ c.rows) : ∃ R : List (List Nat × Bool), (∀ p ∈ R, p ∈ c.sides) ∧ R.map (·.1) = L := by
  induction L with
  | nil => exact ⟨[], by simp, rfl⟩
  | cons r L ih =>
    obtain ⟨R, h1, h2⟩ := ih fun q hq => hL q (List.mem_cons_of_mem _ hq)
    obtain ⟨p, hp, e⟩ := List.mem_map.mp (hL r List.mem_cons_self)
    exact ⟨p :: R, fun q hq => (List.mem_cons.mp hq).elim (fun z => z ▸ hp) (h1 q), by rw [List.map_cons, h2, e]⟩
theorem shown_rows (hG : HasSb G) (h : c.ok) (hd : c.deep ≤ 8) (hp : c.parts ≤ 8) (hn : c.deep + 12 ≤ n) {part : Nat} (hq : part < c.parts) {L : List (List Nat)} (hL : ∀ r ∈ L, r ∈ c.rows) (hz : L.length ≤ 1000) :
    run G n 20 [c.toD, .int part, .lst (L.map rowT)] S = .ok (showD (showsIn part (c.among L))) S := by
  obtain ⟨R, h1, rfl⟩ := rows_back hL
  have := shown_by hG (S := S) h hd hp hn hq h1 (by simpa using hz)
  rw [List.map_map]
  exact this
theorem among_rev {L : List (List Nat)} : c.among L.reverse = c.among L := by
  unfold Cd.among
  refine List.filter_congr fun p _ => ?_
  simp
theorem okd_rowsT {L : List (List Nat)} (hp : c.parts ≤ 8) (hL : ∀ r ∈ L, r ∈ c.rows) (hz : L.length ≤ 512) : Okd (256 * 256) 2 (.lst (L.map rowT)) := by
  have := Okds.all (w := 100) (p := 1) (ds := L.map rowT) fun d hd => by
    obtain ⟨r, hr, rfl⟩ := List.mem_map.mp hd
    obtain ⟨p, hp', rfl⟩ := List.mem_map.mp (hL r hr)
    have hl := sides_len c p hp'
    have hs := sides_le c p hp'
    exact (okd_row (r := p.1) fun x hx => by have := hs x hx; omega).tup.mono (by omega) (by omega)
  rw [List.length_map] at this
  exact this.lst.mono (by omega) (by omega)
theorem part_turn (hG : HasK76 G) (h : c.ok) (hd : c.deep ≤ 8) (hp : c.parts ≤ 8) (hn : 30 ≤ n) {part : Nat} (hq : part < c.parts) {L : List (List Nat)} (hL : ∀ r ∈ L, r ∈ c.rows) (hz : L.length ≤ 512) {x0 x1 x2 x4 x5 x6 x7 x8 x11 x12 x13 x14 : Option D} : ∃ y11 y12,
    Ev.Ss.ev (run G n) G lkP [x0, x1, x2, some c.toD, x4, x5, x6, x7, x8, some (.lst (L.map rowL)), some (.int part), x11, x12, x13, x14] S = .nx [x0, x1, x2, some c.toD, x4, x5, x6, x7, x8, some (.lst (L.map rowL)), some (.int part), y11, y12, x13, x14] S := by
  have hrow : ∀ r ∈ L, r.length ≤ 8 ∧ ∀ x ∈ r, x ≤ 2 := fun r hr => by
    obtain ⟨p, hp', rfl⟩ := List.mem_map.mp (hL r hr)
    exact ⟨by have := sides_len c p hp'; omega, sides_le c p hp'⟩
  have k1 : ∀ (x11 x12 : Option D), E.ev (run G n) G cmT [x0, x1, x2, some c.toD, x4, x5, x6, x7, x8, some (.lst (L.map rowL)), some (.int part), x11, x12, x13, x14] S = .ok (.lst (L.map rowT)) S := fun x11 x12 => by
    unfold cmT
    rw [ev_e_comp]
    simp only [ev_i_seq, ev_e_var, List.getElem?_cons_succ, List.getElem?_cons_zero, bind_ok', seqI_lst, wipe_cons, wipe_nil, comp_def, ev_et_nil, List.set_cons_succ, List.set_cons_zero]
    rw [col_mapG (f := rowL) (h := rowT) rfl fun r hr => ⟨_, rfl, by
      have t1 : bfV false .tuple (rowL r) S = .ok (rowT r) S := tuple_lst (sz (by have := (hrow r hr).1; simp; omega))
      simp [t1]⟩]
    rw [bind_ok', mkL_val (sz (by rw [List.length_map]; omega))]
  have k2 := own_shows (G := G) (n := n) (S := S) hG.sd hG.sh h hp (by omega) hq hrow hz
  have k3 := shown_rows (n := n) (S := S) hG.toHasSb h hd hp (by omega) hq hL (by omega)
  have k4 := shown_rows (n := n) (S := S) hG.toHasSb h hd hp (by omega) hq (L := L.reverse) (fun r hr => hL r (List.mem_reverse.mp hr)) (by rw [List.length_reverse]; omega)
  rw [among_rev] at k4
  obtain ⟨z, k5⟩ := repr_pair (S := S) (part := part) (L := L) hp
  have k6 : cmpV .ne (.lst (L.map rowT)) (.lst (L.map rowT)) S = .ok (.bl false) S := ne_same (okd_rowsT hp hL hz) (by decide)
  have k7 : mkL false (L.map rowT).reverse S = .ok (.lst (L.reverse.map rowT)) S := by
    rw [← List.map_reverse, mkL_val (sz (by rw [List.length_map, List.length_reverse]; omega))]
  generalize showD (showsIn part (c.among L)) = o at k2 k3 k4 k5
  generalize L.map rowT = LT at k1 k3 k6 k7 ⊢
  generalize L.reverse.map rowT = LR at k4 k7
  obtain ⟨ec, eec⟩ : ∃ ec, ec = cmT := ⟨_, rfl⟩
  rw [← eec] at k1
  have hb : lkP = .cons (.set 11 ec) (.cons (.set 12 (.call 53 (.cons (.var 3) (.cons (.var 10) (.cons (.var 9) (.nil)))))) (.cons (.ite (.or (.cmp .ne (.bf false .repr (.call 20 (.cons (.var 3) (.cons (.var 10) (.cons (.var 11) (.nil)))))) (.bf false .repr (.var 12))) (.cmp .ne (.var 11) ec)) (.cons (.ret (.con (.bl false))) (.nil)) (.nil)) (.cons (.ite (.cmp .ne (.bf false .repr (.call 20 (.cons (.var 3) (.cons (.var 10) (.cons (.rev false (.var 11)) (.nil)))))) (.bf false .repr (.var 12))) (.cons (.ret (.con (.bl false))) (.nil)) (.nil)) (.nil)))) := by rw [eec]; rfl
  have lo : lstOf S (.lst LT) = some LT := rfl
  refine ⟨some (.lst LT), some o, ?_⟩
  rw [hb]
  simp [k1, k2, k3, k4, k5, k6, k7, lo]
end
end Ev


namespace Ev
open PySem PySem.Spec L2
section
variable {G : Cfg} {n : Nat} {S : Store} {c : Cd}
theorem stOk_mono {B B' : Nat} {st : List D} (h : stOk B st) (hb : B ≤ B') : stOk B' st := by
  rcases h with h | ⟨a, b, c, e, h1, h2, h3, h4⟩
  · exact .inl h
  · exact .inr ⟨a, b, c, e, h1, h2, h3, by omega⟩
theorem rows_at (c : Cd) : ∃ r0 : List Nat, atI (c.rows.map rowL) (0 : Int) = some (rowL r0) ∧ r0 ∈ c.rows ∧ r0.length = c.parts := by
  have hne := sides_ne c
  cases e : c.sides with
  | nil => exact absurd e hne
  | cons p l =>
    refine ⟨p.1, ?_, ?_, sides_len c p (by rw [e]; exact List.mem_cons_self)⟩
    · rw [Cd.rows, e]
      exact atN (p := 0) rfl
    · rw [Cd.rows, e]
      exact List.mem_cons_self
theorem rows_len (hp : c.parts ≤ 8) : c.rows.length ≤ 256 := by
  rw [Cd.rows, List.length_map, sides_tot]
  exact tot_small hp
def eR76 : E := .comp false [4, 5] (.var 4) (.tp (.cons (.nm 4) (.cons (.nm 5) (.nil)))) (.seq (.call 9 (.cons (.var 3) (.nil)))) (.nil)
theorem rows76 (hG : HasK76 G) (h : c.ok) (hp : c.parts ≤ 8) (hn : c.deep ≤ n) {x0 x1 x2 x4 x5 : Option D} {xs : List (Option D)} : E.ev (run G n) G eR76 (x0 :: x1 :: x2 :: some c.toD :: x4 :: x5 :: xs) S = .ok (.lst (c.rows.map rowL)) S := by
  have ls := law_sides hG.sd c n S h hp hn
  have ht := rows_len hp
  unfold eR76
  rw [ev_e_comp]
  simp only [ev_i_seq, ev_e_call, ev_es_cons, ev_es_nil, ev_e_var, List.getElem?_cons_succ, List.getElem?_cons_zero, bind_ok', ls, seqI_lst, wipe_cons, wipe_nil, comp_def, ev_et_nil, List.set_cons_succ, List.set_cons_zero]
  rw [col_mapG (f := sdD) (h := fun p => rowL p.1) rfl fun p hp' => ⟨_, rfl, by simp⟩]
  rw [bind_ok', mkL_val (sz (by rw [List.length_map]; rw [Cd.rows, List.length_map] at ht; omega)), Cd.rows, List.map_map]
  rfl
def eD76 : E := .comp false [7] (.call 4 (.cons (.var 2) (.cons (.var 6) (.nil)))) (.nm 7) (.rng (.cons (.call 1 (.cons (.var 2) (.cons (.con (.int 7)) (.nil)))) (.nil))) (.nil)
theorem drawn76 (hG : HasK76 G) (hp : c.parts ≤ 8) (hn : 3 ≤ n) {st : List D} (hs : stOk (2 ^ 20) st) {x0 x1 x3 x4 x5 x7 : Option D} {xs : List (Option D)} : ∃ (L : List (List Nat)) (st' : List D),
    E.ev (run G n) G eD76 (x0 :: x1 :: some (.ref S.length) :: x3 :: x4 :: x5 :: some (.lst (c.rows.map rowL)) :: x7 :: xs) (S ++ [.lst st]) = .ok (.lst (L.map rowL)) (S ++ [.lst st']) ∧ L.length ≤ 7 ∧ (∀ r ∈ L, r ∈ c.rows) ∧ stOk (2 ^ 30) st' := by
  obtain ⟨r, st1, e1, h1, h2, h3⟩ := digit_at (n := n) (l := S.length) (S := S ++ [.lst st]) (base := 7) (B := 2 ^ 20) (by omega) hG.dg (by simp) hs (by decide) (by omega)
  have hset : (S ++ [Ob.lst st]).set S.length (.lst st1) = S ++ [.lst st1] := by simp
  rw [hset] at e1
  obtain ⟨k, rfl⟩ : ∃ k : Nat, r = k := ⟨r.toNat, by omega⟩
  have hr := rngs1 (m := k) (by omega)
  obtain ⟨el, eel⟩ : ∃ el : E, el = .call 4 (.cons (.var 2) (.cons (.var 6) (.nil))) := ⟨_, rfl⟩
  obtain ⟨L, st', e2, g1, g2, g3⟩ := picks (n := n) (c := c) (env := x0 :: x1 :: some (.ref S.length) :: x3 :: x4 :: x5 :: some (.lst (c.rows.map rowL)) :: none :: xs) (by omega) hG.toHasDraw hp (okf := fun env S => Es.tst (run G n) G .nil env S) (evf := fun env S => E.ev (run G n) G el env S) (S0 := S)
    (fun e S => rfl) (fun x S' => by rw [eel]; simp) ((List.range k).map natD) st1 (2 ^ 20 + 1) h3 (by simp; omega)
  rw [List.length_map, List.length_range] at g1 g3
  refine ⟨L, st', ?_, by omega, g2, stOk_mono g3 (by omega)⟩
  rw [show eD76 = .comp false [7] el (.nm 7) (.rng (.cons (.call 1 (.cons (.var 2) (.cons (.con (.int 7)) (.nil)))) (.nil))) (.nil) from by rw [eel]; rfl]
  rw [ev_e_comp]
  have e1' : run G n 1 [.ref S.length, .int 7] (S ++ [.lst st]) = _ := e1
  simp only [ev_i_rng, ev_e_call, ev_es_cons, ev_es_nil, ev_e_var, ev_e_con, List.getElem?_cons_succ, List.getElem?_cons_zero, bind_ok', e1', hr, wipe_cons, wipe_nil, comp_def, List.set_cons_succ, List.set_cons_zero]
  rw [e2, bind_ok', mkL_val (sz (by rw [List.length_map]; omega))]
/-- the lists that are tried -/
def som76 (c : Cd) (L : List (List Nat)) : List (List (List Nat)) := [L, L ++ L.take 2, c.rows, c.rows.reverse, c.vrows, []]
theorem som_ok (hp : c.parts ≤ 8) {L : List (List Nat)} (hL : ∀ r ∈ L, r ∈ c.rows) (hz : L.length ≤ 7) : ∀ M ∈ som76 c L, (∀ r ∈ M, r ∈ c.rows) ∧ M.length ≤ 512 := fun M hM => by
  have hr := rows_len hp
  simp only [som76, List.mem_cons, List.not_mem_nil, or_false] at hM
  rcases hM with rfl | rfl | rfl | rfl | rfl | rfl
  · exact ⟨hL, by omega⟩
  · exact ⟨fun r h => (List.mem_append.mp h).elim (hL r) fun h => hL r (List.mem_of_mem_take h), by rw [List.length_append, List.length_take]; omega⟩
  · exact ⟨fun r h => h, by omega⟩
  · exact ⟨fun r h => List.mem_reverse.mp h, by rw [List.length_reverse]; omega⟩
  · exact ⟨fun r h => (List.mem_filter.mp h).1, Nat.le_trans (List.length_filter_le _ _) (by omega)⟩
  · exact ⟨fun r h => (by cases h), by simp⟩
def eS76 : E := .tup (.cons (.var 8) (.cons (.bin false .add (.var 8) (.cutB false (.var 8) (.con (.int 2)))) (.cons (.var 6) (.cons (.rev false (.var 6)) (.cons (.call 52 (.cons (.var 3) (.nil))) (.cons (.lst false (.nil)) (.nil)))))))
theorem somes76 (hG : HasK76 G) (h : c.ok) (hp : c.parts ≤ 8) (hn : c.deep + 5 ≤ n) {L : List (List Nat)} (hz : L.length ≤ 7) {x0 x1 x2 x4 x5 x7 : Option D} {xs : List (Option D)} :
    E.ev (run G n) G eS76 (x0 :: x1 :: x2 :: some c.toD :: x4 :: x5 :: some (.lst (c.rows.map rowL)) :: x7 :: some (.lst (L.map rowL)) :: xs) S = .ok (.tup ((som76 c L).map fun M => .lst (M.map rowL))) S := by
  have hr := rows_len hp
  have e1 := own_of_values (S := S) hG.toHasOwn hG.sd hG.vs hG.ov h hp hn
  have e2 : cutV false (.lst (L.map rowL)) none (some 2) S = .ok (.lst ((L.take 2).map rowL)) S := by
    show mkL false (cutD (L.map rowL) none (some 2)) S = _
    have : cutD (L.map rowL) none (some 2) = (L.take 2).map rowL := by
      unfold cutD HT.sIx
      simp [List.map_take]
    rw [this, mkL_val (sz (by rw [List.length_map, List.length_take]; omega))]
  have e3 : binV false .add (.lst (L.map rowL)) (.lst ((L.take 2).map rowL)) S = .ok (.lst ((L ++ L.take 2).map rowL)) S := by
    rw [List.map_append]
    exact v_add_lst (sz (by simp; omega))
  have e4 : mkL false (c.rows.map rowL).reverse S = .ok (.lst (c.rows.reverse.map rowL)) S := by
    rw [← List.map_reverse, mkL_val (sz (by rw [List.length_map, List.length_reverse]; omega))]
  have lo : lstOf S (.lst (c.rows.map rowL)) = some (c.rows.map rowL) := rfl
  show _ = R.ok (D.tup [.lst (L.map rowL), .lst ((L ++ L.take 2).map rowL), .lst (c.rows.map rowL), .lst (c.rows.reverse.map rowL), .lst (c.vrows.map rowL), .lst []]) S
  generalize (L ++ L.take 2).map rowL = B at e3 ⊢
  generalize (L.take 2).map rowL = A at e2 e3
  generalize c.rows.reverse.map rowL = C at e4 ⊢
  generalize c.vrows.map rowL = V at e1 ⊢
  generalize L.map rowL = LL at e2 e3 ⊢
  generalize c.rows.map rowL = RR at e4 lo ⊢
  unfold eS76
  simp [e1, e2, e3, e4, lo, sz]
end
end Ev


namespace Ev
open PySem PySem.Spec L2
section
variable {G : Cfg} {n : Nat} {S : Store} {c : Cd}
def InvA (c : Cd) (x0 x1 x2 x4 x5 x7 x8 x9 x13 x14 : Option D) (env : Env) : Prop := ∃ y10 y11 y12, env = [x0, x1, x2, some c.toD, x4, x5, some (.lst (c.rows.map rowL)), x7, x8, x9, y10, y11, y12, x13, x14]
theorem some_turn (hG : HasK76 G) (h : c.ok) (hd : c.deep ≤ 8) (hp : c.parts ≤ 8) (hn : 30 ≤ n) {M : List (List Nat)} (hM : ∀ r ∈ M, r ∈ c.rows) (hz : M.length ≤ 512) {x0 x1 x2 x4 x5 x7 x8 x10 x11 x12 x13 x14 : Option D} : ∃ y10 y11 y12,
    Ev.Ss.ev (run G n) G lkA [x0, x1, x2, some c.toD, x4, x5, some (.lst (c.rows.map rowL)), x7, x8, some (.lst (M.map rowL)), x10, x11, x12, x13, x14] S = .nx [x0, x1, x2, some c.toD, x4, x5, some (.lst (c.rows.map rowL)), x7, x8, some (.lst (M.map rowL)), y10, y11, y12, x13, x14] S := by
  obtain ⟨r0, e0, m0, l0⟩ := rows_at c
  obtain ⟨f, hf, hi⟩ := for_same (S := S) (t := .nm 10) (g := none) (body := fun env S => Ev.Ss.ev (run G n) G lkP env S) (f := natD) (xs := List.range c.parts) rfl
    (Inv := InvA c x0 x1 x2 x4 x5 x7 x8 (some (.lst (M.map rowL))) x13 x14)
    (fun k hk env hi => by
      obtain ⟨y10, y11, y12, rfl⟩ := hi
      obtain ⟨z11, z12, e⟩ := part_turn hG (n := n) (S := S) h hd hp hn (List.mem_range.mp hk) hM hz (x0 := x0) (x1 := x1) (x2 := x2) (x4 := x4) (x5 := x5) (x6 := some (.lst (c.rows.map rowL))) (x7 := x7) (x8 := x8) (x11 := y11) (x12 := y12) (x13 := x13) (x14 := x14)
      exact ⟨_, _, rfl, e, _, _, _, rfl⟩) _ ⟨x10, x11, x12, rfl⟩
  obtain ⟨y10, y11, y12, rfl⟩ := hi
  refine ⟨y10, y11, y12, ?_⟩
  obtain ⟨w, ew⟩ : ∃ w, w = lkP := ⟨_, rfl⟩
  rw [← ew] at hf
  have hb : lkA = .cons (.for (.nm 10) (.rng (.cons (.bf false .len (.ix (.var 6) (.con (.int 0)))) (.nil))) w) (.nil) := by rw [ew]; rfl
  have hx : ixV (.lst (c.rows.map rowL)) (.int 0) S = .ok (rowL r0) S := ix_lst e0
  have hlen : bfV false .len (rowL r0) S = .ok (.int (c.parts : Nat)) S := by
    show R.ok (D.int ((r0.map natD).length : Nat)) S = _
    rw [List.length_map, l0]
  have hr := rngs1 (m := c.parts) (by omega)
  rw [hb]
  simp [hx, hlen, hr, hf]
def eO76 : E := .lst false (.cons (.bf false .len (.ix (.var 6) (.con (.int 0)))) (.cons (.neg (.con (.int 1))) (.cons (.con (.bl true)) (.cons (.con .non) (.cons (.con (.str "0")) (.cons (.bin false .pow (.con (.int 10)) (.con (.int 30))) (.nil)))))))
def odds76 (c : Cd) : List D := [.int (c.parts : Nat), .int (-1), .bl true, .non, .str "0", .int (10 ^ 30)]
theorem odds76_v {x0 x1 x2 x3 x4 x5 : Option D} {xs : List (Option D)} : E.ev (run G n) G eO76 (x0 :: x1 :: x2 :: x3 :: x4 :: x5 :: some (.lst (c.rows.map rowL)) :: xs) S = .ok (.lst (odds76 c)) S := by
  obtain ⟨r0, e0, m0, l0⟩ := rows_at c
  have hx : ixV (.lst (c.rows.map rowL)) (.int 0) S = .ok (rowL r0) S := ix_lst e0
  have hlen : bfV false .len (rowL r0) S = .ok (.int (c.parts : Nat)) S := by
    show R.ok (D.int ((r0.map natD).length : Nat)) S = _
    rw [List.length_map, l0]
  have hpow : binV false .pow (.int 10) (.int 30) S = .ok (.int (10 ^ 30)) S := by rfl
  unfold eO76 odds76
  simp only [ev_e_lst, ev_es_cons, ev_es_nil, ev_e_bf, ev_e_ix, ev_e_var, ev_e_con, ev_e_neg, ev_e_bin, List.getElem?_cons_succ, List.getElem?_cons_zero, bind_ok', hx, hlen, hpow]
  rw [mkL_val (sz (by simp))]
theorem odds76_ok {d : D} (hp : c.parts ≤ 8) (h : d ∈ odds76 c) : oddP c d := by
  simp only [odds76, List.mem_cons, List.not_mem_nil, or_false] at h
  rcases h with rfl | rfl | rfl | rfl | rfl | rfl
  · exact .inl ⟨_, rfl, .inr (Int.le_refl _)⟩
  · exact .inl ⟨_, rfl, .inl (by decide)⟩
  · exact .inr (.inl ⟨_, rfl⟩)
  · exact .inr (.inr (.inl rfl))
  · exact .inr (.inr (.inr ⟨_, rfl⟩))
  · refine .inl ⟨_, rfl, .inr ?_⟩
    have : (8 : Int) ≤ 10 ^ 30 := by decide
    omega
theorem ne_self {xs : List D} (h1 : D.plains xs = true) (h2 : SeqAt.shaped (D.pd (.tup xs)) = true) (h3 : PyData.eqv (D.pd (.tup xs)) (D.pd (.tup xs)) = true) : cmpV .ne (.tup xs) (.tup xs) S = .ok (.bl false) S := by
  have e : eqD S (.tup xs) (.tup xs) = some true := by
    show (if (D.tup xs).plain && (D.tup xs).plain && SeqAt.shaped (D.pd (.tup xs)) && SeqAt.shaped (D.pd (.tup xs)) then some (PyData.eqv (D.pd (.tup xs)) (D.pd (.tup xs))) else none) = _
    have h1 : (D.tup xs).plain = true := h1
    rw [h1, h2, h3]
    rfl
  show ofB ((eqD S (.tup xs) (.tup xs)).map (!·)) S = _
  rw [e]
  rfl
theorem said_num : cmpV .ne (saidD (false, false, false, true)) (.tup [.str "refused", .lst [.str "number"]]) S = .ok (.bl false) S :=
  ne_self (xs := [.str "refused", .lst [.str "number"]]) rfl (by decide +kernel) (by decide +kernel)
theorem thing_turn (hG : HasK76 G) (h : c.ok) (hd : c.deep ≤ 8) (hp : c.parts ≤ 8) (hn : 30 ≤ n) {d t : D} (ho : oddP c d) {x0 x1 x2 x4 x5 x6 x7 x8 x9 x10 x11 x12 : Option D} :
    Ev.Ss.ev (run G n) G lkB [x0, x1, x2, some c.toD, x4, x5, x6, x7, x8, x9, x10, x11, x12, some d, some t] S = .nx [x0, x1, x2, some c.toD, x4, x5, x6, x7, x8, x9, x10, x11, x12, some d, some t] S := by
  have e := shown_no hG.toHasSb (n := n) (S := S) h hd hp (by omega) (t := t) ho
  have hb : lkB = .cons (.ite (.cmp .ne (.told (.call 20 (.cons (.var 3) (.cons (.var 13) (.cons (.var 14) (.nil)))))) (.tup (.cons (.con (.str "refused")) (.cons (.lst false (.cons (.con (.str "number")) (.nil))) (.nil))))) (.cons (.ret (.con (.bl false))) (.nil)) (.nil)) (.nil) := rfl
  have q := said_num (S := S)
  have e' : toldV (.exc ⟨1, []⟩ S) = .ok (saidD (false, false, false, true)) S := rfl
  generalize saidD (false, false, false, true) = z at q e'
  rw [hb]
  simp [e, e', q, sz]
end
end Ev


namespace Ev
open PySem PySem.Spec L2
def tflaw_9 : Ss := (.cons (.for (.nm 1) (.seq (.bin false .add (.lst false (.cons (.call 0 (.cons (.var 0) (.cons (.con (.int 0)) (.nil)))) (.cons (.con (.int 1)) (.nil)))) (.cutC false (.var 0) (.con (.int 1)) (.con (.int 10))))) (.cons (.set 2 (.lst true (.cons (.var 1) (.nil)))) (.cons (.set 3 (.call 2 (.cons (.var 2) (.cons (.bin false .add (.con (.int 1)) (.call 1 (.cons (.var 2) (.cons (.con (.int 8)) (.nil))))) (.cons (.bin false .add (.con (.int 1)) (.call 1 (.cons (.var 2) (.cons (.con (.int 6)) (.nil))))) (.nil)))))) (.cons (.set 6 (.comp false [4, 5] (.var 4) (.tp (.cons (.nm 4) (.cons (.nm 5) (.nil)))) (.seq (.call 9 (.cons (.var 3) (.nil)))) (.nil))) (.cons (.set 7 (.bf false .tuple (.call 4 (.cons (.var 2) (.cons (.var 6) (.nil)))))) (.cons (.set 4 (.var 7)) (.cons (.for (.nm 8) (.rng (.cons (.bin false .add (.con (.int 1)) (.call 1 (.cons (.var 2) (.cons (.con (.int 2)) (.nil))))) (.nil))) (.cons (.ite (.cmp .ne (.var 4) (.tup (.nil))) (.cons (.set 4 (.call 24 (.cons (.var 2) (.cons (.var 4) (.nil))))) (.nil)) (.nil)) (.nil))) (.cons (.for (.nm 9) (.seq (.tup (.cons (.var 4) (.cons (.call 4 (.cons (.var 2) (.cons (.lst false (.cons (.con .non) (.cons (.bf false .list (.var 7)) (.cons (.tup (.nil)) (.cons (.con (.str "0")) (.cons (.con (.int 0)) (.cons .dct0 (.nil)))))))) (.nil)))) (.nil))))) (.cons (.set 10 (.tup (.cons (.con (.str "refused")) (.cons (.lst false (.cons (.con (.str "through")) (.nil))) (.nil))))) (.cons (.ite (.call 27 (.cons (.var 9) (.cons (.var 6) (.nil)))) (.cons (.set 10 (.tup (.cons (.con (.str "told")) (.cons (.call 11 (.cons (.var 3) (.cons (.var 9) (.nil)))) (.nil))))) (.nil)) (.nil)) (.cons (.ite (.cmp .ne (.told (.call 11 (.cons (.var 3) (.cons (.var 9) (.nil))))) (.var 10)) (.cons (.ret (.con (.bl false))) (.nil)) (.nil)) (.cons (.ite (.and (.cmp .eq (.ix (.var 10) (.con (.int 0))) (.con (.str "refused"))) (.cmp .ne (.told (.call 20 (.cons (.var 3) (.cons (.con (.int 0)) (.cons (.lst false (.cons (.var 7) (.cons (.var 9) (.nil)))) (.nil)))))) (.var 10))) (.cons (.ret (.con (.bl false))) (.nil)) (.nil)) (.nil)))))) (.cons (.ite (.cmp .ne (.ix (.told (.call 20 (.cons (.var 3) (.cons (.con (.int 0)) (.cons (.call 4 (.cons (.var 2) (.cons (.lst false (.cons (.con .non) (.cons (.tup (.cons (.var 7) (.nil))) (.cons (.var 7) (.cons (.con (.str "x")) (.nil)))))) (.nil)))) (.nil)))))) (.con (.int 1))) (.lst false (.cons (.con (.str "through")) (.nil)))) (.cons (.ret (.con (.bl false))) (.nil)) (.nil)) (.cons (.set 11 (.call 4 (.cons (.var 2) (.cons (.lst false (.cons (.neg (.con (.int 1))) (.cons (.bf false .len (.var 6)) (.cons (.bin false .add (.bf false .len (.var 6)) (.call 1 (.cons (.var 2) (.cons (.con (.int 9)) (.nil))))) (.cons (.con (.bl true)) (.cons (.con (.bl false)) (.cons (.con (.str "0")) (.cons (.con .non) (.cons (.bin false .pow (.con (.int 10)) (.con (.int 40))) (.nil)))))))))) (.nil))))) (.cons (.ite (.cmp .ne (.told (.call 10 (.cons (.var 3) (.cons (.var 11) (.nil))))) (.tup (.cons (.con (.str "refused")) (.cons (.lst false (.cons (.con (.str "number")) (.nil))) (.nil))))) (.cons (.ret (.con (.bl false))) (.nil)) (.nil)) (.cons (.set 12 (.call 11 (.cons (.var 3) (.cons (.var 7) (.nil))))) (.cons (.ite (.or (.cmp .ne (.call 10 (.cons (.var 3) (.cons (.var 12) (.nil)))) (.var 7)) (.nt (.cmp2 .le .lt (.con (.int 0)) (.var 12) (.bf false .len (.var 6))))) (.cons (.ret (.con (.bl false))) (.nil)) (.nil)) (.nil)))))))))))))) (.cons (.ret (.con (.bl true))) (.nil)))
def flaw_9 : Fn := ⟨1, 13, true, tflaw_9⟩
structure HasK14 (G : Cfg) : Prop extends HasK14a G, HasDraw G where
  ca : G.fns[0]? = some f_law_cell_at
  sd : G.fns[9]? = some f_law_sides
  ch : G.fns[24]? = some f_law_changed_1
  io : G.fns[27]? = some f_law_is_one
  law : G.fns[23]? = some flaw_9
def lk14 : Ss := match tflaw_9 with
  | .cons (.for _ _ b) _ => b
  | _ => .nil
def lk14C : Ss := match lk14 with
  | .cons _ (.cons _ (.cons _ (.cons _ (.cons _ (.cons (.for _ _ b) _))))) => b
  | _ => .nil
def lk14T : Ss := match lk14 with
  | .cons _ (.cons _ (.cons _ (.cons _ (.cons _ (.cons _ (.cons (.for _ _ b) _)))))) => b
  | _ => .nil
/-- what is tried as a through -/
def itemD (S : Store) (d : D) : Prop := isiD S .tuple d = some false ∨ ∃ ds, d = .tup ds ∧ ds.length ≤ 1000 ∧ ∀ x ∈ ds, cellD x
section
variable {G : Cfg} {n : Nat} {S : Store} {c : Cd}
theorem said_thr : cmpV .ne (saidD (false, false, true, false)) (.tup [.str "refused", .lst [.str "through"]]) S = .ok (.bl false) S :=
  ne_self (xs := [.str "refused", .lst [.str "through"]]) rfl (by decide +kernel) (by decide +kernel)
theorem ne_told {k : Nat} : cmpV .ne (.tup [.str "told", .int k]) (.tup [.str "told", .int k]) S = .ok (.bl false) S :=
  ne_self (xs := [.str "told", .int k]) rfl (by
    show (PyData.canLayAll0 (D.pds [.str "told", .int k]) && decide (PyData.depthAll (D.pds [.str "told", .int k]) + 1 ≤ 64)) = true
    have : PyData.canLayAll0 (D.pds [.str "told", .int k]) = true := by
      show (PyData.canLay0 (.str "told") && (true && true)) = true
      rw [show PyData.canLay0 (.str "told") = true from by decide +kernel]
      rfl
    rw [this]
    rfl) (by
    show (PyData.eqv (.str "told") (.str "told") && ((((k : Nat) : Int) == ((k : Nat) : Int)) && true)) = true
    rw [show PyData.eqv (.str "told") (.str "told") = true from by decide +kernel]
    simp)
theorem item_turn (hG : HasK14 G) (h : c.ok) (hd : c.deep ≤ 8) (hp : c.parts ≤ 8) (hn : 30 ≤ n) {r0 : List Nat} (h0 : r0 ∈ c.rows) {d : D} (hi : itemD S d) {x0 x1 x2 x4 x5 x8 x10 x11 x12 : Option D} : ∃ y10,
    Ev.Ss.ev (run G n) G lk14T [x0, x1, x2, some c.toD, x4, x5, some (.lst (c.rows.map rowL)), some (rowT r0), x8, some d, x10, x11, x12] S = .nx [x0, x1, x2, some c.toD, x4, x5, some (.lst (c.rows.map rowL)), some (rowT r0), x8, some d, y10, x11, x12] S := by
  have q := said_thr (S := S)
  have ix0 : ixV (.tup [.str "refused", .lst [.str "through"]]) (.int 0) S = .ok (.str "refused") S := ix_tup rfl
  have e' : toldV (.exc ⟨2, []⟩ S) = .ok (saidD (false, false, true, false)) S := rfl
  have good : (∃ r ∈ c.rows, d = rowT r) ∨ (badT c S d ∧ run G n 27 [d, .lst (c.rows.map rowL)] S = .ok (.bl false) S) := by
    rcases hi with hi | ⟨ds, rfl, h1, h2⟩
    · exact .inr ⟨.inl hi, is_none hG.io (by omega) hi⟩
    · have e := is_one (S := S) hG.io (n := n) (by omega) hp h1 h2
      by_cases hr : ∃ r ∈ c.rows, ds = r.map natD
      · obtain ⟨r, h3, rfl⟩ := hr
        exact .inl ⟨r, h3, rfl⟩
      · rw [decide_eq_false hr] at e
        exact .inr ⟨.inr ⟨ds, rfl, h1, fun x hx => cell_one (h2 x hx), hr⟩, e⟩
  have hb : lk14T = .cons (.set 10 (.tup (.cons (.con (.str "refused")) (.cons (.lst false (.cons (.con (.str "through")) (.nil))) (.nil))))) (.cons (.ite (.call 27 (.cons (.var 9) (.cons (.var 6) (.nil)))) (.cons (.set 10 (.tup (.cons (.con (.str "told")) (.cons (.call 11 (.cons (.var 3) (.cons (.var 9) (.nil)))) (.nil))))) (.nil)) (.nil)) (.cons (.ite (.cmp .ne (.told (.call 11 (.cons (.var 3) (.cons (.var 9) (.nil))))) (.var 10)) (.cons (.ret (.con (.bl false))) (.nil)) (.nil)) (.cons (.ite (.and (.cmp .eq (.ix (.var 10) (.con (.int 0))) (.con (.str "refused"))) (.cmp .ne (.told (.call 20 (.cons (.var 3) (.cons (.con (.int 0)) (.cons (.lst false (.cons (.var 7) (.cons (.var 9) (.nil)))) (.nil)))))) (.var 10))) (.cons (.ret (.con (.bl false))) (.nil)) (.nil)) (.nil)))) := rfl
  rw [hb]
  rcases good with ⟨r, hr, rfl⟩ | ⟨hbad, e90⟩
  · obtain ⟨⟨r1, t⟩, hm, e⟩ := List.mem_map.mp hr
    cases e
    have e26 := number_of hG.toHasThr hG.nof (n := n) (S := S) c h hd hp (by omega) hm
    have hcell : ∀ x ∈ r1.map natD, cellD x := fun x hx => by
      obtain ⟨y, _, rfl⟩ := List.mem_map.mp hx
      exact .inl ⟨_, rfl⟩
    have hl := sides_len c _ hm
    have e90 := is_one (S := S) hG.io (n := n) (by omega) hp (ds := r1.map natD) (by rw [List.length_map]; simp only at hl; omega) hcell
    rw [decide_eq_true ⟨r1, hr, rfl⟩] at e90
    have e90 : run G n 27 [rowT r1, .lst (c.rows.map rowL)] S = .ok (.bl true) S := e90
    have ix1 : ∀ x : D, ixV (.tup [.str "told", x]) (.int 0) S = .ok (.str "told") S := fun x => ix_tup rfl
    have qt := ne_told (S := S) (k := num r1 (c.wl 1 1))
    have et : toldV (.ok (.int (num r1 (c.wl 1 1) : Nat)) S) = .ok (.tup [.str "told", .int (num r1 (c.wl 1 1) : Nat)]) S := rfl
    have ns : ¬ (("told" : Str) = "refused") := by decide
    refine ⟨some (.tup [.str "told", .int (num r1 (c.wl 1 1) : Nat)]), ?_⟩
    generalize D.int (num r1 (c.wl 1 1) : Nat) = N at e26 qt et ⊢
    generalize D.lst (c.rows.map rowL) = RR at e90 ⊢
    simp [e90, e26, sz, et, qt, ix1, ns]
  · have e26 := number_no hG.toHasK14a (n := n) (S := S) h hd hp (by omega) hbad
    have e55 := shown_bad hG.toHasSb (n := n) (S := S) h hd hp (by omega) h0 hbad
    refine ⟨some (.tup [.str "refused", .lst [.str "through"]]), ?_⟩
    generalize saidD (false, false, true, false) = z at q e'
    generalize D.lst (c.rows.map rowL) = RR at e90 ⊢
    simp [e90, e26, e55, e', q, sz, ix0]
end
end Ev


namespace Ev
open PySem PySem.Spec L2
section
variable {G : Cfg} {n : Nat} {S : Store} {c : Cd}
theorem ne_nilT {ds : List D} (h : ∀ d ∈ ds, cellD d) : cmpV .ne (.tup ds) (.tup []) S = .ok (.bl (!ds.isEmpty)) S := by
  have e : eqD S (.tup ds) (.tup []) = some ds.isEmpty := by
    show (if (D.tup ds).plain && (D.tup []).plain && SeqAt.shaped (D.pd (.tup ds)) && SeqAt.shaped (D.pd (.tup [])) then some (PyData.eqv (D.pd (.tup ds)) (D.pd (.tup []))) else none) = _
    have p1 : (D.tup ds).plain = true := (cells_flat h).1
    have p2 : (D.tup []).plain = true := rfl
    have p3 : SeqAt.shaped (D.pd (.tup [])) = true := by decide +kernel
    have p4 : SeqAt.shaped (D.pd (.tup ds)) = true := cells_shaped h
    rw [p1, p2, p4, p3]
    cases ds <;> rfl
  show ofB ((eqD S (.tup ds) (.tup [])).map (!·)) S = _
  rw [e]
  rfl
theorem changes (hG : HasK14 G) (hn : 5 ≤ n) {x0 x1 x3 x5 x6 x7 x9 x10 x11 x12 : Option D} : ∀ (xs : List D) (ds : List D) (st : List D) (B : Nat) (o8 : Option D), (∀ d ∈ ds, cellD d) → (ds.length + 1) * 2 ^ xs.length ≤ 256 → stOk B st → B + 3 * xs.length ≤ 2 ^ 40 → ∃ ds' st' o8',
    forGo (.nm 8) none (fun env S => Ev.Ss.ev (run G n) G lk14C env S) xs [x0, x1, some (.ref S.length), x3, some (.tup ds), x5, x6, x7, o8, x9, x10, x11, x12] (S ++ [.lst st]) = .nx [x0, x1, some (.ref S.length), x3, some (.tup ds'), x5, x6, x7, o8', x9, x10, x11, x12] (S ++ [.lst st']) ∧
    (∀ d ∈ ds', cellD d) ∧ ds'.length ≤ 256 ∧ stOk (B + 3 * xs.length) st'
  | [], ds, st, B, o8, hc, hz, hs, hB => ⟨ds, st, o8, rfl, hc, by simp at hz; omega, hs⟩
  | x :: xs, ds, st, B, o8, hc, hz, hs, hB => by
    rw [List.length_cons] at hz hB
    have hz1 : (ds.length + 1) * 2 ≤ 256 := by
      have : 1 ≤ 2 ^ xs.length := Nat.one_le_two_pow
      have h2 : (ds.length + 1) * 2 * 1 ≤ (ds.length + 1) * 2 * 2 ^ xs.length := Nat.mul_le_mul_left _ this
      have h3 : (ds.length + 1) * 2 * 2 ^ xs.length = (ds.length + 1) * 2 ^ (xs.length + 1) := by rw [Nat.pow_succ, Nat.mul_assoc, Nat.mul_comm 2]
      omega
    have hne := fun S => ne_nilT (S := S) hc
    have hb : lk14C = .cons (.ite (.cmp .ne (.var 4) (.tup (.nil))) (.cons (.set 4 (.call 24 (.cons (.var 2) (.cons (.var 4) (.nil))))) (.nil)) (.nil)) .nil := rfl
    cases e : ds.isEmpty with
    | true =>
      rw [e] at hne
      obtain ⟨ds', st', o8', h1, h2, h3, h4⟩ := changes hG hn xs ds st B (some x) hc (Nat.le_trans (Nat.mul_le_mul_left _ (Nat.pow_le_pow_right (by decide) (Nat.le_succ _))) hz) hs (by omega)
      refine ⟨ds', st', o8', ?_, h2, h3, stOk_mono h4 (by rw [List.length_cons]; omega)⟩
      obtain ⟨w, ew⟩ : ∃ w, w = lk14C := ⟨_, rfl⟩
      rw [← ew] at h1 ⊢
      rw [for_step, asg_nm]
      simp only [List.set_cons_succ, List.set_cons_zero]
      have hbody : Ev.Ss.ev (run G n) G w [x0, x1, some (.ref S.length), x3, some (.tup ds), x5, x6, x7, some x, x9, x10, x11, x12] (S ++ [.lst st]) = .nx [x0, x1, some (.ref S.length), x3, some (.tup ds), x5, x6, x7, some x, x9, x10, x11, x12] (S ++ [.lst st]) := by
        rw [ew, hb]
        simp [hne, sz]
      rw [hbody]
      exact h1
    | false =>
      rw [e] at hne
      obtain ⟨d1, st1, e1, g1, g2, g3⟩ := changed hG.toHasDraw hG.ch (n := n) (S := S ++ [.lst st]) (l := S.length) (by omega) (by simp) hs (by omega) (by omega) hc
      have hset : (S ++ [Ob.lst st]).set S.length (.lst st1) = S ++ [.lst st1] := by simp
      rw [hset] at e1
      have hz2 : (d1.length + 1) * 2 ^ xs.length ≤ 256 := by
        have h1 : (d1.length + 1) ≤ (ds.length + 1) * 2 := by omega
        have h2 := Nat.mul_le_mul_right (2 ^ xs.length) h1
        have h3 : (ds.length + 1) * 2 * 2 ^ xs.length = (ds.length + 1) * 2 ^ (xs.length + 1) := by rw [Nat.pow_succ, Nat.mul_assoc, Nat.mul_comm 2]
        omega
      obtain ⟨ds', st', o8', h1, h2, h3, h4⟩ := changes hG hn xs d1 st1 (B + 3) (some x) g1 hz2 g3 (by omega)
      refine ⟨ds', st', o8', ?_, h2, h3, stOk_mono h4 (by rw [List.length_cons]; omega)⟩
      obtain ⟨w, ew⟩ : ∃ w, w = lk14C := ⟨_, rfl⟩
      rw [← ew] at h1 ⊢
      rw [for_step, asg_nm]
      simp only [List.set_cons_succ, List.set_cons_zero]
      have hbody : Ev.Ss.ev (run G n) G w [x0, x1, some (.ref S.length), x3, some (.tup ds), x5, x6, x7, some x, x9, x10, x11, x12] (S ++ [.lst st]) = .nx [x0, x1, some (.ref S.length), x3, some (.tup d1), x5, x6, x7, some x, x9, x10, x11, x12] (S ++ [.lst st1]) := by
        rw [ew, hb]
        simp [hne, sz, e1]
      rw [hbody]
      exact h1
end
end Ev


namespace Ev
open PySem PySem.Spec L2
section
variable {G : Cfg} {n : Nat} {S : Store} {c : Cd}
theorem rows14 (hS : G.fns[9]? = some f_law_sides) (h : c.ok) (hp : c.parts ≤ 8) (hn : c.deep ≤ n) {x0 x1 x2 x4 x5 : Option D} {xs : List (Option D)} : E.ev (run G n) G eR76 (x0 :: x1 :: x2 :: some c.toD :: x4 :: x5 :: xs) S = .ok (.lst (c.rows.map rowL)) S := by
  have ls := law_sides hS c n S h hp hn
  have ht := rows_len hp
  unfold eR76
  rw [ev_e_comp]
  simp only [ev_i_seq, ev_e_call, ev_es_cons, ev_es_nil, ev_e_var, List.getElem?_cons_succ, List.getElem?_cons_zero, bind_ok', ls, seqI_lst, wipe_cons, wipe_nil, comp_def, ev_et_nil, List.set_cons_succ, List.set_cons_zero]
  rw [col_mapG (f := sdD) (h := fun p => rowL p.1) rfl fun p hp' => ⟨_, rfl, by simp⟩]
  rw [bind_ok', mkL_val (sz (by rw [List.length_map]; rw [Cd.rows, List.length_map] at ht; omega)), Cd.rows, List.map_map]
  rfl
/-- the second thing that is tried -/
def seconds (r0 : List Nat) (l : Nat) : List D := [.non, .lst (r0.map natD), .tup [], .str "0", .int 0, .ref l]
theorem second_item {r0 : List Nat} {l : Nat} {d : D} (h : d ∈ seconds r0 l) (hl : S[l]? = some (.dct [])) : itemD S d := by
  simp only [seconds, List.mem_cons, List.not_mem_nil, or_false] at h
  rcases h with rfl | rfl | rfl | rfl | rfl | rfl
  · exact .inl rfl
  · exact .inl rfl
  · exact .inr ⟨[], rfl, by simp, by simp⟩
  · exact .inl rfl
  · exact .inl rfl
  · refine .inl ?_
    show (match S[l]? with | some (.lst _) => some (match Ty.tuple with | .list => true | _ => false) | some (.dct _) => some (match Ty.tuple with | .dict => true | _ => false) | none => none) = some false
    rw [hl]
def thirds (r0 : List Nat) : List D := [.non, .tup [rowT r0], rowT r0, .str "x"]
theorem third_list {r0 : List Nat} {d : D} (h : d ∈ thirds r0) : isiD S .list d = some false := by
  simp only [thirds, List.mem_cons, List.not_mem_nil, or_false] at h
  rcases h with rfl | rfl | rfl | rfl <;> rfl
def manys (c : Cd) (k : Int) : List D := [.int (-1), .int (c.tot 1 1 : Nat), .int ((c.tot 1 1 : Nat) + k), .bl true, .bl false, .str "0", .non, .int (10 ^ 40)]
theorem many_odd {k : Int} (hk : 0 ≤ k) (hp : c.parts ≤ 8) {d : D} (h : d ∈ manys c k) : oddN c d := by
  have ht := tot_small hp
  simp only [manys, List.mem_cons, List.not_mem_nil, or_false] at h
  rcases h with rfl | rfl | rfl | rfl | rfl | rfl | rfl | rfl
  · exact .inl ⟨_, rfl, .inl (by decide)⟩
  · exact .inl ⟨_, rfl, .inr (Int.le_refl _)⟩
  · exact .inl ⟨_, rfl, .inr (by omega)⟩
  · exact .inr (.inl ⟨_, rfl⟩)
  · exact .inr (.inl ⟨_, rfl⟩)
  · exact .inr (.inr (.inr ⟨_, rfl⟩))
  · exact .inr (.inr (.inl rfl))
  · refine .inl ⟨_, rfl, .inr ?_⟩
    have : (256 : Int) ≤ 10 ^ 40 := by decide
    omega
def Inv9c (c : Cd) (r0 : List Nat) (x0 x1 x2 x4 x5 x8 x11 x12 : Option D) (env : Env) : Prop := ∃ y9 y10, env = [x0, x1, x2, some c.toD, x4, x5, some (.lst (c.rows.map rowL)), some (rowT r0), x8, y9, y10, x11, x12]
theorem loop9c (hG : HasK14 G) (h : c.ok) (hd : c.deep ≤ 8) (hp : c.parts ≤ 8) (hn : 30 ≤ n) {r0 : List Nat} (h0 : r0 ∈ c.rows) {ts : List D} (ht : ∀ d ∈ ts, itemD S d) {x0 x1 x2 x4 x5 x8 x9 x10 x11 x12 : Option D} : ∃ y9 y10,
    forGo (.nm 9) none (fun env S => Ev.Ss.ev (run G n) G lk14T env S) ts [x0, x1, x2, some c.toD, x4, x5, some (.lst (c.rows.map rowL)), some (rowT r0), x8, x9, x10, x11, x12] S = .nx [x0, x1, x2, some c.toD, x4, x5, some (.lst (c.rows.map rowL)), some (rowT r0), x8, y9, y10, x11, x12] S := by
  obtain ⟨f, hf, y9, y10, rfl⟩ := for_same (S := S) (t := .nm 9) (g := none) (body := fun env S => Ev.Ss.ev (run G n) G lk14T env S) (f := fun t : D => t) (xs := ts) rfl
    (Inv := Inv9c c r0 x0 x1 x2 x4 x5 x8 x11 x12)
    (fun t hm env hi => by
      obtain ⟨y9, y10, rfl⟩ := hi
      obtain ⟨z10, e⟩ := item_turn hG (n := n) (S := S) h hd hp hn h0 (ht t hm) (x0 := x0) (x1 := x1) (x2 := x2) (x4 := x4) (x5 := x5) (x8 := x8) (x10 := y10) (x11 := x11) (x12 := x12)
      exact ⟨_, _, rfl, e, _, _, rfl⟩) _ ⟨x9, x10, rfl⟩
  rw [List.map_id'] at hf
  exact ⟨y9, y10, hf⟩
theorem ne_thrL : cmpV .ne (.lst [.str "through"]) (.lst [.str "through"]) S = .ok (.bl false) S := by
  have e : eqD S (.lst [.str "through"]) (.lst [.str "through"]) = some true := by
    show (if (D.lst [.str "through"]).plain && (D.lst [.str "through"]).plain && SeqAt.shaped (D.pd (.lst [.str "through"])) && SeqAt.shaped (D.pd (.lst [.str "through"])) then some (PyData.eqv (D.pd (.lst [.str "through"])) (D.pd (.lst [.str "through"]))) else none) = _
    rw [show SeqAt.shaped (D.pd (.lst [.str "through"])) = true from by decide +kernel, show PyData.eqv (D.pd (.lst [.str "through"])) (D.pd (.lst [.str "through"])) = true from by decide +kernel]
    rfl
  show ofB ((eqD S (.lst [.str "through"]) (.lst [.str "through"])).map (!·)) S = _
  rw [e]
  rfl
theorem k14_cell (hG : HasK14 G) (hn : 30 ≤ n) {s : D} {a : Int} {rest : List (Option D)} {S : Store} (hr : rest.length = 11) : ∃ rest' S', Ev.Ss.ev (run G n) G lk14 (some s :: some (.int a) :: rest) S = .nx (some s :: some (.int a) :: rest') S' ∧ rest'.length = 11 := by
  obtain ⟨c, st1, st2, st3, r1, r2, d1, d2, d3, h, hp, hd, hs3⟩ := drawn_new hG.toHasDraw (n := n) (S := S) (a := a) 8 6 (by omega) ⟨by omega, by omega⟩ ⟨by omega, by omega⟩
  have hd : c.deep ≤ 8 := by omega
  obtain ⟨x2, x3, x4, x5, x6, x7, x8, x9, x10, x11, x12, rfl⟩ : ∃ x2 x3 x4 x5 x6 x7 x8 x9 x10 x11 x12, rest = [x2, x3, x4, x5, x6, x7, x8, x9, x10, x11, x12] := by
    rcases rest with _ | ⟨x2, _ | ⟨x3, _ | ⟨x4, _ | ⟨x5, _ | ⟨x6, _ | ⟨x7, _ | ⟨x8, _ | ⟨x9, _ | ⟨x10, _ | ⟨x11, _ | ⟨x12, _ | ⟨x13, r⟩⟩⟩⟩⟩⟩⟩⟩⟩⟩⟩⟩ <;> first | exact ⟨_, _, _, _, _, _, _, _, _, _, _, rfl⟩ | (simp at hr)
  have hrl := rows_len hp
  have htl : c.rows.length = c.tot 1 1 := by rw [Cd.rows, List.length_map, sides_tot]
  have hpos := tot_pos c
  have e6 := rows14 hG.sd (n := n) (S := S ++ [.lst st3]) h hp (by omega) (x0 := some s) (x1 := some (.int a)) (x2 := some (.ref S.length)) (x4 := x4) (x5 := x5) (xs := [x6, x7, x8, x9, x10, x11, x12])
  -- the good one
  have hset : ∀ st st' : List D, (S ++ [Ob.lst st]).set S.length (.lst st') = S ++ [.lst st'] := fun st st' => by simp
  obtain ⟨dg, st4, e7, hm7, hs4⟩ := pick_ds (n := n) (S := S ++ [.lst st3]) (l := S.length) (B := 2 ^ 20) (xs := c.rows.map rowL) (by omega) hG.toHasDraw (by simp) hs3 (by decide) (by rw [List.length_map]; omega)
  rw [hset] at e7
  obtain ⟨r0, h0, rfl⟩ := List.mem_map.mp hm7
  obtain ⟨⟨r0', t0⟩, hm0, er0⟩ := List.mem_map.mp h0
  have er0 : r0' = r0 := er0
  subst er0
  have l0 : r0'.length = c.parts := sides_len c _ hm0
  have t7 : bfV false .tuple (rowL r0') (S ++ [.lst st4]) = .ok (rowT r0') (S ++ [.lst st4]) := tuple_lst (sz (by simp; omega))
  -- changes
  obtain ⟨k, st5, e8, a8, b8, hs5⟩ := digit_at (n := n) (S := S ++ [.lst st4]) (l := S.length) (base := 2) (B := 2 ^ 20 + 1) (by omega) hG.dg (by simp) hs4 (by decide) (by omega)
  rw [hset] at e8
  obtain ⟨k, rfl⟩ : ∃ j : Nat, k = j := ⟨k.toNat, by omega⟩
  have hr8 := rngs1 (m := 1 + k) (by omega)
  rw [show ((1 + k : Nat) : Int) = 1 + (k : Int) from by push_cast; rfl] at hr8
  have hcell : ∀ d ∈ r0'.map natD, cellD d := fun d hd => by
    obtain ⟨y, _, rfl⟩ := List.mem_map.mp hd
    exact .inl ⟨_, rfl⟩
  have hpw : (((r0'.map natD).length) + 1) * 2 ^ ((List.range (1 + k)).map natD).length ≤ 256 := by
    rw [List.length_map, List.length_map, List.length_range]
    have : k = 0 ∨ k = 1 := by omega
    rcases this with rfl | rfl
    · show (r0'.length + 1) * 2 ≤ 256
      omega
    · show (r0'.length + 1) * 4 ≤ 256
      omega
  obtain ⟨ds, st6, y8, f8, hc8, hz8, hs6⟩ := changes hG (n := n) (S := S) (by omega) (x0 := some s) (x1 := some (.int a)) (x3 := some c.toD) (x5 := x5) (x6 := some (.lst (c.rows.map rowL))) (x7 := some (rowT r0')) (x9 := x9) (x10 := x10) (x11 := x11) (x12 := x12) ((List.range (1 + k)).map natD) (r0'.map natD) st5 (2 ^ 20 + 1 + 1) x8 hcell hpw hs5 (by rw [List.length_map, List.length_range]; omega)
  -- the second thing
  obtain ⟨S6, hS6⟩ : ∃ S6, S6 = (S ++ [Ob.lst st6]) ++ [Ob.dct []] := ⟨_, rfl⟩
  have hlS : S.length < S6.length := by rw [hS6]; simp
  have g6 : S6[S.length]? = some (.lst st6) := by rw [hS6]; simp
  have g7 : S6[S.length + 1]? = some (.dct []) := by rw [hS6]; simp
  have hB6 : 2 ^ 20 + 1 + 1 + 3 * ((List.range (1 + k)).map natD).length ≤ 2 ^ 30 := by rw [List.length_map, List.length_range]; omega
  have hs6 := stOk_mono hs6 hB6
  obtain ⟨d9, st7, e9, hm9, hs7⟩ := pick_ds (n := n) (S := S6) (l := S.length) (B := 2 ^ 30) (xs := seconds r0' (S.length + 1)) (by omega) hG.toHasDraw g6 hs6 (by decide) (by simp [seconds])
  obtain ⟨S7, hS7⟩ : ∃ S7, S7 = S6.set S.length (.lst st7) := ⟨_, rfl⟩
  have gd7 : S7[S.length + 1]? = some (.dct []) := by rw [hS7, List.getElem?_set_ne (by omega)]; exact g7
  have gl7 : S7[S.length]? = some (.lst st7) := by rw [hS7]; simp [hlS]
  rw [← hS7] at e9
  have items : ∀ d ∈ [D.tup ds, d9], itemD S7 d := fun d hd => by
    rcases List.mem_cons.mp hd with rfl | hd
    · exact .inr ⟨ds, rfl, by omega, hc8⟩
    · rw [List.mem_singleton.mp hd]
      exact second_item hm9 gd7
  obtain ⟨y9, y10, f9⟩ := loop9c hG (n := n) (S := S7) h hd hp hn h0 items (x0 := some s) (x1 := some (.int a)) (x2 := some (.ref S.length)) (x4 := some (.tup ds)) (x5 := x5) (x8 := y8) (x9 := x9) (x10 := x10) (x11 := x11) (x12 := x12)
  -- what is no list
  obtain ⟨dq, st8, ea, hma, hs8⟩ := pick_ds (n := n) (S := S7) (l := S.length) (B := 2 ^ 30 + 1) (xs := thirds r0') (by omega) hG.toHasDraw gl7 hs7 (by decide) (by simp [thirds])
  obtain ⟨S8, hS8⟩ : ∃ S8, S8 = S7.set S.length (.lst st8) := ⟨_, rfl⟩
  have gl8 : S8[S.length]? = some (.lst st8) := by
    rw [hS8, hS7]
    simp [hlS]
  rw [← hS8] at ea
  have e55 := shown_list hG.toHasSb (n := n) (S := S8) h hd hp (by omega) (third_list (S := S8) hma)
  -- many
  obtain ⟨k9, st9, eb, a9, b9, hs9⟩ := digit_at (n := n) (S := S8) (l := S.length) (base := 9) (B := 2 ^ 30 + 1 + 1) (by omega) hG.dg gl8 hs8 (by decide) (by omega)
  obtain ⟨S9, hS9⟩ : ∃ S9, S9 = S8.set S.length (.lst st9) := ⟨_, rfl⟩
  have gl9 : S9[S.length]? = some (.lst st9) := by
    rw [hS9, hS8, hS7]
    simp [hlS]
  rw [← hS9] at eb
  obtain ⟨dm, st10, ec, hmc, _⟩ := pick_ds (n := n) (S := S9) (l := S.length) (B := 2 ^ 30 + 1 + 1 + 1) (xs := manys c k9) (by omega) hG.toHasDraw gl9 hs9 (by decide) (by simp [manys])
  obtain ⟨S10, hS10⟩ : ∃ S10, S10 = S9.set S.length (.lst st10) := ⟨_, rfl⟩
  rw [← hS10] at ec
  have e25 := at_no hG.toHasK14a (n := n) (S := S10) h hd hp (by omega) (many_odd a9 hp hmc)
  have e26 := number_of hG.toHasThr hG.nof (n := n) (S := S10) c h hd hp (by omega) hm0
  obtain ⟨kn1, kn2⟩ := num_row c hm0
  have eta := through_at hG.toHasThr hG.ta (n := n) (S := S10) c h hd hp (by omega) kn1
  rw [kn2] at eta
  have hneT : cmpV .ne (rowT r0') (rowT r0') S10 = .ok (.bl false) S10 := by
    have := ne_rowT (S := S10) (a := r0') (b := r0') (fun x hx => by have := sides_le c _ hm0 x hx; omega) (fun x hx => by have := sides_le c _ hm0 x hx; omega)
    rw [this]
    simp
  have lr : ∀ {S : Store}, bfV false .len (.lst (c.rows.map rowL)) S = .ok (.int (c.tot 1 1 : Nat)) S := by
    intro S
    rw [len_lst, List.length_map, htl]
  -- the lists as they are written
  obtain ⟨eS, eeS⟩ : ∃ e : E, e = .lst false (.cons (.con .non) (.cons (.bf false .list (.var 7)) (.cons (.tup (.nil)) (.cons (.con (.str "0")) (.cons (.con (.int 0)) (.cons .dct0 (.nil))))))) := ⟨_, rfl⟩
  obtain ⟨eT, eeT⟩ : ∃ e : E, e = .lst false (.cons (.con .non) (.cons (.tup (.cons (.var 7) (.nil))) (.cons (.var 7) (.cons (.con (.str "x")) (.nil))))) := ⟨_, rfl⟩
  obtain ⟨eM, eeM⟩ : ∃ e : E, e = .lst false (.cons (.neg (.con (.int 1))) (.cons (.bf false .len (.var 6)) (.cons (.bin false .add (.bf false .len (.var 6)) (.call 1 (.cons (.var 2) (.cons (.con (.int 9)) (.nil))))) (.cons (.con (.bl true)) (.cons (.con (.bl false)) (.cons (.con (.str "0")) (.cons (.con .non) (.cons (.bin false .pow (.con (.int 10)) (.con (.int 40))) (.nil))))))))) := ⟨_, rfl⟩
  have kl : ∀ {S : Store}, bfV false .list (rowT r0') S = .ok (.lst (r0'.map natD)) S := by
    intro S
    show mkL false (r0'.map natD) S = _
    exact mkL_val (sz (by rw [List.length_map]; omega))
  have vS : ∀ (u2 u3 u4 u5 u6 u8 u9 u10 u11 u12 : Option D), E.ev (run G n) G eS [some s, some (.int a), u2, u3, u4, u5, u6, some (rowT r0'), u8, u9, u10, u11, u12] (S ++ [.lst st6]) = .ok (.lst (seconds r0' (S.length + 1))) S6 := fun u2 u3 u4 u5 u6 u8 u9 u10 u11 u12 => by
    rw [eeS, hS6]
    simp only [ev_e_lst, ev_es_cons, ev_es_nil, ev_e_con, ev_e_bf, ev_e_var, ev_e_tup, ev_e_dct0, List.getElem?_cons_succ, List.getElem?_cons_zero, bind_ok', kl]
    rw [mkT_val (sz (by simp))]
    simp only [bind_ok']
    rw [mkL_val (sz (by simp))]
    simp [seconds]
  have vT : ∀ (S : Store) (u2 u3 u4 u5 u6 u8 u9 u10 u11 u12 : Option D), E.ev (run G n) G eT [some s, some (.int a), u2, u3, u4, u5, u6, some (rowT r0'), u8, u9, u10, u11, u12] S = .ok (.lst (thirds r0')) S := fun S u2 u3 u4 u5 u6 u8 u9 u10 u11 u12 => by
    rw [eeT]
    simp only [ev_e_lst, ev_es_cons, ev_es_nil, ev_e_con, ev_e_var, ev_e_tup, List.getElem?_cons_succ, List.getElem?_cons_zero, bind_ok']
    rw [mkT_val (sz (by simp))]
    simp only [bind_ok']
    rw [mkL_val (sz (by simp))]
    rfl
  have hpow : ∀ S, binV false .pow (.int 10) (.int 40) S = .ok (.int (10 ^ 40)) S := fun S => by rfl
  have addk : binV false .add (.int (c.tot 1 1 : Nat)) (.int k9) S9 = .ok (.int ((c.tot 1 1 : Nat) + k9)) S9 := rfl
  have eb' : run G n 1 [.ref S.length, .int 9] S8 = _ := eb
  have vM : ∀ (u3 u4 u5 u7 u8 u9 u10 u11 u12 : Option D), E.ev (run G n) G eM [some s, some (.int a), some (.ref S.length), u3, u4, u5, some (.lst (c.rows.map rowL)), u7, u8, u9, u10, u11, u12] S8 = .ok (.lst (manys c k9)) S9 := fun u3 u4 u5 u7 u8 u9 u10 u11 u12 => by
    rw [eeM]
    simp only [ev_e_lst, ev_es_cons, ev_es_nil, ev_e_con, ev_e_neg, ev_e_bf, ev_e_bin, ev_e_call, ev_e_var, List.getElem?_cons_succ, List.getElem?_cons_zero, bind_ok', lr, eb', addk, hpow]
    rw [mkL_val (sz (by simp))]
    rfl
  obtain ⟨wC, ewC⟩ : ∃ b, b = lk14C := ⟨_, rfl⟩
  obtain ⟨wT, ewT⟩ : ∃ b, b = lk14T := ⟨_, rfl⟩
  obtain ⟨eR, eeR⟩ : ∃ b, b = eR76 := ⟨_, rfl⟩
  rw [← ewC] at f8
  rw [← ewT] at f9
  rw [← eeR] at e6
  have hb : lk14 = .cons (.set 2 (.lst true (.cons (.var 1) (.nil)))) (.cons (.set 3 (.call 2 (.cons (.var 2) (.cons (.bin false .add (.con (.int 1)) (.call 1 (.cons (.var 2) (.cons (.con (.int 8)) (.nil))))) (.cons (.bin false .add (.con (.int 1)) (.call 1 (.cons (.var 2) (.cons (.con (.int 6)) (.nil))))) (.nil)))))) (.cons (.set 6 eR) (.cons (.set 7 (.bf false .tuple (.call 4 (.cons (.var 2) (.cons (.var 6) (.nil)))))) (.cons (.set 4 (.var 7)) (.cons (.for (.nm 8) (.rng (.cons (.bin false .add (.con (.int 1)) (.call 1 (.cons (.var 2) (.cons (.con (.int 2)) (.nil))))) (.nil))) wC) (.cons (.for (.nm 9) (.seq (.tup (.cons (.var 4) (.cons (.call 4 (.cons (.var 2) (.cons eS (.nil)))) (.nil))))) wT) (.cons (.ite (.cmp .ne (.ix (.told (.call 20 (.cons (.var 3) (.cons (.con (.int 0)) (.cons (.call 4 (.cons (.var 2) (.cons eT (.nil)))) (.nil)))))) (.con (.int 1))) (.lst false (.cons (.con (.str "through")) (.nil)))) (.cons (.ret (.con (.bl false))) (.nil)) (.nil)) (.cons (.set 11 (.call 4 (.cons (.var 2) (.cons eM (.nil))))) (.cons (.ite (.cmp .ne (.told (.call 10 (.cons (.var 3) (.cons (.var 11) (.nil))))) (.tup (.cons (.con (.str "refused")) (.cons (.lst false (.cons (.con (.str "number")) (.nil))) (.nil))))) (.cons (.ret (.con (.bl false))) (.nil)) (.nil)) (.cons (.set 12 (.call 11 (.cons (.var 3) (.cons (.var 7) (.nil))))) (.cons (.ite (.or (.cmp .ne (.call 10 (.cons (.var 3) (.cons (.var 12) (.nil)))) (.var 7)) (.nt (.cmp2 .le .lt (.con (.int 0)) (.var 12) (.bf false .len (.var 6))))) (.cons (.ret (.con (.bl false))) (.nil)) (.nil)) (.nil)))))))))))) := by
    rw [ewC, ewT, eeR, eeS, eeT, eeM]
    rfl
  rw [hb]
  have d1' : run G n 1 [.ref S.length, .int 8] (S ++ [.lst [.int a]]) = _ := d1
  have d2' : run G n 1 [.ref S.length, .int 6] (S ++ [.lst st1]) = _ := d2
  have e8' : run G n 1 [.ref S.length, .int 2] (S ++ [.lst st4]) = _ := e8
  have z1 : toldV (.exc ⟨2, []⟩ S8) = .ok (saidD (false, false, true, false)) S8 := rfl
  have z2 : ixV (saidD (false, false, true, false)) (.int 1) S8 = .ok (.lst [.str "through"]) S8 := rfl
  have z3 : toldV (.exc ⟨1, []⟩ S10) = .ok (saidD (false, false, false, true)) S10 := rfl
  have z4 := said_num (S := S10)
  have z5 := ne_thrL (S := S8)
  have le0 : (0 : Int) ≤ ((num r0' (c.wl 1 1) : Nat) : Int) := by omega
  have lt1 : ((num r0' (c.wl 1 1) : Nat) : Int) < ((c.tot 1 1 : Nat) : Int) := by simp only at kn1; omega
  refine ⟨[some (.ref S.length), some c.toD, some (.tup ds), x5, some (.lst (c.rows.map rowL)), some (rowT r0'), y8, y9, y10, some dm, some (.int (num r0' (c.wl 1 1) : Nat))], S10, ?_, rfl⟩
  generalize saidD (false, false, true, false) = u1 at z1 z2
  generalize saidD (false, false, false, true) = u2 at z3 z4
  have er8 : (D.tup (r0'.map natD)) = rowT r0' := rfl
  rw [er8] at f8
  simp only at e26 eta kn1
  generalize num r0' (c.wl 1 1) = N at e26 eta le0 lt1 ⊢
  generalize c.tot 1 1 = M at lr lt1
  generalize c.rows.map rowL = RR at e6 e7 f8 f9 vM lr ⊢
  generalize rowT r0' = rt at t7 f8 f9 vS vT e26 eta hneT ⊢
  generalize seconds r0' (S.length + 1) = q2 at e9 vS
  generalize thirds r0' = q3 at ea vT
  generalize manys c k9 = q4 at ec vM
  simp [d1', d2', d3, e6, e7, t7, e8', hr8, f8, vS, e9, f9, vT, ea, e55, z1, z2, z5, vM, ec, e25, z3, z4, e26, eta, hneT, lr, le0, lt1, sz]
theorem k14_holds (hG : HasK14 G) (hn : 31 ≤ n) (ns : List Int) (hl : ns.length ≤ 63) : ∃ S, run G n 23 [.scr ns] [] = .ok (.bl true) S := by
  obtain ⟨a, ea⟩ := cell_at' hG.ca (n := n - 1) (ns := ns) (S := []) (by omega)
  obtain ⟨o', r', S, e, _⟩ := turns (s := .scr ns) (m := 11) (body := fun env S => Ev.Ss.ev (run G (n - 1)) G lk14 env S) (fun a rest S hr => k14_cell hG (by omega) hr) (a :: 1 :: cutD ns (some 1) (some 10)) none (List.replicate 11 none) [] rfl
  refine ⟨[], ?_⟩
  rw [run_at (by omega) hG.law rfl]
  have hf : finish true [] (.rt (.bl true) S) = .ok (.bl true) [] := finish_pure (by simp) (frz_plain rfl)
  have hc := cut_small (a := some 1) (b := some 10) hl
  have hcut := cut_scr (S := []) (ns := ns) (i := 1) (j := 10) (sz (by omega))
  obtain ⟨L, hL⟩ : ∃ L, L = D.int a :: D.int 1 :: (cutD ns (some 1) (some 10)).map D.int := ⟨_, rfl⟩
  have ha : binV false .add (.lst [.int a, .int 1]) (.lst ((cutD ns (some 1) (some 10)).map .int)) [] = .ok (.lst L) [] := by
    rw [hL]
    exact v_add_lst (sz (by simp; omega))
  obtain ⟨b, eb⟩ : ∃ b, b = lk14 := ⟨_, rfl⟩
  rw [← eb] at e
  have hb : flaw_9.body = .cons (.for (.nm 1) (.seq (.bin false .add (.lst false (.cons (.call 0 (.cons (.var 0) (.cons (.con (.int 0)) .nil))) (.cons (.con (.int 1)) .nil))) (.cutC false (.var 0) (.con (.int 1)) (.con (.int 10))))) b) (.cons (.ret (.con (.bl true))) .nil) := by rw [eb]; rfl
  rw [hb]
  simp only [List.map_cons, ← hL, List.replicate_succ, List.replicate_zero] at e
  simp [flaw_9, ea, hcut, ha, sz, e, hf]
end
end Ev


namespace Ev
open PySem PySem.Spec L2 PyProof.Rows
def gG : Cfg := ⟨[f_law_cell_at, f_law_digit, f_law_grown, fis_condition, f_law_pick, fmany_parts, fcondition_unless, fparts_in, fis_word, f_law_sides, fthrough_at, fnumber_of, fknots_of, fthrough_by, fworths_of, fend_of, fis_whole, fthrough_unless, fnumber_by, flaid_out, fshown_by, fpart_unless, ffirst_pair, flaw_9, f_law_changed_1, fways_behind, fare_alike_but, f_law_is_one, fcondition_text, fread_condition, cparts_of, f_law_parts, fparts_of, fwords_in, fread_from, cparts_in, f_law_worths, fall_throughs, fpart_worths, f_law_not_right, f_law_all_values, fis_held, fasked_parts, fvalues_unless, fheld_at, fpart_holds, fare_values, fword_worth, f_law_worth, f_law_answers, f_law_true, flaw_10, f_law_of_values, f_law_shows, call_throughs, cpart_worths, fworths_of], [(.int 8), (.int 8), (.tup [(.str "="), (.str "<")]), (.tup [(.str "and"), (.str "or")]), (.str "abc"), (.str "0123"), (.int (-1)), (.int (-2)), (.int 2)], 20⟩
def gNm : Names := ⟨("_law_cell_at" :: "_law_digit" :: "_law_grown" :: "is_condition" :: "_law_pick" :: "many_parts" :: "condition_unless" :: "parts_in" :: "is_word" :: "_law_sides" :: "through_at" :: "number_of" :: "knots_of" :: "through_by" :: "worths_of" :: "end_of" :: "is_whole" :: "through_unless" :: "number_by" :: "laid_out" :: "shown_by" :: "part_unless" :: "first_pair" :: "law" :: "_law_changed" :: "ways_behind" :: "are_alike_but" :: "_law_is_one" :: []), ("MOST_DEEP" :: "MOST_PARTS" :: "SIGNS" :: "JOINS" :: "PLACES" :: "NUMBERS" :: "HOLDS" :: "FAILS" :: "NOT_ASKED" :: []), ("NoCondition" :: "NoNumber" :: "NoThrough" :: "NoValues" :: []), ("all" :: "bool" :: "enumerate" :: "int" :: "isinstance" :: "len" :: "list" :: "range" :: "sorted" :: "str" :: "sum" :: "tuple" :: "zip" :: []), some ("_law_script" :: "_law_cell" :: "_law_state" :: "_law_condition" :: "_law_row" :: "_law_truth" :: "_law_rows" :: "_law_good" :: "_law_turn" :: "_law_odd" :: "_law_due" :: "_law_many" :: "_law_number" :: [])⟩
def saidP : List Pos := [⟨184, 16, 184, 22⟩, ⟨184, 24, 184, 32⟩, ⟨184, 24, 184, 34⟩, ⟨184, 15, 184, 35⟩, ⟨184, 8, 184, 35⟩, ⟨185, 11, 185, 19⟩, ⟨186, 8, 186, 18⟩, ⟨186, 22, 186, 32⟩, ⟨186, 33, 186, 34⟩, ⟨186, 36, 186, 47⟩, ⟨186, 22, 186, 48⟩, ⟨186, 50, 186, 60⟩, ⟨186, 61, 186, 62⟩, ⟨186, 64, 186, 72⟩, ⟨186, 50, 186, 73⟩, ⟨186, 75, 186, 85⟩, ⟨186, 86, 186, 87⟩, ⟨186, 89, 186, 98⟩, ⟨186, 75, 186, 99⟩, ⟨186, 101, 186, 111⟩, ⟨186, 112, 186, 113⟩, ⟨186, 115, 186, 123⟩, ⟨186, 101, 186, 124⟩, ⟨186, 21, 186, 125⟩, ⟨186, 8, 186, 125⟩, ⟨187, 8, 187, 18⟩, ⟨187, 22, 187, 33⟩, ⟨187, 35, 187, 43⟩, ⟨187, 45, 187, 54⟩, ⟨187, 56, 187, 64⟩, ⟨187, 21, 187, 65⟩, ⟨187, 8, 187, 65⟩, ⟨188, 16, 188, 25⟩, ⟨188, 28, 188, 37⟩, ⟨188, 42, 188, 51⟩, ⟨188, 53, 188, 63⟩, ⟨188, 42, 188, 63⟩, ⟨188, 67, 188, 70⟩, ⟨188, 71, 188, 81⟩, ⟨188, 83, 188, 93⟩, ⟨188, 67, 188, 94⟩, ⟨188, 98, 188, 108⟩, ⟨188, 27, 188, 109⟩, ⟨188, 15, 188, 110⟩, ⟨188, 8, 188, 110⟩, ⟨185, 4, 188, 110⟩, ⟨183, 4, 188, 110⟩]
theorem hasK14 : HasK14 gG := { deep := rfl, many := rfl, sg := rfl, jn := rfl, pl := rfl, nu := rfl, iw := rfl, mp := rfl, ic := rfl, cu := rfl, pin := rfl, holds := rfl, fails := rfl, nota := rfl, lo := rfl, ko := rfl, wb := rfl, wo := rfl, tb := rfl, eo := rfl, tu := rfl, nb := rfl, iwh := rfl, lim := by decide, fp := rfl, al := rfl, sb := rfl, pu := rfl, nof := rfl, ta := rfl, dg := rfl, gr := rfl, pk := rfl, ca := rfl, sd := rfl, ch := rfl, io := rfl, law := rfl }
theorem lawrun (ns : List Int) (hl : ns.length ≤ 63) : ∃ S, run gG 40 23 [.scr ns] [] = .ok (.bl true) S := k14_holds hasK14 (by decide) ns hl
def top (i : Nat) : Stmt := PySem.Challenge.pw_whatran_k14_what_is_no_through.main.body.getD i (.Pass ⟨0, 0, 0, 0⟩)
theorem k_f_law_cell_at : chkF gNm ["_law_script", "_law_k"] ["_law_script", "_law_k"] f_law_cell_at (C8.fnScope (top 40)) (C8.fnBody (top 40)) = true := by kernel_rfl
theorem k_f_law_digit : chkF gNm ["_law_state", "_law_base", "_law_found", "_law_number"] ["_law_state", "_law_base"] f_law_digit (C8.fnScope (top 41)) (C8.fnBody (top 41)) = true := by kernel_rfl
theorem k_f_law_grown : chkF gNm ["_law_state", "_law_many", "_law_deep", "_law_way", "_law_first", "_law_word"] ["_law_state", "_law_many", "_law_deep"] f_law_grown (C8.fnScope (top 43)) (C8.fnBody (top 43)) = true := by kernel_rfl
theorem k_fis_condition : chkF gNm ["thing", "many"] ["thing"] fis_condition (C8.fnScope (top 20)) (C8.fnBody (top 20)) = true := by kernel_rfl
theorem k_f_law_pick : chkF gNm ["_law_state", "_law_some"] ["_law_state", "_law_some"] f_law_pick (C8.fnScope (top 42)) (C8.fnBody (top 42)) = true := by kernel_rfl
theorem k_fmany_parts : chkF gNm ["thing", "room", "one", "found"] ["thing", "room"] fmany_parts (C8.fnScope (top 19)) (C8.fnBody (top 19)) = true := by kernel_rfl
theorem k_fcondition_unless : chkF gNm ["condition"] ["condition"] fcondition_unless (C8.fnScope (top 21)) (C8.fnBody (top 21)) = true := by kernel_rfl
theorem k_fparts_in : chkF gNm ["condition", "one", "part"] ["condition"] fparts_in (C8.fnScope (top 22)) (C8.fnBody (top 22)) = true := by kernel_rfl
theorem k_fis_word : chkF gNm ["thing"] ["thing"] fis_word (C8.fnScope (top 18)) (C8.fnBody (top 18)) = true := by kernel_rfl
theorem k_f_law_sides : chkF gNm ["_law_condition", "_law_word", "_law_first", "_law_row", "_law_truth", "_law_second", "_law_unasked", "_law_found", "_law_other", "_law_its"] ["_law_condition"] f_law_sides (C8.fnScope (top 44)) (C8.fnBody (top 44)) = true := by kernel_rfl
theorem k_fthrough_at : chkF gNm ["condition", "number", "knots"] ["condition", "number"] fthrough_at (C8.fnScope (top 33)) (C8.fnBody (top 33)) = true := by kernel_rfl
theorem k_fnumber_of : chkF gNm ["condition", "through", "knots"] ["condition", "through"] fnumber_of (C8.fnScope (top 31)) (C8.fnBody (top 31)) = true := by kernel_rfl
theorem k_fknots_of : chkF gNm ["condition"] ["condition"] fknots_of (C8.fnScope (top 24)) (C8.fnBody (top 24)) = true := by kernel_rfl
theorem k_fthrough_by : chkF gNm ["knots", "number", "adds", "found", "at"] ["knots", "number"] fthrough_by (C8.fnScope (top 32)) (C8.fnBody (top 32)) = true := by kernel_rfl
theorem k_fworths_of : chkF gNm ["knots", "ways", "found", "at", "behind", "low", "high"] ["knots"] fworths_of (C8.fnScope (top 27)) (C8.fnBody (top 27)) = true := by kernel_rfl
theorem k_fend_of : chkF gNm ["knots", "thing", "answer", "left", "at"] ["knots", "thing"] fend_of (C8.fnScope (top 28)) (C8.fnBody (top 28)) = true := by kernel_rfl
theorem k_fis_whole : chkF gNm ["thing", "low", "high"] ["thing", "low", "high"] fis_whole (C8.fnScope (top 7)) (C8.fnBody (top 7)) = true := by kernel_rfl
theorem k_fthrough_unless : chkF gNm ["knots", "through"] ["knots", "through"] fthrough_unless (C8.fnScope (top 29)) (C8.fnBody (top 29)) = true := by kernel_rfl
theorem k_fnumber_by : chkF gNm ["knots", "through", "found", "answer", "low", "high"] ["knots", "through"] fnumber_by (C8.fnScope (top 30)) (C8.fnBody (top 30)) = true := by kernel_rfl
theorem k_flaid_out : chkF gNm ["condition", "at", "yes", "no", "word", "behind"] ["condition", "at", "yes", "no"] flaid_out (C8.fnScope (top 23)) (C8.fnBody (top 23)) = true := by kernel_rfl
theorem k_fshown_by : chkF gNm ["condition", "part", "seen", "knots", "through"] ["condition", "part", "seen"] fshown_by (C8.fnScope (top 38)) (C8.fnBody (top 38)) = true := by kernel_rfl
theorem k_fpart_unless : chkF gNm ["knots", "part"] ["knots", "part"] fpart_unless (C8.fnScope (top 35)) (C8.fnBody (top 35)) = true := by kernel_rfl
theorem k_ffirst_pair : chkF gNm ["knots", "part", "some", "through", "rows", "number", "low", "many", "high"] ["knots", "part", "some"] ffirst_pair (C8.fnScope (top 37)) (C8.fnBody (top 37)) = true := by kernel_rfl
theorem k_flaw_9 : chkF gNm ["_law_script", "_law_cell", "_law_state", "_law_condition", "_law_row", "_law_truth", "_law_rows", "_law_good", "_law_turn", "_law_odd", "_law_due", "_law_many", "_law_number"] ["_law_script"] flaw_9 (C8.fnScope (top 48)) (C8.fnBody (top 48)) = true := by kernel_rfl
theorem k_f_law_changed_1 : chkF gNm ["_law_state", "_law_row", "_law_at", "_law_odd", "_law_way"] ["_law_state", "_law_row"] f_law_changed_1 (C8.fnScope (top 46)) (C8.fnBody (top 46)) = true := by kernel_rfl
theorem k_fways_behind : chkF gNm ["knots", "ways", "at"] ["knots", "ways", "at"] fways_behind (C8.fnScope (top 26)) (C8.fnBody (top 26)) = true := by kernel_rfl
theorem k_fare_alike_but : chkF gNm ["one", "other", "part", "at", "first", "second"] ["one", "other", "part"] fare_alike_but (C8.fnScope (top 36)) (C8.fnBody (top 36)) = true := by kernel_rfl
theorem k_f_law_is_one : chkF gNm ["_law_row", "_law_rows", "_law_one", "_law_odd"] ["_law_row", "_law_rows"] f_law_is_one (C8.fnScope (top 47)) (C8.fnBody (top 47)) = true := by kernel_rfl
def gPs (k : Nat) : List Str := (["_law_script", "_law_k"] :: ["_law_state", "_law_base"] :: ["_law_state", "_law_many", "_law_deep"] :: ["thing"] :: ["_law_state", "_law_some"] :: ["thing", "room"] :: ["condition"] :: ["condition"] :: ["thing"] :: ["_law_condition"] :: ["condition", "number"] :: ["condition", "through"] :: ["condition"] :: ["knots", "number"] :: ["knots"] :: ["knots", "thing"] :: ["thing", "low", "high"] :: ["knots", "through"] :: ["knots", "through"] :: ["condition", "at", "yes", "no"] :: ["condition", "part", "seen"] :: ["knots", "part"] :: ["knots", "part", "some"] :: ["_law_script"] :: ["_law_state", "_law_row"] :: ["knots", "ways", "at"] :: ["one", "other", "part"] :: ["_law_row", "_law_rows"] :: [] : List (List Str)).getD k []
theorem said_b : C8.fnBody (top 45) = saidB (fun i => saidP.getD i ⟨0, 0, 0, 0⟩) := by kernel_rfl
def lamQ : Str := (envOfC "law" (C8.fnScope (top 48)) 0 0 .none).qual ++ "<lambda>"
theorem said_s : C8.fnScope (top 45) = saidSc := by kernel_rfl
theorem all_mk {l : PySem.W.OpenLaw} {w : World} {K : PySem.W.Frag} {h : Heap} {mg : Str → Option Value} {fa : Addr} (X : K.In h) (G : h.Ns mainGlobals mg) (hfa : mg "law" = some (.ref fa))
    {f0 : Addr} {od0 an0 : Option Addr} {sl0 : Array (Option Value)} {oc0 kV0 dc0 pm0 cd0 ct0 : Value}
    {f1 : Addr} {od1 an1 : Option Addr} {sl1 : Array (Option Value)} {oc1 kV1 dc1 pm1 cd1 ct1 : Value}
    {f2 : Addr} {od2 an2 : Option Addr} {sl2 : Array (Option Value)} {oc2 kV2 dc2 pm2 cd2 ct2 : Value}
    {f3 : Addr} {od3 an3 : Option Addr} {sl3 : Array (Option Value)} {oc3 kV3 dc3 pm3 cd3 ct3 : Value}
    {f4 : Addr} {od4 an4 : Option Addr} {sl4 : Array (Option Value)} {oc4 kV4 dc4 pm4 cd4 ct4 : Value}
    {f5 : Addr} {od5 an5 : Option Addr} {sl5 : Array (Option Value)} {oc5 kV5 dc5 pm5 cd5 ct5 : Value}
    {f6 : Addr} {od6 an6 : Option Addr} {sl6 : Array (Option Value)} {oc6 kV6 dc6 pm6 cd6 ct6 : Value}
    {f7 : Addr} {od7 an7 : Option Addr} {sl7 : Array (Option Value)} {oc7 kV7 dc7 pm7 cd7 ct7 : Value}
    {f8 : Addr} {od8 an8 : Option Addr} {sl8 : Array (Option Value)} {oc8 kV8 dc8 pm8 cd8 ct8 : Value}
    {f9 : Addr} {od9 an9 : Option Addr} {sl9 : Array (Option Value)} {oc9 kV9 dc9 pm9 cd9 ct9 : Value}
    {f10 : Addr} {od10 an10 : Option Addr} {sl10 : Array (Option Value)} {oc10 kV10 dc10 pm10 cd10 ct10 : Value}
    {f11 : Addr} {od11 an11 : Option Addr} {sl11 : Array (Option Value)} {oc11 kV11 dc11 pm11 cd11 ct11 : Value}
    {f12 : Addr} {od12 an12 : Option Addr} {sl12 : Array (Option Value)} {oc12 kV12 dc12 pm12 cd12 ct12 : Value}
    {f13 : Addr} {od13 an13 : Option Addr} {sl13 : Array (Option Value)} {oc13 kV13 dc13 pm13 cd13 ct13 : Value}
    {f14 : Addr} {od14 an14 : Option Addr} {sl14 : Array (Option Value)} {oc14 kV14 dc14 pm14 cd14 ct14 : Value}
    {f15 : Addr} {od15 an15 : Option Addr} {sl15 : Array (Option Value)} {oc15 kV15 dc15 pm15 cd15 ct15 : Value}
    {f16 : Addr} {od16 an16 : Option Addr} {sl16 : Array (Option Value)} {oc16 kV16 dc16 pm16 cd16 ct16 : Value}
    {f17 : Addr} {od17 an17 : Option Addr} {sl17 : Array (Option Value)} {oc17 kV17 dc17 pm17 cd17 ct17 : Value}
    {f18 : Addr} {od18 an18 : Option Addr} {sl18 : Array (Option Value)} {oc18 kV18 dc18 pm18 cd18 ct18 : Value}
    {f19 : Addr} {od19 an19 : Option Addr} {sl19 : Array (Option Value)} {oc19 kV19 dc19 pm19 cd19 ct19 : Value}
    {f20 : Addr} {od20 an20 : Option Addr} {sl20 : Array (Option Value)} {oc20 kV20 dc20 pm20 cd20 ct20 : Value}
    {f21 : Addr} {od21 an21 : Option Addr} {sl21 : Array (Option Value)} {oc21 kV21 dc21 pm21 cd21 ct21 : Value}
    {f22 : Addr} {od22 an22 : Option Addr} {sl22 : Array (Option Value)} {oc22 kV22 dc22 pm22 cd22 ct22 : Value}
    {f23 : Addr} {od23 an23 : Option Addr} {sl23 : Array (Option Value)} {oc23 kV23 dc23 pm23 cd23 ct23 : Value}
    {f24 : Addr} {od24 an24 : Option Addr} {sl24 : Array (Option Value)} {oc24 kV24 dc24 pm24 cd24 ct24 : Value}
    {f25 : Addr} {od25 an25 : Option Addr} {sl25 : Array (Option Value)} {oc25 kV25 dc25 pm25 cd25 ct25 : Value}
    {f26 : Addr} {od26 an26 : Option Addr} {sl26 : Array (Option Value)} {oc26 kV26 dc26 pm26 cd26 ct26 : Value}
    {f27 : Addr} {od27 an27 : Option Addr} {sl27 : Array (Option Value)} {oc27 kV27 dc27 pm27 cd27 ct27 : Value}
    {gt0 : Tok}
    {gt1 : Tok}
    {gp2 : Addr} {go2 : Option Addr} {gn2 : Nat} {gs2 : Array (Option Value)} {gu2_0 : Tok} {gu2_1 : Tok}
    {gp3 : Addr} {go3 : Option Addr} {gn3 : Nat} {gs3 : Array (Option Value)} {gu3_0 : Tok} {gu3_1 : Tok}
    {gt4 : Tok}
    {gt5 : Tok}
    {gt6 : Tok}
    {gt7 : Tok}
    {gt8 : Tok}
    {e0 : Addr}
    {e1 : Addr}
    {e2 : Addr}
    {e3 : Addr}
    {fS eR tc tP : Addr} {odS anS : Option Addr} {slS : Array (Option Value)} {ocS kVS dcS pmS cdS ctS : Value}
    (a0 : PySem.W.nsIn K mainGlobals "_law_cell_at" = some (some (.ref f0))) (l0 : K.lookup f0 = some ⟨oc0, od0, .func (PySem.W.fnOf "_law_cell_at" "_law_cell_at" (C8.fnArgs (top 40)) (C8.fnBody (top 40)) (C8.fnScope (top 40)) .none kV0 dc0 pm0 an0 cd0 ct0), sl0⟩) (c0 : PySem.W.codeIn K cd0 "_law_cell_at" = true) (k0 : PySem.W.keepIn K (.ref f0) = true)
    (a1 : PySem.W.nsIn K mainGlobals "_law_digit" = some (some (.ref f1))) (l1 : K.lookup f1 = some ⟨oc1, od1, .func (PySem.W.fnOf "_law_digit" "_law_digit" (C8.fnArgs (top 41)) (C8.fnBody (top 41)) (C8.fnScope (top 41)) .none kV1 dc1 pm1 an1 cd1 ct1), sl1⟩) (c1 : PySem.W.codeIn K cd1 "_law_digit" = true) (k1 : PySem.W.keepIn K (.ref f1) = true)
    (a2 : PySem.W.nsIn K mainGlobals "_law_grown" = some (some (.ref f2))) (l2 : K.lookup f2 = some ⟨oc2, od2, .func (PySem.W.fnOf "_law_grown" "_law_grown" (C8.fnArgs (top 43)) (C8.fnBody (top 43)) (C8.fnScope (top 43)) .none kV2 dc2 pm2 an2 cd2 ct2), sl2⟩) (c2 : PySem.W.codeIn K cd2 "_law_grown" = true) (k2 : PySem.W.keepIn K (.ref f2) = true)
    (a3 : PySem.W.nsIn K mainGlobals "is_condition" = some (some (.ref f3))) (l3 : K.lookup f3 = some ⟨oc3, od3, .func (PySem.W.fnOf "is_condition" "is_condition" (C8.fnArgs (top 20)) (C8.fnBody (top 20)) (C8.fnScope (top 20)) .none kV3 dc3 pm3 an3 cd3 ct3), sl3⟩) (c3 : PySem.W.codeIn K cd3 "is_condition" = true) (k3 : PySem.W.keepIn K (.ref f3) = true)
    (a4 : PySem.W.nsIn K mainGlobals "_law_pick" = some (some (.ref f4))) (l4 : K.lookup f4 = some ⟨oc4, od4, .func (PySem.W.fnOf "_law_pick" "_law_pick" (C8.fnArgs (top 42)) (C8.fnBody (top 42)) (C8.fnScope (top 42)) .none kV4 dc4 pm4 an4 cd4 ct4), sl4⟩) (c4 : PySem.W.codeIn K cd4 "_law_pick" = true) (k4 : PySem.W.keepIn K (.ref f4) = true)
    (a5 : PySem.W.nsIn K mainGlobals "many_parts" = some (some (.ref f5))) (l5 : K.lookup f5 = some ⟨oc5, od5, .func (PySem.W.fnOf "many_parts" "many_parts" (C8.fnArgs (top 19)) (C8.fnBody (top 19)) (C8.fnScope (top 19)) .none kV5 dc5 pm5 an5 cd5 ct5), sl5⟩) (c5 : PySem.W.codeIn K cd5 "many_parts" = true) (k5 : PySem.W.keepIn K (.ref f5) = true)
    (a6 : PySem.W.nsIn K mainGlobals "condition_unless" = some (some (.ref f6))) (l6 : K.lookup f6 = some ⟨oc6, od6, .func (PySem.W.fnOf "condition_unless" "condition_unless" (C8.fnArgs (top 21)) (C8.fnBody (top 21)) (C8.fnScope (top 21)) .none kV6 dc6 pm6 an6 cd6 ct6), sl6⟩) (c6 : PySem.W.codeIn K cd6 "condition_unless" = true) (k6 : PySem.W.keepIn K (.ref f6) = true)
    (a7 : PySem.W.nsIn K mainGlobals "parts_in" = some (some (.ref f7))) (l7 : K.lookup f7 = some ⟨oc7, od7, .func (PySem.W.fnOf "parts_in" "parts_in" (C8.fnArgs (top 22)) (C8.fnBody (top 22)) (C8.fnScope (top 22)) .none kV7 dc7 pm7 an7 cd7 ct7), sl7⟩) (c7 : PySem.W.codeIn K cd7 "parts_in" = true) (k7 : PySem.W.keepIn K (.ref f7) = true)
    (a8 : PySem.W.nsIn K mainGlobals "is_word" = some (some (.ref f8))) (l8 : K.lookup f8 = some ⟨oc8, od8, .func (PySem.W.fnOf "is_word" "is_word" (C8.fnArgs (top 18)) (C8.fnBody (top 18)) (C8.fnScope (top 18)) .none kV8 dc8 pm8 an8 cd8 ct8), sl8⟩) (c8 : PySem.W.codeIn K cd8 "is_word" = true) (k8 : PySem.W.keepIn K (.ref f8) = true)
    (a9 : PySem.W.nsIn K mainGlobals "_law_sides" = some (some (.ref f9))) (l9 : K.lookup f9 = some ⟨oc9, od9, .func (PySem.W.fnOf "_law_sides" "_law_sides" (C8.fnArgs (top 44)) (C8.fnBody (top 44)) (C8.fnScope (top 44)) .none kV9 dc9 pm9 an9 cd9 ct9), sl9⟩) (c9 : PySem.W.codeIn K cd9 "_law_sides" = true) (k9 : PySem.W.keepIn K (.ref f9) = true)
    (a10 : PySem.W.nsIn K mainGlobals "through_at" = some (some (.ref f10))) (l10 : K.lookup f10 = some ⟨oc10, od10, .func (PySem.W.fnOf "through_at" "through_at" (C8.fnArgs (top 33)) (C8.fnBody (top 33)) (C8.fnScope (top 33)) .none kV10 dc10 pm10 an10 cd10 ct10), sl10⟩) (c10 : PySem.W.codeIn K cd10 "through_at" = true) (k10 : PySem.W.keepIn K (.ref f10) = true)
    (a11 : PySem.W.nsIn K mainGlobals "number_of" = some (some (.ref f11))) (l11 : K.lookup f11 = some ⟨oc11, od11, .func (PySem.W.fnOf "number_of" "number_of" (C8.fnArgs (top 31)) (C8.fnBody (top 31)) (C8.fnScope (top 31)) .none kV11 dc11 pm11 an11 cd11 ct11), sl11⟩) (c11 : PySem.W.codeIn K cd11 "number_of" = true) (k11 : PySem.W.keepIn K (.ref f11) = true)
    (a12 : PySem.W.nsIn K mainGlobals "knots_of" = some (some (.ref f12))) (l12 : K.lookup f12 = some ⟨oc12, od12, .func (PySem.W.fnOf "knots_of" "knots_of" (C8.fnArgs (top 24)) (C8.fnBody (top 24)) (C8.fnScope (top 24)) .none kV12 dc12 pm12 an12 cd12 ct12), sl12⟩) (c12 : PySem.W.codeIn K cd12 "knots_of" = true) (k12 : PySem.W.keepIn K (.ref f12) = true)
    (a13 : PySem.W.nsIn K mainGlobals "through_by" = some (some (.ref f13))) (l13 : K.lookup f13 = some ⟨oc13, od13, .func (PySem.W.fnOf "through_by" "through_by" (C8.fnArgs (top 32)) (C8.fnBody (top 32)) (C8.fnScope (top 32)) .none kV13 dc13 pm13 an13 cd13 ct13), sl13⟩) (c13 : PySem.W.codeIn K cd13 "through_by" = true) (k13 : PySem.W.keepIn K (.ref f13) = true)
    (a14 : PySem.W.nsIn K mainGlobals "worths_of" = some (some (.ref f14))) (l14 : K.lookup f14 = some ⟨oc14, od14, .func (PySem.W.fnOf "worths_of" "worths_of" (C8.fnArgs (top 27)) (C8.fnBody (top 27)) (C8.fnScope (top 27)) .none kV14 dc14 pm14 an14 cd14 ct14), sl14⟩) (c14 : PySem.W.codeIn K cd14 "worths_of" = true) (k14 : PySem.W.keepIn K (.ref f14) = true)
    (a15 : PySem.W.nsIn K mainGlobals "end_of" = some (some (.ref f15))) (l15 : K.lookup f15 = some ⟨oc15, od15, .func (PySem.W.fnOf "end_of" "end_of" (C8.fnArgs (top 28)) (C8.fnBody (top 28)) (C8.fnScope (top 28)) .none kV15 dc15 pm15 an15 cd15 ct15), sl15⟩) (c15 : PySem.W.codeIn K cd15 "end_of" = true) (k15 : PySem.W.keepIn K (.ref f15) = true)
    (a16 : PySem.W.nsIn K mainGlobals "is_whole" = some (some (.ref f16))) (l16 : K.lookup f16 = some ⟨oc16, od16, .func (PySem.W.fnOf "is_whole" "is_whole" (C8.fnArgs (top 7)) (C8.fnBody (top 7)) (C8.fnScope (top 7)) .none kV16 dc16 pm16 an16 cd16 ct16), sl16⟩) (c16 : PySem.W.codeIn K cd16 "is_whole" = true) (k16 : PySem.W.keepIn K (.ref f16) = true)
    (a17 : PySem.W.nsIn K mainGlobals "through_unless" = some (some (.ref f17))) (l17 : K.lookup f17 = some ⟨oc17, od17, .func (PySem.W.fnOf "through_unless" "through_unless" (C8.fnArgs (top 29)) (C8.fnBody (top 29)) (C8.fnScope (top 29)) .none kV17 dc17 pm17 an17 cd17 ct17), sl17⟩) (c17 : PySem.W.codeIn K cd17 "through_unless" = true) (k17 : PySem.W.keepIn K (.ref f17) = true)
    (a18 : PySem.W.nsIn K mainGlobals "number_by" = some (some (.ref f18))) (l18 : K.lookup f18 = some ⟨oc18, od18, .func (PySem.W.fnOf "number_by" "number_by" (C8.fnArgs (top 30)) (C8.fnBody (top 30)) (C8.fnScope (top 30)) .none kV18 dc18 pm18 an18 cd18 ct18), sl18⟩) (c18 : PySem.W.codeIn K cd18 "number_by" = true) (k18 : PySem.W.keepIn K (.ref f18) = true)
    (a19 : PySem.W.nsIn K mainGlobals "laid_out" = some (some (.ref f19))) (l19 : K.lookup f19 = some ⟨oc19, od19, .func (PySem.W.fnOf "laid_out" "laid_out" (C8.fnArgs (top 23)) (C8.fnBody (top 23)) (C8.fnScope (top 23)) .none kV19 dc19 pm19 an19 cd19 ct19), sl19⟩) (c19 : PySem.W.codeIn K cd19 "laid_out" = true) (k19 : PySem.W.keepIn K (.ref f19) = true)
    (a20 : PySem.W.nsIn K mainGlobals "shown_by" = some (some (.ref f20))) (l20 : K.lookup f20 = some ⟨oc20, od20, .func (PySem.W.fnOf "shown_by" "shown_by" (C8.fnArgs (top 38)) (C8.fnBody (top 38)) (C8.fnScope (top 38)) .none kV20 dc20 pm20 an20 cd20 ct20), sl20⟩) (c20 : PySem.W.codeIn K cd20 "shown_by" = true) (k20 : PySem.W.keepIn K (.ref f20) = true)
    (a21 : PySem.W.nsIn K mainGlobals "part_unless" = some (some (.ref f21))) (l21 : K.lookup f21 = some ⟨oc21, od21, .func (PySem.W.fnOf "part_unless" "part_unless" (C8.fnArgs (top 35)) (C8.fnBody (top 35)) (C8.fnScope (top 35)) .none kV21 dc21 pm21 an21 cd21 ct21), sl21⟩) (c21 : PySem.W.codeIn K cd21 "part_unless" = true) (k21 : PySem.W.keepIn K (.ref f21) = true)
    (a22 : PySem.W.nsIn K mainGlobals "first_pair" = some (some (.ref f22))) (l22 : K.lookup f22 = some ⟨oc22, od22, .func (PySem.W.fnOf "first_pair" "first_pair" (C8.fnArgs (top 37)) (C8.fnBody (top 37)) (C8.fnScope (top 37)) .none kV22 dc22 pm22 an22 cd22 ct22), sl22⟩) (c22 : PySem.W.codeIn K cd22 "first_pair" = true) (k22 : PySem.W.keepIn K (.ref f22) = true)
    (a23 : PySem.W.nsIn K mainGlobals "law" = some (some (.ref f23))) (l23 : K.lookup f23 = some ⟨oc23, od23, .func (PySem.W.fnOf "law" "law" (C8.fnArgs (top 48)) (C8.fnBody (top 48)) (C8.fnScope (top 48)) .none kV23 dc23 pm23 an23 cd23 ct23), sl23⟩) (c23 : PySem.W.codeIn K cd23 "law" = true) (k23 : PySem.W.keepIn K (.ref f23) = true)
    (a24 : PySem.W.nsIn K mainGlobals "_law_changed" = some (some (.ref f24))) (l24 : K.lookup f24 = some ⟨oc24, od24, .func (PySem.W.fnOf "_law_changed" "_law_changed" (C8.fnArgs (top 46)) (C8.fnBody (top 46)) (C8.fnScope (top 46)) .none kV24 dc24 pm24 an24 cd24 ct24), sl24⟩) (c24 : PySem.W.codeIn K cd24 "_law_changed" = true) (k24 : PySem.W.keepIn K (.ref f24) = true)
    (a25 : PySem.W.nsIn K mainGlobals "ways_behind" = some (some (.ref f25))) (l25 : K.lookup f25 = some ⟨oc25, od25, .func (PySem.W.fnOf "ways_behind" "ways_behind" (C8.fnArgs (top 26)) (C8.fnBody (top 26)) (C8.fnScope (top 26)) .none kV25 dc25 pm25 an25 cd25 ct25), sl25⟩) (c25 : PySem.W.codeIn K cd25 "ways_behind" = true) (k25 : PySem.W.keepIn K (.ref f25) = true)
    (a26 : PySem.W.nsIn K mainGlobals "are_alike_but" = some (some (.ref f26))) (l26 : K.lookup f26 = some ⟨oc26, od26, .func (PySem.W.fnOf "are_alike_but" "are_alike_but" (C8.fnArgs (top 36)) (C8.fnBody (top 36)) (C8.fnScope (top 36)) .none kV26 dc26 pm26 an26 cd26 ct26), sl26⟩) (c26 : PySem.W.codeIn K cd26 "are_alike_but" = true) (k26 : PySem.W.keepIn K (.ref f26) = true)
    (a27 : PySem.W.nsIn K mainGlobals "_law_is_one" = some (some (.ref f27))) (l27 : K.lookup f27 = some ⟨oc27, od27, .func (PySem.W.fnOf "_law_is_one" "_law_is_one" (C8.fnArgs (top 47)) (C8.fnBody (top 47)) (C8.fnScope (top 47)) .none kV27 dc27 pm27 an27 cd27 ct27), sl27⟩) (c27 : PySem.W.codeIn K cd27 "_law_is_one" = true) (k27 : PySem.W.keepIn K (.ref f27) = true)
    (z0 : PySem.W.nsIn K mainGlobals "all" = some none)
    (z1 : PySem.W.nsIn K mainGlobals "bool" = some none)
    (z2 : PySem.W.nsIn K mainGlobals "enumerate" = some none)
    (z3 : PySem.W.nsIn K mainGlobals "int" = some none)
    (z4 : PySem.W.nsIn K mainGlobals "isinstance" = some none)
    (z5 : PySem.W.nsIn K mainGlobals "len" = some none)
    (z6 : PySem.W.nsIn K mainGlobals "list" = some none)
    (z7 : PySem.W.nsIn K mainGlobals "range" = some none)
    (z8 : PySem.W.nsIn K mainGlobals "sorted" = some none)
    (z9 : PySem.W.nsIn K mainGlobals "str" = some none)
    (z10 : PySem.W.nsIn K mainGlobals "sum" = some none)
    (z11 : PySem.W.nsIn K mainGlobals "tuple" = some none)
    (z12 : PySem.W.nsIn K mainGlobals "zip" = some none)
    (g0 : PySem.W.nsIn K mainGlobals "MOST_DEEP" = some (some (.int 8 gt0)))
    (g1 : PySem.W.nsIn K mainGlobals "MOST_PARTS" = some (some (.int 8 gt1)))
    (g2 : PySem.W.nsIn K mainGlobals "SIGNS" = some (some (.ref gp2))) (gl2 : K.lookup gp2 = some ⟨.type "tuple", go2, .seq #[.str "=" gu2_0, .str "<" gu2_1] gn2, gs2⟩)
    (g3 : PySem.W.nsIn K mainGlobals "JOINS" = some (some (.ref gp3))) (gl3 : K.lookup gp3 = some ⟨.type "tuple", go3, .seq #[.str "and" gu3_0, .str "or" gu3_1] gn3, gs3⟩)
    (g4 : PySem.W.nsIn K mainGlobals "PLACES" = some (some (.str "abc" gt4)))
    (g5 : PySem.W.nsIn K mainGlobals "NUMBERS" = some (some (.str "0123" gt5)))
    (g6 : PySem.W.nsIn K mainGlobals "HOLDS" = some (some (.int (-1) gt6)))
    (g7 : PySem.W.nsIn K mainGlobals "FAILS" = some (some (.int (-2) gt7)))
    (g8 : PySem.W.nsIn K mainGlobals "NOT_ASKED" = some (some (.int 2 gt8)))
    (ea0 : PySem.W.nsIn K mainGlobals "NoCondition" = some (some (.ref e0))) (ek0 : PySem.W.keepIn K (.ref e0) = true) (ex0 : PySem.W.excIn K e0 [.type "ValueError", .type "Exception", .type "BaseException", .type "object"] "ValueError.__new__" = true) (eb0 : PySem.W.subIn K (.ref e0) (.type "BaseException") = some true) (et0 : PySem.W.typeIn K (.ref e0) = some (.type "type"))
    (ea1 : PySem.W.nsIn K mainGlobals "NoNumber" = some (some (.ref e1))) (ek1 : PySem.W.keepIn K (.ref e1) = true) (ex1 : PySem.W.excIn K e1 [.type "ValueError", .type "Exception", .type "BaseException", .type "object"] "ValueError.__new__" = true) (eb1 : PySem.W.subIn K (.ref e1) (.type "BaseException") = some true) (et1 : PySem.W.typeIn K (.ref e1) = some (.type "type"))
    (ea2 : PySem.W.nsIn K mainGlobals "NoThrough" = some (some (.ref e2))) (ek2 : PySem.W.keepIn K (.ref e2) = true) (ex2 : PySem.W.excIn K e2 [.type "ValueError", .type "Exception", .type "BaseException", .type "object"] "ValueError.__new__" = true) (eb2 : PySem.W.subIn K (.ref e2) (.type "BaseException") = some true) (et2 : PySem.W.typeIn K (.ref e2) = some (.type "type"))
    (ea3 : PySem.W.nsIn K mainGlobals "NoValues" = some (some (.ref e3))) (ek3 : PySem.W.keepIn K (.ref e3) = true) (ex3 : PySem.W.excIn K e3 [.type "ValueError", .type "Exception", .type "BaseException", .type "object"] "ValueError.__new__" = true) (eb3 : PySem.W.subIn K (.ref e3) (.type "BaseException") = some true) (et3 : PySem.W.typeIn K (.ref e3) = some (.type "type"))
    (aS : PySem.W.nsIn K mainGlobals "_law_said" = some (some (.ref fS)))
    (lS : K.lookup fS = some ⟨ocS, odS, .func (PySem.W.fnOf "_law_said" "_law_said" (C8.fnArgs (top 45)) (C8.fnBody (top 45)) (C8.fnScope (top 45)) .none kVS dcS pmS anS cdS ctS), slS⟩)
    (cS : PySem.W.codeIn K cdS "_law_said" = true)
    (kS : PySem.W.keepIn K (.ref fS) = true)
    (aR : PySem.W.nsIn K mainGlobals "RanError" = some (some (.ref eR)))
    (on : PySem.W.specialIn K (.builtin "object.__class__") "__get__" = some (some (.builtin "getset_descriptor.__get__")))
    (ot : PySem.W.takesIn K (.builtin "object.__class__") = some true)
    (wg0 : PySem.W.findIn K (.ref e0) "__getattribute__" = some (some (.builtin "BaseException.__getattribute__")))
    (wk0 : PySem.W.findIn K (.ref e0) "__getattr__" = some none)
    (wd0 : PySem.W.hasDictIn K e0 = true)
    (wa0 : PySem.W.findIn K (.ref e0) "__class__" = some (some (.builtin "object.__class__")))
    (wm0 : PySem.W.mroIn K e0 (.type "object") = some true)
    (wr0 : PySem.W.exmOne K (.ref e0) (.ref eR) = some true)
    (wi0_0 : PySem.W.kitOne K (.ref e0) (.ref e0) = some true)
    (wi0_3 : PySem.W.kitOne K (.ref e0) (.ref e3) = some false)
    (wi0_2 : PySem.W.kitOne K (.ref e0) (.ref e2) = some false)
    (wi0_1 : PySem.W.kitOne K (.ref e0) (.ref e1) = some false)
    (wg1 : PySem.W.findIn K (.ref e1) "__getattribute__" = some (some (.builtin "BaseException.__getattribute__")))
    (wk1 : PySem.W.findIn K (.ref e1) "__getattr__" = some none)
    (wd1 : PySem.W.hasDictIn K e1 = true)
    (wa1 : PySem.W.findIn K (.ref e1) "__class__" = some (some (.builtin "object.__class__")))
    (wm1 : PySem.W.mroIn K e1 (.type "object") = some true)
    (wr1 : PySem.W.exmOne K (.ref e1) (.ref eR) = some true)
    (wi1_0 : PySem.W.kitOne K (.ref e1) (.ref e0) = some false)
    (wi1_3 : PySem.W.kitOne K (.ref e1) (.ref e3) = some false)
    (wi1_2 : PySem.W.kitOne K (.ref e1) (.ref e2) = some false)
    (wi1_1 : PySem.W.kitOne K (.ref e1) (.ref e1) = some true)
    (wg2 : PySem.W.findIn K (.ref e2) "__getattribute__" = some (some (.builtin "BaseException.__getattribute__")))
    (wk2 : PySem.W.findIn K (.ref e2) "__getattr__" = some none)
    (wd2 : PySem.W.hasDictIn K e2 = true)
    (wa2 : PySem.W.findIn K (.ref e2) "__class__" = some (some (.builtin "object.__class__")))
    (wm2 : PySem.W.mroIn K e2 (.type "object") = some true)
    (wr2 : PySem.W.exmOne K (.ref e2) (.ref eR) = some true)
    (wi2_0 : PySem.W.kitOne K (.ref e2) (.ref e0) = some false)
    (wi2_3 : PySem.W.kitOne K (.ref e2) (.ref e3) = some false)
    (wi2_2 : PySem.W.kitOne K (.ref e2) (.ref e2) = some true)
    (wi2_1 : PySem.W.kitOne K (.ref e2) (.ref e1) = some false)
    (wg3 : PySem.W.findIn K (.ref e3) "__getattribute__" = some (some (.builtin "BaseException.__getattribute__")))
    (wk3 : PySem.W.findIn K (.ref e3) "__getattr__" = some none)
    (wd3 : PySem.W.hasDictIn K e3 = true)
    (wa3 : PySem.W.findIn K (.ref e3) "__class__" = some (some (.builtin "object.__class__")))
    (wm3 : PySem.W.mroIn K e3 (.type "object") = some true)
    (wr3 : PySem.W.exmOne K (.ref e3) (.ref eR) = some true)
    (wi3_0 : PySem.W.kitOne K (.ref e3) (.ref e0) = some false)
    (wi3_3 : PySem.W.kitOne K (.ref e3) (.ref e3) = some true)
    (wi3_2 : PySem.W.kitOne K (.ref e3) (.ref e2) = some false)
    (wi3_1 : PySem.W.kitOne K (.ref e3) (.ref e1) = some false)
    (cl : cd23 = .ref tc) :
    ∃ (A0 : Ad) (fd : Nat → FuncData), A0.K = K ∧ A0.fa 23 = fa ∧ (∀ base : Heap, K.In base → base.Ns mainGlobals mg → LamX.TabB base mg tc tP → Tops { toAd := { A0 with P := l.prog, w := w, tb := [(tP, lamQ)] }, mg := mg, base := base, G := gG, nm := gNm, fd := fd, ps := gPs }) ∧ ∀ (s : Shared) (u : Value), BindsTo s (fd 23) ⟨[u], []⟩ [("_law_script", u)] := by
  cases hfa.symm.trans (PySem.W.mg_of X G a23)
  refine ⟨⟨K, fun k => ([f0, f1, f2, f3, f4, f5, f6, f7, f8, f9, f10, f11, f12, f13, f14, f15, f16, f17, f18, f19, f20, f21, f22, fa, f24, f25, f26, f27] : List Addr).getD k 0, fun k => ([e0, e1, e2, e3] : List Addr).getD k 0, l.prog, w, []⟩,
    fun k => ([PySem.W.fnOf "_law_cell_at" "_law_cell_at" (C8.fnArgs (top 40)) (C8.fnBody (top 40)) (C8.fnScope (top 40)) .none kV0 dc0 pm0 an0 cd0 ct0, PySem.W.fnOf "_law_digit" "_law_digit" (C8.fnArgs (top 41)) (C8.fnBody (top 41)) (C8.fnScope (top 41)) .none kV1 dc1 pm1 an1 cd1 ct1, PySem.W.fnOf "_law_grown" "_law_grown" (C8.fnArgs (top 43)) (C8.fnBody (top 43)) (C8.fnScope (top 43)) .none kV2 dc2 pm2 an2 cd2 ct2, PySem.W.fnOf "is_condition" "is_condition" (C8.fnArgs (top 20)) (C8.fnBody (top 20)) (C8.fnScope (top 20)) .none kV3 dc3 pm3 an3 cd3 ct3, PySem.W.fnOf "_law_pick" "_law_pick" (C8.fnArgs (top 42)) (C8.fnBody (top 42)) (C8.fnScope (top 42)) .none kV4 dc4 pm4 an4 cd4 ct4, PySem.W.fnOf "many_parts" "many_parts" (C8.fnArgs (top 19)) (C8.fnBody (top 19)) (C8.fnScope (top 19)) .none kV5 dc5 pm5 an5 cd5 ct5, PySem.W.fnOf "condition_unless" "condition_unless" (C8.fnArgs (top 21)) (C8.fnBody (top 21)) (C8.fnScope (top 21)) .none kV6 dc6 pm6 an6 cd6 ct6, PySem.W.fnOf "parts_in" "parts_in" (C8.fnArgs (top 22)) (C8.fnBody (top 22)) (C8.fnScope (top 22)) .none kV7 dc7 pm7 an7 cd7 ct7, PySem.W.fnOf "is_word" "is_word" (C8.fnArgs (top 18)) (C8.fnBody (top 18)) (C8.fnScope (top 18)) .none kV8 dc8 pm8 an8 cd8 ct8, PySem.W.fnOf "_law_sides" "_law_sides" (C8.fnArgs (top 44)) (C8.fnBody (top 44)) (C8.fnScope (top 44)) .none kV9 dc9 pm9 an9 cd9 ct9, PySem.W.fnOf "through_at" "through_at" (C8.fnArgs (top 33)) (C8.fnBody (top 33)) (C8.fnScope (top 33)) .none kV10 dc10 pm10 an10 cd10 ct10, PySem.W.fnOf "number_of" "number_of" (C8.fnArgs (top 31)) (C8.fnBody (top 31)) (C8.fnScope (top 31)) .none kV11 dc11 pm11 an11 cd11 ct11, PySem.W.fnOf "knots_of" "knots_of" (C8.fnArgs (top 24)) (C8.fnBody (top 24)) (C8.fnScope (top 24)) .none kV12 dc12 pm12 an12 cd12 ct12, PySem.W.fnOf "through_by" "through_by" (C8.fnArgs (top 32)) (C8.fnBody (top 32)) (C8.fnScope (top 32)) .none kV13 dc13 pm13 an13 cd13 ct13, PySem.W.fnOf "worths_of" "worths_of" (C8.fnArgs (top 27)) (C8.fnBody (top 27)) (C8.fnScope (top 27)) .none kV14 dc14 pm14 an14 cd14 ct14, PySem.W.fnOf "end_of" "end_of" (C8.fnArgs (top 28)) (C8.fnBody (top 28)) (C8.fnScope (top 28)) .none kV15 dc15 pm15 an15 cd15 ct15, PySem.W.fnOf "is_whole" "is_whole" (C8.fnArgs (top 7)) (C8.fnBody (top 7)) (C8.fnScope (top 7)) .none kV16 dc16 pm16 an16 cd16 ct16, PySem.W.fnOf "through_unless" "through_unless" (C8.fnArgs (top 29)) (C8.fnBody (top 29)) (C8.fnScope (top 29)) .none kV17 dc17 pm17 an17 cd17 ct17, PySem.W.fnOf "number_by" "number_by" (C8.fnArgs (top 30)) (C8.fnBody (top 30)) (C8.fnScope (top 30)) .none kV18 dc18 pm18 an18 cd18 ct18, PySem.W.fnOf "laid_out" "laid_out" (C8.fnArgs (top 23)) (C8.fnBody (top 23)) (C8.fnScope (top 23)) .none kV19 dc19 pm19 an19 cd19 ct19, PySem.W.fnOf "shown_by" "shown_by" (C8.fnArgs (top 38)) (C8.fnBody (top 38)) (C8.fnScope (top 38)) .none kV20 dc20 pm20 an20 cd20 ct20, PySem.W.fnOf "part_unless" "part_unless" (C8.fnArgs (top 35)) (C8.fnBody (top 35)) (C8.fnScope (top 35)) .none kV21 dc21 pm21 an21 cd21 ct21, PySem.W.fnOf "first_pair" "first_pair" (C8.fnArgs (top 37)) (C8.fnBody (top 37)) (C8.fnScope (top 37)) .none kV22 dc22 pm22 an22 cd22 ct22, PySem.W.fnOf "law" "law" (C8.fnArgs (top 48)) (C8.fnBody (top 48)) (C8.fnScope (top 48)) .none kV23 dc23 pm23 an23 cd23 ct23, PySem.W.fnOf "_law_changed" "_law_changed" (C8.fnArgs (top 46)) (C8.fnBody (top 46)) (C8.fnScope (top 46)) .none kV24 dc24 pm24 an24 cd24 ct24, PySem.W.fnOf "ways_behind" "ways_behind" (C8.fnArgs (top 26)) (C8.fnBody (top 26)) (C8.fnScope (top 26)) .none kV25 dc25 pm25 an25 cd25 ct25, PySem.W.fnOf "are_alike_but" "are_alike_but" (C8.fnArgs (top 36)) (C8.fnBody (top 36)) (C8.fnScope (top 36)) .none kV26 dc26 pm26 an26 cd26 ct26, PySem.W.fnOf "_law_is_one" "_law_is_one" (C8.fnArgs (top 47)) (C8.fnBody (top 47)) (C8.fnScope (top 47)) .none kV27 dc27 pm27 an27 cd27 ct27] : List FuncData).getD k (PySem.W.fnOf "law" "law" (C8.fnArgs (top 48)) (C8.fnBody (top 48)) (C8.fnScope (top 48)) .none kV23 dc23 pm23 an23 cd23 ct23), rfl, rfl, fun base _ _ TB => ?_, fun s u => .of_eq rfl⟩
  refine ⟨fns_of ⟨?t0, ?t1, ?t2, ?t3, ?t4, ?t5, ?t6, ?t7, ?t8, ?t9, ?t10, ?t11, ?t12, ?t13, ?t14, ?t15, ?t16, ?t17, ?t18, ?t19, ?t20, ?t21, ?t22, ?t23, ?t24, ?t25, ?t26, ?t27, trivial⟩, blt_of' ⟨PySem.W.mg_none_of X G z0, PySem.W.mg_none_of X G z1, PySem.W.mg_none_of X G z2, PySem.W.mg_none_of X G z3, PySem.W.mg_none_of X G z4, PySem.W.mg_none_of X G z5, PySem.W.mg_none_of X G z6, PySem.W.mg_none_of X G z7, PySem.W.mg_none_of X G z8, PySem.W.mg_none_of X G z9, PySem.W.mg_none_of X G z10, PySem.W.mg_none_of X G z11, PySem.W.mg_none_of X G z12, trivial⟩, gls_of ⟨?g0, ?g1, ?g2, ?g3, ?g4, ?g5, ?g6, ?g7, ?g8, trivial⟩, cls_of ⟨⟨PySem.W.mg_of X G ea0, ek0, ex0, eb0, et0⟩, ⟨PySem.W.mg_of X G ea1, ek1, ex1, eb1, et1⟩, ⟨PySem.W.mg_of X G ea2, ek2, ex2, eb2, et2⟩, ⟨PySem.W.mg_of X G ea3, ek3, ex3, eb3, et3⟩, trivial⟩, fun _ => ?td⟩
  case t0 => exact top_mk ["_law_script", "_law_k"] rfl rfl rfl rfl l0 c0 k_f_law_cell_at (PySem.W.mg_of X G a0) k0 (.all fun us hl => match us, hl with | [_, _], _ => rfl) (noLam rfl)
  case t1 => exact top_mk ["_law_state", "_law_base", "_law_found", "_law_number"] rfl rfl rfl rfl l1 c1 k_f_law_digit (PySem.W.mg_of X G a1) k1 (.all fun us hl => match us, hl with | [_, _], _ => rfl) (noLam rfl)
  case t2 => exact top_mk ["_law_state", "_law_many", "_law_deep", "_law_way", "_law_first", "_law_word"] rfl rfl rfl rfl l2 c2 k_f_law_grown (PySem.W.mg_of X G a2) k2 (.all fun us hl => match us, hl with | [_, _, _], _ => rfl) (noLam rfl)
  case t3 => exact top_mk ["thing", "many"] rfl rfl rfl rfl l3 c3 k_fis_condition (PySem.W.mg_of X G a3) k3 (.all fun us hl => match us, hl with | [_], _ => rfl) (noLam rfl)
  case t4 => exact top_mk ["_law_state", "_law_some"] rfl rfl rfl rfl l4 c4 k_f_law_pick (PySem.W.mg_of X G a4) k4 (.all fun us hl => match us, hl with | [_, _], _ => rfl) (noLam rfl)
  case t5 => exact top_mk ["thing", "room", "one", "found"] rfl rfl rfl rfl l5 c5 k_fmany_parts (PySem.W.mg_of X G a5) k5 (.all fun us hl => match us, hl with | [_, _], _ => rfl) (noLam rfl)
  case t6 => exact top_mk ["condition"] rfl rfl rfl rfl l6 c6 k_fcondition_unless (PySem.W.mg_of X G a6) k6 (.all fun us hl => match us, hl with | [_], _ => rfl) (noLam rfl)
  case t7 => exact top_mk ["condition", "one", "part"] rfl rfl rfl rfl l7 c7 k_fparts_in (PySem.W.mg_of X G a7) k7 (.all fun us hl => match us, hl with | [_], _ => rfl) (noLam rfl)
  case t8 => exact top_mk ["thing"] rfl rfl rfl rfl l8 c8 k_fis_word (PySem.W.mg_of X G a8) k8 (.all fun us hl => match us, hl with | [_], _ => rfl) (noLam rfl)
  case t9 => exact top_mk ["_law_condition", "_law_word", "_law_first", "_law_row", "_law_truth", "_law_second", "_law_unasked", "_law_found", "_law_other", "_law_its"] rfl rfl rfl rfl l9 c9 k_f_law_sides (PySem.W.mg_of X G a9) k9 (.all fun us hl => match us, hl with | [_], _ => rfl) (noLam rfl)
  case t10 => exact top_mk ["condition", "number", "knots"] rfl rfl rfl rfl l10 c10 k_fthrough_at (PySem.W.mg_of X G a10) k10 (.all fun us hl => match us, hl with | [_, _], _ => rfl) (noLam rfl)
  case t11 => exact top_mk ["condition", "through", "knots"] rfl rfl rfl rfl l11 c11 k_fnumber_of (PySem.W.mg_of X G a11) k11 (.all fun us hl => match us, hl with | [_, _], _ => rfl) (noLam rfl)
  case t12 => exact top_mk ["condition"] rfl rfl rfl rfl l12 c12 k_fknots_of (PySem.W.mg_of X G a12) k12 (.all fun us hl => match us, hl with | [_], _ => rfl) (noLam rfl)
  case t13 => exact top_mk ["knots", "number", "adds", "found", "at"] rfl rfl rfl rfl l13 c13 k_fthrough_by (PySem.W.mg_of X G a13) k13 (.all fun us hl => match us, hl with | [_, _], _ => rfl) (noLam rfl)
  case t14 => exact top_mk ["knots", "ways", "found", "at", "behind", "low", "high"] rfl rfl rfl rfl l14 c14 k_fworths_of (PySem.W.mg_of X G a14) k14 (.all fun us hl => match us, hl with | [_], _ => rfl) (noLam rfl)
  case t15 => exact top_mk ["knots", "thing", "answer", "left", "at"] rfl rfl rfl rfl l15 c15 k_fend_of (PySem.W.mg_of X G a15) k15 (.all fun us hl => match us, hl with | [_, _], _ => rfl) (noLam rfl)
  case t16 => exact top_mk ["thing", "low", "high"] rfl rfl rfl rfl l16 c16 k_fis_whole (PySem.W.mg_of X G a16) k16 (.all fun us hl => match us, hl with | [_, _, _], _ => rfl) (noLam rfl)
  case t17 => exact top_mk ["knots", "through"] rfl rfl rfl rfl l17 c17 k_fthrough_unless (PySem.W.mg_of X G a17) k17 (.all fun us hl => match us, hl with | [_, _], _ => rfl) (noLam rfl)
  case t18 => exact top_mk ["knots", "through", "found", "answer", "low", "high"] rfl rfl rfl rfl l18 c18 k_fnumber_by (PySem.W.mg_of X G a18) k18 (.all fun us hl => match us, hl with | [_, _], _ => rfl) (noLam rfl)
  case t19 => exact top_mk ["condition", "at", "yes", "no", "word", "behind"] rfl rfl rfl rfl l19 c19 k_flaid_out (PySem.W.mg_of X G a19) k19 (.all fun us hl => match us, hl with | [_, _, _, _], _ => rfl) (noLam rfl)
  case t20 => exact top_mk ["condition", "part", "seen", "knots", "through"] rfl rfl rfl rfl l20 c20 k_fshown_by (PySem.W.mg_of X G a20) k20 (.all fun us hl => match us, hl with | [_, _, _], _ => rfl) (noLam rfl)
  case t21 => exact top_mk ["knots", "part"] rfl rfl rfl rfl l21 c21 k_fpart_unless (PySem.W.mg_of X G a21) k21 (.all fun us hl => match us, hl with | [_, _], _ => rfl) (noLam rfl)
  case t22 => exact top_mk ["knots", "part", "some", "through", "rows", "number", "low", "many", "high"] rfl rfl rfl rfl l22 c22 k_ffirst_pair (PySem.W.mg_of X G a22) k22 (.all fun us hl => match us, hl with | [_, _, _], _ => rfl) (noLam rfl)
  case t23 => exact top_mk ["_law_script", "_law_cell", "_law_state", "_law_condition", "_law_row", "_law_truth", "_law_rows", "_law_good", "_law_turn", "_law_odd", "_law_due", "_law_many", "_law_number"] rfl rfl rfl rfl l23 c23 k_flaw_9 (PySem.W.mg_of X G a23) k23 (.all fun us hl => match us, hl with | [_], _ => rfl) (fun _ => ⟨tc, tP, cl, TB, List.mem_singleton.mpr rfl, fun p hp _ => by rw [List.mem_singleton.mp hp]; rfl⟩)
  case t24 => exact top_mk ["_law_state", "_law_row", "_law_at", "_law_odd", "_law_way"] rfl rfl rfl rfl l24 c24 k_f_law_changed_1 (PySem.W.mg_of X G a24) k24 (.all fun us hl => match us, hl with | [_, _], _ => rfl) (noLam rfl)
  case t25 => exact top_mk ["knots", "ways", "at"] rfl rfl rfl rfl l25 c25 k_fways_behind (PySem.W.mg_of X G a25) k25 (.all fun us hl => match us, hl with | [_, _, _], _ => rfl) (noLam rfl)
  case t26 => exact top_mk ["one", "other", "part", "at", "first", "second"] rfl rfl rfl rfl l26 c26 k_fare_alike_but (PySem.W.mg_of X G a26) k26 (.all fun us hl => match us, hl with | [_, _, _], _ => rfl) (noLam rfl)
  case t27 => exact top_mk ["_law_row", "_law_rows", "_law_one", "_law_odd"] rfl rfl rfl rfl l27 c27 k_f_law_is_one (PySem.W.mg_of X G a27) k27 (.all fun us hl => match us, hl with | [_, _], _ => rfl) (noLam rfl)
  case td =>
    refine ⟨eR, e0, e3, e2, e1, fS, ocS, odS, C8.fnArgs (top 45), .none, kVS, dcS, pmS, anS, cdS, ctS, slS, fun i => saidP.getD i ⟨0, 0, 0, 0⟩, PySem.W.mg_of X G aS, kS, ?_, cS, .all (fun us hl => match us, hl with | [_], _ => rfl), PySem.W.mg_of X G aR, PySem.W.mg_of X G ea0, PySem.W.mg_of X G ea3, PySem.W.mg_of X G ea2, PySem.W.mg_of X G ea1, PySem.W.mg_none_of X G z4, PySem.W.mg_none_of X G z12, ?_⟩
    · rw [← said_b, ← said_s]
      exact lS
    · intro c b h
      match c, h with
      | 0, rfl => exact ⟨⟨wg0, wk0, eb0, wd0, wa0, on, ot, wm0⟩, wr0, wi0_0, wi0_3, wi0_2, wi0_1⟩
      | 1, rfl => exact ⟨⟨wg1, wk1, eb1, wd1, wa1, on, ot, wm1⟩, wr1, wi1_0, wi1_3, wi1_2, wi1_1⟩
      | 2, rfl => exact ⟨⟨wg2, wk2, eb2, wd2, wa2, on, ot, wm2⟩, wr2, wi2_0, wi2_3, wi2_2, wi2_1⟩
      | 3, rfl => exact ⟨⟨wg3, wk3, eb3, wd3, wa3, on, ot, wm3⟩, wr3, wi3_0, wi3_3, wi3_2, wi3_1⟩
      | n + 4, h => cases h
  case g0 => exact ⟨.int 8, _, PySem.W.mg_of X G g0, ⟨_, rfl⟩, fun m H => rfl⟩
  case g1 => exact ⟨.int 8, _, PySem.W.mg_of X G g1, ⟨_, rfl⟩, fun m H => rfl⟩
  case g2 => exact ⟨.ref gp2, _, PySem.W.mg_of X G g2, rfl, fun m H => gl_tup gl2 (Nat.le_of_lt (small1000 (by simp))) ["=", "<"] (.cons ⟨_, rfl⟩ (.cons ⟨_, rfl⟩ .nil))⟩
  case g3 => exact ⟨.ref gp3, _, PySem.W.mg_of X G g3, rfl, fun m H => gl_tup gl3 (Nat.le_of_lt (small1000 (by simp))) ["and", "or"] (.cons ⟨_, rfl⟩ (.cons ⟨_, rfl⟩ .nil))⟩
  case g4 => exact ⟨.str "abc", _, PySem.W.mg_of X G g4, ⟨_, rfl⟩, fun m H => rfl⟩
  case g5 => exact ⟨.str "0123", _, PySem.W.mg_of X G g5, ⟨_, rfl⟩, fun m H => rfl⟩
  case g6 => exact ⟨.int (-1), _, PySem.W.mg_of X G g6, ⟨_, rfl⟩, fun m H => rfl⟩
  case g7 => exact ⟨.int (-2), _, PySem.W.mg_of X G g7, ⟨_, rfl⟩, fun m H => rfl⟩
  case g8 => exact ⟨.int 2, _, PySem.W.mg_of X G g8, ⟨_, rfl⟩, fun m H => rfl⟩
end Ev
open PySem PySem.W PyProof.Rows
theorem PySem.Challenge.cw_whatran_k14_what_is_no_through_holds : PySem.Challenge.rw_whatran_k14_what_is_no_through.Holds := by
  w_on; o_law; k_head; (case hw => w_witness2)
  k_fill
  refine' Ev.walkT (l := PySem.Challenge.rw_whatran_k14_what_is_no_through) (dp := 40) (x := "_law_script") (G := Ev.gG) (nm := Ev.gNm) (ps := Ev.gPs) (kl := 23) 261 259 Ev.lamQ rfl (by decide) rfl ⟨rfl, by decide, by decide⟩ rfl rfl (fun w h Y => PySem.W.km_in_of Y) ?hP ?nP ?hC ?F Ev.lawrun
  case hP => exact fun w h Y => PySem.W.km_tabs_of Y _ List.mem_cons_self
  case F =>
    intro w mg fa h KX G hmg
    refine' Ev.all_mk KX G hmg ?qa0 ?ql0 ?qc0 ?qk0 ?qa1 ?ql1 ?qc1 ?qk1 ?qa2 ?ql2 ?qc2 ?qk2 ?qa3 ?ql3 ?qc3 ?qk3 ?qa4 ?ql4 ?qc4 ?qk4 ?qa5 ?ql5 ?qc5 ?qk5 ?qa6 ?ql6 ?qc6 ?qk6 ?qa7 ?ql7 ?qc7 ?qk7 ?qa8 ?ql8 ?qc8 ?qk8 ?qa9 ?ql9 ?qc9 ?qk9 ?qa10 ?ql10 ?qc10 ?qk10 ?qa11 ?ql11 ?qc11 ?qk11 ?qa12 ?ql12 ?qc12 ?qk12 ?qa13 ?ql13 ?qc13 ?qk13 ?qa14 ?ql14 ?qc14 ?qk14 ?qa15 ?ql15 ?qc15 ?qk15 ?qa16 ?ql16 ?qc16 ?qk16 ?qa17 ?ql17 ?qc17 ?qk17 ?qa18 ?ql18 ?qc18 ?qk18 ?qa19 ?ql19 ?qc19 ?qk19 ?qa20 ?ql20 ?qc20 ?qk20 ?qa21 ?ql21 ?qc21 ?qk21 ?qa22 ?ql22 ?qc22 ?qk22 ?qa23 ?ql23 ?qc23 ?qk23 ?qa24 ?ql24 ?qc24 ?qk24 ?qa25 ?ql25 ?qc25 ?qk25 ?qa26 ?ql26 ?qc26 ?qk26 ?qa27 ?ql27 ?qc27 ?qk27 ?qz0 ?qz1 ?qz2 ?qz3 ?qz4 ?qz5 ?qz6 ?qz7 ?qz8 ?qz9 ?qz10 ?qz11 ?qz12 ?qg0 ?qg1 ?qg2 ?qgl2 ?qg3 ?qgl3 ?qg4 ?qg5 ?qg6 ?qg7 ?qg8 ?qea0 ?qek0 ?qex0 ?qeb0 ?qet0 ?qea1 ?qek1 ?qex1 ?qeb1 ?qet1 ?qea2 ?qek2 ?qex2 ?qeb2 ?qet2 ?qea3 ?qek3 ?qex3 ?qeb3 ?qet3 ?qaS ?qlS ?qcS ?qkS ?qaR ?qon ?qot ?qwg0 ?qwk0 ?qwd0 ?qwa0 ?qwm0 ?qwr0 ?qwi0_0 ?qwi0_3 ?qwi0_2 ?qwi0_1 ?qwg1 ?qwk1 ?qwd1 ?qwa1 ?qwm1 ?qwr1 ?qwi1_0 ?qwi1_3 ?qwi1_2 ?qwi1_1 ?qwg2 ?qwk2 ?qwd2 ?qwa2 ?qwm2 ?qwr2 ?qwi2_0 ?qwi2_3 ?qwi2_2 ?qwi2_1 ?qwg3 ?qwk3 ?qwd3 ?qwa3 ?qwm3 ?qwr3 ?qwi3_0 ?qwi3_3 ?qwi3_2 ?qwi3_1 ?qcl
    (case qa0 => k_is)
    (case ql0 => k_is)
    (case qc0 => k_is)
    (case qk0 => k_is)
    (case qa1 => k_is)
    (case ql1 => k_is)
    (case qc1 => k_is)
    (case qk1 => k_is)
    (case qa2 => k_is)
    (case ql2 => k_is)
    (case qc2 => k_is)
    (case qk2 => k_is)
    (case qa3 => k_is)
    (case ql3 => k_is)
    (case qc3 => k_is)
    (case qk3 => k_is)
    (case qa4 => k_is)
    (case ql4 => k_is)
    (case qc4 => k_is)
    (case qk4 => k_is)
    (case qa5 => k_is)
    (case ql5 => k_is)
    (case qc5 => k_is)
    (case qk5 => k_is)
    (case qa6 => k_is)
    (case ql6 => k_is)
    (case qc6 => k_is)
    (case qk6 => k_is)
    (case qa7 => k_is)
    (case ql7 => k_is)
    (case qc7 => k_is)
    (case qk7 => k_is)
    (case qa8 => k_is)
    (case ql8 => k_is)
    (case qc8 => k_is)
    (case qk8 => k_is)
    (case qa9 => k_is)
    (case ql9 => k_is)
    (case qc9 => k_is)
    (case qk9 => k_is)
    (case qa10 => k_is)
    (case ql10 => k_is)
    (case qc10 => k_is)
    (case qk10 => k_is)
    (case qa11 => k_is)
    (case ql11 => k_is)
    (case qc11 => k_is)
    (case qk11 => k_is)
    (case qa12 => k_is)
    (case ql12 => k_is)
    (case qc12 => k_is)
    (case qk12 => k_is)
    (case qa13 => k_is)
    (case ql13 => k_is)
    (case qc13 => k_is)
    (case qk13 => k_is)
    (case qa14 => k_is)
    (case ql14 => k_is)
    (case qc14 => k_is)
    (case qk14 => k_is)
    (case qa15 => k_is)
    (case ql15 => k_is)
    (case qc15 => k_is)
    (case qk15 => k_is)
    (case qa16 => k_is)
    (case ql16 => k_is)
    (case qc16 => k_is)
    (case qk16 => k_is)
    (case qa17 => k_is)
    (case ql17 => k_is)
    (case qc17 => k_is)
    (case qk17 => k_is)
    (case qa18 => k_is)
    (case ql18 => k_is)
    (case qc18 => k_is)
    (case qk18 => k_is)
    (case qa19 => k_is)
    (case ql19 => k_is)
    (case qc19 => k_is)
    (case qk19 => k_is)
    (case qa20 => k_is)
    (case ql20 => k_is)
    (case qc20 => k_is)
    (case qk20 => k_is)
    (case qa21 => k_is)
    (case ql21 => k_is)
    (case qc21 => k_is)
    (case qk21 => k_is)
    (case qa22 => k_is)
    (case ql22 => k_is)
    (case qc22 => k_is)
    (case qk22 => k_is)
    (case qa23 => k_is)
    (case ql23 => k_is)
    (case qc23 => k_is)
    (case qk23 => k_is)
    (case qa24 => k_is)
    (case ql24 => k_is)
    (case qc24 => k_is)
    (case qk24 => k_is)
    (case qa25 => k_is)
    (case ql25 => k_is)
    (case qc25 => k_is)
    (case qk25 => k_is)
    (case qa26 => k_is)
    (case ql26 => k_is)
    (case qc26 => k_is)
    (case qk26 => k_is)
    (case qa27 => k_is)
    (case ql27 => k_is)
    (case qc27 => k_is)
    (case qk27 => k_is)
    (case qz0 => k_is)
    (case qz1 => k_is)
    (case qz2 => k_is)
    (case qz3 => k_is)
    (case qz4 => k_is)
    (case qz5 => k_is)
    (case qz6 => k_is)
    (case qz7 => k_is)
    (case qz8 => k_is)
    (case qz9 => k_is)
    (case qz10 => k_is)
    (case qz11 => k_is)
    (case qz12 => k_is)
    (case qg0 => k_is)
    (case qg1 => k_is)
    (case qg2 => k_is)
    (case qgl2 => k_is)
    (case qg3 => k_is)
    (case qgl3 => k_is)
    (case qg4 => k_is)
    (case qg5 => k_is)
    (case qg6 => k_is)
    (case qg7 => k_is)
    (case qg8 => k_is)
    (case qea0 => k_is)
    (case qek0 => k_is)
    (case qex0 => first | k_is | kernel_rfl)
    (case qeb0 => k_is)
    (case qet0 => k_is)
    (case qea1 => k_is)
    (case qek1 => k_is)
    (case qex1 => first | k_is | kernel_rfl)
    (case qeb1 => k_is)
    (case qet1 => k_is)
    (case qea2 => k_is)
    (case qek2 => k_is)
    (case qex2 => first | k_is | kernel_rfl)
    (case qeb2 => k_is)
    (case qet2 => k_is)
    (case qea3 => k_is)
    (case qek3 => k_is)
    (case qex3 => first | k_is | kernel_rfl)
    (case qeb3 => k_is)
    (case qet3 => k_is)
    (case qaS => k_is)
    (case qlS => k_is)
    (case qcS => k_is)
    (case qkS => k_is)
    (case qaR => k_is)
    (case qon => k_is)
    (case qot => k_is)
    (case qwg0 => k_is)
    (case qwk0 => k_is)
    (case qwd0 => k_is)
    (case qwa0 => k_is)
    (case qwm0 => k_is)
    (case qwr0 => first | k_is | kernel_rfl)
    (case qwi0_0 => first | k_is | kernel_rfl)
    (case qwi0_3 => first | k_is | kernel_rfl)
    (case qwi0_2 => first | k_is | kernel_rfl)
    (case qwi0_1 => first | k_is | kernel_rfl)
    (case qwg1 => k_is)
    (case qwk1 => k_is)
    (case qwd1 => k_is)
    (case qwa1 => k_is)
    (case qwm1 => k_is)
    (case qwr1 => first | k_is | kernel_rfl)
    (case qwi1_0 => first | k_is | kernel_rfl)
    (case qwi1_3 => first | k_is | kernel_rfl)
    (case qwi1_2 => first | k_is | kernel_rfl)
    (case qwi1_1 => first | k_is | kernel_rfl)
    (case qwg2 => k_is)
    (case qwk2 => k_is)
    (case qwd2 => k_is)
    (case qwa2 => k_is)
    (case qwm2 => k_is)
    (case qwr2 => first | k_is | kernel_rfl)
    (case qwi2_0 => first | k_is | kernel_rfl)
    (case qwi2_3 => first | k_is | kernel_rfl)
    (case qwi2_2 => first | k_is | kernel_rfl)
    (case qwi2_1 => first | k_is | kernel_rfl)
    (case qwg3 => k_is)
    (case qwk3 => k_is)
    (case qwd3 => k_is)
    (case qwa3 => k_is)
    (case qwm3 => k_is)
    (case qwr3 => first | k_is | kernel_rfl)
    (case qwi3_0 => first | k_is | kernel_rfl)
    (case qwi3_3 => first | k_is | kernel_rfl)
    (case qwi3_2 => first | k_is | kernel_rfl)
    (case qwi3_1 => first | k_is | kernel_rfl)
    (case qcl => rfl)
  case nP => exact fun w => by kernel_rfl
  case hC => exact fun w => by kernel_rfl

