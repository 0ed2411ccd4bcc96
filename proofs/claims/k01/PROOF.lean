import PyProof.Rows.All
import Wide.All
import OpenK.AllK
import Wide.FinOn
import PyProof.EqAt
import PyProof.EqKinds
import PyProof.TupleCall
import HandS.ForMost
import HandS.Wide
import HandS.Exc
import HandS.ExcOwn
import HandS.TryOnly
import HandS.TryMany
import HandS.IsInst
import HandS.Deep
import HandS.Style
import HandS.TupMul
import HandS.TupAny
import HandS.Walk
import HandS.Zip
import HandS.Flow
import KE.SortData
import KE.KUnpackStar
import KE.KDictDisplayH
import KE.KDictCopyH
import HandS.TupLen
import PyProof.ListStr
import HandS.Text
import HandS.ExcIs
import HandS.Codes
import HandS.ExcCtx
import HandS.ExcInit
import HandS.ExcField
import KE.KExcIs
import HandS.Lambda
import PyProof.StrOps2
import KE.KEqDict
import KE.GoesZip
import KE.GoesMore
import HandS.SortRule
import HandS.Conv
import KE.KDictWalk
import KE.KDictSum
import PyProof.EnumIter
import PyProof.EnumFor
import PyProof.EnumMake
import HandS.HotCalls
import PyProof.ZipIter
import PyProof.Rows.TupIter
import HandS.RaiseMore
import PyProof.ReprRoads
import PyProof.CallFns
import HandS.Small
import HandS.Replace
import PyProof.StrBlock
import HandS.Defaults
import PyProof.Rows.RegFStrParts
import PySem.Challenge.RW_whatran_k01_shares_as_fractions
set_option Elab.async false
set_option linter.all false
set_option maxRecDepth 100000
set_option maxHeartbeats 4000000
namespace Ev
open PySem PySem.Spec L2
/-- values: tuples and lists that nobody changes stand by what they hold; a cell is what may be changed -/
inductive D where
  | non | bl (b : Bool) | int (i : Int) | str (x : Str)
  | tup (xs : List D) | lst (xs : List D)
  | ref (l : Nat)
  | fn (k : Nat)
  | scr (ns : List Int)
  | tdc (ks : List (List Key)) (vs : List D)
  deriving Inhabited
mutual
def D.pd : D → PyData
  | .non => .none
  | .bl b => .bool b
  | .int i => .int i
  | .str x => .str x
  | .tup xs => .tuple (D.pds xs)
  | .lst xs => .list (D.pds xs)
  | .ref _ => .none
  | .fn _ => .none
  | .scr _ => .none
  | .tdc _ _ => .none
def D.pds : List D → List PyData
  | [] => []
  | x :: xs => D.pd x :: D.pds xs
end
mutual
/-- no cell within -/
def D.plain : D → Bool
  | .non => true
  | .bl _ => true
  | .int _ => true
  | .str _ => true
  | .tup xs => D.plains xs
  | .lst xs => D.plains xs
  | .ref _ => false
  | .fn _ => false
  | .scr _ => false
  | .tdc _ _ => false
def D.plains : List D → Bool
  | [] => true
  | x :: xs => D.plain x && D.plains xs
end
/-- a cell's content -/
inductive Ob where
  | lst (xs : List D)
  | dct (kvs : List (D × D))
  /-- an instance of an own class, its fields in order -/
  | obj (c : Nat) (fs : List (Str × D))
  /-- a dict whose keys are tuples -/
  | dtt (kvs : List (List Key × D))
  /-- .. that is walked: it stays as it is -/
  | dtl (kvs : List (List Key × D))
  deriving Inhabited
abbrev Store := List Ob
abbrev Env := List (Option D)
/-- an error: its class by number, its fields -/
structure Ex where
  cls : Nat
  fs : List (Str × D) := []
inductive R (α : Type) where
  | ok (a : α) (S : Store)
  | exc (x : Ex) (S : Store)
  | stuck
def R.bind {α β : Type} (r : R α) (f : α → Store → R β) : R β :=
  match r with
  | .ok a S => f a S
  | .exc x S => .exc x S
  | .stuck => .stuck
inductive SR where
  | nx (env : Env) (S : Store)
  | rt (d : D) (S : Store)
  | bk (env : Env) (S : Store)
  | ct (env : Env) (S : Store)
  | exc (x : Ex) (env : Env) (S : Store)
  | stuck
def SR.seq (r : SR) (f : Env → Store → SR) : SR :=
  match r with
  | .nx env S => f env S
  | .rt d S => .rt d S
  | .bk e S => .bk e S
  | .ct e S => .ct e S
  | .exc x e S => .exc x e S
  | .stuck => .stuck
/-- an expression's end taken up by a statement -/
def R.st {α : Type} (r : R α) (env : Env) (f : α → Store → SR) : SR :=
  match r with
  | .ok a S => f a S
  | .exc x S => .exc x env S
  | .stuck => .stuck
def isz (n : Nat) : Bool := decide (n ≤ sizeLine)
/-- the items of a list -/
def lstOf (S : Store) : D → Option (List D)
  | .lst xs => some xs
  | .ref l => match S[l]? with
    | some (.lst xs) => some xs
    | _ => none
  | _ => none
/-- a new list: by what it holds, or a cell -/
def mkL (new : Bool) (xs : List D) (S : Store) : R D :=
  if isz xs.length then (if new then .ok (.ref S.length) (S ++ [.lst xs]) else .ok (.lst xs) S) else .stuck
def mkT (xs : List D) (S : Store) : R D := if isz xs.length then .ok (.tup xs) S else .stuck
def truth (S : Store) : D → Option Bool
  | .non => some false
  | .bl b => some b
  | .int i => some (i != 0)
  | .str x => if isz x.length then some ((x.length : Int) != 0) else none
  | .tup xs => some (!xs.isEmpty)
  | .lst xs => some (!xs.isEmpty)
  | .ref l => match S[l]? with
    | some (.lst xs) => some (!xs.isEmpty)
    | _ => none
  | .fn _ => none
  | .scr ns => some (!ns.isEmpty)
  | .tdc _ _ => none
inductive Bop where
  | add | sub | mul | fdiv | mod | pow
  deriving DecidableEq
inductive Cop where
  | eq | ne | lt | le | gt | ge | is | nis | isin | nin
  deriving DecidableEq
def okMul (i j : Int) : Bool := decide (i.natAbs.log2 + j.natAbs.log2 < 1000000) || decide (-2 ≤ j ∧ j ≤ 2)
def okDiv (j : Int) : Bool := decide (j ≠ 0 ∧ j.natAbs.log2 < 9000) || decide (j ≠ 0 ∧ j.natAbs < 1073741824)
def okPow (i j : Int) : Bool := decide (0 ≤ j ∧ j ≤ 1000000 ∧ i.natAbs < 2 ^ 64)
/-- a text, so many times -/
def repS (z : Str) (n : Nat) : Str := ⟨(List.replicate n z.cps).foldl (· ++ ·) #[]⟩
def binV (new : Bool) (op : Bop) (x y : D) (S : Store) : R D :=
  match op with
  | .add =>
    match x, y with
    | .int i, .int j => .ok (.int (i + j)) S
    | .str a, .str b => if isz (a.length + b.length) then .ok (.str (a ++ b)) S else .stuck
    | .tup a, .tup b => mkT (a ++ b) S
    | .scr a, y => match lstOf S y with
      | some b => mkL new (a.map .int ++ b) S
      | none => .stuck
    | x, y => match lstOf S x, lstOf S y with
      | some a, some b => mkL new (a ++ b) S
      | _, _ => .stuck
  | .sub =>
    match x, y with
    | .int i, .int j => .ok (.int (i - j)) S
    | _, _ => .stuck
  | .mul =>
    match x, y with
    | .int i, .int j => if okMul i j then .ok (.int (i * j)) S else .stuck
    | .tup a, .int k => if decide (k = 1) then .ok (.tup a) S else if !a.isEmpty && decide (2 ≤ k ∧ k ≤ 1000 ∧ a.length ≤ 1000) then .ok (.tup (List.replicate k.toNat a).flatten) S else .stuck
    | .str z, .int k => if decide (2 ≤ k ∧ k ≤ 1000 ∧ 1 ≤ z.length ∧ z.length ≤ 1000) then .ok (.str (repS z k.toNat)) S else .stuck
    | x, .int k => match lstOf S x with
      | some a => if decide (-(2 ^ 63) ≤ k ∧ k < 2 ^ 63 ∧ a.length * k.toNat ≤ sizeLine) then mkL new (List.replicate k.toNat a).flatten S else .stuck
      | none => .stuck
    | _, _ => .stuck
  | .fdiv =>
    match x, y with
    | .int i, .int j => if okDiv j then .ok (.int (i.fdiv j)) S else .stuck
    | _, _ => .stuck
  | .mod =>
    match x, y with
    | .int i, .int j => if j = 0 then .stuck else .ok (.int (i.fmod j)) S
    | _, _ => .stuck
  | .pow =>
    match x, y with
    | .int i, .int j => if okPow i j then .ok (.int (i ^ j.toNat)) S else .stuck
    | _, _ => .stuck
/-- a cell looked into -/
def view (S : Store) : D → D
  | .ref l => match S[l]? with
    | some (.lst xs) => .lst xs
    | _ => .ref l
  | x => x
/-- == of two that stand alone -/
def scalD : D → D → Option Bool
  | .int i, .int j => some (decide (i = j))
  | .str a, .str b => some (decide (a = b))
  | .bl a, .bl b => some (decide (a = b))
  | .non, .non => some true
  | .non, .int _ => some false
  | .int _, .non => some false
  | .non, .str _ => some false
  | .str _, .non => some false
  | .non, .bl _ => some false
  | .bl _, .non => some false
  | .str _, .int _ => some false
  | .int _, .str _ => some false
  | .str _, .bl _ => some false
  | .bl _, .str _ => some false
  | _, _ => none
/-- == -/
def eqD (S : Store) (x y : D) : Option Bool :=
  match scalD x y with
  | some b => some b
  | none =>
    if (view S x).plain && (view S y).plain && SeqAt.shaped (view S x).pd && SeqAt.shaped (view S y).pd then some (PyData.eqv (view S x).pd (view S y).pd) else none
def flatD : D → Bool
  | .non => true
  | .bl _ => true
  | .int _ => true
  | .str _ => true
  | _ => false
def flatEq : D → D → Bool
  | .non, .non => true
  | .bl a, .bl b => a == b
  | .bl a, .int b => (if a then 1 else 0) == b
  | .int a, .bl b => a == (if b then 1 else 0)
  | .int a, .int b => a == b
  | .str a, .str b => a == b
  | _, _ => false
def intsOf : List D → Option (List Int)
  | [] => some []
  | .int i :: r => (intsOf r).map (i :: ·)
  | _ :: _ => none
def blsOf : List D → Option (List Bool)
  | [] => some []
  | .bl i :: r => (blsOf r).map (i :: ·)
  | _ :: _ => none
def strsOf : List D → Option (List Str)
  | [] => some []
  | .str i :: r => (strsOf r).map (i :: ·)
  | _ :: _ => none
/-- what may be a dict's key -/
def kD : D → Option Key
  | .int i => some (.inl i)
  | .str x => some (.inr x)
  | _ => none
/-- dicts whose keys are tuples, never changed -/
def keysOf : List D → Option (List Key)
  | [] => some []
  | x :: r => match kD x, keysOf r with
    | some k, some ks => some (k :: ks)
    | _, _ => none
def tkD : D → Option (List Key)
  | .tup xs => keysOf xs
  | _ => none
def pairT : D → Option (List Key × D)
  | .tup [k, v] => (tkD k).map fun ks => (ks, v)
  | _ => none
def pairsT : List D → Option (List (List Key × D))
  | [] => some []
  | x :: r => match pairT x, pairsT r with
    | some p, some q => some (p :: q)
    | _, _ => none
def setT (acc : List (List Key × D)) (k : List Key) (v : D) : List (List Key × D) := if (acc.any fun q => decide (q.1 = k)) then acc.map (fun q => if q.1 = k then (q.1, v) else q) else acc ++ [(k, v)]
def foldT : List (List Key × D) → List (List Key × D) → List (List Key × D)
  | acc, [] => acc
  | acc, q :: r => foldT (setT acc q.1 q.2) r
def mkTdc (l : List (List Key × D)) : D := .tdc (l.map (·.1)) (l.map (·.2))
def tAt (ks : List (List Key)) (vs : List D) (k : List Key) : Option D := ((ks.zip vs).find? fun q => decide (q.1 = k)).map (·.2)
/-- in -/
def inStr (z : Str) : D → Option Bool
  | .str a => if a.cps.size = 1 then some (decide (a.cps.getD 0 0 ∈ z.cps.toList)) else some (!(Builtin.Str.occurrences z a 0 z.length 1).isEmpty)
  | _ => none
def inSeq (x : D) (ys : List D) : Option Bool := if flatD x && ys.all flatD then some (ys.any fun y => flatEq y x) else none
def inDat (x : D) (ys : List D) : Option Bool := if x.plain && D.plains ys && SeqAt.shaped x.pd && SeqAt.shaped (.list (D.pds ys)) then some (ys.any fun y => PyData.eqv y.pd x.pd) else none
def inDatT (x : D) (ys : List D) : Option Bool := if x.plain && D.plains ys && SeqAt.shaped x.pd && SeqAt.shaped (.tuple (D.pds ys)) then some (ys.any fun y => PyData.eqv y.pd x.pd) else none
def inD (S : Store) (x y : D) : Option Bool :=
  match y with
  | .str z => inStr z x
  | .tup ys => match inSeq x ys with
    | some b => some b
    | none => inDatT x ys
  | .tdc ks vs => match tkD x with
    | some k => some (tAt ks vs k).isSome
    | none => none
  | y => match lstOf S y with
    | some ys => match inSeq x ys with
      | some b => some b
      | none => inDat x ys
    | none => none
/-- what a dict holds -/
def dctOf (S : Store) : D → Option (List (D × D))
  | .ref l => match S[l]? with
    | some (.dct kvs) => some kvs
    | _ => none
  | _ => none
def dAt (kvs : List (D × D)) (k : Key) : Option D := (kvs.find? fun p => decide (kD p.1 = some k)).map (·.2)
/-- .. whose keys are tuples -/
def dttOf (S : Store) : D → Option (List (List Key × D))
  | .ref l => match S[l]? with
    | some (.dtt kvs) => some kvs
    | some (.dtl kvs) => some kvs
    | _ => none
  | _ => none
def ttAt (kvs : List (List Key × D)) (k : List Key) : Option D := (kvs.find? fun q => decide (q.1 = k)).map (·.2)
/-- a key as a value -/
def keyD : Key → D
  | .inl i => .int i
  | .inr x => .str x
def inDD (S : Store) (x y : D) : Option Bool :=
  match dctOf S y with
  | some kvs => (kD x).map fun k => (dAt kvs k).isSome
  | none => match dttOf S y with
    | some kvs => (tkD x).map fun k => (ttAt kvs k).isSome
    | none => inD S x y
def ofB (o : Option Bool) (S : Store) : R D :=
  match o with
  | some b => .ok (.bl b) S
  | none => .stuck
def ltD (x y : D) : Option Bool :=
  match x, y with
  | .int i, .int j => some (decide (i < j))
  | .str a, .str b => some (decide (a.cps.toList < b.cps.toList))
  | .tup a, .tup b => match intsOf a, intsOf b with
    | some m, some n => some (HT.lexLt m n)
    | _, _ => none
  | _, _ => none
def isNon : D → Bool
  | .non => true
  | _ => false
/-- a dict is no number -/
def dicI (S : Store) : D → D → Bool
  | .ref l, .int _ => match S[l]? with
    | some (.dct _) => true
    | _ => false
  | _, _ => false
def cmpV (op : Cop) (x y : D) (S : Store) : R D :=
  match op with
  | .eq => if dicI S x y then .ok (.bl false) S else ofB (eqD S x y) S
  | .ne => ofB ((eqD S x y).map (!·)) S
  | .lt => ofB (ltD x y) S
  | .gt => match x, y with
    | .int i, .int j => .ok (.bl (decide (j < i))) S
    | _, _ => .stuck
  | .le => match x, y with
    | .int i, .int j => .ok (.bl (decide (i ≤ j))) S
    | _, _ => .stuck
  | .ge => match x, y with
    | .int i, .int j => .ok (.bl (decide (j ≤ i))) S
    | _, _ => .stuck
  | .is => match x, y with
    | x, .non => .ok (.bl (isNon x)) S
    | .bl a, .bl b => .ok (.bl (decide (a = b))) S
    | _, _ => .stuck
  | .nis => match x, y with
    | x, .non => .ok (.bl (!isNon x)) S
    | .bl a, .bl b => .ok (.bl (!decide (a = b))) S
    | _, _ => .stuck
  | .isin => ofB (inDD S x y) S
  | .nin => ofB ((inDD S x y).map (!·)) S
def dPut (kvs : List (D × D)) (i : D) (k : Key) (v : D) : List (D × D) :=
  if (kvs.any fun p => decide (kD p.1 = some k)) = true then kvs.map (fun p => if kD p.1 = some k then (p.1, v) else p) else kvs ++ [(i, v)]
def dctIx (kvs : List (D × D)) (y : D) (S : Store) : R D :=
  match kD y with
  | some k => match dAt kvs k with
    | some d => .ok d S
    | none => .stuck
  | none => .stuck
/-- an item of what holds items in order -/
def ixV0 (x y : D) (S : Store) : R D :=
  match y with
  | .int i => match x with
    | .tup xs => match atI xs i with
      | some d => .ok d S
      | none => .stuck
    | .str z => if isz z.length then (match atI z.cps.toList i with
      | some c => .ok (.str ⟨#[c]⟩) S
      | none => .stuck) else .stuck
    | .scr ns => match atI ns i with
      | some n => .ok (.int n) S
      | none => .stuck
    | x => match lstOf S x with
      | some xs => match atI xs i with
        | some d => .ok d S
        | none => .stuck
      | none => .stuck
  | _ => .stuck
def ixT (x y : D) (S : Store) : R D :=
  match x with
  | .tdc ks vs => match tkD y with
    | some k => match tAt ks vs k with
      | some d => .ok d S
      | none => .stuck
    | none => .stuck
  | x => match dttOf S x with
    | some kvs => match tkD y with
      | some k => match ttAt kvs k with
        | some d => .ok d S
        | none => .stuck
      | none => .stuck
    | none => ixV0 x y S
def ixV (x y : D) (S : Store) : R D :=
  match dctOf S x with
  | some kvs => dctIx kvs y S
  | none => ixT x y S
def cutD {α : Type} (xs : List α) (lo hi : Option Int) : List α := (xs.drop (HT.sIx xs.length 0 lo)).take (HT.sIx xs.length xs.length hi - HT.sIx xs.length 0 lo)
/-- a slice -/
def cutV (new : Bool) (x : D) (lo hi : Option Int) (S : Store) : R D :=
  match x with
  | .tup xs => .ok (.tup (cutD xs lo hi)) S
  | .str z => if isz z.length then .ok (.str (cutS z lo hi)) S else .stuck
  | .scr ns => mkL new ((cutD ns lo hi).map .int) S
  | x => match lstOf S x with
    | some xs => mkL new (cutD xs lo hi) S
    | none => .stuck
end Ev
namespace Ev
open PySem PySem.Spec L2
mutual
def D.beq : D → D → Bool
  | .non, .non => true
  | .bl a, .bl b => a == b
  | .int a, .int b => a == b
  | .str a, .str b => decide (a = b)
  | .tup a, .tup b => D.beqs a b
  | .lst a, .lst b => D.beqs a b
  | .ref a, .ref b => a == b
  | .fn a, .fn b => a == b
  | .scr a, .scr b => decide (a = b)
  | .tdc a b, .tdc c d => decide (a = c) && D.beqs b d
  | _, _ => false
def D.beqs : List D → List D → Bool
  | [], [] => true
  | x :: xs, y :: ys => D.beq x y && D.beqs xs ys
  | [], _ :: _ => false
  | _ :: _, [] => false
end
mutual
theorem D.beq_eq : ∀ (x y : D), D.beq x y = true → x = y
  | .non, y, h => by cases y <;> simp_all [D.beq]
  | .bl a, y, h => by cases y <;> simp_all [D.beq]
  | .int a, y, h => by cases y <;> simp_all [D.beq]
  | .str a, y, h => by cases y <;> simp_all [D.beq]
  | .ref a, y, h => by cases y <;> simp_all [D.beq]
  | .fn a, y, h => by cases y <;> simp_all [D.beq]
  | .scr a, y, h => by cases y <;> simp_all [D.beq]
  | .tdc a b, y, h => by
    cases y with
    | tdc c d =>
      rw [D.beq, Bool.and_eq_true] at h
      rw [of_decide_eq_true h.1, D.beqs_eq b d h.2]
    | _ => simp [D.beq] at h
  | .tup a, y, h => by
    cases y with
    | tup b => rw [D.beq] at h; rw [D.beqs_eq a b h]
    | _ => simp [D.beq] at h
  | .lst a, y, h => by
    cases y with
    | lst b => rw [D.beq] at h; rw [D.beqs_eq a b h]
    | _ => simp [D.beq] at h
theorem D.beqs_eq : ∀ (x y : List D), D.beqs x y = true → x = y
  | [], y, h => by cases y <;> simp_all [D.beqs]
  | x :: xs, y, h => by
    cases y with
    | nil => simp [D.beqs] at h
    | cons y ys =>
      rw [D.beqs, Bool.and_eq_true] at h
      rw [D.beq_eq x y h.1, D.beqs_eq xs ys h.2]
end
mutual
theorem D.beq_self : ∀ (x : D), D.beq x x = true
  | .non => rfl
  | .bl a => by simp [D.beq]
  | .int a => by simp [D.beq]
  | .str a => by simp [D.beq]
  | .ref a => by simp [D.beq]
  | .fn a => by simp [D.beq]
  | .scr a => by simp [D.beq]
  | .tdc a b => by rw [D.beq, D.beqs_self b]; simp
  | .tup a => by rw [D.beq]; exact D.beqs_self a
  | .lst a => by rw [D.beq]; exact D.beqs_self a
theorem D.beqs_self : ∀ (x : List D), D.beqs x x = true
  | [] => rfl
  | x :: xs => by rw [D.beqs, D.beq_self x, D.beqs_self xs]; rfl
end
instance : DecidableEq D := fun x y => if h : D.beq x y = true then .isTrue (D.beq_eq x y h) else .isFalse fun e => h (by subst e; exact D.beq_self x)
instance : DecidableEq Ob
  | .lst a, .lst b => if h : a = b then .isTrue (by rw [h]) else .isFalse fun e => h (Ob.lst.inj e)
  | .dct a, .dct b => if h : a = b then .isTrue (by rw [h]) else .isFalse fun e => h (Ob.dct.inj e)
  | .obj a b, .obj c d => if h : a = c ∧ b = d then .isTrue (by rw [h.1, h.2]) else .isFalse fun e => h (Ob.obj.inj e)
  | .dtt a, .dtt b => if h : a = b then .isTrue (by rw [h]) else .isFalse fun e => h (Ob.dtt.inj e)
  | .dtl a, .dtl b => if h : a = b then .isTrue (by rw [h]) else .isFalse fun e => h (Ob.dtl.inj e)
  | .lst _, .dtl _ => .isFalse fun e => nomatch e
  | .dtl _, .lst _ => .isFalse fun e => nomatch e
  | .dct _, .dtl _ => .isFalse fun e => nomatch e
  | .dtl _, .dct _ => .isFalse fun e => nomatch e
  | .obj _ _, .dtl _ => .isFalse fun e => nomatch e
  | .dtl _, .obj _ _ => .isFalse fun e => nomatch e
  | .dtt _, .dtl _ => .isFalse fun e => nomatch e
  | .dtl _, .dtt _ => .isFalse fun e => nomatch e
  | .lst _, .dct _ => .isFalse fun e => nomatch e
  | .lst _, .obj _ _ => .isFalse fun e => nomatch e
  | .lst _, .dtt _ => .isFalse fun e => nomatch e
  | .dct _, .lst _ => .isFalse fun e => nomatch e
  | .dct _, .obj _ _ => .isFalse fun e => nomatch e
  | .dct _, .dtt _ => .isFalse fun e => nomatch e
  | .obj _ _, .lst _ => .isFalse fun e => nomatch e
  | .obj _ _, .dct _ => .isFalse fun e => nomatch e
  | .obj _ _, .dtt _ => .isFalse fun e => nomatch e
  | .dtt _, .lst _ => .isFalse fun e => nomatch e
  | .dtt _, .dct _ => .isFalse fun e => nomatch e
  | .dtt _, .obj _ _ => .isFalse fun e => nomatch e
inductive Bfn where
  | len | int | abs | sum | all | any | list | tuple | repr | sorted | max | dict | str
  deriving DecidableEq
inductive Ty where
  | bool | int | str | list | tuple | dict
  deriving DecidableEq
/-- methods -/
inductive Mt where
  | append | extend | clear | join | split | sindex | lindex | upper | splitN | pop | popAt | reverse
  deriving DecidableEq
mutual
inductive T where
  | nm (i : Nat)
  | tp (ts : Ts)
inductive Ts where
  | nil
  | cons (t : T) (ts : Ts)
end
mutual
inductive E where
  | var (i : Nat)
  | con (d : D)
  | glb (k : Nat)
  | tup (es : Es)
  | lst (new : Bool) (es : Es)
  | dct0
  | dct2 (a b c d : Str)
  | told (a : E)
  | fld (o : E) (f : Str)
  | mcall (m : Str) (w : Bool) (o : E) (es : Es)
  | get (o k d : E)
  | upd (o a : E)
  | dctT0
  | dtd1 (k v : E)
  | dtd2 (k v k2 v2 : E)
  | dss2 (k k2 : Str) (a b : E)
  | isiO (a : E) (c : Nat)
  | mx (a b : E)
  | new (c : Nat) (es : Es)
  | lenO (a : E)
  | eqO (ne : Bool) (a b : E)
  | bin (new : Bool) (op : Bop) (a b : E)
  | neg (a : E)
  | nt (a : E)
  | cmp (op : Cop) (a b : E)
  | cmp2 (o1 o2 : Cop) (a b c : E)
  | and (a b : E)
  | or (a b : E)
  | ife (c a b : E)
  | ix (a b : E)
  | cutA (new : Bool) (a lo : E)
  | cutB (new : Bool) (a hi : E)
  | cutC (new : Bool) (a lo hi : E)
  | rev (new : Bool) (a : E)
  | call (k : Nat) (es : Es)
  /-- a def as a value, and a call of a name that holds one -/
  | fnc (k : Nat)
  | callV (i : Nat) (es : Es)
  | callD (k : Nat) (es : Es) (d : D)
  | bf (new : Bool) (f : Bfn) (a : E)
  | isi (a : E) (t : Ty)
  | lrng1 (new : Bool) (a : E)
  | lrng2 (new : Bool) (a b : E)
  | mth0 (m : Mt) (o : E)
  | mth1 (m : Mt) (o a : E)
  | comp (new : Bool) (own : List Nat) (elt : E) (t : T) (it : I) (ifs : Es)
  | comp2 (new : Bool) (own : List Nat) (elt : E) (t1 : T) (i1 : I) (t2 : T) (i2 : I)
  | compN (new : Bool) (own : List Nat) (elt : E) (cs : Cs)
inductive Es where
  | nil
  | cons (e : E) (es : Es)
/-- clauses -/
inductive Cs where
  | nil
  | cons (t : T) (i : I) (ifs : Es) (cs : Cs)
/-- what is walked -/
inductive I where
  | seq (e : E)
  | rng (es : Es)
  | zip (a b : E)
  | enz (a b : E)
  | enum (a : E)
  | dk (a : E)
  | di (a : E)
end
def Es.len' : Es → Nat
  | .nil => 0
  | .cons _ es => es.len' + 1
/-- what a handler gives -/
inductive Atm where
  | con (d : D)
  | fld (f : Str)
  /-- isinstance(e, (c1, c2, ..)) -/
  | isx (cs : List Nat)
  deriving DecidableEq
/-- a handler: its class, the slot of the caught exception's name, a tuple or one thing, what is given -/
structure HR where
  cls : Nat
  nm : Option Nat
  tup : Bool
  as : List Atm
mutual
inductive St where
  | set (i : Nat) (e : E)
  | asg (t : T) (e : E)
  | par (i j : Nat) (a b : E)
  | put (o i e : E)
  | fset (o : E) (f : Str) (e : E)
  | asgF (o : E) (f g : Str) (e : E)
  | star (i j : Nat) (e : E)
  | faug (o : E) (f : Str) (op : Bop) (e : E)
  | tryH (b : Ss) (hs : List (Nat × D))
  | aug (i : Nat) (op : Bop) (e : E)
  | ex (e : E)
  | ret (e : E)
  | retN
  | ite (c : E) (a b : Ss)
  | whl (c : E) (b : Ss)
  | for (t : T) (it : I) (b : Ss)
  | rse (k : Nat)
  | rseF (k : Nat) (f : Str) (e : E)
  | tryM (b : Ss) (hs : List HR)
  | pas
  | brk
  | cnt
  | nev
inductive Ss where
  | nil
  | cons (s : St) (ss : Ss)
end
structure Fn where
  np : Nat
  nv : Nat
  pure : Bool
  body : Ss
/-- an own class: its methods, its fields -/
structure Kl where
  ms : List (Str × Nat)
  mc : List (Str × Nat)
  fl : List Str
structure Cfg where
  fns : List Fn
  glbs : List D
  lim : Nat
  kls : List Kl := []
  /-- which class is caught by which -/
  exs : List (Nat × Nat × Bool) := []
  /-- the own classes whose instances are compared, and told by isinstance -/
  xos : List Nat := []
  /-- own exceptions that keep one thing: their class, the field -/
  xfs : List (Nat × Str) := []
  /-- which exception is an instance of which class -/
  xis : List (Nat × Nat × Bool) := []
  /-- the def that asks a lambda: its handlers, the constants that its last row tells, how many names it has -/
  sad : Option (List HR × List D × Nat) := none
  /-- the defs that are handed about as values -/
  vfn : List Nat := []
abbrev Call := Nat → List D → Store → R D
mutual
def T.asg : T → D → Env → Option Env
  | .nm i, d, env => some (env.set i (some d))
  | .tp ts, d, env => match d with
    | .tup xs => Ts.asg ts xs env
    | .lst xs => Ts.asg ts xs env
    | _ => none
def Ts.asg : Ts → List D → Env → Option Env
  | .nil, [], env => some env
  | .cons t ts, x :: xs, env => match T.asg t x env with
    | some env1 => Ts.asg ts xs env1
    | none => none
  | .nil, _ :: _, _ => none
  | .cons _ _, [], _ => none
end
def wipeD (env : Env) : List Nat → Env
  | [] => env
  | v :: vs => (wipeD env vs).set v none
/-- a list that is walked must stand as it was -/
def gOk (g : Option (Nat × Ob)) (S : Store) : Bool :=
  match g with
  | none => true
  | some (l, ob) => decide (S[l]? = some ob)
structure Items where
  xs : List D
  g : Option (Nat × Ob) := none
/-- lists joined, turn by turn -/
def colGo (t : T) (g : Option (Nat × Ob)) (ev : Env → Store → R (List D)) (env : Env) : List D → Store → R (List D)
  | [], S => if gOk g S then .ok [] S else .stuck
  | x :: xs, S =>
    if gOk g S then
      match t.asg x env with
      | some env1 => match ev env1 S with
        | .ok ys S2 => match colGo t g ev env xs S2 with
          | .ok zs S3 => .ok (ys ++ zs) S3
          | _ => .stuck
        | _ => .stuck
      | none => .stuck
    else .stuck
/-- one turn of a clause -/
def step1 (ok : Env → Store → R Bool) (ev : Env → Store → R D) (env : Env) (S : Store) : R (List D) :=
  match ok env S with
  | .ok b S1 => if b then (match ev env S1 with
    | .ok y S2 => .ok [y] S2
    | _ => .stuck) else .ok [] S1
  | _ => .stuck
def compGo (t : T) (g : Option (Nat × Ob)) (ok : Env → Store → R Bool) (ev : Env → Store → R D) (env : Env) (xs : List D) (S : Store) : R (List D) := colGo t g (step1 ok ev) env xs S
mutual
def T.slots : T → List Nat
  | .nm i => [i]
  | .tp ts => Ts.slots ts
def Ts.slots : Ts → List Nat
  | .nil => []
  | .cons t ts => T.slots t ++ Ts.slots ts
end
def Cs.slots : Cs → List Nat
  | .nil => []
  | .cons t _ _ cs => T.slots t ++ cs.slots
def forGo (t : T) (g : Option (Nat × Ob)) (body : Env → Store → SR) : List D → Env → Store → SR
  | [], env, S => if gOk g S then .nx env S else .stuck
  | x :: xs, env, S =>
    if gOk g S then
      match t.asg x env with
      | some env1 => match body env1 S with
        | .nx e S1 => forGo t g body xs e S1
        | .ct e S1 => forGo t g body xs e S1
        | .bk e S1 => .nx e S1
        | .rt d S1 => .rt d S1
        | .exc x e S1 => .exc x e S1
        | .stuck => .stuck
      | none => .stuck
    else .stuck
def whlGo (test : Env → Store → R Bool) (body : Env → Store → SR) : Nat → Env → Store → SR
  | 0, _, _ => .stuck
  | n + 1, env, S => (test env S).st env fun b S1 =>
    if b then (match body env S1 with
      | .nx e S2 => whlGo test body n e S2
      | .ct e S2 => whlGo test body n e S2
      | .bk e S2 => .nx e S2
      | .rt d S2 => .rt d S2
      | .exc x e S2 => .exc x e S2
      | .stuck => .stuck) else .nx env S1
def rngs (xs : List D) : Option (List D) :=
  match xs with
  | [.int j] => if decide (-(2 ^ 62) ≤ j ∧ j < 2 ^ 62) then some ((List.range j.toNat).map fun i => .int ((0 : Int) + (i : Nat))) else none
  | [.int i, .int j] => if decide (-(2 ^ 62) ≤ i ∧ i < 2 ^ 62 ∧ -(2 ^ 62) ≤ j ∧ j < 2 ^ 62) then some ((List.range (j - i).toNat).map fun k => .int (i + (k : Nat))) else none
  | [.int i, .int j, .int c] => if decide (c = -1 ∧ -(2 ^ 62) ≤ i ∧ i < 2 ^ 62 ∧ -(2 ^ 62) ≤ j ∧ j < 2 ^ 62) then some ((List.range (i - j).toNat).map fun k => .int (i + (k : Nat) * (-1))) else none
  | _ => none
/-- what zip takes -/
def srcD : D → Option (List D)
  | .lst xs => some xs
  | .tup xs => some xs
  | .str z => some (z.cps.toList.map fun c => .str ⟨#[c]⟩)
  | .scr ns => some (ns.map .int)
  | _ => none
def seqItems (S : Store) : D → Option Items
  | .tup xs => some ⟨xs, none⟩
  | .lst xs => some ⟨xs, none⟩
  | .str z => some ⟨z.cps.toList.map fun c => .str ⟨#[c]⟩, none⟩
  | .ref l => match S[l]? with
    | some (.lst xs) => some ⟨xs, some (l, .lst xs)⟩
    | _ => none
  | .scr ns => some ⟨ns.map .int, none⟩
  | _ => none
def isiD (S : Store) (t : Ty) : D → Option Bool
  | .non => some false
  | .bl _ => some (match t with | .bool => true | .int => true | _ => false)
  | .int _ => some (match t with | .int => true | _ => false)
  | .str _ => some (match t with | .str => true | _ => false)
  | .tup _ => some (match t with | .tuple => true | _ => false)
  | .lst _ => some (match t with | .list => true | _ => false)
  | .ref l => match S[l]? with
    | some (.lst _) => some (match t with | .list => true | _ => false)
    | some (.dct _) => some (match t with | .dict => true | _ => false)
    | some (.dtt _) => none
    | some (.dtl _) => none
    | some (.obj _ _) => none
    | none => none
  | .fn _ => none
  | .scr _ => some (match t with | .list => true | _ => false)
  | .tdc _ _ => none
def okRepr (d : D) : Bool := d.plain && d.pd.showable && !d.pd.hasDict && decide (d.pd.depth ≤ 64) && decide (d.pd.shown.length ≤ sizeLine)
/-- data that sorted takes -/
def tup1 : D → Bool
  | .tup (_ :: _) => true
  | _ => false
def notTup : D → Bool
  | .tup _ => false
  | .non => false
  | _ => true
def okSort (xs : List D) : Bool := D.plains xs && xs.all (fun a => SeqAt.shaped a.pd && xs.all fun b => PySem.W.alike a.pd b.pd) && (xs.all tup1 || xs.all notTup)
def leD (a b : D) : Bool := PySem.W.dataLe false D.pd a b
def bfV (new : Bool) (f : Bfn) (x : D) (S : Store) : R D :=
  match f with
  | .len => match x with
    | .tup xs => .ok (.int xs.length) S
    | .str z => if isz z.length then .ok (.int z.length) S else .stuck
    | .scr ns => .ok (.int ns.length) S
    | .tdc ks vs => if isz (ks.zip vs).length then .ok (.int (ks.zip vs).length) S else .stuck
    | x => match lstOf S x with
      | some xs => .ok (.int xs.length) S
      | none => .stuck
  | .int => match x with
    | .int i => .ok (.int i) S
    | .bl b => .ok (.int (if b then 1 else 0)) S
    | .str a => match PySem.intText? a with
      | some n => if decide (a.length ≤ 640) then .ok (.int n) S else .stuck
      | none => .stuck
    | _ => .stuck
  | .abs => match x with
    | .int i => .ok (.int (if i < 0 then -i else i)) S
    | _ => .stuck
  | .sum => match lstOf S x with
    | some xs => match intsOf xs with
      | some ns => .ok (.int ns.sum) S
      | none => .stuck
    | none => .stuck
  | .max => match lstOf S x with
    | some xs => match intsOf xs with
      | some ns => match ns.max? with
        | some m => .ok (.int m) S
        | none => .stuck
      | none => .stuck
    | none => .stuck
  | .all => match lstOf S x with
    | some xs => match blsOf xs with
      | some ns => .ok (.bl (ns.all id)) S
      | none => .stuck
    | none => .stuck
  | .any => match lstOf S x with
    | some xs => match blsOf xs with
      | some ns => .ok (.bl (ns.any id)) S
      | none => .stuck
    | none => .stuck
  | .list => match x with
    | .tup xs => mkL new xs S
    | .str z => mkL new (z.cps.toList.map fun c => .str ⟨#[c]⟩) S
    | x => match lstOf S x with
      | some xs => mkL new xs S
      | none => .stuck
  | .tuple => match x with
    | .tup xs => .ok (.tup xs) S
    | x => match lstOf S x with
      | some xs => mkT xs S
      | none => .stuck
  | .dict => match lstOf S x with
    | some xs => match pairsT xs with
      | some l => .ok (mkTdc (foldT [] l)) S
      | none => .stuck
    | none => .stuck
  | .sorted => match dttOf S x with
    | some kvs => if okSort (kvs.map fun q => .tup (q.1.map keyD)) then mkL new ((kvs.map fun q => D.tup (q.1.map keyD)).mergeSort leD) S else .stuck
    | none => match lstOf S x with
      | some xs => if okSort xs then mkL new (xs.mergeSort leD) S else .stuck
      | none => .stuck
  | .str => match x with
    | .tup xs => if okRepr (.tup xs) then .ok (.str (D.pd (.tup xs)).shown) S else .stuck
    | _ => .stuck
  | .repr => match view S x with
    | .tup xs => if okRepr (.tup xs) then .ok (.str (D.pd (.tup xs)).shown) S else .stuck
    | .lst xs => if okRepr (.lst xs) then .ok (.str (D.pd (.lst xs)).shown) S else .stuck
    | .non => .ok (.str "None") S
    | _ => .stuck
def joinLen (a : Str) (ys : List Str) : Nat := (ys.map (·.length)).sum + ys.length * a.length
def mthV (m : Mt) (o : D) (as : List D) (S : Store) : R D :=
  match m, as with
  | .append, [x] => match o with
    | .ref l => match S[l]? with
      | some (.lst xs) => if decide (xs.length < sizeLine) then .ok .non (S.set l (.lst (xs ++ [x]))) else .stuck
      | _ => .stuck
    | _ => .stuck
  | .extend, [x] => match o with
    | .ref l => match S[l]? with
      | some (.lst xs) => match x with
        | .lst ys => if isz (xs.length + ys.length) then .ok .non (S.set l (.lst (xs ++ ys))) else .stuck
        | _ => .stuck
      | _ => .stuck
    | _ => .stuck
  | .clear, [] => match o with
    | .ref l => match S[l]? with
      | some (.lst xs) => .ok .non (S.set l (.lst []))
      | _ => .stuck
    | _ => .stuck
  | .join, [x] => match o with
    | .str a => match (match x with | .tup xs => some xs | x => lstOf S x) with
      | some xs => match strsOf xs with
        | some ys => if decide (joinLen a ys ≤ 16777216) then .ok (.str (Txt.join a ys)) S else .stuck
        | none => .stuck
      | none => .stuck
    | _ => .stuck
  | .split, [x] => match o, x with
    | .str a, .str b => if !(b.length == 0) && isz (a.length + 2) then .ok (.lst ((Txt.split a b).map .str)) S else .stuck
    | _, _ => .stuck
  | .sindex, [x] => match o, x with
    | .str a, .str b => match Builtin.Str.occurrences a b 0 a.length 1 with
      | i :: _ => .ok (.int (i : Nat)) S
      | [] => .stuck
    | _, _ => .stuck
  | .splitN, [x] => match o, x with
    | .str a, .str b => if !(b.length == 0) && isz (a.length + 2) then mkL true ((Txt.split a b).map .str) S else .stuck
    | _, _ => .stuck
  | .pop, [] => match o with
    | .ref l => match S[l]? with
      | some (.lst xs) => match xs[xs.length - 1]? with
        | some y => .ok y (S.set l (.lst xs.dropLast))
        | none => .stuck
      | _ => .stuck
    | _ => .stuck
  | .popAt, [x] => match o with
    | .ref l => match S[l]? with
      | some (.lst xs) => match x with
        | .int i => if decide (-(2 ^ 63) ≤ i ∧ i < 2 ^ 63) then (match seqIndex? i xs.length with
          | some k => match xs[k]? with
            | some y => .ok y (S.set l (.lst (xs.eraseIdx k)))
            | none => .stuck
          | none => .stuck) else .stuck
        | _ => .stuck
      | _ => .stuck
    | _ => .stuck
  | .reverse, [] => match o with
    | .ref l => match S[l]? with
      | some (.lst xs) => .ok .non (S.set l (.lst xs.reverse))
      | _ => .stuck
    | _ => .stuck
  | .lindex, [x] => match lstOf S o with
    | some ys => if flatD x && ys.all flatD then (match ys.findIdx? (fun y => flatEq y x) with
      | some j => .ok (.int (j : Nat)) S
      | none => .stuck) else .stuck
    | none => .stuck
  | .upper, [] => match o with
    | .str a => if decide (a.length ≤ 5592405) then .ok (.str (Txt.upper a)) S else .stuck
    | _ => .stuck
  | _, _ => .stuck
/-- what has such a method -/
def mtOk (m : Mt) (o : D) (S : Store) : Bool :=
  match m with
  | .append => isCell o S
  | .extend => isCell o S
  | .clear => isCell o S
  | .join => isStr o
  | .split => isStr o
  | .sindex => isStr o
  | .lindex => (lstOf S o).isSome
  | .pop => isCell o S
  | .popAt => isCell o S
  | .reverse => isCell o S
  | .upper => isStr o
  | .splitN => isStr o
where
  isStr : D → Bool
    | .str _ => true
    | _ => false
  isCell : D → Store → Bool
    | .ref l, S => match S[l]? with
      | some (.lst _) => true
      | _ => false
    | _, _ => false
def isxV (G : Cfg) (k : Nat) : List Nat → Option Bool
  | [] => some false
  | c :: r => match G.xis.find? fun t => t.1 == k && t.2.1 == c with
    | some t => if t.2.2 then some true else isxV G k r
    | none => none
def atmV (G : Cfg) (x : Ex) : Atm → Option D
  | .con d => some d
  | .fld f => if G.xfs.contains (x.cls, f) then x.fs.lookup f else none
  | .isx cs => (isxV G x.cls cs).map .bl
def atmsV (G : Cfg) (x : Ex) : List Atm → Option (List D)
  | [] => some []
  | a :: r => match atmV G x a, atmsV G x r with
    | some d, some ds => some (d :: ds)
    | _, _ => none
def hrV (G : Cfg) (x : Ex) (h : HR) : Option D :=
  match atmsV G x h.as with
  | some ds => if h.tup then some (.tup ds) else (match ds with
    | [d] => some d
    | _ => none)
  | none => none
/-- what is given where an exception is caught: unknown, none, or a value -/
def hdlM (G : Cfg) (x : Ex) : List HR → Option (Option D)
  | [] => some none
  | h :: r => match G.exs.find? fun t => t.1 == x.cls && t.2.1 == h.cls with
    | some t => if t.2.2 then (match hrV G x h with
      | some d => some (some d)
      | none => none) else hdlM G x r
    | none => none
def slotOk (n : Nat) : Option Nat → Bool
  | none => true
  | some i => decide (i < n)
def augV (op : Bop) (x y : D) : Option D :=
  match op, x, y with
  | .add, .int i, .int j => some (.int (i + j))
  | .sub, .int i, .int j => some (.int (i - j))
  | _, _, _ => none
def putV0 (o i v : D) (S : Store) : Option Store :=
  match o, i with
  | .ref l, .int k => match S[l]? with
    | some (.lst xs) => match ixN xs.length k with
      | some j => some (S.set l (.lst (xs.set j v)))
      | none => none
    | _ => none
  | _, _ => none
def putV (o i v : D) (S : Store) : Option Store :=
  match dctOf S o with
  | some kvs => match o, kD i with
    | .ref l, some k => if decide (kvs.length < sizeLine) then some (S.set l (.dct (dPut kvs i k v))) else none
    | _, _ => none
  | none => match dttOf S o with
    | some kvs => match o, tkD i with
      | .ref l, some k => if decide (kvs.length < sizeLine ∧ S[l]? = some (.dtt kvs)) then some (S.set l (.dtt (setT kvs k v))) else none
      | _, _ => none
    | none => putV0 o i v S
/-- _law_said(lambda: ..): what its handlers answer, or its last row's constants -/
def toldM (G : Cfg) : R D → R D
  | .ok _ S => match G.sad with
    | some w => .ok (.tup w.2.1) S
    | none => .stuck
  | .exc x S => match G.sad with
    | some w => if x.fs.length ≤ 1 ∧ (w.1.all fun h => slotOk w.2.2 h.nm) = true then (match hdlM G x w.1 with
      | some (some d) => .ok d S
      | _ => .stuck) else .stuck
    | none => .stuck
  | .stuck => .stuck
def putFD (f : Str) (v : D) : List (Str × D) → List (Str × D)
  | [] => [(f, v)]
  | (g, x) :: r => if g = f then (g, v) :: r else (g, x) :: putFD f v r
def objOf (S : Store) : D → Option (Nat × List (Str × D))
  | .ref l => match S[l]? with
    | some (.obj c fs) => some (c, fs)
    | _ => none
  | _ => none
/-- the class has such a field, and no attribute of that name -/
def hasFl (G : Cfg) (c : Nat) (f : Str) : Bool := match G.kls[c]? with
  | some kl => kl.fl.contains f
  | none => false
def msOf (G : Cfg) (c : Nat) (w : Bool) (m : Str) : Option Nat := match G.kls[c]? with
  | some kl => (if w then kl.mc else kl.ms).lookup m
  | none => none
def fldV (G : Cfg) (f : Str) (x : D) (S : Store) : R D := match objOf S x with
  | some (c, fs) => if hasFl G c f then (match fs.lookup f with
    | some d => .ok d S
    | none => .stuck) else .stuck
  | none => .stuck
def methV (G : Cfg) (m : Str) (w : Bool) (x : D) (S : Store) : Option Nat := match objOf S x with
  | some (c, fs) => if (fs.lookup m).isNone then msOf G c w m else none
  | none => none
def fsetV (G : Cfg) (f : Str) (x v : D) (S : Store) : Option Store := match x, objOf S x with
  | .ref l, some (c, fs) => if hasFl G c f && decide (fs.length < 1000) then some (S.set l (.obj c (putFD f v fs))) else none
  | _, _ => none
/-- own instances told apart from what is none -/
def isiOD (S : Store) (c : Nat) : D → Option Bool
  | .non => some false
  | .bl _ => some false
  | .int _ => some false
  | .str _ => some false
  | .tup _ => some false
  | .lst _ => some false
  | .ref l => match S[l]? with
    | some (.obj k _) => if k = c then some true else none
    | some (.lst _) => some false
    | _ => none
  | _ => none
/-- what an instance of class c may be compared with -/
def eqKind (S : Store) (c : Nat) : D → Bool
  | .int _ => true
  | .str _ => true
  | .lst _ => true
  | .ref l => match S[l]? with
    | some (.lst _) => true
    | some (.obj k _) => decide (k = c)
    | _ => false
  | _ => false
def eqOM (G : Cfg) (x y : D) (S : Store) : Option Nat := match objOf S x with
  | some (c, _) => if G.xos.contains c && eqKind S c y then msOf G c false "__eq__" else none
  | none => none
def lenOK (d : D) (S : Store) : R D := match d with
  | .int i => if decide (0 ≤ i ∧ i < 2 ^ 62) then .ok (.int i) S else .stuck
  | _ => .stuck
def eqOK (ne : Bool) (d : D) (S : Store) : R D := match d with
  | .bl r => .ok (.bl (if ne then !r else r)) S
  | _ => .stuck
def isDic (x : D) (S : Store) : Bool := (dctOf S x).isSome || (dttOf S x).isSome
def getV (x y z : D) (S : Store) : R D := match dctOf S x with
  | some kvs => match kD y with
    | some k => .ok ((dAt kvs k).getD z) S
    | none => .stuck
  | none => match dttOf S x with
    | some kvs => match tkD y with
      | some k => .ok ((ttAt kvs k).getD z) S
      | none => .stuck
    | none => .stuck
def updV (x y : D) (S : Store) : R D := match x, y with
  | .ref l, .ref k => match S[l]?, S[k]? with
    | some (.dtt a), some (.dtt b) => if decide (l ≠ k ∧ (a ≠ [] ∨ b.length ≤ 1) ∧ a.length + b.length ≤ sizeLine) then .ok .non (S.set l (.dtt (foldT a b))) else .stuck
    | _, _ => .stuck
  | _, _ => .stuck
def enumD (xs : List D) : List D := xs.zipIdx.map fun p => .tup [.int (p.2 : Nat), p.1]
def enumItems (S : Store) (x : D) : Option Items := match x with
  | .lst xs => some ⟨enumD xs, none⟩
  | .ref l => match S[l]? with
    | some (.lst xs) => some ⟨enumD xs, some (l, .lst xs)⟩
    | _ => none
  | _ => none
def keysD (kvs : List (List Key × D)) : List D := kvs.map fun q => .tup (q.1.map keyD)
def pairsD (kvs : List (List Key × D)) : List D := kvs.map fun q => .tup [.tup (q.1.map keyD), q.2]
/-- a dict that is walked: from now on it stays as it is -/
def walkD (f : List (List Key × D) → List D) (x : D) (S : Store) : R Items := match x with
  | .ref l => match S[l]? with
    | some (.dtt kvs) => .ok ⟨f kvs, none⟩ (S.set l (.dtl kvs))
    | some (.dtl kvs) => .ok ⟨f kvs, none⟩ S
    | _ => .stuck
  | _ => .stuck
def clsOf (S : Store) (x : D) : Option Nat := (objOf S x).map (·.1)
def faugV (G : Cfg) (f : Str) (x : D) (S : Store) : Option (Nat × D) := match objOf S x with
  | some (c, fs) => if hasFl G c f then (fs.lookup f).map fun d => (c, d) else none
  | none => none
mutual
def E.ev (call : Call) (G : Cfg) : E → Env → Store → R D
  | .var i, env, S => match env[i]? with
    | some (some d) => .ok d S
    | _ => .stuck
  | .con d, _, S => .ok d S
  | .glb k, _, S => match G.glbs[k]? with
    | some d => .ok d S
    | none => .stuck
  | .tup es, env, S => (Es.ev call G es env S).bind fun xs S => mkT xs S
  | .lst new es, env, S => (Es.ev call G es env S).bind fun xs S => mkL new xs S
  | .dct0, _, S => .ok (.ref S.length) (S ++ [.dct []])
  | .dct2 a b c d, _, S => if decide (a = c) then .stuck else .ok (.ref S.length) (S ++ [.dct [(.str a, .str b), (.str c, .str d)]])
  | .told a, env, S => toldM G (E.ev call G a env S)
  | .fld o f, env, S => (E.ev call G o env S).bind fun x S => fldV G f x S
  | .mcall m w o es, env, S => (E.ev call G o env S).bind fun x S => match methV G m w x S with
    | some k => (Es.ev call G es env S).bind fun xs S => call k (x :: xs) S
    | none => .stuck
  | .get o k d, env, S => (E.ev call G o env S).bind fun x S => if isDic x S then ((E.ev call G k env S).bind fun y S => (E.ev call G d env S).bind fun z S => getV x y z S) else .stuck
  | .upd o a, env, S => (E.ev call G o env S).bind fun x S => if isDic x S then ((E.ev call G a env S).bind fun y S => updV x y S) else .stuck
  | .dctT0, _, S => .ok (.ref S.length) (S ++ [.dtt []])
  | .dtd1 k v, env, S => (E.ev call G k env S).bind fun x S => (E.ev call G v env S).bind fun y S => match tkD x with
    | some a => .ok (.ref S.length) (S ++ [.dtt [(a, y)]])
    | none => .stuck
  | .dtd2 k v k2 v2, env, S => (E.ev call G k env S).bind fun x S => (E.ev call G v env S).bind fun y S => (E.ev call G k2 env S).bind fun x2 S => (E.ev call G v2 env S).bind fun y2 S => match tkD x, tkD x2 with
    | some a, some b => .ok (.ref S.length) (S ++ [.dtt (setT [(a, y)] b y2)])
    | _, _ => .stuck
  | .dss2 k k2 a b, env, S => (E.ev call G a env S).bind fun x S => (E.ev call G b env S).bind fun y S => if decide (k = k2) then .stuck else .ok (.ref S.length) (S ++ [.dct [(.str k, x), (.str k2, y)]])
  | .isiO a c, env, S => (E.ev call G a env S).bind fun x S => ofB (if G.xos.contains c then isiOD S c x else none) S
  | .lenO a, env, S => (E.ev call G a env S).bind fun x S => match methV G "__len__" false x S with
    | some k => (call k [x] S).bind fun d S => lenOK d S
    | none => .stuck
  | .eqO ne a b, env, S => (E.ev call G a env S).bind fun x S => (E.ev call G b env S).bind fun y S => match eqOM G x y S with
    | some k => (call k [x, y] S).bind fun d S => eqOK ne d S
    | none => .stuck
  | .mx a b, env, S => (E.ev call G a env S).bind fun x S => (E.ev call G b env S).bind fun y S => match x, y with
    | .int i, .int j => .ok (.int (if j > i then j else i)) S
    | _, _ => .stuck
  | .new c es, env, S => match msOf G c false "__init__" with
    | some k => (Es.ev call G es env S).bind fun xs S => (call k (.ref S.length :: xs) (S ++ [.obj c []])).bind fun d S' => if isNon d then .ok (.ref S.length) S' else .stuck
    | none => .stuck
  | .bin new op a b, env, S => (E.ev call G a env S).bind fun x S => (E.ev call G b env S).bind fun y S => binV new op x y S
  | .neg a, env, S => (E.ev call G a env S).bind fun x S => match x with
    | .int i => .ok (.int (-i)) S
    | _ => .stuck
  | .nt a, env, S => (E.ev call G a env S).bind fun x S => match truth S x with
    | some b => .ok (.bl (!b)) S
    | none => .stuck
  | .cmp op a b, env, S => (E.ev call G a env S).bind fun x S => (E.ev call G b env S).bind fun y S => cmpV op x y S
  | .cmp2 o1 o2 a b c, env, S => (E.ev call G a env S).bind fun x S => (E.ev call G b env S).bind fun y S => (cmpV o1 x y S).bind fun z S => match z with
    | .bl true => (E.ev call G c env S).bind fun w S => cmpV o2 y w S
    | .bl false => .ok (.bl false) S
    | _ => .stuck
  | .and a b, env, S => (E.ev call G a env S).bind fun x S => match truth S x with
    | some true => E.ev call G b env S
    | some false => .ok x S
    | none => .stuck
  | .or a b, env, S => (E.ev call G a env S).bind fun x S => match truth S x with
    | some true => .ok x S
    | some false => E.ev call G b env S
    | none => .stuck
  | .ife c a b, env, S => (E.ev call G c env S).bind fun x S => match truth S x with
    | some true => E.ev call G a env S
    | some false => E.ev call G b env S
    | none => .stuck
  | .ix a b, env, S => (E.ev call G a env S).bind fun x S => (E.ev call G b env S).bind fun y S => ixV x y S
  | .cutA new a lo, env, S => (E.ev call G a env S).bind fun x S => (E.ev call G lo env S).bind fun y S => match y with
    | .int i => cutV new x (some i) none S
    | _ => .stuck
  | .cutB new a hi, env, S => (E.ev call G a env S).bind fun x S => (E.ev call G hi env S).bind fun y S => match y with
    | .int i => cutV new x none (some i) S
    | _ => .stuck
  | .cutC new a lo hi, env, S => (E.ev call G a env S).bind fun x S => (E.ev call G lo env S).bind fun y S => match y with
    | .int i => (E.ev call G hi env S).bind fun z S => match z with
      | .int j => cutV new x (some i) (some j) S
      | _ => .stuck
    | _ => .stuck
  | .rev new a, env, S => (E.ev call G a env S).bind fun x S => match lstOf S x with
    | some xs => mkL new xs.reverse S
    | none => .stuck
  | .call k es, env, S => (Es.ev call G es env S).bind fun xs S => call k xs S
  | .fnc k, _, S => if G.vfn.contains k then .ok (.fn k) S else .stuck
  | .callV i es, env, S => match env[i]? with
    | some (some (.fn k)) => if G.vfn.contains k then (Es.ev call G es env S).bind fun xs S => call k xs S else .stuck
    | _ => .stuck
  | .callD k es d, env, S => (Es.ev call G es env S).bind fun xs S => call k (xs ++ [d]) S
  | .bf new f a, env, S => (E.ev call G a env S).bind fun x S => bfV new f x S
  | .isi a t, env, S => (E.ev call G a env S).bind fun x S => ofB (isiD S t x) S
  | .lrng1 new a, env, S => (E.ev call G a env S).bind fun x S => match rngs [x] with
    | some ys => mkL new ys S
    | none => .stuck
  | .lrng2 new a b, env, S => (E.ev call G a env S).bind fun x S => (E.ev call G b env S).bind fun y S => match rngs [x, y] with
    | some ys => mkL new ys S
    | none => .stuck
  | .mth0 m o, env, S => (E.ev call G o env S).bind fun x S => if mtOk m x S then mthV m x [] S else .stuck
  | .mth1 m o a, env, S => (E.ev call G o env S).bind fun x S => if mtOk m x S then (E.ev call G a env S).bind fun y S => mthV m x [y] S else .stuck
  | .comp new own elt t it ifs, env, S => (I.ev call G it env S).bind fun its S =>
    (compGo t its.g (fun env S => (Es.tst call G ifs env S)) (fun env S => E.ev call G elt env S) (wipeD env own) its.xs S).bind fun ys S => mkL new ys S
  | .comp2 new own elt t1 i1 t2 i2, env, S => (I.ev call G i1 env S).bind fun its S =>
    (colGo t1 its.g (fun env S => (I.ev call G i2 env S).bind fun js S => compGo t2 js.g (fun _ S => .ok true S) (fun env S => E.ev call G elt env S) (wipeD env t2.slots) js.xs S) (wipeD env own) its.xs S).bind fun ys S => mkL new ys S
  | .compN new own elt .nil, env, S => .stuck
  | .compN new own elt (.cons t it ifs cs), env, S => (I.ev call G it env S).bind fun its S =>
    (colGo t its.g (fun env S => (Es.tst call G ifs env S).bind fun b S => if b then Cs.ev call G cs (fun env S => E.ev call G elt env S) env S else .ok [] S) (wipeD env own) its.xs S).bind fun ys S => mkL new ys S
def Cs.ev (call : Call) (G : Cfg) : Cs → (Env → Store → R D) → Env → Store → R (List D)
  | .nil, ev, env, S => (ev env S).bind fun y S => .ok [y] S
  | .cons t it ifs cs, ev, env, S => (I.ev call G it env S).bind fun its S =>
    colGo t its.g (fun env S => (Es.tst call G ifs env S).bind fun b S => if b then Cs.ev call G cs ev env S else .ok [] S) (wipeD env (t.slots ++ cs.slots)) its.xs S
def Es.ev (call : Call) (G : Cfg) : Es → Env → Store → R (List D)
  | .nil, _, S => .ok [] S
  | .cons e es, env, S => (E.ev call G e env S).bind fun x S => (Es.ev call G es env S).bind fun xs S => .ok (x :: xs) S
/-- the tests of a clause: none, or one -/
def Es.tst (call : Call) (G : Cfg) : Es → Env → Store → R Bool
  | .nil, _, S => .ok true S
  | .cons e es, env, S => (E.ev call G e env S).bind fun x S => match truth S x with
    | some b => .ok b S
    | none => .stuck
def I.ev (call : Call) (G : Cfg) : I → Env → Store → R Items
  | .seq e, env, S => (E.ev call G e env S).bind fun x S => match seqItems S x with
    | some its => .ok its S
    | none => .stuck
  | .rng es, env, S => (Es.ev call G es env S).bind fun xs S => match rngs xs with
    | some ys => .ok ⟨ys, none⟩ S
    | none => .stuck
  | .zip a b, env, S => (E.ev call G a env S).bind fun x S => (E.ev call G b env S).bind fun y S => match srcD x, srcD y with
    | some xs, some ys => .ok ⟨(xs.zip ys).map fun p => .tup [p.1, p.2], none⟩ S
    | _, _ => .stuck
  | .enum a, env, S => (E.ev call G a env S).bind fun x S => match enumItems S x with
    | some its => .ok its S
    | none => .stuck
  | .dk a, env, S => (E.ev call G a env S).bind fun x S => walkD keysD x S
  | .di a, env, S => (E.ev call G a env S).bind fun x S => walkD pairsD x S
  | .enz a b, env, S => (E.ev call G a env S).bind fun x S => (E.ev call G b env S).bind fun y S => match srcD x, srcD y with
    | some xs, some ys => .ok ⟨(xs.zip ys).zipIdx.map fun p => .tup [.int (p.2 : Nat), .tup [p.1.1, p.1.2]], none⟩ S
    | _, _ => .stuck
end
def E.tst (call : Call) (G : Cfg) (e : E) (env : Env) (S : Store) : R Bool := (e.ev call G env S).bind fun x S => match truth S x with
  | some b => .ok b S
  | none => .stuck
/-- what a class's handler answers: unknown, none, or a constant -/
def hdl (G : Cfg) (x : Nat) : List (Nat × D) → Option (Option D)
  | [] => some none
  | (k, d) :: r => match G.exs.find? fun t => t.1 == x && t.2.1 == k with
    | some t => if t.2.2 then some (some d) else hdl G x r
    | none => none
mutual
def St.ev (call : Call) (G : Cfg) : St → Env → Store → SR
  | .set i e, env, S => (e.ev call G env S).st env fun x S => .nx (env.set i (some x)) S
  | .asg t e, env, S => (e.ev call G env S).st env fun x S => match t.asg x env with
    | some env1 => .nx env1 S
    | none => .stuck
  | .par i j a b, env, S => (a.ev call G env S).st env fun x S => (b.ev call G env S).st env fun y S => .nx ((env.set i (some x)).set j (some y)) S
  | .put o i e, env, S => (e.ev call G env S).st env fun v S => (o.ev call G env S).st env fun x S => (i.ev call G env S).st env fun y S => match putV x y v S with
    | some S1 => .nx env S1
    | none => .stuck
  | .asgF o f g e, env, S => (e.ev call G env S).st env fun v S => match v with
    | .tup [a, b] => (o.ev call G env S).st env fun x S => match fsetV G f x a S with
      | some S1 => (o.ev call G env S1).st env fun x S => match fsetV G g x b S with
        | some S2 => .nx env S2
        | none => .stuck
      | none => .stuck
    | _ => .stuck
  | .star i j e, env, S => (e.ev call G env S).st env fun v S => match lstOf S v with
    | some (x :: r) => .nx ((env.set i (some x)).set j (some (.lst r))) S
    | _ => .stuck
  | .faug o f op e, env, S => (o.ev call G env S).st env fun x S => match faugV G f x S with
    | some (c, a) => (e.ev call G env S).st env fun y S => match augV op a y with
      | some z => if clsOf S x = some c then (match fsetV G f x z S with
        | some S1 => .nx env S1
        | none => .stuck) else .stuck
      | none => .stuck
    | none => .stuck
  | .tryH b hs, env, S => match Ss.ev call G b env S with
    | .exc x env1 S1 => if x.fs.isEmpty then (match hdl G x.cls hs with
      | some (some d) => .rt d S1
      | some none => .exc x env1 S1
      | none => .stuck) else .stuck
    | r => r
  | .fset o f e, env, S => (e.ev call G env S).st env fun v S => (o.ev call G env S).st env fun x S => match fsetV G f x v S with
    | some S1 => .nx env S1
    | none => .stuck
  | .aug i op e, env, S => match env[i]? with
    | some (some x) => (e.ev call G env S).st env fun y S => (match augV op x y with
      | some z => .nx (env.set i (some z)) S
      | none => .stuck)
    | _ => .stuck
  | .ex e, env, S => (e.ev call G env S).st env fun _ S => .nx env S
  | .ret e, env, S => (e.ev call G env S).st env fun x S => .rt x S
  | .retN, env, S => .rt .non S
  | .ite c a b, env, S => (c.tst call G env S).st env fun k S => if k then Ss.ev call G a env S else Ss.ev call G b env S
  | .whl c b, env, S => whlGo (fun env S => c.tst call G env S) (fun env S => Ss.ev call G b env S) G.lim env S
  | .for t it b, env, S => (it.ev call G env S).st env fun its S => forGo t its.g (fun env S => Ss.ev call G b env S) its.xs env S
  | .rse k, env, S => .exc ⟨k, []⟩ env S
  | .rseF k f e, env, S => (e.ev call G env S).st env fun d S => .exc ⟨k, [(f, d)]⟩ env S
  | .tryM b hs, env, S => match Ss.ev call G b env S with
    | .exc x env1 S1 => if x.fs.length ≤ 1 ∧ (hs.all fun h => slotOk env1.length h.nm) = true then (match hdlM G x hs with
      | some (some d) => .rt d S1
      | some none => .exc x env1 S1
      | none => .stuck) else .stuck
    | r => r
  | .pas, env, S => .nx env S
  | .brk, env, S => .bk env S
  | .cnt, env, S => .ct env S
  | .nev, env, S => .stuck
def Ss.ev (call : Call) (G : Cfg) : Ss → Env → Store → SR
  | .nil, env, S => .nx env S
  | .cons s ss, env, S => (St.ev call G s env S).seq fun env S => Ss.ev call G ss env S
end
mutual
/-- cells from n on, taken by what they hold -/
def frzW (n : Nat) (r : Nat → Option D) : D → Option D
  | .ref l => if l < n then some (.ref l) else r l
  | .tup xs => (frzWs n r xs).map .tup
  | .lst xs => (frzWs n r xs).map .lst
  | .non => some .non
  | .bl b => some (.bl b)
  | .int i => some (.int i)
  | .str x => some (.str x)
  | .fn k => some (.fn k)
  | .scr k => some (.scr k)
  | .tdc _ _ => none
def frzWs (n : Nat) (r : Nat → Option D) : List D → Option (List D)
  | [] => some []
  | x :: xs => match frzW n r x with
    | some y => (frzWs n r xs).map (y :: ·)
    | none => none
end
def frz (S : Store) (n : Nat) : Nat → D → Option D
  | 0 => frzW n fun _ => none
  | k + 1 => frzW n fun l => match S[l]? with
    | some (.lst xs) => (xs.mapM (frz S n k)).map .lst
    | _ => none
def fin (pure : Bool) (S0 : Store) (d : D) (S : Store) : R D :=
  if pure then (if S.take S0.length = S0 then (match frz S S0.length 3 d with
    | some e => .ok e S0
    | none => .stuck) else .stuck) else .ok d S
/-- an error's fields, taken out of a store that goes -/
def finX (x : Ex) (S S0 : Store) : R D :=
  match x.fs with
  | [] => .exc x S0
  | [(f, d)] => match frz S S0.length 3 d with
    | some e => .exc ⟨x.cls, [(f, e)]⟩ S0
    | none => .stuck
  | _ => .stuck
def finish (pure : Bool) (S0 : Store) (r : SR) : R D :=
  match r with
  | .nx _ S => fin pure S0 .non S
  | .rt d S => fin pure S0 d S
  | .exc x _ S => if pure then (if S.take S0.length = S0 then finX x S S0 else .stuck) else .exc x S
  | _ => .stuck
def run (G : Cfg) : Nat → Call
  | 0, _, _, _ => .stuck
  | n + 1, k, args, S => match G.fns[k]? with
    | some f => if args.length = f.np then finish f.pure S (f.body.ev (run G n) G (args.map some ++ List.replicate (f.nv - f.np) none) S) else .stuck
    | none => .stuck
end Ev
namespace Ev
open PySem PySem.Spec L2 PyProof.Rows
abbrev TKs := List (List L2.Key × Addr × Value)
def foldH : TKs → TKs → TKs
  | acc, [] => acc
  | acc, q :: r => foldH (storedH acc q.1 q.2.1 q.2.2) r
theorem storedH_len (acc : TKs) (k : List L2.Key) (a : Addr) (v : Value) : (storedH acc k a v).length ≤ acc.length + 1 := by
  unfold storedH
  split <;> simp
section
variable {prog : Program} {w : World} {A : Around}
theorem tk_but {h h' : Heap} {x a : Addr} {ks : List L2.Key} (m : (tupleKind (mixKind prog w)).is h ks a)
    (e : ∀ b o, b ≠ x → h.get? b = some o → h'.get? b = some o) (hx : ∃ o, h.get? x = some o ∧ ∀ us n, o.data ≠ .seq us n) : (tupleKind (mixKind prog w)).is h' ks a := by
  obtain ⟨o, us, n, h1, h2, h3, h4⟩ := m
  refine ⟨o, us, n, e a o (fun z => ?_) h1, h2, h3, h4⟩
  obtain ⟨o2, e2, e3⟩ := hx
  rw [← z] at e2
  exact e3 us n (by rw [← Option.some.inj (h1.symm.trans e2)]; exact h3)
theorem dictH_but {h h' : Heap} {d x : Addr} {acc : TKs} (m : h.DictOfH (tupleKind (mixKind prog w)) d acc) (hd : d ≠ x)
    (e : ∀ b o, b ≠ x → h.get? b = some o → h'.get? b = some o) (hx : ∃ o, h.get? x = some o ∧ ∀ us n, o.data ≠ .seq us n) : h'.DictOfH (tupleKind (mixKind prog w)) d acc := by
  obtain ⟨o, es, ep, m1, m2, m3, m4, m5, m6⟩ := m
  exact ⟨o, es, ep, e d o hd m1, m2, m3, m4, fun q hq => tk_but (m5 q hq) e hx, m6⟩
theorem it_notseq {h : Heap} {I l : Addr} {i : Nat} (hi : h.IsListIter I l i) : ∃ o, h.get? I = some o ∧ ∀ us n, o.data ≠ .seq us n := by
  obtain ⟨o, h1, h2, h3⟩ := hi
  exact ⟨o, h1, fun us n z => by rw [h3] at z; exact nomatch z⟩
theorem turnH {R : Result → Shared → Prop} {S I l : Addr} {items : Array Value} {res : Value} (hh : A.handled = none) (hu : A.in1.units < cLine)
    (n1 : l ≠ I) (n2 : S ≠ I) (n3 : S ≠ l) :
    ∀ (rest : TKs) (i : Nat) (acc : TKs) (ix : Int) (t : Tok) (s : Shared), items.size = i + rest.length → acc.length + rest.length ≤ sizeLine →
      (∀ (j : Nat) (q : List L2.Key × Addr × Value), rest[j]? = some q → ∃ b : Addr, items[i + j]? = some (.ref b) ∧ b ≠ S ∧ b ≠ I ∧
        IsTup s.heap b #[.ref q.2.1, q.2.2] ∧ (tupleKind (mixKind prog w)).is s.heap q.1 q.2.1) →
      s.heap.IsListIter I l i → s.heap.IsList l items → s.heap.DictOfH (tupleKind (mixKind prog w)) S acc →
      (∀ h' tk, h'.DictOfH (tupleKind (mixKind prog w)) S (foldH acc rest) →
        (∀ b o, b ≠ S → b ≠ I → s.heap.get? b = some o → h'.get? b = some o) → R (.ok (.ret res)) { s with heap := h', toks := tk }) →
      codeAny (model prog w) A (.builtin "dict.update.loop" ⟨[.ref S, .ref I, .int ix t, res], []⟩) R s := by
  intro rest
  induction rest with
  | nil =>
    intro i acc ix t s hsz _ _ hit hl hm hR
    have hnone : items[i]? = none := Array.getElem?_eq_none (by simp at hsz; omega)
    refine codeAny_builtin ud_entry ?_
    rw [Around.under_plainId ud_plain _]
    show wpAny _ A.in1 (pyNext (.ref I) >>= _) _ _ s
    refine wpAny_bind (wpAny_pyNext_list_end (A := A.in1) hh hit hl hnone fun h' he => ?_)
    show wpAny _ A.in1 (Builtin.Dict.addKeywords S [] >>= _) _ _ _
    refine wpAny_bind (wpAny_pure (wpAny_pure ?_))
    exact hR h' s.toks (dictH_but hm n2 (fun b o hb e => he b o hb e) (it_notseq hit)) fun b o _ hb e => he b o hb e
  | cons q rest ih =>
    intro i acc ix t s hsz hln ht hit hl hm hR
    obtain ⟨b, hb, bS, bI, htup, hk⟩ := ht 0 q rfl
    rw [List.length_cons] at hsz hln
    refine codeAny_builtin ud_entry ?_
    rw [Around.under_plainId ud_plain _]
    show wpAny _ A.in1 (pyNext (.ref I) >>= _) _ _ s
    refine wpAny_bind (wpAny_pyNext_list_item (x := .ref b) hit hl (by simpa using hb) fun h1 hit1 hs1 => ?_)
    have k1 : ∀ c o, c ≠ I → s.heap.get? c = some o → h1.get? c = some o := fun c o hc e => hs1.extBut c o hc e
    have htup1 : IsTup h1 b #[.ref q.2.1, q.2.2] := htup.extBut hs1.extBut bI
    have hl1 : h1.IsList l items := hl.extBut hs1.extBut n1
    have hm1 := dictH_but hm n2 k1 (it_notseq hit)
    have hk1 := tk_but hk k1 (it_notseq hit)
    obtain ⟨o, ho, hc, n, hd⟩ := id htup1
    show wpAny _ A.in1 (holding [Value.ref b] _ >>= _) _ _ _
    refine wpAny_bind (wpAny_holding ?_)
    refine wpAny_bind (wpAny_tryCatch ?_)
    unfold Builtin.Dict.pairItems
    refine wpAny_bind (wpAny_typeOf (T := "tuple") ⟨o, ho, hc⟩ ?_)
    rw [if_pos (by first | decide | rfl | simp)]
    refine wpAny_bind (wpAny_seqItems ho hd (wpAny_pure ?_))
    show wpAny _ A.in1 (holding [.ref q.2.1, q.2.2] (dictSet S (.ref q.2.1) q.2.2)) _ _ _
    refine wpAny_holding (wpAny_dictSet_heap (knd := tupleKind (mixKind prog w)) (k := q.1) hu hk1 hm1 (fun h2 hm2 hs2 => ?_) (by omega))
    obtain ⟨oS, esS, epS, mS, _, dS, _⟩ := id hm1
    refine wpAny_pure ⟨plainId_quiet ud_plain _, ih (i + 1) (storedH acc q.1 q.2.1 q.2.2) (ix + 1) 0 _ (by omega) ?_ (fun j q' e => ?_) ?_ ?_ hm2 fun h' tk hd' k => ?_⟩
    · have z := storedH_len acc q.1 q.2.1 q.2.2
      omega
    · obtain ⟨b', hb', bS', bI', htup', hk'⟩ := ht (j + 1) q' (by simpa using e)
      refine ⟨b', ?_, bS', bI', (htup'.extBut hs1.extBut bI').extBut hs2.extBut bS', ?_⟩
      · rw [show i + 1 + j = i + (j + 1) by omega]
        exact hb'
      · exact (tupleKind (mixKind prog w)).keeps (tk_but hk' k1 (it_notseq hit)) mS dS hs2
    · exact hit1.at fun o' e => hs2.extBut I o' (Ne.symm n2) e
    · exact hl1.extBut hs2.extBut (Ne.symm n3)
    · exact hR h' tk hd' fun c oc h3 h4 e => k c oc h3 h4 (hs2.extBut c oc h3 (hs1.extBut c oc h4 e))
end
end Ev
namespace Ev
open PySem PySem.Spec L2 PyProof.Rows
section
variable {prog : Program} {w : World} {A : Around} {E : Value → Shared → Prop}
/-- dict(l) of a list of pairs whose first is a tuple -/
theorem dictH_call {s : Shared} {l : Addr} {ol : Obj} {items : Array Value} {n : Nat} {prs : TKs} {Q : Value → Shared → Prop} (hh : A.handled = none) (hu : A.in1.in1.units < cLine)
    (hl : s.heap.get? l = some ol) (hc : ol.cls = .type "list") (hd : ol.dict = none)
    (hdat : ol.data = .seq items n) (hsz : items.size = prs.length) (hln : prs.length ≤ sizeLine)
    (ht : ∀ (j : Nat) (q : List L2.Key × Addr × Value), prs[j]? = some q → ∃ b : Addr, items[j]? = some (.ref b) ∧
      IsTup s.heap b #[.ref q.2.1, q.2.2] ∧ (tupleKind (mixKind prog w)).is s.heap q.1 q.2.1)
    (h : ∀ h' tk, h'.DictOfH (tupleKind (mixKind prog w)) s.heap.objs.size (foldH [] prs) →
      (∀ b o, s.heap.get? b = some o → h'.get? b = some o) → Q (.ref s.heap.objs.size) { s with heap := h', toks := tk }) :
    wpAny (model prog w) A (call (.type "dict") [.ref l]) Q E s := by
  refine callType_codes (Q₁ := fun ob z => ob = .ref s.heap.objs.size ∧ z = { s with heap := s.heap.push { cls := .type "dict", data := .dict #[] } })
    PySem.F.kt_called_dict (PySem.F.kt_typeCall_dict_1 _) PySem.F.entry_dict_init (kt_code_dict_new _ ⟨rfl, rfl⟩) ?_
  rintro ob z ⟨rfl, rfl⟩
  have hnew : (s.heap.push { cls := .type "dict", data := .dict #[] }).DictOfH (tupleKind (mixKind prog w)) s.heap.objs.size [] := Heap.DictOfH.new s.heap
  have k0 : ∀ b o, s.heap.get? b = some o → (s.heap.push { cls := .type "dict", data := .dict #[] }).get? b = some o := fun b o e => Heap.get?_push_of_some _ e
  refine ⟨hnew.typeIs, PySem.F.args_dict_init_2 _ _, ?_⟩
  unfold Builtin.«dict.__init__»
  refine wpAny_bind ?_
  unfold Builtin.Dict.selfAndRest
  refine wpAny_bind (wpAny_notOrdered_dict hnew.typeIs ?_)
  show wpAny _ _ (pure (s.heap.objs.size, [Value.ref l])) _ _ _
  refine wpAny_pure ?_
  show wpAny _ _ (Builtin.Dict.updateFrom "dict.__init__" s.heap.objs.size (.ref l) [] .none) _ _ _
  unfold Builtin.Dict.updateFrom
  refine wpAny_bind (wpAny_typeOf (T := "list") ⟨ol, k0 _ _ hl, hc⟩ ?_)
  rw [if_pos (by first | decide | rfl | simp)]
  refine wpAny_bind (miss_list (k0 _ _ hl) hc hdat hd hh fun h1 tk1 hk1 => ?_)
  rw [if_pos (show (none : Option Value).isNone = true from rfl)]
  refine wpAny_bind (wpAny_rule ?_)
  have hl1 : h1.IsList l items := ⟨ol, hk1 _ _ (k0 _ _ hl), hc, n, hdat⟩
  have hS1 : s.heap.objs.size < h1.objs.size := Heap.lt_size (hk1 _ _ (Heap.get?_push_size s.heap (o := { cls := .type "dict", data := .dict #[] }) rfl))
  refine wpAny_bind (wpAny_pyIter_list hl1 ?_)
  have k2 : ∀ b o, h1.get? b = some o → (h1.push { cls := .type "list_iterator", data := .fields #[.ref l, .int 0 0] }).get? b = some o := fun b o e => Heap.get?_push_of_some _ e
  have k3 : ∀ b o, s.heap.get? b = some o → (h1.push { cls := .type "list_iterator", data := .fields #[.ref l, .int 0 0] }).get? b = some o := fun b o e => k2 b o (hk1 b o (k0 b o e))
  have hlt : l < s.heap.objs.size := Heap.lt_size hl
  have tkk : ∀ {ha hb : Heap} {a : Addr} {ks : List L2.Key}, (∀ b o, ha.get? b = some o → hb.get? b = some o) → (tupleKind (mixKind prog w)).is ha ks a → (tupleKind (mixKind prog w)).is hb ks a :=
    fun e m => by
      obtain ⟨o, us, n, h1, h2, h3, h4⟩ := m
      exact ⟨o, us, n, e _ o h1, h2, h3, h4⟩
  have hdic : (h1.push { cls := .type "list_iterator", data := .fields #[.ref l, .int 0 0] }).DictOfH (tupleKind (mixKind prog w)) s.heap.objs.size [] := by
    obtain ⟨o, es, ep, m1, m2, m3, m4, m5, m6⟩ := hnew
    exact ⟨o, es, ep, k2 _ _ (hk1 _ _ m1), m2, m3, m4, fun q hq => (nomatch hq), m6⟩
  have key := turnH (prog := prog) (w := w) (A := A.in1) (R := wants (fun r s₂ => r = .none ∧ Q (.ref s.heap.objs.size) s₂) E) (S := s.heap.objs.size) (I := h1.objs.size) (l := l) (items := items) (res := Value.none) hh hu
    (Nat.ne_of_lt (Nat.lt_trans hlt hS1)) (Nat.ne_of_lt hS1) (Nat.ne_of_gt hlt) prs 0 [] 0 0
    { s with heap := h1.push { cls := .type "list_iterator", data := .fields #[.ref l, .int 0 0] }, toks := tk1 } (by rw [hsz, Nat.zero_add]) (by rw [List.length_nil, Nat.zero_add]; exact hln)
    (fun j q e => by
      obtain ⟨b, e1, e2, e3⟩ := ht j q e
      have hb : b < s.heap.objs.size := e2.lt
      exact ⟨b, by rw [Nat.zero_add]; exact e1, Nat.ne_of_lt hb, Nat.ne_of_lt (Nat.lt_trans hb hS1), e2.keeps k3, tkk k3 e3⟩)
    ⟨_, Heap.get?_push_size _ rfl, rfl, rfl⟩ (hl1.at fun o e => k2 _ _ e) hdic
    (fun h' tk hd' k => ⟨rfl, h h' tk hd' fun b o e => k b o (Nat.ne_of_lt (Heap.lt_size e)) (Nat.ne_of_lt (Nat.lt_trans (Heap.lt_size e) hS1)) (k3 _ _ e)⟩)
  first
    | exact wpAny_pure ⟨plainId_quiet ud_plain _, key⟩
    | exact wpAny_bind (wpAny_pure (wpAny_pure ⟨plainId_quiet ud_plain _, key⟩))
end
end Ev
namespace Ev
open PySem PySem.Spec L2 PyProof.Rows
abbrev TVs := List (List L2.Key × Addr × V)
abbrev TRel : TVs → TKs → Prop := Paired fun p q => p.1 = q.1 ∧ p.2.1 = q.2.1 ∧ RelV p.2.2 q.2.2
def DictS (P : Program) (w : World) (a : Addr) (tvs : TVs) : HO := .ext fun h => (a == sysModules) = false ∧ ∃ xs : TKs, TRel tvs xs ∧ ∃ o es ep, h.get? a = some o ∧ o.ExactDict ∧ o.data = .dict es ep ∧
  es.toList = xs.map (entryOfKey (tupleKind (mixKind P w))) ∧ (xs.map (·.1)).Nodup
def setTV (acc : TVs) (k : List L2.Key) (a : Addr) (v : V) : TVs := if (acc.any fun q => decide (q.1 = k)) then acc.map (fun q => if q.1 = k then (q.1, q.2.1, v) else q) else acc ++ [(k, a, v)]
def foldV : TVs → TVs → TVs
  | acc, [] => acc
  | acc, q :: r => foldV (setTV acc q.1 q.2.1 q.2.2) r
theorem TRel.any {l : TVs} {m : TKs} (r : TRel l m) (k : List L2.Key) : (l.any fun q => decide (q.1 = k)) = (atKey m k).isSome := by
  induction r with
  | nil => rfl
  | @cons p q ps qs h t ih =>
    rw [List.any_cons, ih]
    by_cases e : p.1 = k
    · simp [e, atKey, List.find?_cons, ← h.1]
    · simp [e, atKey, List.find?_cons, ← h.1]
theorem TRel.mapd {l : TVs} {m : TKs} (r : TRel l m) (k : List L2.Key) {v : V} {u : Value} (rv : RelV v u) :
    TRel (l.map fun q => if q.1 = k then (q.1, q.2.1, v) else q) (m.map (putAt k u)) := by
  induction r with
  | nil => exact .nil
  | @cons p q ps qs h t ih =>
    refine .cons ?_ ih
    unfold putAt
    dsimp only
    rw [← h.1]
    by_cases e : p.1 = k
    · rw [if_pos e, if_pos e]
      exact ⟨rfl, h.2.1, rv⟩
    · rw [if_neg e, if_neg e]
      exact h
theorem TRel.put {l : TVs} {m : TKs} (r : TRel l m) (k : List L2.Key) (a : Addr) {v : V} {u : Value} (rv : RelV v u) : TRel (setTV l k a v) (storedH m k a u) := by
  unfold setTV storedH
  rw [r.any k]
  split
  · exact r.mapd k rv
  · exact Paired.snoc r ⟨rfl, rfl, rv⟩
theorem TRel.fold : ∀ {r : TVs} {m : TKs} {acc : TVs} {xs : TKs}, TRel r m → TRel acc xs → TRel (foldV acc r) (foldH xs m)
  | _, _, _, _, .nil, k => k
  | _, _, _, _, .cons (a := p) (b := q) h t, k => by
    have z := TRel.fold t (k.put p.1 p.2.1 h.2.2)
    simp only [foldV, foldH]
    rw [← h.1, ← h.2.1]
    exact z
section
variable {X : Cx} {pins : List (Addr × Obj)} {σ : L2.St} {H : Hp} {s : Shared}
theorem key_ofS (I : Inv X pins σ H s) {a : Addr} {ks : List L2.Key} (h : SqT X.K H a (ks.map kV)) : (tupleKind (mixKind X.prog X.w)).is s.heap ks a := by
  obtain ⟨its, r, ⟨o, h1, h2, n, h3⟩, _⟩ := I.tuple h
  exact ⟨o, its.toArray, n, h1, h2, h3, by simpa using items_are r⟩
theorem pairsS_of (I : Inv X pins σ H s) : ∀ {ps : List Addr} {kvs : TVs}, Paired (fun p kv => SqT X.K H p [.ref kv.2.1, kv.2.2] ∧ SqT X.K H kv.2.1 (kv.1.map kV)) ps kvs →
    ∃ prs : TKs, TRel kvs prs ∧ prs.length = ps.length ∧
      ∀ (j : Nat) (q : List L2.Key × Addr × Value), prs[j]? = some q → ∃ b : Addr, ps[j]? = some b ∧ IsTup s.heap b #[.ref q.2.1, q.2.2] ∧ (tupleKind (mixKind X.prog X.w)).is s.heap q.1 q.2.1
  | _, _, .nil => ⟨[], .nil, rfl, fun j q e => by simp at e⟩
  | _, _, .cons (a := p) (b := kv) h t => by
    obtain ⟨prs, r, hl, hp⟩ := pairsS_of I t
    obtain ⟨its, rv, ht, _⟩ := I.tuple h.1
    obtain ⟨u, y, ei, ru, ry⟩ := vals2 rv
    subst ei
    cases (show u = Value.ref kv.2.1 from ru)
    refine ⟨(kv.1, kv.2.1, y) :: prs, .cons ⟨rfl, rfl, ry⟩ r, by simp [hl], fun j q e => ?_⟩
    cases j with
    | zero =>
      cases (Option.some.inj e : (kv.1, kv.2.1, y) = q)
      exact ⟨p, rfl, ht, key_ofS I h.2⟩
    | succ j => exact hp j q (by simpa using e)
end
theorem call_dictS {X : Cx} (hcalm : X.calm = true) (hu : X.A.in1.in1.units < cLine) : CallR X (.type "dict") (fun xs H Q => ∃ (a : Addr) (ps : List Addr) (kvs : TVs), xs = [.ref a] ∧
    SqL X.K H a (ps.map V.ref) ∧ Paired (fun p kv => SqT X.K H p [.ref kv.2.1, kv.2.2] ∧ SqT X.K H kv.2.1 (kv.1.map kV)) ps kvs ∧
    ∀ p, H p = none → Q (.ref p) (upd H p (DictS X.prog X.w p (foldV [] kvs)))) := by
  intro pins s σ H xs us Q I r q
  obtain ⟨a, ps, kvs, ex, hq, hp, q⟩ := q
  subst ex
  obtain ⟨u, eu, rx⟩ := vals1 r
  subst eu
  cases rx
  obtain ⟨its, rv, pl, hz⟩ := I.list hq
  cases refs_at rv
  rw [List.length_map] at hz
  obtain ⟨prs, rel, hl, hpr⟩ := pairsS_of I hp
  obtain ⟨o, n, ho, hc, hd, hdat⟩ := pl
  refine dictH_call (prs := prs) (I.ok.hd hcalm) hu ho hc hd hdat (by simp [hl]) (by rw [hl]; exact hz) (fun j q' e => ?_) fun h' tk hd' k => ?_
  · obtain ⟨b, e1, e2⟩ := hpr j q' e
    exact ⟨b, by simp [e1], e2⟩
  · have hn : H s.heap.objs.size = none := I.hok.fresh (Nat.le_refl _)
    obtain ⟨o2, es, ep, m1, m2, m3, m4, _, m6⟩ := hd'
    refine ⟨.ref s.heap.objs.size, upd H s.heap.objs.size (DictS X.prog X.w s.heap.objs.size (foldV [] kvs)), I.laid (t' := tk) k (Nat.le_refl _) ?_, rfl, q _ hn⟩
    refine ⟨⟨beq_eq_false_iff_ne.mpr (Nat.ne_of_gt I.big), _, rel.fold .nil, o2, es, ep, m1, m2, m3, m4, m6⟩, ⟨o2, m1⟩, ?_⟩
    rintro h1 h2 ⟨sm, xs, t, o3, es3, ep3, n1, n2⟩ e
    exact ⟨sm, xs, t, o3, es3, ep3, e _ n1, n2⟩
end Ev
namespace Ev
open PySem PySem.Spec L2 PyProof.Rows
def valT (l : TVs) (k : List L2.Key) : Option V := (l.find? fun q => decide (q.1 = k)).map (·.2.2)
theorem TRel.val {l : TVs} {m : TKs} (r : TRel l m) (k : List L2.Key) : RelO (valT l k) ((atKey m k).map (·.2)) := by
  induction r with
  | nil => exact True.intro
  | @cons p q ps qs h t ih =>
    obtain ⟨h1, _, h2⟩ := h
    by_cases e : p.1 = k
    · have e' : q.1 = k := h1.symm.trans e
      have b : atKey (q :: qs) k = some q.2 := by simp [atKey, List.find?_cons, e']
      have c : valT (p :: ps) k = some p.2.2 := by simp [valT, List.find?_cons, e]
      rw [c, b]; exact h2
    · have e' : ¬ q.1 = k := fun z => e (h1.trans z)
      have b : atKey (q :: qs) k = atKey qs k := by simp [atKey, List.find?_cons, e']
      have c : valT (p :: ps) k = valT ps k := by simp [valT, List.find?_cons, e]
      rw [c, b]; exact ih
/-- such a dict, or one that is walked -/
def IsDS (P : Program) (w : World) (H : Hp) (a : Addr) (tvs : TVs) : Prop := H a = some (DictS P w a tvs) ∨ ∃ od, H a = some (.frz od (DictS P w a tvs))
/-- what is known of such a dict, and of the key that is asked -/
def DAsk (P : Program) (w : World) (K : PySem.W.Frag) (H : Hp) (a : Addr) (y : V) (r : Option V) : Prop :=
  ∃ (tvs : TVs) (b : Addr) (k : List L2.Key), IsDS P w H a tvs ∧ (∀ q ∈ tvs, SqT K H q.2.1 (q.1.map kV)) ∧ y = .ref b ∧ SqT K H b (k.map kV) ∧ r = valT tvs k
section
variable {X : Cx} {pins : List (Addr × Obj)} {σ : L2.St} {H : Hp} {s : Shared} {a : Addr} {A : Around} {E : Value → Shared → Prop} {y : V} {u : Value}
theorem dS_hok (I : Inv X pins σ H s) {tvs : TVs} (e : IsDS X.prog X.w H a tvs) : ObjOk X.prog X.w H s.heap a (DictS X.prog X.w a tvs) := by
  rcases e with e | ⟨od, e⟩
  · exact I.hok a _ e
  · exact (show _ ∧ _ from I.hok a _ e).2
theorem dS_rd (I : Inv X pins σ H s) {tvs : TVs} (e : IsDS X.prog X.w H a tvs) (hk : ∀ q ∈ tvs, SqT X.K H q.2.1 (q.1.map kV)) :
    (a == sysModules) = false ∧ ∃ xs, TRel tvs xs ∧ s.heap.DictOfH (tupleKind (mixKind X.prog X.w)) a xs := by
  obtain ⟨⟨sm, xs, r, o, es, ep, n1, n2, n3, n4, n5⟩, -⟩ := dS_hok I e
  refine ⟨sm, xs, r, o, es, ep, n1, n2, n3, n4, ?_, n5⟩
  clear n4 n5 e
  induction r with
  | nil => exact fun x hx => nomatch hx
  | @cons p q ps qs h t ih =>
    intro x hx
    rcases List.mem_cons.mp hx with e | hx
    · subst e
      rw [← h.1, ← h.2.1]
      exact key_ofS I (hk p (List.mem_cons_self ..))
    · exact ih (fun z hz => hk z (List.mem_cons_of_mem _ hz)) x hx
theorem dS_item {v : V} {Q : Value → Shared → Prop} (hu : A.units + 1 < cLine) (I : Inv X pins σ H s) (g : DAsk X.prog X.w X.K H a y (some v)) (ry : RelV y u)
    (h : ∀ w' s', Inv X pins σ H s' → RelV v w' → Q w' s') : wpAny (model X.prog X.w) A (getItem (.ref a) u) Q E s := by
  obtain ⟨tvs, b, k, e, hk, ey, eb, l⟩ := g
  subst ey
  cases (show u = Value.ref b from ry)
  obtain ⟨_, xs, rel, dd⟩ := dS_rd I e hk
  obtain ⟨w', hw, rw'⟩ := RelO.some_of (v := v) (o := (atKey xs k).map (·.2)) (by rw [l]; exact rel.val k)
  obtain ⟨p, hp, hp2⟩ := Option.map_eq_some_iff.mp hw
  refine wpAny_getItem_heap (tupleKind_room_in1 hu) (key_ofS I eb) dd hp ?_
  rw [hp2]
  exact h w' _ (I.tok _) rw'
theorem dS_notIn {r : Option V} {Q : Value → Shared → Prop} (hu : A.units + 1 < cLine) (I : Inv X pins σ H s) (g : DAsk X.prog X.w X.K H a y r) (ry : RelV y u)
    (h : ∀ s', Inv X pins σ H s' → Q (.bool (!r.isSome)) s') : wpAny (model X.prog X.w) A (compareOp .NotIn u (.ref a)) Q E s := by
  obtain ⟨tvs, b, k, e, hk, ey, eb, l⟩ := g
  subst ey
  cases (show u = Value.ref b from ry)
  obtain ⟨sm, xs, rel, dd⟩ := dS_rd I e hk
  refine wpAny_notIn_heap (tupleKind_room_in1 hu) (key_ofS I eb) sm dd ?_
  have q := (rel.val k).isSome_eq
  rw [Option.isSome_map] at q
  rw [← q, ← l]
  exact h _ (I.tok _)
theorem dS_in {r : Option V} {Q : Value → Shared → Prop} (hu : A.units + 1 < cLine) (I : Inv X pins σ H s) (g : DAsk X.prog X.w X.K H a y r) (ry : RelV y u)
    (h : ∀ s', Inv X pins σ H s' → Q (.bool r.isSome) s') : wpAny (model X.prog X.w) A (compareOp .In u (.ref a)) Q E s := by
  obtain ⟨tvs, b, k, e, hk, ey, eb, l⟩ := g
  subst ey
  cases (show u = Value.ref b from ry)
  obtain ⟨sm, xs, rel, dd⟩ := dS_rd I e hk
  refine wpAny_in_heap (tupleKind_room_in1 hu) (key_ofS I eb) sm dd ?_
  have q := (rel.val k).isSome_eq
  rw [Option.isSome_map] at q
  rw [← q, ← l]
  exact h _ (I.tok _)
theorem dS_type (I : Inv X pins σ H s) {r : Option V} (g : DAsk X.prog X.w X.K H a y r) : s.TypeIs (.ref a) "dict" := by
  obtain ⟨tvs, b, k, e, hk, _⟩ := g
  obtain ⟨_, xs, _, dd⟩ := dS_rd I e hk
  exact dd.typeIs
end
/-- rules: an item, in, not in -/
def rIxS (P : Program) (w : World) (K : PySem.W.Frag) : R2 := fun x y H Q => ∃ a v, x = .ref a ∧ DAsk P w K H a y (some v) ∧ Q v H
def rInS (P : Program) (w : World) (K : PySem.W.Frag) (f : Bool → Bool) : R2 := fun x y H Q => ∃ a r, y = .ref a ∧ DAsk P w K H a x r ∧ Q (.bl (f r.isSome)) H
theorem ix_dS {X : Cx} (hu : X.A.units + 1 < cLine) : IxR X (rIxS X.prog X.w X.K) := by
  intro value slice pins s σ H x y v u Q I rx ry h hs
  obtain ⟨a, r, rfl, g, q⟩ := h
  cases rx
  exact tail_any (dS_type I g) PySem.F.slot_dict_getitem.lookup (dS_item hu I g ry fun w' s' I' rw' => ⟨r, H, I', rw', q⟩) hs
theorem op_inS {X : Cx} (hu : X.A.units + 1 < cLine) : OpR X (compareOp .In) (rInS X.prog X.w X.K id) := by
  intro pins s σ H x y v u Q I rx ry h
  obtain ⟨a, r, rfl, g, q⟩ := h
  cases ry
  exact dS_in hu I g rx fun s' I' => ⟨.bl r.isSome, H, I', rfl, q⟩
theorem op_notinS {X : Cx} (hu : X.A.units + 1 < cLine) : OpR X (compareOp .NotIn) (rInS X.prog X.w X.K not) := by
  intro pins s σ H x y v u Q I rx ry h
  obtain ⟨a, r, rfl, g, q⟩ := h
  cases ry
  exact dS_notIn hu I g rx fun s' I' => ⟨.bl (!r.isSome), H, I', rfl, q⟩
end Ev
namespace Ev
open PySem PySem.Spec L2 PyProof.Rows
section
variable {X : Cx} {pos : Pos}
/-- a, *b = a list -/
def gStar (K : PySem.W.Frag) (i j : Nat) : TG := fun v σ H Q => ∃ a x r, v = .ref a ∧ SqL K H a (x :: r) ∧ ∀ p, H p = none → Q ((σ.set i (some x)).set j (some (.ref p))) (upd H p (.lst r))
theorem pg_star {i j : Nat} {x y : Str} {k : Nat} {p q r : Pos} (hc : X.calm = true) (hN : X.N.Nodup) (hi : X.N[i]? = some x) (hx : Loc X.env.scope x) (hf : X.fn x = true ∨ X.env.scope.names.lookup x = some .local)
    (hj : X.N[j]? = some y) (hy : Loc X.env.scope y) (hg : X.fn y = true ∨ X.env.scope.names.lookup y = some .local) : PG X (.Tuple [.Name x p, .Starred (.Name y q) r] k pos) (gStar X.K i j) := by
  refine ⟨fun pins s σ H v u Q I rv hw => ?_⟩
  obtain ⟨a, d, rest, e1, hq, hw⟩ := hw
  subst e1
  cases rv
  have hh := I.ok.hd hc
  obtain ⟨its, vals, pl, hz⟩ := I.list hq
  cases vals with
  | @cons _ u _ us ru rr =>
  have hl := pl.isList
  have hap : a ≠ s.heap.objs.size := fun z => by
    obtain ⟨o, ho, _⟩ := hl
    rw [z] at ho
    exact absurd (Heap.lt_size ho) (Nat.lt_irrefl _)
  have one : assignEach [.Name x p, .Starred (.Name y q) r] X.env = [(false, assign (.Name x p) X.env), (true, assign (.Name y q) X.env)] := rfl
  rw [PyProof.Rows.assign_Tuple]
  refine wpAny_bind (wpAny_standAt ?_)
  rw [one]
  show wpAny _ _ (holding [.ref a] (unpackItems (.ref a) 2 (some 1)) >>= fun us => assignInOrder [assign (.Name x p) X.env, assign (.Name y q) X.env] us) _ _ _
  refine wpAny_bind (wpAny_holding ?_)
  unfold unpackItems notIterableAtAll
  refine wpAny_bind (wpAny_bind (wpAny_specialOf hl.typeIs slot_list_iter.lookup (wpAny_pure ?_)))
  rw [if_neg (by decide)]
  refine wpAny_bind (wpAny_holding (wpAny_pyIter_list hl ?_))
  have sz : (u :: us).toArray.size = us.length + 1 := by simp
  have h1 : (u :: us).length = (d :: rest).length := by
    have := rr.length
    simp [this]
  have hsz : us.length + 1 ≤ sizeLine := by
    rw [List.length_cons, rr.length] at hz
    exact hz
  refine wpAny_bind (wpAny_holding (PySem.W.kun_draw hap 1 0 _ _ ⟨_, Heap.get?_push_size _ rfl, rfl, rfl⟩ (hl.push _) (by rw [sz]; omega) fun g1 it1 sb1 => ?_))
  have hlg : g1.IsList a (u :: us).toArray := (hl.push _).extBut sb1.extBut hap
  have e0 : (((u :: us).toArray.toList.drop 0).take 1) = [u] := by simp
  rw [e0]
  show wpAny _ _ (if [u].length < 1 then _ else _) _ _ _
  rw [if_neg (by simp)]
  obtain ⟨oi, hoi, _⟩ := id it1
  obtain ⟨ol, hol, _⟩ := id hlg
  refine wpAny_bind (wpAny_holding (PySem.W.kun_collect (s := { s with heap := g1 }) (T := "list_iterator") (.inr (.inr (.inl rfl))) (Walks.list (A := X.A.in1) hh s.heap.objs.size a hap (u :: us).toArray) (fun m z st => st.1.typeIs) (k := 1)
    (by rw [sz]; omega) ⟨it1, hlg⟩ (Heap.lt_size hoi) (Heap.lt_size hol) (fun g2 tk hk => ?_) (by rw [sz]; exact hsz)))
  have ed : ((u :: us).toArray.toList.drop 1) = us := by simp
  rw [ed]
  show wpAny _ _ (if us.length < 2 - 1 - 1 then _ else _) _ _ _
  rw [if_neg (by omega)]
  show wpAny _ _ (newList (us.take (us.length - (2 - 1 - 1))) >>= fun z => pure ([u] ++ [z] ++ us.drop (us.length - (2 - 1 - 1)))) _ _ _
  have et : us.take (us.length - (2 - 1 - 1)) = us := by simp
  have ev : us.drop (us.length - (2 - 1 - 1)) = [] := by simp
  rw [et, ev]
  have keep : ∀ b o, s.heap.get? b = some o → g2.get? b = some o := fun b o e => by
    have hb : b ≠ s.heap.objs.size := Nat.ne_of_lt (Heap.lt_size e)
    exact hk b o hb (sb1.extBut b o hb (Heap.get?_push_of_some _ e))
  have I1 : Inv X pins σ H { s with heap := g2, toks := tk } := I.kept keep
  refine wpAny_bind (PySem.wpAny_newList ?_ (by omega))
  refine wpAny_pure ?_
  have nw : H g2.objs.size = none := I1.hok.fresh (Nat.le_refl _)
  have I2 := I1.laid (a := g2.objs.size) (o := .lst rest) (h' := g2.push { cls := .type "list", data := .seq us.toArray }) (t' := tk) (fun _ _ e => Heap.get?_push_of_some _ e) (Nat.le_refl _) ⟨by rw [rr.length]; omega, us, 0, rr, Heap.get?_push_size _ rfl⟩
  have g := pgs_cons (X := X) (pg_name (pos := p) (i := i) hN hi hx hf) (pgs_cons (pg_name (pos := q) (i := j) hN hj hy hg) pgs_nil (by rfl)) (by rfl)
  exact g.run pins _ σ _ [d, .ref g2.objs.size] [u, .ref g2.objs.size] Q I2 (.cons ru (.cons rfl .nil)) ⟨d, _, rfl, _, _, rfl, rfl, hw _ nw⟩
/-- o.f -/
def gFld (K : PySem.W.Frag) (ta : TE) (f : Str) : TG := fun y σ H Q => ta σ H fun x H2 => ∃ a C dx fs, x = .ref a ∧ H2 a = some (.ins C dx fs) ∧ Cls K C ∧ NoAttr K C f ∧ fs.length < 1000 ∧ Q σ (upd H2 a (.ins C dx (putF f y fs)))
theorem pg_fld {o : Expr} {f : Str} {ta : TE} (ha : PE X o ta) : PG X (.Attribute o f pos) (gFld X.K ta f) := by
  refine ⟨fun pins s σ H v u Q I r h => ?_⟩
  show wpAny _ _ (holding [u] (eval o X.env) >>= fun ov => _) _ _ _
  refine wpAny_bind (wpAny_holding (thn (ha.run pins s σ H _ I h) fun ov s2 ⟨x, H2, I2, rx, a, C, dx, fs, ex, ea, c, n, l, q2⟩ => ?_))
  subst ex
  obtain rfl : ov = Value.ref a := rx
  refine wpAny_bind (wpAny_standAt (wpAny_bind (wpAny_holding (setattr_ok I2 ea c n l r fun s3 I3 => ?_))))
  exact wpAny_release ⟨σ, _, I3, q2⟩
end
end Ev
namespace Ev
open PySem PySem.Spec L2 PyProof.Rows
section
variable {P : Program} {w : World} {h : Heap} {a : Addr}
/-- such an object stands -/
theorem dictS_ok {H : Hp} {tvs : TVs} {xs : TKs} (sm : (a == sysModules) = false) (r : TRel tvs xs) (d : h.DictOfH (tupleKind (mixKind P w)) a xs) : ObjOk P w H h a (DictS P w a tvs) := by
  obtain ⟨o, es, ep, e, x, dd, l, _, nd⟩ := d
  refine ⟨⟨sm, xs, r, o, es, ep, e, x, dd, l, nd⟩, ⟨o, e⟩, ?_⟩
  rintro g1 g2 ⟨sm', xs', r', o', es', ep', f1, f2⟩ k
  exact ⟨sm', xs', r', o', es', ep', k _ f1, f2⟩
theorem mut_dictS {H : Hp} {tvs : TVs} (e : H a = some (DictS P w a tvs)) : Mut (H a) := by
  rw [e]
  unfold DictS
  exact True.intro
end
section
variable {X : Cx} {pins : List (Addr × Obj)} {σ : L2.St} {H : Hp} {s : Shared} {a : Addr} {A : Around} {E : Value → Shared → Prop} {y : V} {u : Value}
theorem TRel.len {l : TVs} {m : TKs} (r : TRel l m) : l.length = m.length := Paired.length r
/-- d[t] = v -/
theorem dS_put {tvs : TVs} {k : List L2.Key} {b : Addr} {v : V} {r : Value} {Q : Unit → Shared → Prop} (hu : A.units + 1 < cLine) (I : Inv X pins σ H s) (e : H a = some (DictS X.prog X.w a tvs)) (hk : ∀ q ∈ tvs, SqT X.K H q.2.1 (q.1.map kV))
    (eb : SqT X.K H b (k.map kV)) (hl : tvs.length < sizeLine) (rv : RelV v r) (h : ∀ s', Inv X pins σ (upd H a (DictS X.prog X.w a (setTV tvs k b v))) s' → Q () s') : wpAny (model X.prog X.w) A (setItem (.ref a) (.ref b) r) Q E s := by
  obtain ⟨sm, xs, rel, dd⟩ := dS_rd I (.inl e) hk
  refine wpAny_setItem_heap (hsz := by rw [← rel.len]; omega) (tupleKind_room_in1 hu) (key_ofS I eb) dd fun h' dd' hs => h _ ?_
  obtain ⟨q, es, ep, hq, k2⟩ := id dd'
  exact d_write I (mut_dictS e) hs ⟨q, hq⟩ (dictS_ok sm (rel.put k b rv) dd')
/-- what is known of a dict and a key asked: either sort of keys -/
def DAny (P : Program) (w : World) (K : PySem.W.Frag) (H : Hp) (a : Addr) (y : V) (r : Option V) : Prop := DGet H a y r ∨ DAsk P w K H a y r
def IsDA (P : Program) (w : World) (K : PySem.W.Frag) (H : Hp) (a : Addr) : Prop := IsD H a ∨ ∃ tvs, IsDS P w H a tvs
theorem isDA_at (I : Inv X pins σ H s) (d : IsDA X.prog X.w X.K H a) : s.TypeIs (.ref a) "dict" ∧ ∀ b, Value.ref a = .ref b → ∃ ob, s.heap.get? b = some ob ∧ ob.dict = none := by
  rcases d with d | ⟨tvs, d⟩
  · exact ⟨(isD_at I d).1, (isD_at I d).2.1⟩
  · obtain ⟨⟨sm, xs, r, o, es, ep, n1, n2, _⟩, -⟩ := dS_hok I d
    refine ⟨⟨o, n1, n2.1⟩, fun b z => ?_⟩
    cases z
    exact ⟨o, n1, n2.2.1⟩
theorem dS_get {r : Option V} {z : V} {fz : Value} {Q : Value → Shared → Prop} (hu : A.units + 1 < cLine) (I : Inv X pins σ H s) (g : DAsk X.prog X.w X.K H a y r) (ry : RelV y u) (rz : RelV z fz)
    (h : ∀ w' s', Inv X pins σ H s' → RelV (r.getD z) w' → Q w' s') : wpAny (model X.prog X.w) A (call (.builtin "dict.get") [.ref a, u, fz]) Q E s := by
  obtain ⟨tvs, b, k, e, hk, ey, eb, l⟩ := g
  subst ey
  cases (show u = Value.ref b from ry)
  obtain ⟨sm, xs, rel, dd⟩ := dS_rd I e hk
  refine call_meetsIn PySem.F.slot_dict_get dd.typeIs PySem.F.entry_dict_get (PySem.F.args_dict_get_3 _ _ _) (meetsH_dict_get_default (tupleKind (mixKind X.prog X.w)) a b sm fz) ⟨tupleKind_room_in1 hu, k, xs, key_ofS I eb, dd, ?_⟩
  refine h _ _ (I.tok _) ?_
  rw [l]
  exact (rel.val k).getD rz
end
section
variable {X : Cx} {o e f i : Expr} {td ty tx tv : TE} {pos pos' apos cpos : Pos}
def tGetA (P : Program) (w : World) (K : PySem.W.Frag) (td ty tx : TE) : TE := fun σ H Q => td σ H fun x H1 => ∃ a, x = .ref a ∧ IsDA P w K H1 a ∧ ty σ H1 fun y H2 => tx σ H2 fun z H3 => ∃ r, DAny P w K H3 a y r ∧ Q (r.getD z) H3
theorem pe_getA (hu : X.A.units + 1 < cLine) (ho : PE X o td) (he : PE X e ty) (hf : PE X f tx) (m : M2 X o "get" apos e f cpos) : PE X (.Call (.Attribute o "get" apos) [e, f] [] cpos) (tGetA X.prog X.w X.K td ty tx) := by
  refine ⟨fun pins s σ H Q I h => ?_⟩
  refine wpAny_Call_method m.base m.few m.line PySem.F.plainAttrs_dict PySem.F.slot_dict_get PySem.F.type_dict_get (thn (ho.run pins s σ H _ I h) fun u s1 ⟨x, H1, I1, rx, a, ex, d, q1⟩ => ?_)
  subst ex
  obtain rfl : u = Value.ref a := rx
  obtain ⟨t1, t2⟩ := isDA_at I1 d
  refine ⟨t1, t2, ?_⟩
  rw [m.trees]
  refine Calls.callWith_builtin rfl (Calls.evalArgs_plain (Calls.spliced_cons (thn (he.run pins s1 σ H1 _ I1 q1) fun kv s2 ⟨y, H2, I2, ry, q2⟩ =>
    Calls.spliced_cons (thn (hf.run pins s2 σ H2 _ I2 q2) fun fv s3 ⟨z, H3, I3, rz, r, g, q3⟩ => Calls.spliced_nil ?_))))
  rcases g with g | g
  · exact d_get2 hu I3 g ry rz fun w' s4 I4 rw' => ⟨_, H3, I4, rw', q3⟩
  · exact dS_get hu I3 g ry rz fun w' s4 I4 rw' => ⟨_, H3, I4, rw', q3⟩
/-- in, not in: keys numbers or texts -/
def rInK (f : Bool → Bool) : R2 := fun x y H Q => ∃ a r, y = .ref a ∧ DGet H a x r ∧ Q (.bl (f r.isSome)) H
theorem op_inK (hu : X.A.units + 1 < cLine) : OpR X (compareOp .In) (rInK id) := by
  intro pins s σ H x y v u Q I rx ry h
  obtain ⟨a, r, rfl, g, q⟩ := h
  cases ry
  exact d_in hu I g rx fun s' I' => ⟨.bl r.isSome, H, I', rfl, q⟩
theorem op_notinK (hu : X.A.units + 1 < cLine) : OpR X (compareOp .NotIn) (rInK not) := by
  intro pins s σ H x y v u Q I rx ry h
  obtain ⟨a, r, rfl, g, q⟩ := h
  cases ry
  exact d_notIn hu I g rx fun s' I' => ⟨.bl (!r.isSome), H, I', rfl, q⟩
/-- d[t] = v, as a target -/
def rSetS (P : Program) (w : World) (K : PySem.W.Frag) : TSet := fun o i v H Q => ∃ a tvs b k, o = .ref a ∧ i = .ref b ∧ H a = some (DictS P w a tvs) ∧ (∀ q ∈ tvs, SqT K H q.2.1 (q.1.map kV)) ∧ SqT K H b (k.map kV) ∧ tvs.length < sizeLine ∧ Q (upd H a (DictS P w a (setTV tvs k b v)))
theorem set_dictS (hu : X.A.units + 1 < cLine) : PSet X (rSetS X.prog X.w X.K) := by
  intro pins s σ H o i v ov iv u Q I ro ri rv h
  obtain ⟨a, tvs, b, k, rfl, rfl, e, hk, eb, hl, q⟩ := h
  cases ro
  cases ri
  exact dS_put hu I e hk eb hl rv fun s' I' => ⟨_, I', q⟩
/-- {}, its keys will be tuples -/
def tNewS (P : Program) (w : World) : TE := fun _ H Q => ∀ p, H p = none → Q (.ref p) (upd H p (DictS P w p []))
theorem dictS_new {P : Program} {w : World} {H : Hp} (h : Heap) (hb : sysModules < h.objs.size) : ObjOk P w H (h.push { cls := .type "dict", data := .dict #[] }) h.objs.size (DictS P w h.objs.size []) :=
  dictS_ok (beq_eq_false_iff_ne.mpr (Nat.ne_of_gt hb)) .nil (Heap.DictOfH.new h)
theorem pe_newS : PE X (.Dict [] [] pos) (tNewS X.prog X.w) := ⟨fun pins s σ H Q I h =>
  wpAny_Dict_empty ⟨.ref s.heap.objs.size, _, I.laid (a := s.heap.objs.size) (o := DictS X.prog X.w s.heap.objs.size []) (t' := s.toks) (fun _ _ q => Heap.get?_push_of_some _ q) (Nat.le_refl _) (dictS_new s.heap I.big), rfl, h _ (I.hok.fresh (Nat.le_refl _))⟩⟩
/-- {t: v, ..} -/
def tDispS (P : Program) (w : World) (K : PySem.W.Frag) (trs : List (TE × TE)) : TE := fun σ H Q => ∀ p, H p = none → tPairs trs σ (upd H p (.dK [])) fun ps H2 => H2 p = some (.dK []) ∧ ∃ kvs : TVs, ps = kvs.map (fun q => (V.ref q.2.1, q.2.2)) ∧
  (∀ q ∈ kvs, SqT K H2 q.2.1 (q.1.map kV)) ∧ kvs.length ≤ 15 ∧ Q (.ref p) (upd H2 p (DictS P w p (foldV [] kvs)))
theorem storedAll_fold : ∀ (ps xs : TKs), storedAllH xs ps = foldH xs ps
  | [], _ => rfl
  | p :: ps, xs => storedAll_fold ps _
theorem carriesS {pins : List (Addr × Obj)} {σ : L2.St} {H : Hp} {s : Shared} (I : Inv X pins σ H s) : ∀ {kvs : TVs} {ws : List (Value × Value)}, VV (kvs.map fun q => (V.ref q.2.1, q.2.2)) ws → (∀ q ∈ kvs, SqT X.K H q.2.1 (q.1.map kV)) →
    ∃ rs : TKs, CarriesH (tupleKind (mixKind X.prog X.w)) s.heap ws rs ∧ TRel kvs rs
  | [], _, r, _ => by
    rw [List.map_nil] at r
    cases r
    exact ⟨[], True.intro, .nil⟩
  | p :: kvs, _, r, hk => by
    rw [List.map_cons] at r
    cases r with
    | @cons _ b _ bs h t =>
      obtain ⟨rs, c, q⟩ := carriesS I t fun z hz => hk z (List.mem_cons_of_mem _ hz)
      obtain ⟨b1, b2⟩ := b
      obtain ⟨h1, h2⟩ := h
      cases (show b1 = Value.ref p.2.1 from h1)
      exact ⟨(p.1, p.2.1, b2) :: rs, ⟨rfl, rfl, key_ofS I (hk p (List.mem_cons_self ..)), c⟩, .cons ⟨rfl, rfl, h2⟩ q⟩
theorem pe_dispS {keys : List (Option Expr)} {values : List Expr} {trs : List (TE × TE)} (hu : X.A.units < cLine) (h : PPs X pos keys values trs) (hall : keys.all (·.isSome) = true) (hl : keys.length = values.length) (h0 : keys ≠ [])
    (h15 : keys.length ≤ 15) : PE X (.Dict keys values pos) (tDispS X.prog X.w X.K trs) := by
  refine ⟨fun pins s σ H Q I q => ?_⟩
  have hn := I.hok.fresh (Nat.le_refl s.heap.objs.size)
  have I1 := I.laid (a := s.heap.objs.size) (o := .dK []) (h' := s.heap.push { cls := .type "dict", data := .dict #[] }) (t' := s.toks) (fun _ _ q => Heap.get?_push_of_some _ q) (Nat.le_refl _) (dk_empty s.heap I.big)
  have len := pairTrees_length keys values X.env pos hall hl
  have nn : pairTrees keys values X.env pos ≠ [] := fun z => h0 (List.length_eq_zero_iff.mp (by rw [← len, z]; rfl))
  rw [arm_eval_Dict, zip_pairTrees keys values X.env pos hall hl, dictDisplay_pairs _ nn (by omega)]
  refine wpAny_bind (wpAny_standAt (wpAny_bind (wpAny_subDictH (knd := tupleKind (mixKind X.prog X.w)) hu (by omega) (thn (h.run pins _ σ _ _ I1 (q _ hn)) fun ws s2 ⟨ps, H2, I2, rel, e, kvs, ep, hk, lk, q2⟩ => ?_))))
  subst ep
  obtain ⟨rs, c, rk⟩ := carriesS I2 rel hk
  obtain ⟨_, sm, vs0, r0, d0⟩ := dk_of I2.hok e
  cases r0
  have dd : s2.heap.DictOfH (tupleKind (mixKind X.prog X.w)) s.heap.objs.size [] := by
    obtain ⟨o, es, ep, g1, g2, g3, _, g4, _⟩ := d0
    refine ⟨o, es, ep, g1, g2, g3, ?_, fun z hz => (by cases hz), List.nodup_nil⟩
    cases hL : es.toList with
    | nil => rfl
    | cons _ _ =>
      rw [hL] at g4
      exact nomatch g4
  refine ⟨rs, c, dd, fun h' tk dd' hs => wpAny_pure ⟨.ref s.heap.objs.size, _, ?_, rfl, q2⟩⟩
  rw [storedAll_fold] at dd'
  obtain ⟨ob, _, _, ho, _⟩ := id dd'
  exact d_write I2 (by rw [e]; exact True.intro) hs ⟨ob, ho⟩ (dictS_ok sm (rk.fold .nil) dd')
theorem one_nodup {α β : Type} (g : α → β) : ∀ {l : List α}, l.length ≤ 1 → (l.map g).Nodup
  | [], _ => List.nodup_nil
  | [_], _ => List.nodup_cons.mpr ⟨List.not_mem_nil, List.nodup_nil⟩
  | _ :: _ :: _, h => by simp at h
/-- d.update(d2) -/
def tUpdS (P : Program) (w : World) (K : PySem.W.Frag) (td ty : TE) : TE := fun σ H Q => td σ H fun x H1 => ∃ a, x = .ref a ∧ IsDA P w K H1 a ∧ ty σ H1 fun y H2 => ∃ b t1 t2, y = .ref b ∧ a ≠ b ∧ H2 a = some (DictS P w a t1) ∧ H2 b = some (DictS P w b t2) ∧
  (∀ q ∈ t1, SqT K H2 q.2.1 (q.1.map kV)) ∧ (∀ q ∈ t2, SqT K H2 q.2.1 (q.1.map kV)) ∧ (t1 ≠ [] ∨ t2.length ≤ 1) ∧ t1.length + t2.length ≤ sizeLine ∧ Q .non (upd H2 a (DictS P w a (foldV t1 t2)))
theorem pe_updS (hu : X.A.units + 1 < cLine) (ho : PE X o td) (he : PE X e ty) (m : M1 X o "update" apos e cpos) : PE X (.Call (.Attribute o "update" apos) [e] [] cpos) (tUpdS X.prog X.w X.K td ty) := by
  refine ⟨fun pins s σ H Q I h => ?_⟩
  refine wpAny_Call_method m.base m.few m.line PySem.F.plainAttrs_dict PySem.F.slot_dict_update PySem.F.type_dict_update (thn (ho.run pins s σ H _ I h) fun u s1 ⟨x, H1, I1, rx, a, ex, d, q1⟩ => ?_)
  subst ex
  obtain rfl : u = Value.ref a := rx
  obtain ⟨t1, t2⟩ := isDA_at I1 d
  refine ⟨t1, t2, ?_⟩
  rw [m.trees]
  refine Calls.callWith_builtin rfl (Calls.evalArgs_plain (Calls.spliced_cons (thn (he.run pins s1 σ H1 _ I1 q1) fun kv s2 ⟨y, H2, I2, ry, b, t1, t2, ey, hab, e1, e2, k1, k2, hap, hsz, q2⟩ => Calls.spliced_nil ?_)))
  subst ey
  obtain rfl : kv = Value.ref b := ry
  obtain ⟨sa, xs, r1, d1⟩ := dS_rd I2 (.inl e1) k1
  obtain ⟨sb, ys, r2, d2⟩ := dS_rd I2 (.inl e2) k2
  refine call_update_dictH (tupleKind_room_in1 hu) hab sb d1 d2 ?_ (by rw [← r1.len, ← r2.len]; exact hsz) fun h' da db hs => ⟨.non, _, ?_, rfl, q2⟩
  · rcases hap with z | z
    · exact .inl fun z2 => z (by
        subst z2
        cases r1
        rfl)
    · refine .inr ⟨fun x hx => ?_, ?_⟩
      · obtain ⟨_, _, _, _, _, _, _, his, _⟩ := d2
        obtain ⟨ob, us, n, g1, g2, _⟩ := his x hx
        exact ⟨ob, g1, g2⟩
      · rw [r2.len] at z
        exact one_nodup _ z
  · rw [storedAll_fold] at da
    obtain ⟨ob, _, _, g1, _⟩ := id da
    exact d_write I2 (mut_dictS e1) hs ⟨ob, g1⟩ (dictS_ok sa (r2.fold r1) da)
end
end Ev
namespace Ev
open PySem PySem.Spec L2 PyProof.Rows
/-- len of a dict with tuple keys -/
theorem call_lenS {X : Cx} : CallR X (.builtin "len") (fun xs H Q => ∃ (p : Addr) (tvs : TVs), xs = [.ref p] ∧ IsDS X.prog X.w H p tvs ∧
    (∀ q ∈ tvs, SqT X.K H q.2.1 (q.1.map kV)) ∧ (tvs.length : Int) < 2 ^ 63 ∧ Q (.int ((tvs.length : Nat) : Int)) H) := by
  intro pins s σ H xs us Q I r h
  obtain ⟨p, tvs, rfl, e, hk, hz, q⟩ := h
  obtain ⟨u, rfl, rx⟩ := vals1 r
  cases (show u = Value.ref p from rx)
  obtain ⟨sm, ys, rel, dd⟩ := dS_rd I e hk
  have hl : tvs.length = ys.length := Paired.length rel
  refine call_len_dictH sm dd (by rw [← hl]; exact hz) ?_
  rw [← hl]
  exact ⟨.int ((tvs.length : Nat) : Int), H, I.tok _, ⟨_, rfl⟩, q⟩
end Ev
namespace Ev
open PySem PySem.Spec L2 PyProof.Rows
theorem vals_signs (x : Str) : ∀ (l : List Value) (k : Nat), l.length = x.cps.size - k → (∀ j v, l[j]? = some v → SignAt x (j + k) v) → Vals ((x.cps.toList.drop k).map fun c => V.str ⟨#[c]⟩) l
  | [], k, h, _ => by
    have : x.cps.toList.drop k = [] := by
      apply List.drop_eq_nil_of_le
      simp at h
      simp
      omega
    rw [this]
    exact .nil
  | v :: l, k, h, hs => by
    obtain ⟨c, u, e1, e2⟩ := hs 0 v rfl
    rw [Nat.zero_add] at e1
    have hk : k < x.cps.toList.length := by
      have := (Array.getElem?_eq_some_iff.mp e1).1
      simpa using this
    have e3 : x.cps.toList[k] = c := by
      have := (Array.getElem?_eq_some_iff.mp e1).2
      simpa using this
    rw [List.drop_eq_getElem_cons hk, e3]
    refine .cons ?_ (vals_signs x l (k + 1) (by simp at h; omega) fun j w hw => ?_)
    · exact ⟨u, e2⟩
    · have := hs (j + 1) w hw
      rw [Nat.add_assoc, Nat.add_comm 1 k] at this
      exact this
/-- list(text) -/
theorem call_listS {X : Cx} (hc : X.calm = true) : CallR X (.type "list") (fun xs H Q => ∃ z, xs = [.str z] ∧ z.length ≤ sizeLine ∧ ∀ l, H l = none → Q (.ref l) (upd H l (.lst (z.cps.toList.map fun c => V.str ⟨#[c]⟩)))) := by
  intro pins s σ H xs us Q I r h
  obtain ⟨z, rfl, hz, q⟩ := h
  obtain ⟨u, rfl, rx⟩ := vals1 r
  obtain ⟨t, rfl⟩ := rx
  have hz : z.cps.size ≤ sizeLine := hz
  refine call_list_str (hn := hz) (I.ok.hd hc) z t fun h' tk acc' c' hk hS' hacc => ?_
  have hv : Vals (z.cps.toList.map fun c => V.str ⟨#[c]⟩) acc'.toList := by
    have := vals_signs z acc'.toList 0 (by simp [hacc.1]) fun j v hv => hacc.2 j v (by simpa using hv)
    simpa using this
  refine ⟨.ref s.heap.objs.size, _, I.laid (t' := tk) hk (Nat.le_refl _) (show ObjOk X.prog X.w _ h' _ (.lst _) from ⟨?_, acc'.toList, c', hv, ?_⟩), rfl, q _ (I.hok.fresh (Nat.le_refl _))⟩
  · simpa using hz
  · simpa using hS'
end Ev
namespace Ev
open PySem PySem.Spec L2 PyProof.Rows
def oexB (K : PySem.W.Frag) (C : Addr) : Bool := match K.lookup C with
  | some ⟨.type "type", _, .cls c, sl⟩ => (match c.mro, sl.toList with
    | .ref C2 :: t, [_, _, _, _, some (.builtin n), _] => C2 == C && n == "ValueError.__new__" && !c.hasDel && c.hasDict && PySem.HandSPX.refsVE t
    | _, _ => false)
  | _ => false
theorem oexB_cls {K : PySem.W.Frag} {C : Addr} (h : oexB K C = true) : ∃ nm q N bs bm sn sub ab col dd k0 k1 k2 k3 k5, K.lookup C = some (excClassObj nm q C N bs bm true sn sub ab col dd k0 k1 k2 k3 k5 "ValueError.__new__") ∧ PySem.HandSPX.refsVE bm = true := by
  unfold oexB at h
  split at h
  case h_2 => cases h
  rename_i od c sl lk
  split at h
  case h_2 => cases h
  rename_i C2 t a0 a1 a2 a3 n a5 em es
  rw [Bool.and_eq_true, Bool.and_eq_true, Bool.and_eq_true, Bool.and_eq_true] at h
  obtain ⟨⟨⟨⟨h1, h2⟩, h3⟩, h4⟩, h5⟩ := h
  cases beq_iff_eq.mp h1
  cases beq_iff_eq.mp h2
  obtain ⟨x1, x2, x3, x4, x5, x6, x7, x8, x9, x10, x11⟩ := c
  obtain ⟨l⟩ := sl
  cases (show l = _ from es)
  cases (show x3 = _ from em)
  cases (show x6 = true from h4)
  have h3 : (!x11) = true := h3
  cases x11 with
  | true => cases h3
  | false => exact ⟨_, _, _, _, _, _, _, _, _, _, _, _, _, _, _, lk, h5⟩
def nDbg (x : Str) : Bool := !(x == ("__debug__" : Str)) && !(x == ("__classdict__" : Str))
theorem nDbg_1 {x : Str} (h : nDbg x = true) : (x == ("__debug__" : Str)) = false ∧ (x == ("__classdict__" : Str)) = false := by
  unfold nDbg at h
  rw [Bool.and_eq_true, Bool.not_eq_true', Bool.not_eq_true'] at h
  exact h
/-- its __init__: one row, self.f = x -/
def keepB (f s a : Str) : List Stmt → Bool
  | [.Assign [.Attribute (.Name s2 _) g _] (.Name a2 _) _] => decide (s2 = s) && decide (g = f) && decide (a2 = a)
  | _ => false
theorem keepB_eq {f s a : Str} {b : List Stmt} (h : keepB f s a b = true) : ∃ p1 p2 p3 p4, b = [.Assign [.Attribute (.Name s p1) f p2] (.Name a p3) p4] := by
  unfold keepB at h
  split at h
  · rw [Bool.and_eq_true, Bool.and_eq_true] at h
    obtain ⟨⟨h1, h2⟩, h3⟩ := h
    cases of_decide_eq_true h1
    cases of_decide_eq_true h2
    cases of_decide_eq_true h3
    exact ⟨_, _, _, _, rfl⟩
  · cases h
/-- what must be known of such a class -/
structure KeepC (K : PySem.W.Frag) (C : Addr) (f : Str) : Prop where
  cls : oexB K C = true
  sa : PySem.W.findIn K (.ref C) "__setattr__" = some (some (.builtin "object.__setattr__"))
  ex : PySem.W.subIn K (.ref C) (.type "BaseException") = some true
  ty : PySem.W.typeIn K (.ref C) = some (.type "type")
  kp : PySem.W.keepIn K (.ref C) = true
  no : PySem.W.findIn K (.ref C) f = some none
  ga : PySem.W.findIn K (.ref C) "__getattribute__" = some (some (.builtin "BaseException.__getattribute__"))
  gg : PySem.W.findIn K (.ref C) "__getattr__" = some none
  hd : PySem.W.hasDictIn K C = true
  ini : ∃ (fI : Addr) (s a q : Str) (params : Arguments) (body : List Stmt) (scope : Scope) (dV kV doc pm cdv ct oc : Value) (an od : Option Addr) (osl : Array (Option Value)),
    PySem.W.findIn K (.ref C) "__init__" = some (some (.ref fI)) ∧ PySem.W.typeIn K (.ref fI) = some (.type "function") ∧ K.lookup fI = some ⟨oc, od, .func (PySem.W.fnOf "__init__" q params body scope dV kV doc pm an cdv ct), osl⟩ ∧
    PySem.W.codeIn K cdv q = true ∧ C8.scC [s, a] [s, a] scope = true ∧ nDbg s = true ∧ nDbg a = true ∧ keepB f s a body = true ∧ Binds K (PySem.W.fnOf "__init__" q params body scope dV kV doc pm an cdv ct) [s, a] []
theorem KeepC.oex {K : PySem.W.Frag} {C : Addr} {f : Str} (k : KeepC K C f) : OexC K C := ⟨oexB_cls k.cls, k.sa, k.ex, k.ty, k.kp⟩
theorem KeepC.xf {K : PySem.W.Frag} {C : Addr} {f : Str} (k : KeepC K C f) : XfC K C := ⟨k.ga, k.gg, k.ex, k.hd⟩
/-- what such an __init__ does -/
def spKeep (K : PySem.W.Frag) (f : Str) : Sp := fun vs H Q _ => ∃ (e C : Addr) (y : V), vs = [.ref e, y] ∧ OexC K C ∧ PySem.W.findIn K (.ref C) f = some none ∧ H e = some (exo e C none) ∧
  ∀ dx, H dx = none → dx ≠ e → Q .non (L2.upd (L2.upd H dx (exd dx [(f, y)])) e (exo e C (some dx)))
theorem keep_fn {CX : CXT} {P : Program} {w : World} {K : PySem.W.Frag} {mg : Str → Option Value} {base : Heap} {fI : Addr} {f s a q : Str} {params : Arguments} {body : List Stmt} {scope : Scope} {dV kV doc pm cdv ct oc : Value} {an od : Option Addr} {osl : Array (Option Value)}
    (lk : K.lookup fI = some ⟨oc, od, .func (PySem.W.fnOf "__init__" q params body scope dV kV doc pm an cdv ct), osl⟩) (hc : PySem.W.codeIn K cdv q = true) (hs : C8.scC [s, a] [s, a] scope = true) (ds : nDbg s = true) (da : nDbg a = true) (hb : keepB f s a body = true) :
    FnOk P w K mg base CX (0 + 1) fI (PySem.W.fnOf "__init__" q params body scope dV kV doc pm an cdv ct) [s, a] (spKeep K f) := by
  have sc := C8.fnScope_by hs
  obtain ⟨p1, p2, p3, p4, rfl⟩ := keepB_eq hb
  refine fn_of lk hc sc (fun vs H Q E h => ?_) fun A outer sh H vs Q E _ h => ?_
  · obtain ⟨e, C, y, rfl, _⟩ := h
    rfl
  · obtain ⟨e, C, y, rfl, T, no, he, hq⟩ := h
    have vs1 : Vis scope s := (sc.par s (by simp)).elim .inl fun z => .inr (.inl z)
    have vs2 : Vis scope a := (sc.par a (by simp)).elim .inl fun z => .inr (.inl z)
    refine ⟨_, pss_one (ps_ost (pe_var (i := 0) rfl vs1 (nDbg_1 ds).1 (nDbg_1 ds).2) (pe_var (i := 1) rfl vs2 (nDbg_1 da).1 (nDbg_1 da).2)), ?_⟩
    exact ⟨y, rfl, .ref e, rfl, e, C, rfl, T, no, .inl ⟨he, fun dx h1 h2 => hq dx h1 h2⟩⟩
/-- C(e): the exception is made, its dict holds what it was handed -/
theorem pmk_keep {X : Cx} {x f : Str} {z : Expr} {te : TE} {p pos : Pos} {C : Addr} (k : KeepC X.K C f) (rm : Room 2 X.A) (gl : Gl X x) (mg : X.mg x = some (.ref C)) (db : (x == ("__debug__" : Str)) = false) (pz : PE X z te) (st : starEach [z] X.env = (false, eval z X.env) :: starEach [] X.env) :
    L2N.PMk X (.Call (.Name x p) [z] [] pos) (fun σ H Q => te σ H fun y H1 => ∀ dx, H1 dx = none → Q (.ref C) (some dx) (L2.upd H1 dx (.xd [(f, y)]))) := by
  intro pins sh σ H Q I hq
  obtain ⟨nm, qq, N, bs, bm, sn, su, ab, col, dd, k0, k1, k2, k3, k5, hC, hbm⟩ := oexB_cls k.cls
  obtain ⟨fI, s, a, q, params, body, scope, dV, kV, doc, pm, cdv, ct, oc, an, od, osl, iC, tI, lk, hcd, hs, ds, da, hb, bnd⟩ := k.ini
  have F : FnOk X.prog X.w X.K X.mg X.base (L2N.CX X.prog X.w) (0 + 1) fI (PySem.W.fnOf "__init__" q params body scope dV kV doc pm an cdv ct) [s, a] (spKeep X.K f) := keep_fn lk hcd hs ds da hb
  have pa := pa_cons pz (pa_nil (X := X)) st
  refine wpAny_Call_Name_kw (ld_glob I gl mg ?_ db)
  refine PySem.W.callWith_K (h₀ := X.base) I.ok.mod.kin k.kp (thn (pa.run pos pins sh σ H (fun vs H1 => ∃ y, vs = [y] ∧ ∀ dx, H1 dx = none → Q (.ref C) (some dx) (L2.upd H1 dx (.xd [(f, y)]))) I ?_) fun us s1 g => ?_) st (by rfl)
  · show te σ H _
    have e : (fun (y : V) (H1 : Hp) => ∃ y1, [y] = [y1] ∧ ∀ dx, H1 dx = none → Q (.ref C) (some dx) (L2.upd H1 dx (.xd [(f, y1)]))) = fun y H1 => ∀ dx, H1 dx = none → Q (.ref C) (some dx) (L2.upd H1 dx (.xd [(f, y)])) := by
      funext y H1
      refine propext ⟨fun ⟨y1, e1, h1⟩ => ?_, fun h1 => ⟨y, rfl, h1⟩⟩
      cases e1
      exact h1
    show te σ H (fun (y : V) (H1 : Hp) => ∃ y1, [y] = [y1] ∧ ∀ dx, H1 dx = none → Q (.ref C) (some dx) (L2.upd H1 dx (.xd [(f, y1)])))
    rw [e]
    exact hq
  obtain ⟨vs, H1, I1, r1, y, rfl, q1⟩ := g
  refine ⟨I1.kIn, ?_⟩
  obtain ⟨u, rfl, ru⟩ := vals1 r1
  show wpAny _ _ (call (.ref C) [u]) _ _ _
  obtain ⟨hp, gn, dr, tk, os⟩ := s1
  have up : hp.objs.size ≤ hp.objs.size + 1 := Nat.le_succ _
  have fr : H1 (hp.objs.size + 1) = none := I1.hok.fresh up
  have old : ∀ b o, hp.get? b = some o → ((hp.push (PySem.W.kdv_tup [u])).push (PySem.HandSPX.excO C hp.objs.size)).get? b = some o := fun b o w => Heap.get?_push_of_some _ (Heap.get?_push_of_some _ w)
  have new : ((hp.push (PySem.W.kdv_tup [u])).push (PySem.HandSPX.excO C hp.objs.size)).get? (hp.objs.size + 1) = some (PySem.HandSPX.excO C hp.objs.size) := by heap_get
  have I2 := I1.laid (t' := tk) (o := exo (hp.objs.size + 1) C none) old up (exo_ok new)
  have r2 : Vals [V.ref (hp.objs.size + 1), y] [Value.ref (hp.objs.size + 1), u] := .cons rfl (.cons ru .nil)
  have b2 := bnd _ [Value.ref (hp.objs.size + 1), u] I2.kIn rfl
  rw [List.append_nil] at b2
  have sp : spKeep X.K f [V.ref (hp.objs.size + 1), y] (L2.upd H1 (hp.objs.size + 1) (exo (hp.objs.size + 1) C none)) (fun v H2 => v = .non ∧ ∃ dx, H1 dx = none ∧ dx ≠ hp.objs.size + 1 ∧
      H2 = L2.upd (L2.upd (L2.upd H1 (hp.objs.size + 1) (exo (hp.objs.size + 1) C none)) dx (exd dx [(f, y)])) (hp.objs.size + 1) (exo (hp.objs.size + 1) C (some dx))) (fun _ _ _ => False) :=
    ⟨_, _, _, rfl, k.oex, k.no, upd_same, fun dx h1 h2 => ⟨rfl, dx, by rw [upd_ne h2] at h1; exact h1, h2, rfl⟩⟩
  refine wpAny_call (PySem.HandSPX.call_own PySem.F.excBase_ValueError (fun Y => PySem.HandSPX.refsVE_contains Y bm hbm) (I1.kIn _ _ hC) (PySem.W.looks_findIn I1.kIn iC) (fun self => PySem.W.bind_fn I1.kIn self tI) (by show 1 ≤ sizeLine; decide)
    (codeAny_mono (F.run _ X.stack _ _ ⟨[Value.ref (hp.objs.size + 1), u], []⟩ [Value.ref (hp.objs.size + 1), u] _ _ (fun _ _ _ => False) (rm.make C [u] []) (I2.env0.make C [u] []) b2 r2 sp) fun r s2 h2 => ?_))
  cases r with
  | error er =>
    obtain ⟨_, _, _, _, _, _, _, _, _, _, _, _, z⟩ := h2
    exact z.elim
  | ok fl =>
    cases fl with
    | next => exact h2.elim
    | brk => exact h2.elim
    | cont => exact h2.elim
    | ret w =>
      obtain ⟨v, H2, o2, bare, un, hok, rv, ev, dx, n1, n2, eH⟩ := h2
      subst ev
      obtain ⟨hp2, gn2, dr2, tk2, os2⟩ := s2
      have e1 : H2 (hp.objs.size + 1) = some (exo (hp.objs.size + 1) C (some dx)) := by rw [eH]; exact upd_same
      have e2 : H2 dx = some (exd dx [(f, y)]) := by rw [eH, upd_ne n2]; exact upd_same
      obtain ⟨t0, B, J, kB, gone, there, na⟩ := mk_end0 (d2 := dr2) (t2 := tk2) I1 up old un hok o2 bare e1 e2 n1
      have eq : L2.upd (L2.del H2 (hp.objs.size + 1)) dx (.xd [(f, y)]) = L2.upd H1 dx (.xd [(f, y)]) := by
        funext b
        by_cases hb : b = dx
        · subst hb
          rw [upd_same, upd_same]
        · rw [upd_ne hb, upd_ne hb]
          by_cases hb2 : b = hp.objs.size + 1
          · subst hb2
            rw [del_same, fr]
          · rw [del_ne hb2, eH, upd_ne hb2, upd_ne hb, upd_ne hb2]
      rw [eq] at J na
      refine ⟨rv, hp.objs.size + 1, _, _, ⟨B, gn2, dr2, tk2, os2⟩, _, .ref C, some dx, rfl, J, kB, gone, there, ⟨rfl, rfl, fun vs hv => ?_⟩, rfl, rfl, na, rfl, bare, raises_own k.ex k.ty, q1 dx n1⟩
      cases hv
      rfl
end Ev
namespace Ev
open PySem PySem.Spec PySem.Calls L2 PyProof.Rows
section
variable {prog : Program} {w : World} {A : Around} {E : Value → Shared → Prop} {s : Shared} {K : PySem.W.Frag} {x D : Addr} {ox : Obj} {od : Option Obj}
theorem exc_cls {Q : Option Value → Shared → Prop} (C : ExcC K D) (X : K.In s.heap) (I : PySem.W.InstAt s.heap x ox D od) (q : Q (some (.ref D)) { s with toks := s.toks + 1 }) : wpAny (model prog w) A (getAttr? (.ref x) "__class__") Q E s := by
  have some' : (PySem.W.clsIn K D).isSome = true := by obtain ⟨cd, e, _⟩ := PySem.W.any_some C.hd; rw [e]; rfl
  have F := PySem.W.findObj_dataE (od := od) some' C.ha C.hn C.ht
  obtain ⟨hh, gg, dd, tt, oo⟩ := s
  have A0 := I.type (M := model prog w)
  have A1 := PySem.W.looks_findIn (M := model prog w) X C.hg
  have A2 := PySem.W.looks_findIn (M := model prog w) X C.hk
  have A3 := PySem.W.looks_find (M := model prog w) X I F
  have isB : PySem.W.Looks (model prog w) hh (isInstance (.ref x) (.type "BaseException")) true := A0.andThen (PySem.W.looks_subIn X C.hs)
  have b0 : (false && onTheHeap (Value.builtin "BaseException.__getattribute__")) = false := rfl
  have b1 : (onTheHeap (Value.ref D) && Value.builtin "BaseException.__getattribute__" == Value.builtin "object.__getattribute__") = false := by rw [show (Value.builtin "BaseException.__getattribute__" == Value.builtin "object.__getattribute__") = false by decide +kernel]; rfl
  unfold getAttr?; unfold getAttrBy?; unfold getAttrBy
  refine wpAny_bind (wpAny_mkText (wpAny_bind (wpAny_attempt (wpAny_holding (wpAny_bind (A0.at (wpAny_bind (A1.at ?_))))))))
  show wpAny _ _ (if (onTheHeap (Value.ref D) && Value.builtin "BaseException.__getattribute__" == Value.builtin "object.__getattribute__") = true then _ else _) _ _ _
  rw [b1, if_neg (by decide)]
  unfold getAttrByItsOwn; unfold hookBefore
  refine wpAny_bind ?_; rw [if_pos (show onTheHeap (Value.ref D) = true from rfl)]
  refine A2.at (wpAny_bind (wpAny_attempt (wpAny_holding ?_)))
  unfold callGetattribute
  rw [b0, if_neg (by decide)]
  unfold boundAndCalled
  rw [PySem.F.excAttr_ValueError.ga.bind (.ref x)]
  refine wpAny_bind (wpAny_pure ?_)
  show wpAny _ _ (call (.builtin "BaseException.__getattribute__") [.ref x, .str "__class__" tt]) _ _ _
  refine wpAny_call (codeAny_call_builtin PySem.F.excAttr_ValueError.ga.plain PySem.F.entry_bexc_ga ?_)
  refine @PySem.W.check_slot (model prog w) _ _ ⟨hh, gg, dd, tt + 1, oo⟩ "BaseException.__getattribute__" "BaseException" "__getattribute__" (.ref x) [.str "__class__" tt] [] _ (by decide +kernel) (by decide +kernel) isB (PySem.F.args_bexc_ga (.ref x) (.str "__class__" tt)) ?_
  unfold Builtin.«object.__getattribute__»
  refine wpAny_bind (wpAny_of_eq (a := ((Value.ref x : Value), [Value.str "__class__" tt])) (by first | rfl | (simp only [slotArgs]; rfl)) ?_)
  refine wpAny_bind (wpAny_pure (wpAny_bind (A0.at (wpAny_bind (A3.at ?_)))))
  show wpAny _ _ (holding [Value.builtin "object.__class__"] (call (.builtin "getset_descriptor.__get__") [.builtin "object.__class__", .ref x, .ref D]) >>= ret) _ _ _
  refine wpAny_bind (wpAny_holding (wpAny_call (PySem.W.class_get (s := ⟨hh, gg, dd, tt + 1, oo⟩) (ox := ox) (od := od) X I C.hm ?_)))
  refine wpAny_pure ?_
  show wpAny _ _ (handedOut (.ref D)) _ _ _
  rw [PySem.W.handedOut_of (v := .ref D) rfl]
  first
    | exact wpAny_pure (wpAny_pure q)
    | exact wpAny_pure q
    | exact wpAny_pure (wpAny_bind (wpAny_pure (wpAny_pure q)))
theorem exc_kit (C : ExcC K D) : PySem.W.KitX K (.ref x) (.ref D) (fun h => PySem.W.InstAt h x ox D od) where
  ty := fun _ _ _ I => I.type
  it := fun M h X I => by
    obtain ⟨cd, e, _⟩ := PySem.W.any_some C.hd
    unfold PySem.W.clsIn at e
    split at e
    · rename_i c1 d1 cd1 sl1 ho
      intro A1 Q1 E1 s1 k q
      unfold isType; unfold loadHead
      exact wpAny_bind (wpAny_loadPart (k _ _ (X _ _ ho)) (wpAny_pure q))
    · cases e
  ne := fun h tp d its n sl X htp => by
    obtain ⟨cd, e, _⟩ := PySem.W.any_some C.hd
    refine Bool.eq_false_iff.mpr fun q => ?_
    have eq : D = tp := Value.ref.inj (beq_iff_eq.mp q)
    subst eq
    unfold PySem.W.clsIn at e
    split at e
    · rename_i c1 d1 cd1 sl1 ho
      cases (X _ _ ho).symm.trans htp
    · cases e
  ca := fun X I k => exc_cls C X I k
end
/-- isinstance(e, (c1, c2, ..)), e the exception that the suite holds -/
def rIsET (K : PySem.W.Frag) (D a : Addr) (d : Option Addr) : List V → Hp → VK → Prop := fun xs H Q => ∃ (tp : Addr) (cs : List V) (us : List Value) (b : Bool), xs = [.ref a, .ref tp] ∧ H tp = some (.tup cs) ∧ Paired ClsV cs us ∧ PySem.W.kitAny K (.ref D) us = some b ∧ (∀ dd, d = some dd → ∃ fs, H dd = some (.xd fs)) ∧ Q (.bl b) H
theorem call_isET {X : Cx} {a D : Addr} {d : Option Addr} {oe : Obj} {pn : List (Addr × Obj)} (C : ExcC X.K D) (hz : Zc (.ref D) d oe) (hf : ∃ vs, oe.data = .fields vs) : CallR (X.suite a ((a, oe) :: pn)) (.builtin "isinstance") (rIsET X.K D a d) := by
  intro pins s σ H xs us Q I r h
  obtain ⟨tp, cs, ws, b, rfl, hT, k, e, hd, q⟩ := h
  obtain ⟨u1, u2, rfl, r1, r2⟩ := vals2 r
  cases (show u1 = Value.ref a from r1)
  cases (show u2 = Value.ref tp from r2)
  obtain ⟨_, its, rv, o, h1, h2, n, h3⟩ := (show ObjOk X.prog X.w H s.heap tp (.tup cs) from I.hok tp _ hT)
  have e3 := ClsV.all k rv
  subst e3
  obtain ⟨oc, od, dt, sl⟩ := o
  simp only at h2 h3
  subst h2 h3
  obtain ⟨ha, _⟩ := I.pin (a, oe) (List.mem_append_left _ List.mem_cons_self)
  obtain ⟨vs, hv⟩ := hf
  have nc : PySem.W.notCls oe = true := by unfold PySem.W.notCls; rw [hv] <;> rfl
  have J : ∃ od, PySem.W.InstAt s.heap a oe D od := by
    cases d with
    | none => exact ⟨none, ha, hz.1, nc, by rw [hz.2]; trivial⟩
    | some dd =>
      obtain ⟨fs, hdd⟩ := hd dd rfl
      obtain ⟨mA, hns, _⟩ := (show ObjOk X.prog X.w H s.heap dd (.xd fs) from I.hok dd _ hdd)
      obtain ⟨od, ho, _⟩ := lookIn_ns hns
      exact ⟨some od, ha, hz.1, nc, by rw [hz.2]; exact ho⟩
  obtain ⟨od2, J⟩ := J
  exact PySem.W.kia_tup (exc_kit C) I.kIn J h1 e (fun z => nomatch z) fun tk => ⟨.bl b, H, I.tok tk, rfl, q⟩
end Ev
namespace Ev
open PySem PySem.Spec L2 PyProof.Rows
/-- a list of the written part -/
def KL (K : PySem.W.Frag) (a : Addr) (xs : List V) : Prop :=
  ∃ (o : Obj) (its : Array Value) (n : Nat), K.lookup a = some o ∧ o.cls = .type "list" ∧ o.dict = none ∧ o.data = .seq its n ∧ its.size ≤ sizeLine ∧ Vals xs its.toList
/-- the cells' places, in order; and what is hidden: lists under way -/
structure Mp where
  c : List Addr
  h : List Addr
  t : List (Addr × Str)
def Mp.has (m : Mp) (p : Addr) : Prop := p ∈ m.c ∨ p ∈ m.h
def Mp.add (m : Mp) (p : Addr) : Mp := ⟨m.c ++ [p], m.h, m.t⟩
/-- where the names of the table lie -/
structure Ad where
  K : PySem.W.Frag
  fa : Nat → Addr
  ca : Nat → Addr
  P : Program
  w : World
  tb : List (Addr × Str)
  /-- the own classes that instances are made of -/
  ka : Nat → Addr := fun _ => 0
/-- told as a dict with tuple keys -/
def DicP (p : Addr) (φ : Heap → Prop) : Prop := ∃ P w tvs, HO.ext φ = DictS P w p tvs
/-- keys, where they stand, values -/
def tvs (ks : List (List Key)) (as : List Addr) (vs : List V) : TVs := (ks.zip (as.zip vs)).map fun q => (q.1, q.2.1, q.2.2)
section
variable (T : Ad)
/-- a list that is nobody's cell -/
def LV (m : Mp) (H : Hp) (p : Addr) (vs : List V) : Prop := H p = some (.lst vs) ∧ ¬ m.has p
/-- the script -/
def SC (H : Hp) (p : Addr) (vs : List V) : Prop := (∃ o, H p = some (.frz o (.lst vs))) ∨ KL T.K p vs
mutual
def RD (m : Mp) (H : Hp) : D → V → Prop
  | .non, v => v = .non
  | .bl b, v => v = .bl b
  | .int i, v => v = .int i
  | .str x, v => v = .str x
  | .tup xs, v => ∃ p vs, v = .ref p ∧ SqT T.K H p vs ∧ RDs m H xs vs
  | .lst xs, v => ∃ p vs, v = .ref p ∧ LV m H p vs ∧ RDs m H xs vs
  | .ref l, v => ∃ p, m.c[l]? = some p ∧ v = .ref p
  | .fn k, v => v = .ref (T.fa k)
  | .scr ns, v => ∃ p, v = .ref p ∧ SC T H p (ns.map V.int)
  | .tdc ks ds, v => ∃ p as vs, v = .ref p ∧ H p = some (DictS T.P T.w p (tvs ks as vs)) ∧ ¬ m.has p ∧ as.length = ks.length ∧ vs.length = ks.length ∧ (∀ q ∈ tvs ks as vs, SqT T.K H q.2.1 (q.1.map kV)) ∧ RDs m H ds vs
def RDs (m : Mp) (H : Hp) : List D → List V → Prop
  | [], vs => vs = []
  | x :: xs, vs => ∃ v r, vs = v :: r ∧ RD m H x v ∧ RDs m H xs r
end
def RKs (m : Mp) (H : Hp) : List (D × D) → List (Key × V) → Prop
  | [], vs => vs = []
  | x :: xs, vs => ∃ k v r, vs = (k, v) :: r ∧ kD x.1 = some k ∧ RD T m H x.2 v ∧ RKs m H xs r
def RFs (m : Mp) (H : Hp) : List (Str × D) → List (Str × V) → Prop
  | [], vs => vs = []
  | x :: xs, vs => ∃ v r, vs = (x.1, v) :: r ∧ RD T m H x.2 v ∧ RFs m H xs r
def RO (m : Mp) (H : Hp) (p : Addr) : Ob → HO → Prop
  | .lst xs, o => ∃ vs, o = .lst vs ∧ RDs T m H xs vs
  | .dct kvs, o => ∃ vs, o = .dK vs ∧ RKs T m H kvs vs
  | .obj c fs, o => ∃ dx vs, o = .ins (T.ka c) dx vs ∧ RFs T m H fs vs
  | .dtt kvs, o => ∃ as vs, o = DictS T.P T.w p (tvs (kvs.map (·.1)) as vs) ∧ as.length = kvs.length ∧ (∀ q ∈ tvs (kvs.map (·.1)) as vs, SqT T.K H q.2.1 (q.1.map kV)) ∧ RDs T m H (kvs.map (·.2)) vs
  | .dtl kvs, o => ∃ od as vs, o = .frz od (DictS T.P T.w p (tvs (kvs.map (·.1)) as vs)) ∧ as.length = kvs.length ∧ (∀ q ∈ tvs (kvs.map (·.1)) as vs, SqT T.K H q.2.1 (q.1.map kV)) ∧ RDs T m H (kvs.map (·.2)) vs
structure RS (m : Mp) (H : Hp) (S : Store) : Prop where
  len : S.length = m.c.length
  nd : m.c.Nodup
  hid : ∀ p ∈ m.h, p ∉ m.c ∧ H p ≠ none
  hnt : ∀ p ∈ m.h, ∀ ps, H p ≠ some (.tbl ps)
  tt : m.t = T.tb
  tab : LamX.Tabs m.t H
  at_ : ∀ (l : Nat) (ob : Ob) (p : Addr), S[l]? = some ob → m.c[l]? = some p → ∃ o, H p = some o ∧ RO T m H p ob o
structure REnv (m : Mp) (H : Hp) (env : Env) (σ : L2.St) : Prop where
  len : env.length = σ.length
  at_ : ∀ (i : Nat) (d : D), env[i]? = some (some d) → ∃ v, σ[i]? = some (some v) ∧ RD T m H d v
end
/-- what stays: the tuples, the lists that are nobody's cells -/
structure Ext0 (m : Mp) (H : Hp) (m' : Mp) (H' : Hp) : Prop where
  pre : ∃ t, m'.c = m.c ++ t
  tup : ∀ p vs, Rd H p (.tup vs) → Rd H' p (.tup vs)
  lst : ∀ p vs, H p = some (.lst vs) → ¬ m.has p → H' p = some (.lst vs) ∧ ¬ m'.has p
  frz : ∀ p o u, H p = some (.frz o u) → H' p = some (.frz o u)
  ext : ∀ p φ, H p = some (.ext φ) → ¬ DicP p φ → H' p = some (.ext φ)
  dic : ∀ p P w t, H p = some (DictS P w p t) → ¬ m.has p → H' p = some (DictS P w p t) ∧ ¬ m'.has p
  tt : m'.t = m.t
  tab : LamX.Tabs m.t H → LamX.Tabs m.t H'
structure Ext (m : Mp) (H : Hp) (m' : Mp) (H' : Hp) : Prop extends Ext0 m H m' H' where
  eqh : m'.h = m.h
  hid : ∀ p ∈ m.h, H' p = H p
section
variable {T : Ad} {m m' m'' : Mp} {H H' H'' : Hp}
theorem Ext0.refl : Ext0 m H m H := ⟨⟨[], by simp⟩, fun _ _ h => h, fun _ _ h n => ⟨h, n⟩, fun _ _ _ h => h, fun _ _ h _ => h, fun _ _ _ _ h n => ⟨h, n⟩, rfl, fun h => h⟩
theorem Ext.refl : Ext m H m H := ⟨Ext0.refl, rfl, fun _ _ => rfl⟩
theorem Ext0.trans (a : Ext0 m H m' H') (b : Ext0 m' H' m'' H'') : Ext0 m H m'' H'' := by
  obtain ⟨t, e⟩ := a.pre
  obtain ⟨t', e'⟩ := b.pre
  exact ⟨⟨t ++ t', by rw [e', e, List.append_assoc]⟩, fun p vs h => b.tup p vs (a.tup p vs h), fun p vs h n => let ⟨h1, n1⟩ := a.lst p vs h n; b.lst p vs h1 n1, fun p o u h => b.frz p o u (a.frz p o u h), fun p φ h n => b.ext p φ (a.ext p φ h n) n, fun p P w u h n => let ⟨h1, n1⟩ := a.dic p P w u h n; b.dic p P w u h1 n1, b.tt.trans a.tt, fun h => a.tt ▸ b.tab (a.tt.symm ▸ a.tab h)⟩
theorem Ext.trans (a : Ext m H m' H') (b : Ext m' H' m'' H'') : Ext m H m'' H'' :=
  ⟨a.toExt0.trans b.toExt0, b.eqh.trans a.eqh, fun p h => (b.hid p (a.eqh ▸ h)).trans (a.hid p h)⟩
theorem Ext0.get (e : Ext0 m H m' H') {l : Nat} {p : Addr} (h : m.c[l]? = some p) : m'.c[l]? = some p := by
  obtain ⟨t, e⟩ := e.pre
  rw [e]
  exact List.getElem?_append_left (List.getElem?_eq_some_iff.mp h).1 ▸ h
theorem Ext0.lv (e : Ext0 m H m' H') {p : Addr} {vs : List V} (h : LV m H p vs) : LV m' H' p vs := e.lst p vs h.1 h.2
theorem Ext0.sc (e : Ext0 m H m' H') {p : Addr} {vs : List V} (h : SC T H p vs) : SC T H' p vs := by
  rcases h with ⟨o, h⟩ | h
  · exact .inl ⟨o, e.frz p o _ h⟩
  · exact .inr h
theorem Ext0.sqt (e : Ext0 m H m' H') {p : Addr} {vs : List V} {K : PySem.W.Frag} (h : SqT K H p vs) : SqT K H' p vs := by
  rcases h with h | h
  · exact .inl (e.tup p vs h)
  · exact .inr h
mutual
theorem RD.ext0 (e : Ext0 m H m' H') : ∀ (d : D) (v : V), RD T m H d v → RD T m' H' d v
  | .non, v, h => by simpa [RD] using h
  | .bl b, v, h => by simpa [RD] using h
  | .int i, v, h => by simpa [RD] using h
  | .str x, v, h => by simpa [RD] using h
  | .fn k, v, h => by simpa [RD] using h
  | .scr ns, v, h => by
    obtain ⟨p, h1, h2⟩ := h
    exact ⟨p, h1, e.sc h2⟩
  | .tdc ks ds, v, h => by
    obtain ⟨p, as, vs, h1, h2, hn, h3, h4, h5, h6⟩ := h
    exact ⟨p, as, vs, h1, (e.dic p _ _ _ h2 hn).1, (e.dic p _ _ _ h2 hn).2, h3, h4, fun q hq => e.sqt (h5 q hq), RDs.ext0 e ds vs h6⟩
  | .ref l, v, h => by
    obtain ⟨p, h1, h2⟩ := h
    exact ⟨p, e.get h1, h2⟩
  | .tup xs, v, h => by
    obtain ⟨p, vs, h1, h2, h3⟩ := h
    exact ⟨p, vs, h1, e.sqt h2, RDs.ext0 e xs vs h3⟩
  | .lst xs, v, h => by
    obtain ⟨p, vs, h1, h2, h3⟩ := h
    exact ⟨p, vs, h1, e.lv h2, RDs.ext0 e xs vs h3⟩
theorem RDs.ext0 (e : Ext0 m H m' H') : ∀ (ds : List D) (vs : List V), RDs T m H ds vs → RDs T m' H' ds vs
  | [], vs, h => by simpa [RDs] using h
  | d :: ds, vs, h => by
    obtain ⟨v, r, h1, h2, h3⟩ := h
    exact ⟨v, r, h1, RD.ext0 e d v h2, RDs.ext0 e ds r h3⟩
end
theorem RD.ext (e : Ext m H m' H') (d : D) (v : V) (h : RD T m H d v) : RD T m' H' d v := RD.ext0 e.toExt0 d v h
theorem RDs.ext (e : Ext m H m' H') (ds : List D) (vs : List V) (h : RDs T m H ds vs) : RDs T m' H' ds vs := RDs.ext0 e.toExt0 ds vs h
theorem RKs.ext0 (e : Ext0 m H m' H') : ∀ (ds : List (D × D)) (vs : List (Key × V)), RKs T m H ds vs → RKs T m' H' ds vs
  | [], vs, h => by simpa [RKs] using h
  | d :: ds, vs, h => by
    obtain ⟨k, v, r, h1, h2, h3, h4⟩ := h
    exact ⟨k, v, r, h1, h2, RD.ext0 e _ _ h3, RKs.ext0 e ds r h4⟩
theorem RFs.ext0 (e : Ext0 m H m' H') : ∀ (ds : List (Str × D)) (vs : List (Str × V)), RFs T m H ds vs → RFs T m' H' ds vs
  | [], vs, h => by simpa [RFs] using h
  | d :: ds, vs, h => by
    obtain ⟨v, r, h1, h3, h4⟩ := h
    exact ⟨v, r, h1, RD.ext0 e _ _ h3, RFs.ext0 e ds r h4⟩
theorem RO.ext0 (e : Ext0 m H m' H') {p : Addr} {ob : Ob} {o : HO} (h : RO T m H p ob o) : RO T m' H' p ob o := by
  cases ob with
  | lst xs =>
    obtain ⟨vs, h1, h2⟩ := h
    exact ⟨vs, h1, RDs.ext0 e xs vs h2⟩
  | dct kvs =>
    obtain ⟨vs, h1, h2⟩ := h
    exact ⟨vs, h1, RKs.ext0 e kvs vs h2⟩
  | obj c fs =>
    obtain ⟨dx, vs, h1, h2⟩ := h
    exact ⟨dx, vs, h1, RFs.ext0 e fs vs h2⟩
  | dtt kvs =>
    obtain ⟨as, vs, h1, h2, h3, h4⟩ := h
    exact ⟨as, vs, h1, h2, fun q hq => e.sqt (h3 q hq), RDs.ext0 e _ vs h4⟩
  | dtl kvs =>
    obtain ⟨od, as, vs, h1, h2, h3, h4⟩ := h
    exact ⟨od, as, vs, h1, h2, fun q hq => e.sqt (h3 q hq), RDs.ext0 e _ vs h4⟩
theorem RO.ext (e : Ext m H m' H') {p : Addr} {ob : Ob} {o : HO} (h : RO T m H p ob o) : RO T m' H' p ob o := h.ext0 e.toExt0
theorem REnv.ext0 {env : Env} {σ : L2.St} (e : Ext0 m H m' H') (h : REnv T m H env σ) : REnv T m' H' env σ :=
  ⟨h.len, fun i d q => let ⟨v, h1, h2⟩ := h.at_ i d q; ⟨v, h1, RD.ext0 e d v h2⟩⟩
theorem REnv.ext {env : Env} {σ : L2.St} (e : Ext m H m' H') (h : REnv T m H env σ) : REnv T m' H' env σ := h.ext0 e.toExt0
theorem RDs.length : ∀ {ds : List D} {vs : List V}, RDs T m H ds vs → vs.length = ds.length
  | [], vs, h => by
    have h : vs = [] := h
    rw [h]
    rfl
  | d :: ds, vs, h => by
    obtain ⟨v, r, h1, _, h3⟩ := h
    rw [h1, List.length_cons, List.length_cons, RDs.length h3]
theorem RDs.append : ∀ {ds es : List D} {vs ws : List V}, RDs T m H ds vs → RDs T m H es ws → RDs T m H (ds ++ es) (vs ++ ws)
  | [], es, vs, ws, h, k => by
    have h : vs = [] := h
    rw [h]
    exact k
  | d :: ds, es, vs, ws, h, k => by
    obtain ⟨v, r, h1, h2, h3⟩ := h
    rw [h1]
    exact ⟨v, r ++ ws, rfl, h2, RDs.append h3 k⟩
theorem RDs.one {d : D} {v : V} (h : RD T m H d v) : RDs T m H [d] [v] := ⟨v, [], rfl, h, rfl⟩
theorem RDs.get : ∀ {ds : List D} {vs : List V} {i : Nat} {d : D}, RDs T m H ds vs → ds[i]? = some d → ∃ v, vs[i]? = some v ∧ RD T m H d v
  | [], vs, i, d, h, k => by simp at k
  | d :: ds, vs, 0, e, h, k => by
    obtain ⟨v, r, h1, h2, h3⟩ := h
    simp at k
    subst k
    exact ⟨v, by rw [h1]; rfl, h2⟩
  | d :: ds, vs, i + 1, e, h, k => by
    obtain ⟨v, r, h1, h2, h3⟩ := h
    obtain ⟨w, h4, h5⟩ := RDs.get (i := i) h3 (by simpa using k)
    exact ⟨w, by rw [h1]; simpa using h4, h5⟩
theorem RDs.drop : ∀ {ds : List D} {vs : List V} (n : Nat), RDs T m H ds vs → RDs T m H (ds.drop n) (vs.drop n)
  | ds, vs, 0, h => h
  | [], vs, n + 1, h => by
    have h : vs = [] := h
    rw [h]
    exact rfl
  | d :: ds, vs, n + 1, h => by
    obtain ⟨v, r, h1, h2, h3⟩ := h
    rw [h1]
    exact RDs.drop n h3
theorem RDs.take : ∀ {ds : List D} {vs : List V} (n : Nat), RDs T m H ds vs → RDs T m H (ds.take n) (vs.take n)
  | ds, vs, 0, h => rfl
  | [], vs, n + 1, h => by
    have h : vs = [] := h
    rw [h]
    exact rfl
  | d :: ds, vs, n + 1, h => by
    obtain ⟨v, r, h1, h2, h3⟩ := h
    rw [h1]
    exact ⟨v, r.take n, rfl, h2, RDs.take n h3⟩
theorem RDs.reverse : ∀ {ds : List D} {vs : List V}, RDs T m H ds vs → RDs T m H ds.reverse vs.reverse
  | [], vs, h => by
    have h : vs = [] := h
    rw [h]
    exact rfl
  | d :: ds, vs, h => by
    obtain ⟨v, r, h1, h2, h3⟩ := h
    rw [h1, List.reverse_cons, List.reverse_cons]
    exact (RDs.reverse h3).append (RDs.one h2)
theorem RDs.rep {ds : List D} {vs : List V} (h : RDs T m H ds vs) : ∀ k : Nat, RDs T m H (List.replicate k ds).flatten (List.replicate k vs).flatten
  | 0 => rfl
  | k + 1 => by
    rw [List.replicate_succ, List.replicate_succ, List.flatten_cons, List.flatten_cons]
    exact h.append (RDs.rep h k)
theorem RDs.set : ∀ {ds : List D} {vs : List V} {d : D} {v : V} (i : Nat), RDs T m H ds vs → RD T m H d v → RDs T m H (ds.set i d) (vs.set i v)
  | [], vs, d, v, i, h, k => by
    have h : vs = [] := h
    rw [h]
    exact rfl
  | e :: ds, vs, d, v, 0, h, k => by
    obtain ⟨w, r, h1, h2, h3⟩ := h
    rw [h1]
    exact ⟨v, r, rfl, k, h3⟩
  | e :: ds, vs, d, v, i + 1, h, k => by
    obtain ⟨w, r, h1, h2, h3⟩ := h
    rw [h1]
    exact ⟨w, r.set i v, rfl, h2, RDs.set i h3 k⟩
theorem RKs.at_ {k : Key} {d : D} : ∀ {ds : List (D × D)} {vs : List (Key × V)}, RKs T m H ds vs → dAt ds k = some d → ∃ v, valV vs k = some v ∧ RD T m H d v
  | [], vs, h, q => by cases q
  | x :: xs, vs, h, q => by
    obtain ⟨k', v, r, rfl, h2, h3, h4⟩ := h
    by_cases e : k' = k
    · have q1 : dAt (x :: xs) k = some x.2 := by
        unfold dAt
        rw [List.find?_cons_of_pos (by rw [h2, e]; simp)]
        rfl
      rw [q1] at q
      cases q
      exact ⟨v, valV_pos e, h3⟩
    · have q1 : dAt (x :: xs) k = dAt xs k := by
        unfold dAt
        rw [List.find?_cons_of_neg (by rw [h2]; simpa using e)]
      rw [q1] at q
      obtain ⟨w, h5, h6⟩ := RKs.at_ h4 q
      exact ⟨w, by rw [valV_neg e]; exact h5, h6⟩
theorem RKs.any_ {k : Key} : ∀ {ds : List (D × D)} {vs : List (Key × V)}, RKs T m H ds vs → (ds.any fun p => decide (kD p.1 = some k)) = (vs.any fun kv => decide (kv.1 = k))
  | [], vs, h => by
    have h : vs = [] := h
    rw [h]
    rfl
  | x :: xs, vs, h => by
    obtain ⟨k', v, r, rfl, h2, h3, h4⟩ := h
    rw [List.any_cons, List.any_cons, RKs.any_ h4, h2]
    simp
theorem RKs.rep {k : Key} {d : D} {v : V} (hv : RD T m H d v) : ∀ {ds : List (D × D)} {vs : List (Key × V)}, RKs T m H ds vs → RKs T m H (ds.map fun p => if kD p.1 = some k then (p.1, d) else p) (vs.map fun kv => if kv.1 = k then (kv.1, v) else kv)
  | [], vs, h => by
    have h : vs = [] := h
    rw [h]
    exact rfl
  | x :: xs, vs, h => by
    obtain ⟨k', w, r, rfl, h2, h3, h4⟩ := h
    rw [List.map_cons, List.map_cons]
    by_cases e : k' = k
    · rw [if_pos e, if_pos (by rw [h2, e])]
      exact ⟨k', v, _, rfl, h2, hv, RKs.rep hv h4⟩
    · rw [if_neg e, if_neg (by rw [h2]; simpa using e)]
      exact ⟨k', w, _, rfl, h2, h3, RKs.rep hv h4⟩
theorem RKs.snoc {i d : D} {k : Key} {v : V} (hi : kD i = some k) (hv : RD T m H d v) : ∀ {ds : List (D × D)} {vs : List (Key × V)}, RKs T m H ds vs → RKs T m H (ds ++ [(i, d)]) (vs ++ [(k, v)])
  | [], vs, h => by
    have h : vs = [] := h
    rw [h]
    exact ⟨k, v, [], rfl, hi, hv, rfl⟩
  | x :: xs, vs, h => by
    obtain ⟨k', w, r, rfl, h2, h3, h4⟩ := h
    exact ⟨k', w, r ++ [(k, v)], rfl, h2, h3, RKs.snoc hi hv h4⟩
theorem RKs.put {i d : D} {k : Key} {v : V} (hi : kD i = some k) (hv : RD T m H d v) {ds : List (D × D)} {vs : List (Key × V)} (h : RKs T m H ds vs) : RKs T m H (dPut ds i k d) (putK vs k v) := by
  unfold dPut putK
  rw [h.any_]
  split
  · exact h.rep hv
  · exact h.snoc hi hv
theorem RKs.length : ∀ {ds : List (D × D)} {vs : List (Key × V)}, RKs T m H ds vs → vs.length = ds.length
  | [], vs, h => by
    have h : vs = [] := h
    rw [h]
    rfl
  | x :: xs, vs, h => by
    obtain ⟨k', w, r, rfl, h2, h3, h4⟩ := h
    rw [List.length_cons, List.length_cons, RKs.length h4]
theorem rd_key {d : D} {k : Key} {v : V} (hk : kD d = some k) (h : RD T m H d v) : v = kV k := by
  cases d with
  | int i => cases hk; exact h
  | str x => cases hk; exact h
  | _ => cases hk
theorem heap_one (p : Addr) (o : Obj) (hf : o.data ≠ .freed) : ∃ h : Heap, h.get? p = some o := by
  refine ⟨{ (default : Heap) with objs := Array.replicate (p + 1) o }, ?_⟩
  have e : (Array.replicate (p + 1) o)[p]? = some o := by simp
  show (match (Array.replicate (p + 1) o)[p]? with | some { cls := _, dict := _, data := .freed, slots := _ } => none | x => x) = some o
  rw [e]
  obtain ⟨c, d, da, sl⟩ := o
  cases da <;> first | rfl | exact absurd rfl hf
theorem codeO_nd {c : Addr} {q : Str} {φ : Heap → Prop} (h : HO.ext φ = LamX.CodeO c q) : ¬ DicP c φ := by
  rintro ⟨P, w, tvs, e⟩
  obtain ⟨hp, eh⟩ := heap_one c { cls := .none, data := .fields #[.none, .str q 0] } (fun z => nomatch z)
  rw [h] at e
  unfold LamX.CodeO DictS at e
  have e2 := congrFun (HO.ext.inj e) hp
  have k : ∃ (oc : Obj) (vs : Array Value) (t : Tok), hp.get? c = some oc ∧ oc.data = .fields vs ∧ vs[1]? = some (.str q t) := ⟨_, _, 0, eh, rfl, rfl⟩
  rw [e2] at k
  obtain ⟨_, xs, _, o, es, ep, k1, _, k3, _⟩ := k
  rw [eh] at k1
  cases k1
  cases k3
theorem tabS_keep {H H' : Hp} {P : Addr} {q : Str} (t : LamX.TabS H P q) (h1 : ∀ p ps, H p = some (.tbl ps) → H' p = some (.tbl ps)) (h2 : ∀ p φ, H p = some (.ext φ) → ¬ DicP p φ → H' p = some (.ext φ)) : LamX.TabS H' P q := by
  obtain ⟨ps, a1, a2, a3⟩ := t
  refine ⟨ps, h1 _ _ a1, a2, fun pos cv hc => ?_⟩
  obtain ⟨c, b1, b2⟩ := a3 pos cv hc
  exact ⟨c, b1, h2 _ _ b2 (codeO_nd rfl)⟩
theorem tabs_keep {H H' : Hp} {l : List (Addr × Str)} (t : LamX.Tabs l H) (h1 : ∀ p ps, H p = some (.tbl ps) → H' p = some (.tbl ps)) (h2 : ∀ p φ, H p = some (.ext φ) → ¬ DicP p φ → H' p = some (.ext φ)) : LamX.Tabs l H' := fun p hp => tabS_keep (t p hp) h1 h2
theorem tabs_new {H : Hp} {l : List (Addr × Str)} {p : Addr} {o : HO} (hp : H p = none) (t : LamX.Tabs l H) : LamX.Tabs l (upd H p o) :=
  tabs_keep t (fun q ps h => by rw [upd_ne (ne_of_none h hp)]; exact h) fun q ps h _ => by rw [upd_ne (ne_of_none h hp)]; exact h
theorem rdne {p q : Addr} {u : HO} (h : Rd H p u) (n : H q = none) : p ≠ q := by
  rintro rfl
  rcases h with h | ⟨o, h⟩ <;> rw [n] at h <;> cases h
theorem rdupd {p q : Addr} {u o : HO} (h : Rd H p u) (n : p ≠ q) : Rd (upd H q o) p u := by
  rcases h with h | ⟨ob, h⟩
  · exact .inl (by rw [upd_ne n]; exact h)
  · exact .inr ⟨ob, by rw [upd_ne n]; exact h⟩
theorem Ext0.new {p : Addr} {o : HO} (hp : H p = none) : Ext0 m H m (upd H p o) :=
  ⟨⟨[], by simp⟩, fun q vs h => rdupd h (rdne h hp), fun q vs h n => ⟨by rw [upd_ne (ne_of_none h hp)]; exact h, n⟩, fun q o u h => by rw [upd_ne (ne_of_none h hp)]; exact h, fun q φ h _ => by rw [upd_ne (ne_of_none h hp)]; exact h, fun q P w u h n => ⟨by rw [upd_ne (ne_of_none h hp)]; exact h, n⟩, rfl, tabs_new hp⟩
theorem RS.tracked {S : Store} (r : RS T m H S) {l : Nat} {p : Addr} (h : m.c[l]? = some p) : H p ≠ none := by
  have hl : l < S.length := by rw [r.len]; exact (List.getElem?_eq_some_iff.mp h).1
  obtain ⟨o, ho, _⟩ := r.at_ l S[l] p (List.getElem?_eq_getElem hl) h
  rw [ho]
  simp
theorem RS.notin {S : Store} (r : RS T m H S) {p : Addr} (h : H p = none) : ¬ m.has p := fun hm => by
  rcases hm with hm | hm
  · obtain ⟨l, hl, e⟩ := List.getElem_of_mem hm
    exact r.tracked (l := l) (p := p) (by rw [List.getElem?_eq_getElem hl, e]) h
  · exact (r.hid p hm).2 h
theorem Ext.new {S : Store} {p : Addr} {o : HO} (r : RS T m H S) (hp : H p = none) : Ext m H m (upd H p o) :=
  ⟨Ext0.new hp, rfl, fun q hq => upd_ne (by rintro rfl; exact r.notin hp (.inr hq))⟩
theorem RS.new {S : Store} {p : Addr} {o : HO} (r : RS T m H S) (hp : H p = none) : RS T m (upd H p o) S :=
  ⟨r.len, r.nd, fun q hq => ⟨(r.hid q hq).1, by
    rw [upd_ne (by rintro rfl; exact r.notin hp (.inr hq))]
    exact (r.hid q hq).2⟩, fun q hq => by
    rw [upd_ne (by rintro rfl; exact r.notin hp (.inr hq))]
    exact r.hnt q hq, r.tt, tabs_new hp r.tab, fun l ob q h1 h2 => by
    obtain ⟨u, h3, h4⟩ := r.at_ l ob q h1 h2
    refine ⟨u, ?_, h4.ext0 (Ext0.new hp)⟩
    rw [upd_ne (by rintro rfl; rw [hp] at h3; cases h3)]
    exact h3⟩
theorem Ext.cell {S : Store} {p : Addr} {o : HO} (r : RS T m H S) (hp : H p = none) : Ext m H (m.add p) (upd H p o) :=
  ⟨⟨⟨[p], rfl⟩, fun q vs h => rdupd h (rdne h hp), fun q vs h n => ⟨by rw [upd_ne (ne_of_none h hp)]; exact h, by
    rintro (z | z)
    · rcases List.mem_append.mp z with z | z
      · exact n (.inl z)
      · exact ne_of_none h hp (by simpa using z)
    · exact n (.inr z)⟩, fun q o u h => by rw [upd_ne (ne_of_none h hp)]; exact h, fun q φ h _ => by rw [upd_ne (ne_of_none h hp)]; exact h, fun q P w u h n => ⟨by rw [upd_ne (ne_of_none h hp)]; exact h, by
    rintro (z | z)
    · rcases List.mem_append.mp z with z | z
      · exact n (.inl z)
      · exact ne_of_none h hp (by simpa using z)
    · exact n (.inr z)⟩, rfl, tabs_new hp⟩, rfl, fun q hq => upd_ne (by rintro rfl; exact r.notin hp (.inr hq))⟩
theorem RS.cellO {S : Store} {p : Addr} {o : HO} {ob : Ob} (r : RS T m H S) (hp : H p = none) (h : RO T m H p ob o) : RS T (m.add p) (upd H p o) (S ++ [ob]) := by
  have e := Ext.cell (o := o) r hp
  refine ⟨by simp [r.len, Mp.add], ?_, fun q hq => ⟨?_, ?_⟩, fun q hq => (by
    rw [upd_ne (by rintro rfl; exact r.notin hp (.inr hq))]
    exact r.hnt q hq), r.tt, tabs_new hp r.tab, fun l ob' q h1 h2 => ?_⟩
  · show (m.c ++ [p]).Nodup
    rw [List.nodup_append]
    refine ⟨r.nd, by simp, fun a ha b hb => ?_⟩
    have : b = p := by simpa using hb
    rintro rfl
    exact r.notin hp (.inl (this ▸ ha))
  · intro z
    rcases List.mem_append.mp z with z | z
    · exact (r.hid q hq).1 z
    · have : q = p := by simpa using z
      subst this
      exact r.notin hp (.inr hq)
  · rw [upd_ne (by rintro rfl; exact r.notin hp (.inr hq))]
    exact (r.hid q hq).2
  · have h2 : (m.c ++ [p])[l]? = some q := h2
    by_cases hl : l < m.c.length
    · rw [List.getElem?_append_left (by rw [r.len]; exact hl)] at h1
      rw [List.getElem?_append_left hl] at h2
      obtain ⟨u, h3, h4⟩ := r.at_ l ob' q h1 h2
      refine ⟨u, ?_, h4.ext e⟩
      rw [upd_ne (by rintro rfl; rw [hp] at h3; cases h3)]
      exact h3
    · have hl2 : l < (m.c ++ [p]).length := (List.getElem?_eq_some_iff.mp h2).1
      rw [List.length_append, List.length_singleton] at hl2
      have el : l = m.c.length := by omega
      subst el
      rw [List.getElem?_append_right (Nat.le_refl _)] at h2
      have eq : q = p := by simpa using h2.symm
      subst eq
      rw [List.getElem?_append_right (Nat.le_of_eq r.len), r.len] at h1
      have eo : ob' = ob := by simpa using h1.symm
      subst eo
      exact ⟨_, upd_same, h.ext e⟩
theorem RS.cell {S : Store} {p : Addr} {xs : List D} {vs : List V} (r : RS T m H S) (hp : H p = none) (h : RDs T m H xs vs) : RS T (m.add p) (upd H p (.lst vs)) (S ++ [.lst xs]) := r.cellO hp ⟨vs, rfl, h⟩
theorem RS.obj {S : Store} {l : Nat} {ob : Ob} (r : RS T m H S) (h : S[l]? = some ob) : ∃ p o, m.c[l]? = some p ∧ H p = some o ∧ RO T m H p ob o := by
  have hl : l < m.c.length := by rw [← r.len]; exact (List.getElem?_eq_some_iff.mp h).1
  have hp : m.c[l]? = some m.c[l] := List.getElem?_eq_getElem hl
  obtain ⟨o, h1, h2⟩ := r.at_ l _ _ h hp
  exact ⟨_, o, hp, h1, h2⟩
theorem RS.lst {S : Store} {l : Nat} {xs : List D} (r : RS T m H S) (h : S[l]? = some (.lst xs)) : ∃ p vs, m.c[l]? = some p ∧ H p = some (.lst vs) ∧ RDs T m H xs vs := by
  obtain ⟨p, o, h1, h2, vs, h3, h4⟩ := r.obj h
  subst h3
  exact ⟨p, vs, h1, h2, h4⟩
theorem RS.dct {S : Store} {l : Nat} {kvs : List (D × D)} (r : RS T m H S) (h : S[l]? = some (.dct kvs)) : ∃ p vs, m.c[l]? = some p ∧ H p = some (.dK vs) ∧ RKs T m H kvs vs := by
  obtain ⟨p, o, h1, h2, vs, h3, h4⟩ := r.obj h
  subst h3
  exact ⟨p, vs, h1, h2, h4⟩
theorem RS.dtt {S : Store} {l : Nat} {kvs : List (List Key × D)} (r : RS T m H S) (h : S[l]? = some (.dtt kvs)) : ∃ p as vs, m.c[l]? = some p ∧ H p = some (DictS T.P T.w p (tvs (kvs.map (·.1)) as vs)) ∧ as.length = kvs.length ∧ (∀ q ∈ tvs (kvs.map (·.1)) as vs, SqT T.K H q.2.1 (q.1.map kV)) ∧ RDs T m H (kvs.map (·.2)) vs := by
  obtain ⟨p, o, h1, h2, as, vs, h3, h4⟩ := r.obj h
  subst h3
  exact ⟨p, as, vs, h1, h2, h4⟩
theorem RS.dtl {S : Store} {l : Nat} {kvs : List (List Key × D)} (r : RS T m H S) (h : S[l]? = some (.dtl kvs)) : ∃ p od as vs, m.c[l]? = some p ∧ H p = some (.frz od (DictS T.P T.w p (tvs (kvs.map (·.1)) as vs))) ∧ as.length = kvs.length ∧ (∀ q ∈ tvs (kvs.map (·.1)) as vs, SqT T.K H q.2.1 (q.1.map kV)) ∧ RDs T m H (kvs.map (·.2)) vs := by
  obtain ⟨p, o, h1, h2, od, as, vs, h3, h4⟩ := r.obj h
  subst h3
  exact ⟨p, od, as, vs, h1, h2, h4⟩
/-- what may be written -/
def Mu (p : Addr) (u : HO) : Prop := (∀ vs, u ≠ .tup vs) ∧ (∀ o v, u ≠ .frz o v) ∧ (∀ φ, u = .ext φ → DicP p φ) ∧ ∀ ps, u ≠ .tbl ps
theorem Mu.lst {p : Addr} {vs : List V} : Mu p (.lst vs) := ⟨fun _ h => (by cases h), fun _ _ h => (by cases h), fun _ h => (by cases h), fun _ h => (by cases h)⟩
theorem Mu.dK {p : Addr} {vs : List (Key × V)} : Mu p (.dK vs) := ⟨fun _ h => (by cases h), fun _ _ h => (by cases h), fun _ h => (by cases h), fun _ h => (by cases h)⟩
theorem Mu.dS {p : Addr} {P : Program} {w : World} {t : TVs} : Mu p (DictS P w p t) := by
  unfold DictS
  exact ⟨fun _ h => (by cases h), fun _ _ h => (by cases h), fun φ h => ⟨P, w, t, h.symm⟩, fun _ h => (by cases h)⟩
theorem tabs_upd {H : Hp} {l : List (Addr × Str)} {p : Addr} {u o : HO} (hw : H p = some u) (mu : Mu p u) (t : LamX.Tabs l H) : LamX.Tabs l (L2.upd H p o) :=
  tabs_keep t (fun q ps h => by rw [upd_ne (by rintro rfl; rw [hw] at h; cases h; exact mu.2.2.2 _ rfl)]; exact h) fun q φ h n => by rw [upd_ne (by rintro rfl; rw [hw] at h; cases h; exact n (mu.2.2.1 _ rfl))]; exact h
theorem Ext0.upd {p : Addr} {u o : HO} (hp : m.has p) (hw : H p = some u) (mu : Mu p u) : Ext0 m H m (L2.upd H p o) :=
  ⟨⟨[], by simp⟩, fun q vs h => rdupd h (by
      rintro rfl
      rcases h with h | ⟨_, h⟩ <;> rw [hw] at h <;> cases h
      · exact mu.1 _ rfl
      · exact mu.2.1 _ _ rfl), fun q vs h n => ⟨by rw [upd_ne (by rintro rfl; exact n hp)]; exact h, n⟩, fun q o u' h => by rw [upd_ne (by rintro rfl; rw [hw] at h; cases h; exact mu.2.1 _ _ rfl)]; exact h, fun q φ h n => by rw [upd_ne (by rintro rfl; rw [hw] at h; cases h; exact n (mu.2.2.1 _ rfl))]; exact h, fun q P w u' h n => ⟨by rw [upd_ne (by rintro rfl; exact n hp)]; exact h, n⟩, rfl, tabs_upd hw mu⟩
theorem Ext.upd {S : Store} {l : Nat} {p : Addr} {u o : HO} (r : RS T m H S) (hp : m.c[l]? = some p) (hw : H p = some u) (mu : Mu p u) : Ext m H m (L2.upd H p o) :=
  ⟨Ext0.upd (.inl (List.mem_of_getElem? hp)) hw mu, rfl, fun q hq => upd_ne (by rintro rfl; exact (r.hid q hq).1 (List.mem_of_getElem? hp))⟩
theorem RS.updO {S : Store} {l : Nat} {p : Addr} {u o : HO} {ob : Ob} (r : RS T m H S) (hp : m.c[l]? = some p) (hw : H p = some u) (mu : Mu p u) (h : RO T m H p ob o) : RS T m (L2.upd H p o) (S.set l ob) := by
  have e := Ext.upd (o := o) r hp hw mu
  refine ⟨by rw [List.length_set]; exact r.len, r.nd, fun q hq => ⟨(r.hid q hq).1, ?_⟩, fun q hq => (by rw [e.hid q hq]; exact r.hnt q hq), r.tt, tabs_upd hw mu r.tab, fun j ob' q h1 h2 => ?_⟩
  · rw [e.hid q hq]
    exact (r.hid q hq).2
  by_cases hj : j = l
  · subst hj
    have eq : q = p := by rw [hp] at h2; exact (Option.some.inj h2).symm
    subst eq
    have hl : j < S.length := by rw [r.len]; exact (List.getElem?_eq_some_iff.mp hp).1
    rw [List.getElem?_set_self hl] at h1
    cases h1
    exact ⟨_, upd_same, h.ext e⟩
  · rw [List.getElem?_set_ne (Ne.symm hj)] at h1
    obtain ⟨u, h3, h4⟩ := r.at_ j ob' q h1 h2
    refine ⟨u, ?_, h4.ext e⟩
    rw [upd_ne]
    · exact h3
    · rintro rfl
      obtain ⟨hl, e1⟩ := List.getElem?_eq_some_iff.mp hp
      obtain ⟨hj', e2⟩ := List.getElem?_eq_some_iff.mp h2
      exact hj ((List.getElem_inj r.nd).mp (e2.trans e1.symm))
theorem RS.upd {S : Store} {l : Nat} {p : Addr} {xs : List D} {vs ws : List V} (r : RS T m H S) (hp : m.c[l]? = some p) (hw : H p = some (.lst ws)) (h : RDs T m H xs vs) : RS T m (L2.upd H p (.lst vs)) (S.set l (.lst xs)) := r.updO hp hw Mu.lst ⟨vs, rfl, h⟩
def Mp.hide (m : Mp) (p : Addr) : Mp := ⟨m.c, p :: m.h, m.t⟩
theorem Ext0.hide {p : Addr} {o : HO} (hp : H p = none) : Ext0 m H (m.hide p) (L2.upd H p o) :=
  ⟨⟨[], by simp [Mp.hide]⟩, fun q vs h => rdupd h (rdne h hp), fun q vs h n => ⟨by rw [upd_ne (ne_of_none h hp)]; exact h, by
    rintro (z | z)
    · exact n (.inl z)
    · rcases List.mem_cons.mp z with z | z
      · exact ne_of_none h hp z
      · exact n (.inr z)⟩, fun q o u h => by rw [upd_ne (ne_of_none h hp)]; exact h, fun q φ h _ => by rw [upd_ne (ne_of_none h hp)]; exact h, fun q P w u h n => ⟨by rw [upd_ne (ne_of_none h hp)]; exact h, by
    rintro (z | z)
    · exact n (.inl z)
    · rcases List.mem_cons.mp z with z | z
      · exact ne_of_none h hp z
      · exact n (.inr z)⟩, rfl, tabs_new hp⟩
theorem RS.ext0 {S : Store} (r : RS T m H S) (e : Ext0 m H m' H') (hc : m'.c = m.c) (hh : ∀ p ∈ m'.h, p ∉ m'.c ∧ H' p ≠ none) (hn : ∀ p ∈ m'.h, ∀ ps, H' p ≠ some (.tbl ps)) (ha : ∀ (l : Nat) p, m.c[l]? = some p → H' p = H p) : RS T m' H' S :=
  ⟨by rw [hc]; exact r.len, by rw [hc]; exact r.nd, hh, hn, e.tt.trans r.tt, e.tt.symm ▸ e.tab r.tab, fun l ob p h1 h2 => by
    rw [hc] at h2
    obtain ⟨o, h3, h4⟩ := r.at_ l ob p h1 h2
    exact ⟨o, by rw [ha l p h2]; exact h3, h4.ext0 e⟩⟩
theorem RS.hide {S : Store} {p : Addr} {o : HO} (r : RS T m H S) (hp : H p = none) (ho : ∀ ps, o ≠ .tbl ps) : RS T (m.hide p) (L2.upd H p o) S := by
  refine r.ext0 (Ext0.hide hp) rfl (fun q hq => ?_) (fun q hq => ?_) fun l q h => upd_ne (by rintro rfl; exact r.tracked h hp)
  · have hq2 : q = p ∨ q ∈ m.h := List.mem_cons.mp hq
    clear hq
    rcases hq2 with rfl | hq2
    · exact ⟨fun z => r.notin hp (.inl z), by rw [upd_same]; simp⟩
    · have hne : q ≠ p := by rintro rfl; exact r.notin hp (.inr hq2)
      exact ⟨(r.hid q hq2).1, by rw [upd_ne hne]; exact (r.hid q hq2).2⟩
  · have hq2 : q = p ∨ q ∈ m.h := List.mem_cons.mp hq
    clear hq
    rcases hq2 with rfl | hq2
    · rw [upd_same]
      exact fun ps z => ho ps (Option.some.inj z)
    · have hne : q ≠ p := by rintro rfl; exact r.notin hp (.inr hq2)
      rw [upd_ne hne]
      exact r.hnt q hq2
/-- the hidden list is written -/
theorem RS.updh {S : Store} {p : Addr} {o : HO} (r : RS T m H S) (hp : p ∈ m.h) (ho : ∀ ps, o ≠ .tbl ps) (e : Ext0 m H m (L2.upd H p o)) : RS T m (L2.upd H p o) S := by
  refine r.ext0 e rfl (fun q hq => ⟨(r.hid q hq).1, ?_⟩) (fun q hq => ?_) fun l q h => upd_ne (by rintro rfl; exact (r.hid q hp).1 (List.mem_of_getElem? h))
  · by_cases hqp : q = p
    · rw [hqp, upd_same]
      simp
    · rw [upd_ne hqp]
      exact (r.hid q hq).2
  · by_cases hqp : q = p
    · rw [hqp, upd_same]
      exact fun ps z => ho ps (Option.some.inj z)
    · rw [upd_ne hqp]
      exact r.hnt q hq
/-- the hidden list is shown -/
theorem Ext0.show_ {p : Addr} {hs : List Addr} (e : m.h = p :: hs) : Ext0 m H ⟨m.c, hs, m.t⟩ H :=
  ⟨⟨[], by simp⟩, fun _ _ h => h, fun q vs h n => ⟨h, by
    rintro (z | z)
    · exact n (.inl z)
    · exact n (.inr (by rw [e]; exact List.mem_cons_of_mem _ z))⟩, fun _ _ _ h => h, fun _ _ h _ => h, fun q P w u h n => ⟨h, by
    rintro (z | z)
    · exact n (.inl z)
    · exact n (.inr (by rw [e]; exact List.mem_cons_of_mem _ z))⟩, rfl, fun h => h⟩
theorem RS.show_ {S : Store} {p : Addr} {hs : List Addr} (r : RS T m H S) (e : m.h = p :: hs) : RS T ⟨m.c, hs, m.t⟩ H S :=
  r.ext0 (Ext0.show_ e) rfl (fun q hq => r.hid q (by rw [e]; exact List.mem_cons_of_mem _ hq)) (fun q hq => r.hnt q (by rw [e]; exact List.mem_cons_of_mem _ hq)) fun _ _ _ => rfl
end
end Ev
namespace Ev
open PySem PySem.Spec L2 PyProof.Rows LamX
structure Rm (k : Nat) (A : Around) : Prop where
  room : Room k A
  gd : A.guards = some []
theorem Rm.mono {j k : Nat} {A : Around} (r : Rm k A) (h : j ≤ k) : Rm j A := ⟨r.room.mono h, r.gd⟩
theorem Rm.deeper {k : Nat} {A : Around} (r : Rm (k + 1) A) (env : PySem.Env) : Rm k (A.deeper env) := ⟨r.room.deeper env, r.gd⟩
abbrev lamCxN (X : Cx) (A : Around) (outer : List PySem.Env) (s : Shared) (H : Hp) (E : XK) (scope : Scope) (f c' : Addr) : Cx :=
  (lamCx X A outer s H E scope f c').tr [] fun e s' => wpAny (model X.prog X.w) (A.deeper (lamEnv X scope s.heap.objs.size f c')) (leaving (lamEnv X scope s.heap.objs.size f c') e) (fun _ s2 => L2N.CX X.prog X.w outer H s E e s2) (fun e' s2 => L2N.CX X.prog X.w outer H s E e' s2) s'
section
variable {X : Cx} {pins : List (Addr × Obj)} {σ : L2.St} {H : Hp} {s : Shared}
theorem pe_actN {CXg : CXT} {Eg : XK} {Ng : List Str} {qg : Str} {sg : Scope} {g f c' : Addr} {cdg pm ctv : Value} {params : Arguments} {body : Expr} {scope : Scope} {k : Nat} {a : Str} {pn : List (Addr × Obj)} {xe : Value → Shared → Prop} {W : WX} {E : XK} {tb : TE} {p1 p2 : Pos}
    (I : Inv X pins σ H s) (L : LamS X.env.scope scope) (hf : s.heap.get? f = some (PySem.W.kla_obj "<lambda>" (X.env.qual ++ "<lambda>") params body scope (cloFrom X.env.cells scope.names []) pm c' ctv)) (hfn : H f = none) (hfr : f ∉ frs X.stack)
    (hbind : bindArgs (PySem.W.kla_fn "<lambda>" (X.env.qual ++ "<lambda>") params body scope (cloFrom X.env.cells scope.names []) pm (.ref c') ctv) ⟨[], []⟩ = pure [])
    (tk : L2N.Takes ((cxOf CXg X.prog X.w X.K X.mg X.base Ng qg sg g cdg X.A X.stack s H Eg).tr pn xe) W) (hW : ∀ cls d σ' H', E cls d H' → W cls d σ' H') (hr : Rm (k + 1) (X.A.deeper (envOfC qg sg s.heap.objs.size g cdg)))
    (hbody : ∀ (A : Around) (outer : List PySem.Env) (s : Shared) (H : Hp), Rm k (A.deeper (lamEnv X scope s.heap.objs.size f c')) → PE (lamCxN X A outer s H E scope f c') body tb)
    (hN : Ng[0]? = some a) (hv : Vis sg a) (hd : (a == ("__debug__" : Str)) = false) (hcd : (a == ("__classdict__" : Str)) = false) :
    PE ((cxOf CXg X.prog X.w X.K X.mg X.base Ng qg sg g cdg X.A X.stack s H Eg).tr pn xe) (.Call (.Name a p1) [] [] p2) (fun σZ HZ Q => σZ[0]? = some (some (.ref f)) ∧ HZ c' = some (CodeO c' (X.env.qual ++ "<lambda>")) ∧ tb σ HZ Q) := by
  refine ⟨fun pinsZ sZ σZ HZ Q IZ ⟨hs, hc, ht⟩ => wpAny_Call_Name_kw (thn ((pe_var (pos := p1) (i := 0) hN hv hd hcd).run pinsZ sZ σZ HZ (fun v H1 => v = .ref f ∧ H1 = HZ) IZ ⟨.ref f, hs, rfl, rfl⟩) fun u s1 ⟨v, H1, I1, r1, q1⟩ => ?_)⟩
  obtain ⟨rfl, rfl⟩ := q1
  cases (show u = Value.ref f from r1)
  have un : Un (frs X.stack) [] H H1 s.heap s1.heap := I1.base
  have of1 := un.keep f _ hf hfn hfr (by simp)
  refine PySem.W.callWith_F0 ⟨_, _, _, _, of1⟩ ?_
  obtain ⟨⟨oc, vs, t, hoc, hdc, hvc⟩, _, _⟩ := I1.hok c' _ hc
  have call_ : codeAny (model X.prog X.w) (X.A.deeper (envOfC qg sg s.heap.objs.size g cdg)) (.call (.ref f) ⟨[], []⟩) (CR (L2N.CX X.prog X.w) (envOfC qg sg s.heap.objs.size g cdg :: X.stack) X.prog X.w H1 s1 Q E) s1 := by
    refine PySem.W.kla_callFunE hr.room.depth of1 rfl L.co L.gen rfl ⟨c', oc, vs, t, rfl, hoc, hdc, hvc⟩ ?_
    rw [hbind]
    refine wpAny_pure (wpAny_newFunctionEnv (fun y hy => (L.own y hy).2) (fun y hy => absurd hy (by simp)) (fun h₁ hns hsb => ⟨I1.nolimit.fresh _ hsb, ?_⟩) L.kind)
    show codeAny _ _ (.expr body (lamEnv X scope s1.heap.objs.size f c')) _ _
    have kp : ∀ b o, s1.heap.get? b = some o → h₁.get? b = some o := fun b o e => hsb.extBut b o (Nat.ne_of_lt (Heap.lt_size e)) (Heap.get?_push_of_some _ e)
    have J := lam_start2 (E := E) (f := f) (c' := c') (tk := s1.toks + ([] : List (Str × Value)).length) I L I1.env0 hr.room.hd un hns kp
    refine PySem.W.kla_codeExpr (wpAny_mono ((hbody _ _ s1 H1 (hr.deeper _)).run [] _ _ H1 Q (J.toTry _) ht) (fun v s' ⟨w', H', J', rv, q⟩ => ⟨w', H', J'.os, J'.bare, J'.base, J'.hok, rv, q⟩) fun e s' hq => hq)
  refine wpAny_call (codeAny_mono call_ fun r s' hq => ?_)
  match r, hq with
  | .error e, hq => exact L2N.passes_call tk hW pinsZ σZ H1 s1 e s' I1 hq
  | .ok (.ret u), hq => exact I1.after hq
  | .ok .next, hq => exact hq.elim
  | .ok .brk, hq => exact hq.elim
  | .ok .cont, hq => exact hq.elim
abbrev toldCx (X : Cx) (Ng : List Str) (x : Str) (sg : Scope) (g : Addr) (cdg : Value) (s : Shared) (H : Hp) : Cx := cxOf (L2N.CX X.prog X.w) X.prog X.w X.K X.mg X.base Ng x sg g cdg X.A X.stack s H fun _ _ _ => False
/-- a def that calls what it got -/
def GivesM (k : Nat) (X : Cx) (Ng : List Str) (x : Str) (sg : Scope) (g : Addr) (cdg : Value) (bg : List Stmt) (a : Str) (q : Str) (TT : (XK → Hp → VK → Prop) → Hp → VK → Prop) : Prop :=
  ∀ (f c' : Addr) (s : Shared) (H : Hp) (Q : VK) (tl : XK → Hp → VK → Prop), Rm k (X.A.deeper (envOfC x sg s.heap.objs.size g cdg)) →
    (∀ (W : WX) (pn : List (Addr × Obj)) (xe : Value → Shared → Prop) (E : XK) (p1 p2 : Pos), L2N.Takes ((toldCx X Ng x sg g cdg s H).tr pn xe) W → (∀ cls d σ' H', E cls d H' → W cls d σ' H') →
      PE ((toldCx X Ng x sg g cdg s H).tr pn xe) (.Call (.Name a p1) [] [] p2) (fun σZ HZ Q => σZ[0]? = some (some (.ref f)) ∧ HZ c' = some (CodeO c' q) ∧ tl E HZ Q)) →
    H c' = some (CodeO c' q) → TT tl H Q → ∃ t, PSs (toldCx X Ng x sg g cdg s H) bg t ∧ t { nx := fun _ H' => Q .non H', rt := Q } (L2.start Ng [.ref f]) H
theorem no_cxN {P : Program} {w : World} {o : List PySem.Env} {s₁ : Shared} (H : Hp) (e : Value) (s' : Shared) (h : L2N.CX P w o H s₁ (fun _ _ _ => False) e s') : False := by
  obtain ⟨_, _, _, _, _, _, _, _, _, _, _, _, z⟩ := h
  exact z
/-- x(lambda: body) -/
theorem lamcallM {T : List (Addr × Str)} {TT : (XK → Hp → VK → Prop) → Hp → VK → Prop} {x a : Str} {g c P : Addr} {k : Nat} {pg : Arguments} {bg : List Stmt} {sg : Scope} {dV kV doc pm cdv ct oc : Value} {an od : Option Addr} {osl : Array (Option Value)} {Ng : List Str}
    {params : Arguments} {body : Expr} {scope : Scope} {t : XK → TE} {p lpos pos : Pos} (hg : Gl X x) (hm : X.mg x = some (.ref g)) (hk : PySem.W.keepIn X.K (.ref g) = true) (lk : X.K.lookup g = some ⟨oc, od, .func (PySem.W.fnOf x x pg bg sg dV kV doc pm an cdv ct), osl⟩)
    (hcg : PySem.W.codeIn X.K cdv x = true) (hb : Binds X.K (PySem.W.fnOf x x pg bg sg dV kV doc pm an cdv ct) [a] []) (Sg : FnScope Ng [a] sg) (hNg : Ng[0]? = some a) (hva : Vis sg a) (hG : GivesM (k + 1) X Ng x sg g cdv bg a (X.env.qual ++ "<lambda>") TT)
    (TB : TabB X.base X.mg c P) (hcode : X.env.code = .ref c) (hmT : (P, X.env.qual ++ "<lambda>") ∈ T) (hu : ∀ p ∈ T, p.1 = P → p.2 = X.env.qual ++ "<lambda>") (hr : Rm (k + 2) X.A) (L : LamS X.env.scope scope) (hdef : defaultsOf params X.env = ([], []))
    (hbind : ∀ (q : Str) (cl : List (Str × Addr)) (pm cv ctv : Value), bindArgs (PySem.W.kla_fn "<lambda>" q params body scope cl pm cv ctv) ⟨[], []⟩ = pure [])
    (hbody : ∀ (A : Around) (outer : List PySem.Env) (s : Shared) (H : Hp) (E : XK) (f c' : Addr), Rm k (A.deeper (lamEnv X scope s.heap.objs.size f c')) → PE (lamCxN X A outer s H E scope f c') body (t E))
    (hdb : (x == ("__debug__" : Str)) = false) (hd : (a == ("__debug__" : Str)) = false) (hcd : (a == ("__classdict__" : Str)) = false) : PE X (.Call (.Name x p) [.Lambda params body scope lpos] [] pos) (tLam T TT t) := by
  refine ⟨fun pins s σ H Q I ⟨hT, h⟩ => wpAny_Call_Name_kw (ld_glob I hg hm ?_ hdb)⟩
  refine PySem.W.callWith_K (h₀ := X.base) I.ok.mod.kin hk (show wpAny _ _ (spliced ((false, eval (.Lambda params body scope lpos) X.env) :: backTo pos (starEach [] X.env))) _ _ s from Calls.spliced_cons (lam_make2 I TB hcode hmT hu hT hdef (L.has I.ok) fun f c' pm' ctv H1 s' I1 eN T1 hf hfn hfr hco => Calls.spliced_nil ⟨I1.kIn, ?_⟩)) (by rfl) (by rfl)
  have call_ : codeAny (model X.prog X.w) X.A (.call (.ref g) ⟨[.ref f], []⟩) (CR (L2N.CX X.prog X.w) X.stack X.prog X.w H1 s' Q fun _ _ _ => False) s' := by
    refine run_ofS (N := Ng) (ps := [a]) (us := [.ref f]) (vs := [.ref f]) lk hcg Sg hr.room I1.env0 (hb s' [.ref f] I1.kIn rfl) (.cons rfl .nil) rfl fun hr' => ?_
    exact hG f c' s' H1 Q (fun E H' Q' => t E σ H' Q') ⟨hr', hr.gd⟩ (fun W pn xe E p1 p2 tk hW => pe_actN I1 L hf hfn hfr (hbind _ _ _ _ _) tk hW ⟨hr', hr.gd⟩ (fun A outer s H hr2 => hbody A outer s H E f c' hr2) hNg hva hd hcd) hco (h H1 eN T1)
  refine wpAny_call (codeAny_mono call_ fun r s2 hq => ?_)
  match r, hq with
  | .error e, hq => exact (no_cxN _ _ _ hq).elim
  | .ok (.ret u), hq => exact I1.after hq
  | .ok .next, hq => exact hq.elim
  | .ok .brk, hq => exact hq.elim
  | .ok .cont, hq => exact hq.elim
end
end Ev
namespace Ev
open PySem PySem.Spec L2 PyProof.Rows
structure Names where
  fns : List Str
  gls : List Str
  cls : List Str
  blt : List Str
  /-- the local names of the defs that make lambdas -/
  tld : List (List Str)
  kns : List Str := []
  kwd : List (Nat × Str × D) := []
  /-- exceptions whose __init__ keeps what it is handed, and the field's name -/
  xfd : List (Str × Str) := []
/-- a def's keyword-only parameter, and what it is without being told -/
def kwOf (nm : Names) (k : Nat) : Option (Str × D) := nm.kwd.lookup k
/-- a name that no word of a program is: a method's, with its class -/
def isM (x : Str) : Bool := x.cps.contains 46
structure Tb extends Ad where
  mg : Str → Option Value
  base : Heap
  G : Cfg
  nm : Names
  fd : Nat → FuncData
  ps : Nat → List Str
structure FnG (P : Program) (w : World) (K : PySem.W.Frag) (mg : Str → Option Value) (base : Heap) (CX : CXT) (k : Nat) (f : Addr) (fd : FuncData) (ps : List Str) (sp : Sp) : Prop where
  len : ∀ vs H Q E, sp vs H Q E → vs.length = ps.length
  run : ∀ (A : Around) (outer : List PySem.Env) (s : Shared) (H : Hp) (args : Args) (us : List Value) (vs : List V) (Q : VK) (E : XK), Rm k A → Env0 P w K mg base A outer s H → BindsTo s fd args (ps.zip us) → Vals vs us → sp vs H Q E →
    codeAny (model P w) A (.call (.ref f) args) (CR CX outer P w H s Q E) s
theorem fnG_of {CX : CXT} {P : Program} {w : World} {K : PySem.W.Frag} {mg : Str → Option Value} {base : Heap} {k : Nat} {f : Addr} {name qual : Str} {params : Arguments} {body : List Stmt} {scope : Scope} {dV kV doc pm cdv ct oc : Value} {an od : Option Addr}
    {osl : Array (Option Value)} {N ps : List Str} {sp : Sp} (lk : K.lookup f = some ⟨oc, od, .func (PySem.W.fnOf name qual params body scope dV kV doc pm an cdv ct), osl⟩) (hcd : PySem.W.codeIn K cdv qual = true) (S : FnScope N ps scope)
    (len : ∀ vs H Q E, sp vs H Q E → vs.length = ps.length)
    (hbody : ∀ (A : Around) (outer : List PySem.Env) (s : Shared) (H : Hp) (vs : List V) (Q : VK) (E : XK), Rm k (A.deeper (envOfC qual scope s.heap.objs.size f cdv)) → sp vs H Q E →
      ∃ t, PSs (cxOf CX P w K mg base N qual scope f cdv A outer s H E) body t ∧ t { nx := fun _ H' => Q .non H', rt := Q } (start N vs) H) :
    FnG P w K mg base CX (k + 1) f (PySem.W.fnOf name qual params body scope dV kV doc pm an cdv ct) ps sp := by
  refine ⟨len, fun A outer s H args us vs Q E hr e0 hb r hsp => ?_⟩
  have hl := len _ _ _ _ hsp
  have KX : K.In s.heap := e0.mod.kin.keeps fun b o e => (e0.bs b o e).1
  have lim : s.heap.NoLimit := e0.mod.nolimit.keeps fun b o e => (e0.bs b o e).1
  have hkind : ∀ y ∈ ps.zip us, scope.names.lookup y.1 = some .local ∨ (scope.names.lookup y.1 = some .cell ∧ ((cellsFrom (s.heap.objs.size + 1) scope.names []).lookup y.1).isSome = true) := fun ⟨n, v⟩ hy => by
    rcases S.par n (List.of_mem_zip hy).1 with q | q
    · exact .inl q
    · exact .inr ⟨q, PySem.W.cellsFrom_some _ _ _ (.inl q)⟩
  refine codeAny_call_function hr.room.depth (KX _ _ lk) rfl S.co S.gen rfl (PySem.W.codeRec_of KX hcd) (hb _ _ _ _ ?_)
  refine wpAny_newFunctionEnv_cells S.kind hkind fun env he s1 x => ?_
  subst he
  refine ⟨lim.keeps x.toInCall.keep, codeAny_func ?_⟩
  obtain ⟨t, ht, hq⟩ := hbody A outer s H vs Q E (hr.deeper _) hsp
  have I : Inv (cxOf CX P w K mg base N qual scope f cdv A outer s H E) [] (start N vs) H s1 := inv_start S hr.room.hd e0 hl r x
  refine wpAny_mono (ht.run [] s1 (start N vs) H _ I hq) (fun fl s' hs => ?_) fun e s' hs => hs
  have fin : ∀ {σ' : L2.St} {H' : Hp} {v : V} {u : Value}, Inv (cxOf CX P w K mg base N qual scope f cdv A outer s H E) [] σ' H' s' → RelV v u → Q v H' → CE outer P w H s Q u s' :=
    fun {σ' H' v u} J rv q => ⟨v, H', J.os, J.bare, J.base, J.hok, rv, q⟩
  cases fl with
  | ret u =>
    obtain ⟨v, σ', H', J, rv, q⟩ := hs
    exact fin J rv q
  | next =>
    obtain ⟨σ', H', J, q⟩ := hs
    exact fin (v := V.non) (u := Value.none) J rfl q
  | brk =>
    obtain ⟨_, _, _, q⟩ := hs
    exact False.elim q
  | cont =>
    obtain ⟨_, _, _, q⟩ := hs
    exact False.elim q
section
variable (T : Ad)
/-- an error with its fields, handed on -/
def XP (m : Mp) (H : Hp) (fs : List (Str × D)) (k : Option Addr → Prop) : Prop := match fs with
  | [] => k none
  | [(f, d)] => ∀ dd v, H dd = some (.xd [(f, v)]) → RD T m H d v → k (some dd)
  | _ => False
/-- an evaluation's end, taken up by k -/
def PostK {α : Type} (r : R α) (m : Mp) (H : Hp) (σ : L2.St) (W : WX) (k : α → Store → Mp → Hp → Prop) : Prop :=
  match r with
  | .ok a S => ∀ m' H', Ext m H m' H' → RS T m' H' S → k a S m' H'
  | .exc x S => ∀ m' H', Ext m H m' H' → RS T m' H' S → XP T m' H' x.fs fun od => W (.ref (T.ca x.cls)) od σ H'
  | .stuck => False
def tE (W : WX) (f : Env → Store → R D) : TE := fun σ H Q => ∃ env m S, REnv T m H env σ ∧ RS T m H S ∧ PostK T (f env S) m H σ W fun d _ m' H' => ∀ v, RD T m' H' d v → Q v H'
def tA (W : WX) (f : Env → Store → R (List D)) : TA := fun σ H Q => ∃ env m S, REnv T m H env σ ∧ RS T m H S ∧ PostK T (f env S) m H σ W fun ds _ m' H' => ∀ vs, RDs T m' H' ds vs → Q vs H'
def tB (W : WX) (f : Env → Store → R Bool) : TT := fun σ H Q => ∃ env m S, REnv T m H env σ ∧ RS T m H S ∧ PostK T (f env S) m H σ W fun b _ _ H' => Q b H'
def PostS (r : SR) (m : Mp) (H : Hp) (W : WX) (D : Ends) : Prop :=
  match r with
  | .nx env S => ∀ m' H' σ, Ext m H m' H' → RS T m' H' S → REnv T m' H' env σ → D.nx σ H'
  | .bk env S => ∀ m' H' σ, Ext m H m' H' → RS T m' H' S → REnv T m' H' env σ → D.bk σ H'
  | .ct env S => ∀ m' H' σ, Ext m H m' H' → RS T m' H' S → REnv T m' H' env σ → D.ct σ H'
  | .rt d S => ∀ m' H' v, Ext m H m' H' → RS T m' H' S → RD T m' H' d v → D.rt v H'
  | .exc x env S => ∀ m' H' σ, Ext m H m' H' → RS T m' H' S → REnv T m' H' env σ → XP T m' H' x.fs fun od => W (.ref (T.ca x.cls)) od σ H'
  | .stuck => False
def tS (W : WX) (f : Env → Store → SR) : TS := fun D σ H => ∃ env m S, REnv T m H env σ ∧ RS T m H S ∧ PostS T (f env S) m H W D
def PostF (r : R D) (m : Mp) (H : Hp) (Q : VK) (E : XK) : Prop :=
  match r with
  | .ok d S => ∀ v m' H', Ext m H m' H' → RS T m' H' S → RD T m' H' d v → Q v H'
  | .exc x S => ∀ m' H', Ext m H m' H' → RS T m' H' S → XP T m' H' x.fs fun od => E (.ref (T.ca x.cls)) od H'
  | .stuck => False
/-- the contract of a call -/
def spC (c : List D → Store → R D) (np : Nat) : Sp := fun vs H Q E => vs.length = np ∧ ∃ m ds S, RS T m H S ∧ RDs T m H ds vs ∧ PostF T (c ds S) m H Q E
end
section
variable {T : Ad} {m : Mp} {H : Hp} {σ : L2.St} {W : WX}
theorem XP.sub {m2 : Mp} {fs : List (Str × D)} {k : Option Addr → Prop} (f : ∀ d v, RD T m2 H d v → RD T m H d v) (h : XP T m H fs k) : XP T m2 H fs k := by
  match fs, h with
  | [], h => exact h
  | [(g, d)], h => exact fun dd v e hv => h dd v e (f d v hv)
theorem XP.imp {fs : List (Str × D)} {k k' : Option Addr → Prop} (f : ∀ od, k od → k' od) (h : XP T m H fs k) : XP T m H fs k' := by
  match fs, h with
  | [], h => exact f _ h
  | [(g, d)], h => exact fun dd v e hv => f _ (h dd v e hv)
theorem PostK.bind {α β : Type} {r : R α} {g : α → Store → R β} {k : β → Store → Mp → Hp → Prop} (h : PostK T (r.bind g) m H σ W k) :
    PostK T r m H σ W fun a S m1 H1 => PostK T (g a S) m1 H1 σ W k := by
  cases r with
  | ok a S =>
    intro m1 H1 e1 r1
    have h : PostK T (g a S) m H σ W k := h
    show PostK T (g a S) m1 H1 σ W k
    generalize g a S = q at h ⊢
    cases q with
    | ok b S2 => exact fun m2 H2 e2 r2 => h m2 H2 (e1.trans e2) r2
    | exc x S2 => exact fun m2 H2 e2 r2 => h m2 H2 (e1.trans e2) r2
    | stuck => exact h
  | exc x S => exact h
  | stuck => exact h
theorem PostK.imp {α : Type} {r : R α} {k k' : α → Store → Mp → Hp → Prop} (h : PostK T r m H σ W k) (f : ∀ a S m' H', r = .ok a S → Ext m H m' H' → RS T m' H' S → k a S m' H' → k' a S m' H') : PostK T r m H σ W k' := by
  cases r with
  | ok a S => exact fun m1 H1 e1 r1 => f a S m1 H1 rfl e1 r1 (h m1 H1 e1 r1)
  | exc x S => exact h
  | stuck => exact h
theorem PostK.ext {α : Type} {r : R α} {k : α → Store → Mp → Hp → Prop} {m' : Mp} {H' : Hp} (h : PostK T r m H σ W k) (e : Ext m H m' H') : PostK T r m' H' σ W k := by
  cases r with
  | ok a S => exact fun m1 H1 e1 r1 => h m1 H1 (e.trans e1) r1
  | exc x S => exact fun m1 H1 e1 r1 => h m1 H1 (e.trans e1) r1
  | stuck => exact h
theorem PostS.ext {r : SR} {m' : Mp} {H' : Hp} {D : Ends} (h : PostS T r m H W D) (e : Ext m H m' H') : PostS T r m' H' W D := by
  cases r with
  | nx env S => exact fun m1 H1 σ e1 => h m1 H1 σ (e.trans e1)
  | bk env S => exact fun m1 H1 σ e1 => h m1 H1 σ (e.trans e1)
  | ct env S => exact fun m1 H1 σ e1 => h m1 H1 σ (e.trans e1)
  | rt d S => exact fun m1 H1 v e1 => h m1 H1 v (e.trans e1)
  | exc x env S => exact fun m1 H1 σ e1 => h m1 H1 σ (e.trans e1)
  | stuck => exact h
/-- an expression's end within a statement -/
theorem PostK.st {α : Type} {r : R α} {env : Env} {g : α → Store → SR} {D : Ends} (he : REnv T m H env σ) (h : PostS T (r.st env g) m H W D) : PostK T r m H σ W fun a S m1 H1 => PostS T (g a S) m1 H1 W D := by
  cases r with
  | ok a S => exact fun m1 H1 e1 r1 => PostS.ext (r := g a S) h e1
  | exc x S => exact fun m1 H1 e1 r1 => h m1 H1 σ e1 r1 (he.ext e1)
  | stuck => exact h
end
section
variable {X : Cx} {e : Expr} {es : List Expr} {st : Stmt} {sts : List Stmt} {c : Expr}
theorem peImp {t t' : TE} (p : PE X e t) (h : ∀ σ H Q, t' σ H Q → t σ H Q) : PE X e t' := ⟨fun pins s σ H Q I q => p.run pins s σ H Q I (h σ H Q q)⟩
theorem ptImp {t t' : TT} (p : PT X e t) (h : ∀ σ H Q, t' σ H Q → t σ H Q) : PT X e t' := ⟨fun pins s σ H Q I q => p.run pins s σ H Q I (h σ H Q q)⟩
theorem paImp {t t' : TA} (p : PA X es t) (h : ∀ σ H Q, t' σ H Q → t σ H Q) : PA X es t' := ⟨fun pos pins s σ H Q I q => p.run pos pins s σ H Q I (h σ H Q q)⟩
theorem psImp {t t' : TS} (p : PS X st t) (h : ∀ D σ H, t' D σ H → t D σ H) : PS X st t' := ⟨fun pins s σ H D I q => p.run pins s σ H D I (h D σ H q)⟩
theorem pssImp {t t' : TS} (p : PSs X sts t) (h : ∀ D σ H, t' D σ H → t D σ H) : PSs X sts t' := ⟨fun pins s σ H D I q => p.run pins s σ H D I (h D σ H q)⟩
end
/-- of a def that makes lambdas -/
structure LamF (T : Tb) (n : Nat) (X : Cx) : Prop where
  rm : Rm (n + 3) X.A
  cd : ∃ c P : Addr, X.env.code = .ref c ∧ LamX.TabB X.base X.mg c P ∧ (P, X.env.qual ++ "<lambda>") ∈ T.tb ∧ ∀ p ∈ T.tb, p.1 = P → p.2 = X.env.qual ++ "<lambda>"
/-- an error's dict holds its fields -/
def XR (A : Ad) (m : Mp) (H : Hp) : List (Str × D) → Option Addr → Prop
  | [], od => od = none
  | [(f, d)], od => ∃ dd v, od = some dd ∧ H dd = some (.xd [(f, v)]) ∧ RD A m H d v
  | _, _ => False
/-- a lambda's error, as the handlers of the def that asks take it -/
def EhM (T : Tb) (hs : List HR) (nv : Nat) (Q : VK) : XK := fun cls od H' => ∃ (x : Ex) (m : Mp) (S : Store) (d : D), cls = .ref (T.ca x.cls) ∧ RS T.toAd m H' S ∧ XR T.toAd m H' x.fs od ∧ x.fs.length ≤ 1 ∧ (hs.all fun h => slotOk nv h.nm) = true ∧ hdlM T.G x hs = some (some d) ∧
  ∀ v m2 H2, Ext m H' m2 H2 → RS T.toAd m2 H2 S → RD T.toAd m2 H2 d v → Q v H2
def TTm (T : Tb) (hs : List HR) (ds : List D) (nv : Nat) (tl : XK → Hp → VK → Prop) (H : Hp) (Q : VK) : Prop := tl (EhM T hs nv Q) H fun _ H' => ∃ (m : Mp) (S : Store), RS T.toAd m H' S ∧ ∀ v m2 H2, Ext m H' m2 H2 → RS T.toAd m2 H2 S → RD T.toAd m2 H2 (.tup ds) v → Q v H2
/-- what is known of the def that asks a lambda -/
def ToldF (T : Tb) : Prop := ∃ (hs : List HR) (ds : List D) (nv : Nat) (g : Addr) (oc : Value) (od : Option Addr) (pg : Arguments) (bg : List Stmt) (sg : Scope) (dV kV doc pm : Value) (an : Option Addr) (cdv ct : Value) (osl : Array (Option Value)) (Ng : List Str),
  T.G.sad = some (hs, ds, nv) ∧ T.mg "_law_said" = some (.ref g) ∧ PySem.W.keepIn T.K (.ref g) = true ∧ T.K.lookup g = some ⟨oc, od, .func (PySem.W.fnOf "_law_said" "_law_said" pg bg sg dV kV doc pm an cdv ct), osl⟩ ∧ PySem.W.codeIn T.K cdv "_law_said" = true ∧
  Binds T.K (PySem.W.fnOf "_law_said" "_law_said" pg bg sg dV kV doc pm an cdv ct) ["_law_ask"] [] ∧ FnScope Ng ["_law_ask"] sg ∧ Ng[0]? = some ("_law_ask" : Str) ∧ Vis sg "_law_ask" ∧
  ∀ (X : Cx) (q : Str), X.K = T.K → X.mg = T.mg → X.prog = T.P → X.w = T.w → X.base = T.base → GivesM 2 X Ng "_law_said" sg g cdv bg "_law_ask" q (TTm T hs ds nv)
structure Good (T : Tb) (n : Nat) (N : List Str) (sc so : Scope) (X : Cx) (W : WX) : Prop where
  hK : X.K = T.K
  hmg : X.mg = T.mg
  hP : X.prog = T.P
  hw : X.w = T.w
  hb : X.base = T.base
  hN : X.N = N
  nd : X.N.Nodup
  scp : X.env.scope = sc
  calm : X.calm = true
  rm : Rm n X.A
  rm1 : Rm (n + 1) X.A
  tk : L2N.Takes X W
  po : PassesOwn (model X.prog X.w) X.A X.env X.xe
  lam : N ∈ T.nm.tld → LamF T n X
  st : ∀ x, (so.names.lookup x = some .local ∨ so.names.lookup x = some .cell) → Loc X.env.scope x ∧ (X.fn x = true ∨ X.env.scope.names.lookup x = some .local)
/-- what is known of a class whose instances are compared, and told by isinstance -/
structure OwnX (K : PySem.W.Frag) (C : Addr) : Prop where
  ne : PySem.W.findIn K (.ref C) "__ne__" = some (some (.builtin "object.__ne__"))
  mo : PySem.W.mroIn K C (.type "object") = some true
  ca : PySem.W.findIn K (.ref C) "__class__" = some (some (.builtin "object.__class__"))
  cn : PySem.W.specialIn K (.builtin "object.__class__") "__get__" = some (some (.builtin "getset_descriptor.__get__"))
  ct : PySem.W.takesIn K (.builtin "object.__class__") = some true
  si : PySem.W.subIn K (.type "int") (.ref C) = some false
  ss : PySem.W.subIn K (.type "str") (.ref C) = some false
  sl : PySem.W.subIn K (.type "list") (.ref C) = some false
  ko : PySem.W.kitOne K (.ref C) (.ref C) = some true
  ki : PySem.W.kitOne K (.type "int") (.ref C) = some false
  kb : PySem.W.kitOne K (.type "bool") (.ref C) = some false
  kn : PySem.W.kitOne K (.type "NoneType") (.ref C) = some false
  ks : PySem.W.kitOne K (.type "str") (.ref C) = some false
  kt : PySem.W.kitOne K (.type "tuple") (.ref C) = some false
  kl : PySem.W.kitOne K (.type "list") (.ref C) = some false
/-- a def whose last parameter has a default -/
def KwB (T : Ad) (fd : FuncData) (ps : List Str) (d : D) : Prop := ∃ v u, Binds T.K fd ps [u] ∧ RelV v u ∧ ∀ m H, RD T m H d v
/-- the table's facts, calls at level n -/
structure TbOk (T : Tb) (n : Nat) (call : Call) : Prop where
  fn : ∀ (k : Nat) (x : Str), T.nm.fns[k]? = some x → (isM x = false → T.mg x = some (.ref (T.fa k))) ∧ PySem.W.keepIn T.K (.ref (T.fa k)) = true ∧ (kwOf T.nm k = none → Binds T.K (T.fd k) (T.ps k) []) ∧
    FnG T.P T.w T.K T.mg T.base (L2N.CX T.P T.w) n (T.fa k) (T.fd k) (T.ps k) (spC T.toAd (call k) (T.ps k).length) ∧ ∀ ds S, call k ds S ≠ .stuck → ds.length = (T.ps k).length
  kw : ∀ (k : Nat) (q : Str × D), kwOf T.nm k = some q → KwB T.toAd (T.fd k) (T.ps k) q.2
  bl : ∀ x ∈ T.nm.blt, T.mg x = none
  gl : ∀ (k : Nat) (x : Str) (d : D), T.nm.gls[k]? = some x → T.G.glbs[k]? = some d → ∃ v u, T.mg x = some u ∧ RelV v u ∧ ∀ m H, RD T.toAd m H d v
  cl : ∀ (k : Nat) (x : Str), T.nm.cls[k]? = some x → T.mg x = some (.ref (T.ca k)) ∧ PySem.W.keepIn T.K (.ref (T.ca k)) = true ∧
    (T.nm.xfd.lookup x = none → PySem.W.excIn T.K (T.ca k) [.type "ValueError", .type "Exception", .type "BaseException", .type "object"] "ValueError.__new__" = true) ∧
    PySem.W.subIn T.K (.ref (T.ca k)) (.type "BaseException") = some true ∧ PySem.W.typeIn T.K (.ref (T.ca k)) = some (.type "type")
  xk : ∀ (k : Nat) (x f : Str), T.nm.cls[k]? = some x → T.nm.xfd.lookup x = some f → KeepC T.K (T.ca k) f
  xf : ∀ t ∈ T.G.xfs, KeepC T.K (T.ca t.1) t.2
  xi : ∀ t ∈ T.G.xis, ExcC T.K (T.ca t.1) ∧ PySem.W.kitOne T.K (.ref (T.ca t.1)) (.ref (T.ca t.2.1)) = some t.2.2
  td : T.nm.tld ≠ [] → ToldF T
  vf : ∀ k ∈ T.G.vfn, ∃ x, T.nm.fns[k]? = some x ∧ kwOf T.nm k = none ∧ isM x = false
  kl : ∀ (c : Nat) (kl : Kl), T.G.kls[c]? = some kl → Cls T.K (T.ka c) ∧ (∀ f ∈ kl.fl, NoAttr T.K (T.ka c) f) ∧ ∀ (w : Bool) (mt : Str) (k : Nat), (if w then kl.mc else kl.ms).lookup mt = some k → Meth T.K (T.ka c) mt (T.fa k) ∧ Binds T.K (T.fd k) (T.ps k) [] ∧
    FnG T.P T.w T.K T.mg T.base (L2N.CX T.P T.w) n (T.fa k) (T.fd k) (T.ps k) (spC T.toAd (call k) (T.ps k).length) ∧ ∀ ds S, call k ds S ≠ .stuck → ds.length = (T.ps k).length
  ex : ∀ t ∈ T.G.exs, PySem.W.exmOne T.K (.ref (T.ca t.1)) (.ref (T.ca t.2.1)) = some t.2.2
  xo : ∀ c ∈ T.G.xos, OwnX T.K (T.ka c) ∧ ∃ kl, T.G.kls[c]? = some kl
  kn : ∀ (c : Nat) (x : Str), T.nm.kns[c]? = some x → T.mg x = some (.ref (T.ka c)) ∧ ∀ (kl : Kl) (k : Nat), T.G.kls[c]? = some kl → kl.ms.lookup ("__init__" : Str) = some k → Mk T.K (T.ka c) (T.fa k)
def isVis (sc : Scope) (x : Str) : Bool := match sc.names.lookup x with
  | some .local => true
  | some .cell => true
  | some .free => true
  | _ => false
theorem isVis_of {sc : Scope} {x : Str} (h : isVis sc x = true) : Vis sc x := by
  unfold isVis at h
  unfold Vis
  split at h <;> simp_all
def isGl (sc : Scope) (x : Str) : Bool := decide (sc.names.lookup x = some .globalImplicit)
def noDbg (x : Str) : Bool := !(x == ("__debug__" : Str)) && !(x == ("__classdict__" : Str)) && !decide (x = ("__name__" : Str))
theorem noDbg_1 {x : Str} (h : noDbg x = true) : (x == ("__debug__" : Str)) = false := by
  unfold noDbg at h
  simp only [Bool.and_eq_true, Bool.not_eq_true'] at h
  exact h.1.1
theorem noDbg_2 {x : Str} (h : noDbg x = true) : (x == ("__classdict__" : Str)) = false := by
  unfold noDbg at h
  simp only [Bool.and_eq_true, Bool.not_eq_true'] at h
  exact h.1.2
theorem noDbg_3 {x : Str} (h : noDbg x = true) : x ≠ ("__name__" : Str) := by
  unfold noDbg at h
  simp only [Bool.and_eq_true, Bool.not_eq_true', decide_eq_false_iff_not] at h
  exact h.2
theorem gl_of {T : Tb} {n : Nat} {N : List Str} {sc so : Scope} {X : Cx} {W : WX} (g : Good T n N sc so X W) {x : Str} (h : isGl sc x = true) : Gl X x := by
  unfold isGl at h
  show X.env.scope.names.lookup x = _
  rw [g.scp]
  exact of_decide_eq_true h
end Ev
namespace Ev
open PySem PySem.Spec L2 PyProof.Rows
theorem tuple_mul1 (l : Addr) (items : Array Value) (n : Nat) (dd : Option Addr) (sl : Array (Option Value)) (u : Tok) :
    Meets (Builtin.«tuple.__mul__» ⟨[.ref l, .int 1 u], []⟩) (fun _ R s => s.heap.get? l = some { cls := .type "tuple", dict := dd, data := .seq items n, slots := sl } ∧ R (.ok (.ret (Value.ref l))) s) :=
  .of_wp fun prog w A R s h => by
    obtain ⟨hp, g, d, tk, os⟩ := s
    obtain ⟨hl, h⟩ := h
    have f1 := AutoSeq1.idx_int
    have c0 : (decide ((1 : Int) < -(2 ^ 63)) || decide ((1 : Int) ≥ 2 ^ 63)) = false := by decide
    have c1 : (items.isEmpty || (1 : Int) == 1) = true := by cases items.isEmpty <;> rfl
    wp_walk using wpAny_loadPart' hl
    repeat (first
      | (refine wpAny_ite_false (decide_eq_false (by rw [c0]; exact Bool.false_ne_true)) ?_; wp_walk using wpAny_loadPart' hl)
      | (refine wpAny_ite_true (decide_eq_true c1) ?_; wp_walk using wpAny_loadPart' hl))
    exact ⟨_, rfl, h⟩
def rRepT1 (K : PySem.W.Frag) : R2 := fun x y H Q => ∃ l xs, x = .ref l ∧ y = .int 1 ∧ SqT K H l xs ∧ Q (.ref l) H
section
variable {X : Cx}
theorem op_repT1 : OpR X (binaryOp .Mult) (rRepT1 X.K) := by
  intro pins s σ H x y v u Q I rx ry h
  obtain ⟨l, xs, rfl, rfl, hT, q⟩ := h
  cases rx
  obtain ⟨t, rfl⟩ := ry
  obtain ⟨its, r, ⟨⟨cls, dd, data, sl⟩, ho, hc, n, hd⟩, hs⟩ := I.tuple hT
  simp only at hc hd
  subst hc hd
  refine wpAny_binaryOp_repeat_ref (T := "tuple") (U := "int") (by decide) ⟨_, ho, rfl⟩ (fun s' => typeIs_int s' 1 t) noFill_tuple_mul F.fills_int_mul F.slot_int_rmul repeat_tuple F.slot_int_index.lookup
    (call_meets F.slot_int_rmul (typeIs_int s 1 t) F.entry_int_rmul (F.args_int_rmul_2 _ _) (int_rmul_tuple 1 t l its.toArray n dd sl)
      ⟨ho, rfl, ⟨_, ho, rfl⟩, call_meets F.slot_tuple_mul ⟨_, ho, rfl⟩ F.entry_tuple_mul (F.args_tuple_mul_2 _ _) (tuple_mul1 l its.toArray n dd sl t) ⟨ho, ?_⟩⟩)
  exact ⟨.ref l, H, I, rfl, q⟩
/-- a text, so many times -/
def rRepS : R2 := fun x y H Q => ∃ z k, x = .str z ∧ y = .int k ∧ 2 ≤ k ∧ k ≤ 1000 ∧ 1 ≤ z.length ∧ z.length ≤ 1000 ∧ Q (.str (repS z k.toNat)) H
theorem len_fold (a : Array Nat) : ∀ (n : Nat) (b : Array Nat), ((List.replicate n a).foldl (· ++ ·) b).size = b.size + n * a.size
  | 0, b => by simp
  | n + 1, b => by
    rw [List.replicate_succ, List.foldl_cons, len_fold a n (b ++ a), Array.size_append, Nat.succ_mul]
    omega
theorem len_repS (z : Str) (n : Nat) : (repS z n).length = n * z.length := by
  show ((List.replicate n z.cps).foldl (· ++ ·) #[]).size = _
  rw [len_fold]
  simp [Str.length]
theorem op_repS : OpR X (binaryOp .Mult) rRepS := by
  intro pins s σ H x y v u Q I rx ry h
  obtain ⟨z, k, rfl, rfl, h1, h2, h3, h4, q⟩ := h
  obtain ⟨t, rfl⟩ := rx
  obtain ⟨t2, rfl⟩ := ry
  have hk : ¬ k < 1 := by omega
  have hk2 : (k == 1 || z.length == 0) = false := by
    rw [Bool.or_eq_false_iff]
    refine ⟨?_, ?_⟩
    · simp; omega
    · simp; omega
  have hz : z.length * k.toNat ≤ 1000 * 1000 := Nat.mul_le_mul h4 (by omega)
  have hs : PySem.Builtin.Str.tooLong (z.length * k.toNat) = false := by
    unfold PySem.Builtin.Str.tooLong
    rw [decide_eq_false]
    rw [sizeLine_eq]
    omega
  refine P.mul_str (by simp; omega) (fun _ _ => ?_) (fun _ _ => hs) ?_
  · have : (2 ^ 63 - 1 : Int) / k ≥ 1000 := Int.le_ediv_of_mul_le (by omega) (by omega)
    omega
  · rw [if_neg hk, hk2, if_neg Bool.false_ne_true]
    refine ⟨?_, .str (repS z k.toNat), H, I.tok _, ⟨_, rfl⟩, q⟩
    show (repS z k.toNat).length ≤ sizeLine
    rw [len_repS, sizeLine_eq, Nat.mul_comm]
    omega
end
end Ev
namespace Ev
open PySem PySem.Spec L2 PyProof.Rows
section
variable {T : Ad} {m : Mp} {H : Hp} {σ : L2.St} {W : WX} {S : Store} {Q : VK}
abbrev KQ (T : Ad) (Q : VK) : D → Store → Mp → Hp → Prop := fun d _ m' H' => ∀ v, RD T m' H' d v → Q v H'
theorem ok_use {d : D} {v : V} (r : RS T m H S) (h : PostK T (.ok d S) m H σ W (KQ T Q)) (hv : RD T m H d v) : Q v H := h m H Ext.refl r v hv
theorem ref_len (r : RS T m H S) {p : Addr} {H' : Hp} : RD T (m.add p) H' (.ref S.length) (.ref p) := ⟨p, by show (m.c ++ [p])[S.length]? = some p; rw [r.len, List.getElem?_append_right (Nat.le_refl _)]; simp, rfl⟩
theorem isz_of {n : Nat} (h : isz n = true) : n ≤ sizeLine := of_decide_eq_true h
theorem mkL_use {new : Bool} {xs : List D} {vs : List V} (r : RS T m H S) (h : PostK T (mkL new xs S) m H σ W (KQ T Q)) (hx : RDs T m H xs vs) :
    vs.length ≤ sizeLine ∧ ∀ p, H p = none → Q (.ref p) (upd H p (.lst vs)) := by
  unfold mkL at h
  by_cases hz : isz xs.length = true
  · rw [if_pos hz] at h
    refine ⟨by rw [hx.length]; exact isz_of hz, fun p hp => ?_⟩
    cases new with
    | true =>
      rw [if_pos rfl] at h
      exact h _ _ (Ext.cell r hp) (r.cell hp hx) _ (ref_len r)
    | false =>
      rw [if_neg Bool.false_ne_true] at h
      exact h _ _ (Ext.new r hp) (r.new hp) _ ⟨p, vs, rfl, ⟨upd_same, r.notin hp⟩, RDs.ext (Ext.new r hp) _ _ hx⟩
  · rw [if_neg hz] at h
    exact h.elim
theorem mkT_use {xs : List D} {vs : List V} (r : RS T m H S) (h : PostK T (mkT xs S) m H σ W (KQ T Q)) (hx : RDs T m H xs vs) :
    vs.length ≤ sizeLine ∧ ∀ p, H p = none → Q (.ref p) (upd H p (.tup vs)) := by
  unfold mkT at h
  by_cases hz : isz xs.length = true
  · rw [if_pos hz] at h
    refine ⟨by rw [hx.length]; exact isz_of hz, fun p hp => ?_⟩
    exact h _ _ (Ext.new r hp) (r.new hp) _ ⟨p, vs, rfl, .inl (.inl upd_same), RDs.ext (Ext.new r hp) _ _ hx⟩
  · rw [if_neg hz] at h
    exact h.elim
theorem lstOf_lst {xs ys : List D} (h : lstOf S (.lst xs) = some ys) : xs = ys := Option.some.inj h
theorem lstOf_ref {l : Nat} {ys : List D} (h : lstOf S (.ref l) = some ys) : S[l]? = some (.lst ys) := by
  have h : (match S[l]? with | some (.lst xs) => some xs | _ => none) = some ys := h
  revert h
  cases S[l]? with
  | none => exact fun h => nomatch h
  | some o =>
    cases o with
    | lst xs => exact fun h => by rw [Option.some.inj h]
    | dct _ => exact fun h => nomatch h
    | obj _ _ => exact fun h => nomatch h
    | dtt _ => exact fun h => nomatch h
    | dtl _ => exact fun h => nomatch h
theorem lst_of {d : D} {xs : List D} {v : V} (r : RS T m H S) (h : lstOf S d = some xs) (hv : RD T m H d v) : ∃ p vs, v = .ref p ∧ H p = some (.lst vs) ∧ RDs T m H xs vs := by
  cases d with
  | lst ys =>
    obtain rfl := lstOf_lst h
    obtain ⟨p, vs, h1, h2, h3⟩ := hv
    exact ⟨p, vs, h1, h2.1, h3⟩
  | ref l =>
    obtain ⟨p, h1, h2⟩ := hv
    obtain ⟨p', vs, h3, h4, h5⟩ := r.lst (lstOf_ref h)
    rw [h1] at h3
    cases h3
    exact ⟨p, vs, h2, h4, h5⟩
  | _ => simp [lstOf] at h
theorem tup_of {xs : List D} {v : V} (hv : RD T m H (.tup xs) v) : ∃ p vs, v = .ref p ∧ SqT T.K H p vs ∧ RDs T m H xs vs := hv
theorem scr_of {ns : List Int} {v : V} (hv : RD T m H (.scr ns) v) : ∃ p, v = .ref p ∧ SqL T.K H p (ns.map V.int) := by
  obtain ⟨p, h1, h2⟩ := hv
  refine ⟨p, h1, ?_⟩
  rcases h2 with ⟨o, h⟩ | h
  · exact .inl (.inr ⟨o, h⟩)
  · exact .inr h
theorem RDs.nil_iff {ds : List D} {vs : List V} (h : RDs T m H ds vs) : vs = [] ↔ ds = [] := by
  cases ds with
  | nil =>
    have h : vs = [] := h
    simp [h]
  | cons d ds =>
    obtain ⟨v, r, h1, _⟩ := h
    simp [h1]
theorem RDs.ints : ∀ (ns : List Int), RDs T m H (ns.map D.int) (ns.map V.int)
  | [] => rfl
  | n :: ns => ⟨_, _, rfl, rfl, RDs.ints ns⟩
theorem RDs.cut {ds : List D} {vs : List V} (h : RDs T m H ds vs) (lo hi : Option Int) : RDs T m H (cutD ds lo hi) (L2.cutV vs lo hi) := by
  unfold cutD L2.cutV
  rw [h.length]
  exact (h.drop _).take _
end
section
variable {X : Cx}
/-- list + list, whatever they are -/
def rCatG (K : PySem.W.Frag) : R2 := fun x y H Q => ∃ l b xs zs, x = .ref l ∧ y = .ref b ∧ SqL K H l xs ∧ SqL K H b zs ∧ xs.length + zs.length ≤ sizeLine ∧ ∀ p, H p = none → Q (.ref p) (upd H p (.lst (xs ++ zs)))
theorem op_catG : OpR X (binaryOp .Add) (rCatG X.K) := by
  intro pins s σ H x y v u Q I rx ry h
  obtain ⟨l, b, xs, zs, rfl, rfl, hH, hB, hz, q⟩ := h
  cases rx
  cases ry
  obtain ⟨its, r, p1, z1⟩ := I.list hH
  obtain ⟨its2, r2, p2, z2⟩ := I.list hB
  have hl := r.length
  have hl2 := r2.length
  obtain ⟨⟨cls, dd, data, sl⟩, ho, hc, n, hd⟩ := id p1.isList
  obtain ⟨⟨cls2, dd2, data2, sl2⟩, ho2, hc2, n2, hd2⟩ := id p2.isList
  simp only at hc hd hc2 hd2
  subst hc hd hc2 hd2
  have e : its.toArray ++ its2.toArray = (its ++ its2).toArray := by simp
  refine concat_meets ⟨_, ho, rfl⟩ ⟨_, ho2, rfl⟩ noFill_list_add seq_list_add PySem.F.slot_list_add PySem.F.entry_list_add (PySem.F.args_list_add_2 _ _) (list_addW l b its.toArray its2.toArray n n2 dd dd2 sl sl2 (by rw [List.size_toArray, List.size_toArray]; omega)) ⟨ho, ho2, ?_⟩
  rw [e]
  exact ⟨.ref _, _, I.lnew (t' := s.toks) (r.append r2) (by rw [List.length_append]; omega), rfl, q _ I.fresh⟩
def CDivA (_ j : Int) : Prop := j ≠ 0 ∧ j.natAbs.log2 < 9000
theorem op_fdivA : OpR X (binaryOp .FloorDiv) (rI CDivA fun i j => .int (i.fdiv j)) := opI fun _ _ _ _ _ _ _ hc q => floordiv_int hc.1 q (.inl (PyProof.noPylong_of_log2 hc.2))
theorem op_mulX : OpR X (binaryOp .Mult) (rI IntMulOk fun i j => .int (i * j)) := opI fun _ _ _ _ _ _ _ hc q => mul_int q hc
end
section
variable {T : Ad} {m : Mp} {H : Hp} {σ : L2.St} {W : WX} {S : Store} {Q : VK} {dx dy : D} {x y : V}
def opB : Bop → Operator
  | .add => .Add
  | .sub => .Sub
  | .mul => .Mult
  | .fdiv => .FloorDiv
  | .mod => .Mod
  | .pow => .Pow
def rB (K : PySem.W.Frag) : Bop → R2
  | .add => fun x y H Q => rI0 (fun i j => .int (i + j)) x y H Q ∨ (∃ i j, x = .str i ∧ y = .str j ∧ i.length + j.length ≤ sizeLine ∧ Q (.str (i ++ j)) H) ∨ rCatA K x y H Q ∨ rCatG K x y H Q
  | .sub => rI0 fun i j => .int (i - j)
  | .mul => fun x y H Q => rI IntMulOk (fun i j => .int (i * j)) x y H Q ∨ rRepT K x y H Q ∨ rRepT1 K x y H Q ∨ rRep x y H Q ∨ rRepS x y H Q
  | .fdiv => fun x y H Q => rI CDivA (fun i j => .int (i.fdiv j)) x y H Q
  | .mod => rI (fun _ j => j ≠ 0) fun i j => .int (i.fmod j)
  | .pow => rI CPow fun i j => .int (i ^ j.toNat)
theorem opB_ok {X : Cx} (op : Bop) : OpR X (binaryOp (opB op)) (rB X.K op) := by
  cases op with
  | add => exact op_add.or (op_add_str.or (op_catA.or op_catG))
  | sub => exact op_sub
  | mul => exact op_mulX.or (op_repT.or (op_repT1.or (op_rep.or op_repS)))
  | fdiv => exact op_fdivA
  | mod => exact op_modN
  | pow => exact op_pow
theorem rd_int {i : Int} (h : RD T m H (.int i) x) : x = .int i := h
theorem rd_str {i : Str} (h : RD T m H (.str i) x) : x = .str i := h
theorem rd_bl {i : Bool} (h : RD T m H (.bl i) x) : x = .bl i := h
theorem rd_non (h : RD T m H .non x) : x = .non := h
theorem lst_pair {ys : Option (List D)} {f : List D → R D} {k : D → Store → Mp → Hp → Prop} (h : PostK T (match ys with | some b => f b | none => .stuck) m H σ W k) : ∃ b, ys = some b ∧ PostK T (f b) m H σ W k := by
  cases ys with
  | none => exact h.elim
  | some b => exact ⟨b, rfl, h⟩
theorem lst_pair2 {xs ys : Option (List D)} {f : List D → List D → R D} {k : D → Store → Mp → Hp → Prop} (h : PostK T (match xs, ys with | some a, some b => f a b | _, _ => .stuck) m H σ W k) : ∃ a b, xs = some a ∧ ys = some b ∧ PostK T (f a b) m H σ W k := by
  cases xs with
  | none => cases ys <;> exact h.elim
  | some a =>
    cases ys with
    | none => exact h.elim
    | some b => exact ⟨a, b, rfl, rfl, h⟩
theorem rB_add {new : Bool} (r : RS T m H S) (hx : RD T m H dx x) (hy : RD T m H dy y) (h : PostK T (binV new .add dx dy S) m H σ W (KQ T Q)) : rB T.K .add x y H Q := by
  have lists : ∀ {a b : List D}, lstOf S dx = some a → lstOf S dy = some b → PostK T (mkL new (a ++ b) S) m H σ W (KQ T Q) → rB T.K .add x y H Q := fun {a b} e1 e2 h => by
    obtain ⟨p, vs, rfl, h2, h3⟩ := lst_of r e1 hx
    obtain ⟨q, ws, rfl, h5, h6⟩ := lst_of r e2 hy
    obtain ⟨k1, k2⟩ := mkL_use r h (h3.append h6)
    rw [List.length_append] at k1
    exact .inr (.inr (.inr ⟨p, q, vs, ws, rfl, rfl, SqL.of h2, SqL.of h5, k1, k2⟩))
  cases dx with
  | int i =>
    cases dy with
    | int j =>
      obtain rfl := rd_int hx
      obtain rfl := rd_int hy
      exact .inl ⟨i, j, rfl, rfl, ok_use r h rfl⟩
    | _ => exact absurd h (by simp [binV, lstOf, PostK])
  | str i =>
    cases dy with
    | str j =>
      obtain rfl := rd_str hx
      obtain rfl := rd_str hy
      unfold binV at h
      simp only at h
      by_cases hz : isz (i.length + j.length) = true
      · rw [if_pos hz] at h
        exact .inr (.inl ⟨i, j, rfl, rfl, isz_of hz, ok_use r h rfl⟩)
      · rw [if_neg hz] at h
        exact h.elim
    | _ => exact absurd h (by simp [binV, lstOf, PostK])
  | tup i =>
    cases dy with
    | tup j =>
      obtain ⟨p, vs, rfl, h2, h3⟩ := tup_of hx
      obtain ⟨q, ws, rfl, h5, h6⟩ := tup_of hy
      have h : PostK T (mkT (i ++ j) S) m H σ W (KQ T Q) := h
      obtain ⟨k1, k2⟩ := mkT_use r h (h3.append h6)
      rw [List.length_append] at k1
      have ki : isz (i ++ j).length = true := by
        unfold mkT at h
        by_cases hz : isz (i ++ j).length = true
        · exact hz
        · rw [if_neg hz] at h
          exact h.elim
      have kt : PostK T (.ok (.tup (i ++ j)) S) m H σ W (KQ T Q) := by
        unfold mkT at h
        rw [if_pos ki] at h
        exact h
      refine .inr (.inr (.inl ⟨p, q, vs, ws, rfl, rfl, h2, h5, k1, fun e => ?_, fun _ e => ?_, fun _ _ => k2⟩))
      · refine ok_use r kt ⟨q, ws, rfl, h5, ?_⟩
        rw [h3.nil_iff.mp e, List.nil_append]
        exact h6
      · refine ok_use r kt ⟨p, vs, rfl, h2, ?_⟩
        rw [h6.nil_iff.mp e, List.append_nil]
        exact h3
    | _ => exact absurd h (by simp [binV, lstOf, PostK])
  | scr ns =>
    have h : PostK T (match lstOf S dy with | some b => mkL new (ns.map .int ++ b) S | none => .stuck) m H σ W (KQ T Q) := by
      cases dy <;> exact h
    obtain ⟨b, e, h⟩ := lst_pair h
    obtain ⟨p, rfl, h2⟩ := scr_of hx
    obtain ⟨q, ws, rfl, h5, h6⟩ := lst_of r e hy
    obtain ⟨k1, k2⟩ := mkL_use r h ((RDs.ints ns).append h6)
    rw [List.length_append] at k1
    exact .inr (.inr (.inr ⟨p, q, _, ws, rfl, rfl, h2, SqL.of h5, k1, k2⟩))
  | lst i =>
    have h : PostK T (match lstOf S (.lst i), lstOf S dy with | some a, some b => mkL new (a ++ b) S | _, _ => .stuck) m H σ W (KQ T Q) := by
      cases dy <;> exact h
    obtain ⟨a, b, e1, e2, h⟩ := lst_pair2 h
    exact lists e1 e2 h
  | ref i =>
    have h : PostK T (match lstOf S (.ref i), lstOf S dy with | some a, some b => mkL new (a ++ b) S | _, _ => .stuck) m H σ W (KQ T Q) := by
      cases dy <;> exact h
    obtain ⟨a, b, e1, e2, h⟩ := lst_pair2 h
    exact lists e1 e2 h
  | non => exact absurd h (by cases dy <;> simp [binV, lstOf, PostK])
  | bl b => exact absurd h (by cases dy <;> simp [binV, lstOf, PostK])
  | fn b => exact absurd h (by cases dy <;> simp [binV, lstOf, PostK])
  | tdc _ _ => exact absurd h (by cases dy <;> simp [binV, lstOf, PostK])
theorem ite_use {α : Type} {c : Bool} {a : R α} {k : α → Store → Mp → Hp → Prop} (h : PostK T (if c then a else .stuck) m H σ W k) : c = true ∧ PostK T a m H σ W k := by
  cases c with
  | true => exact ⟨rfl, h⟩
  | false => exact h.elim
theorem rB_mul {new : Bool} (r : RS T m H S) (hx : RD T m H dx x) (hy : RD T m H dy y) (h : PostK T (binV new .mul dx dy S) m H σ W (KQ T Q)) : rB T.K .mul x y H Q := by
  cases dy with
  | int k =>
    obtain rfl := rd_int hy
    have lists : ∀ {a : List D}, lstOf S dx = some a → PostK T (if decide (-(2 ^ 63) ≤ k ∧ k < 2 ^ 63 ∧ a.length * k.toNat ≤ sizeLine) then mkL new (List.replicate k.toNat a).flatten S else .stuck) m H σ W (KQ T Q) → rB T.K .mul x (.int k) H Q := fun {a} e1 h => by
      obtain ⟨p, vs, rfl, h2, h3⟩ := lst_of r e1 hx
      obtain ⟨c, h⟩ := ite_use h
      obtain ⟨c1, c2, c3⟩ := of_decide_eq_true c
      obtain ⟨k1, k2⟩ := mkL_use r h (h3.rep k.toNat)
      exact .inr (.inr (.inr (.inl ⟨p, k, vs, rfl, rfl, h2, c1, c2, by rw [h3.length]; exact c3, k2⟩)))
    cases dx with
    | int i =>
      obtain rfl := rd_int hx
      obtain ⟨c, h⟩ := ite_use (show PostK T (if okMul i k then .ok (.int (i * k)) S else .stuck) m H σ W (KQ T Q) from h)
      refine .inl ⟨i, k, rfl, rfl, ?_, ok_use r h rfl⟩
      have c : (decide (i.natAbs.log2 + k.natAbs.log2 < 1000000) || decide (-2 ≤ k ∧ k ≤ 2)) = true := c
      rw [Bool.or_eq_true] at c
      rcases c with c | c
      · have c := of_decide_eq_true c
        exact CMulW.ok c
      · have c := of_decide_eq_true c
        exact IntMulOk.of_right (intBits_le_64 (by omega) (by omega))
    | tup a =>
      obtain ⟨p, vs, rfl, h2, h3⟩ := tup_of hx
      have h : PostK T (if decide (k = 1) then .ok (.tup a) S else if !a.isEmpty && decide (2 ≤ k ∧ k ≤ 1000 ∧ a.length ≤ 1000) then .ok (.tup (List.replicate k.toNat a).flatten) S else .stuck) m H σ W (KQ T Q) := h
      by_cases hk : k = 1
      · rw [if_pos (decide_eq_true hk)] at h
        subst hk
        exact .inr (.inr (.inl ⟨p, vs, rfl, rfl, h2, ok_use r h ⟨p, vs, rfl, h2, h3⟩⟩))
      rw [if_neg (by rw [decide_eq_false hk]; exact Bool.false_ne_true)] at h
      obtain ⟨c, h⟩ := ite_use h
      rw [Bool.and_eq_true] at c
      obtain ⟨c1, c2, c3⟩ := of_decide_eq_true c.2
      refine .inr (.inl ⟨p, k, vs, rfl, rfl, h2, fun e => ?_, c1, c2, by rw [h3.length]; exact c3, fun q hq => ?_⟩)
      · have := h3.nil_iff.mp e
        rw [this] at c
        exact absurd c.1 (by simp)
      · exact h _ _ (Ext.new r hq) (r.new hq) _ ⟨q, _, rfl, .inl (.inl upd_same), RDs.ext (Ext.new r hq) _ _ (h3.rep k.toNat)⟩
    | str z =>
      obtain rfl := rd_str hx
      obtain ⟨c, h⟩ := ite_use (show PostK T (if decide (2 ≤ k ∧ k ≤ 1000 ∧ 1 ≤ z.length ∧ z.length ≤ 1000) then .ok (.str (repS z k.toNat)) S else .stuck) m H σ W (KQ T Q) from h)
      obtain ⟨c1, c2, c3, c4⟩ := of_decide_eq_true c
      exact .inr (.inr (.inr (.inr ⟨z, k, rfl, rfl, c1, c2, c3, c4, ok_use r h rfl⟩)))
    | lst a => exact lists rfl h
    | ref l =>
      have h : PostK T (match lstOf S (.ref l) with | some a => if decide (-(2 ^ 63) ≤ k ∧ k < 2 ^ 63 ∧ a.length * k.toNat ≤ sizeLine) then mkL new (List.replicate k.toNat a).flatten S else .stuck | none => .stuck) m H σ W (KQ T Q) := h
      obtain ⟨a, e, h⟩ := lst_pair h
      exact lists e h
    | _ => exact absurd h (by simp [binV, lstOf, PostK])
  | _ => exact absurd h (by cases dx <;> simp [binV, PostK])
theorem rB_ok {new : Bool} {op : Bop} (r : RS T m H S) (hx : RD T m H dx x) (hy : RD T m H dy y) (h : PostK T (binV new op dx dy S) m H σ W (KQ T Q)) : rB T.K op x y H Q := by
  cases op with
  | add => exact rB_add r hx hy h
  | mul => exact rB_mul r hx hy h
  | sub =>
    cases dx with
    | int i =>
      cases dy with
      | int j =>
        obtain rfl := rd_int hx
        obtain rfl := rd_int hy
        exact ⟨i, j, rfl, rfl, ok_use r h rfl⟩
      | _ => exact absurd h (by simp [binV, PostK])
    | _ => exact absurd h (by cases dy <;> simp [binV, PostK])
  | fdiv =>
    cases dx with
    | int i =>
      cases dy with
      | int j =>
        obtain rfl := rd_int hx
        obtain rfl := rd_int hy
        obtain ⟨c, h⟩ := ite_use (show PostK T (if okDiv j then .ok (.int (i.fdiv j)) S else .stuck) m H σ W (KQ T Q) from h)
        refine ⟨i, j, rfl, rfl, ?_, ok_use r h rfl⟩
        unfold okDiv at c
        simp only [Bool.or_eq_true, decide_eq_true_eq] at c
        rcases c with ⟨c1, c2⟩ | ⟨c1, c2⟩
        · exact ⟨by omega, c2⟩
        · refine ⟨c1, ?_⟩
          have h1 : j.natAbs.log2 ≤ 30 := by
            have := (Nat.log2_lt (n := j.natAbs) (k := 31) (by omega)).mpr (by omega)
            omega
          omega
      | _ => exact absurd h (by simp [binV, PostK])
    | _ => exact absurd h (by cases dy <;> simp [binV, PostK])
  | mod =>
    cases dx with
    | int i =>
      cases dy with
      | int j =>
        obtain rfl := rd_int hx
        obtain rfl := rd_int hy
        unfold binV at h
        simp only at h
        by_cases hj : j = 0
        · rw [if_pos hj] at h
          exact h.elim
        · rw [if_neg hj] at h
          exact ⟨i, j, rfl, rfl, hj, ok_use r h rfl⟩
      | _ => exact absurd h (by simp [binV, PostK])
    | _ => exact absurd h (by cases dy <;> simp [binV, PostK])
  | pow =>
    cases dx with
    | int i =>
      cases dy with
      | int j =>
        obtain rfl := rd_int hx
        obtain rfl := rd_int hy
        obtain ⟨c, h⟩ := ite_use (show PostK T (if okPow i j then .ok (.int (i ^ j.toNat)) S else .stuck) m H σ W (KQ T Q) from h)
        exact ⟨i, j, rfl, rfl, (show 0 ≤ j ∧ j ≤ 1000000 ∧ i.natAbs < 2 ^ 64 from of_decide_eq_true c), ok_use r h rfl⟩
      | _ => exact absurd h (by simp [binV, PostK])
    | _ => exact absurd h (by cases dy <;> simp [binV, PostK])
end
end Ev
namespace Ev
open PySem PySem.Spec L2 PyProof.Rows
theorem dic_no {l : Addr} {o : Obj} (j : Int) (tk : Tok) : Meets (Builtin.«dict.__eq__» ⟨[.ref l, .int j tk], []⟩) (fun _ R s => s.heap.get? l = some o ∧ o.cls = .type "dict" ∧ R (.ok (.ret .notImplemented)) s) := .of_wp fun prog w A R s k => by
  obtain ⟨hp, gs, dd, ts, os⟩ := s
  obtain ⟨at_, hc, k⟩ := k
  obtain ⟨oc, od, dt, sl⟩ := o
  simp only at hc
  subst hc
  have f1 := PySem.F.sub_int_dict
  wp_walk using AutoSeq1.wpAny_loadPart' at_, wpAny_load at_
  exact ⟨_, rfl, k⟩
theorem int_no {l : Addr} {o : Obj} {es : Array DictEntry} {ep : Nat} (j : Int) (tk : Tok) : Meets (Builtin.«int.__eq__» ⟨[.int j tk, .ref l], []⟩) (fun _ R s => s.heap.get? l = some o ∧ o.cls = .type "dict" ∧ o.data = .dict es ep ∧ R (.ok (.ret .notImplemented)) s) := .of_wp fun prog w A R s k => by
  obtain ⟨hp, gs, dd, ts, os⟩ := s
  obtain ⟨at_, hc, hd, k⟩ := k
  obtain ⟨oc, od, dt, sl⟩ := o
  simp only at hc hd
  subst hc hd
  have f1 := PySem.F.sub_dict_int
  wp_walk using AutoSeq1.wpAny_loadPart' at_, wpAny_load at_
  exact ⟨_, rfl, k⟩
def rEqDN : R2 := fun x y H Q => ∃ a kvs j, x = .ref a ∧ H a = some (.dK kvs) ∧ y = .int j ∧ Q (.bl false) H
theorem op_eqDN {X : Cx} (hu : X.A.units < cLine) : OpR X (compareOp .Eq) rEqDN := by
  intro pins s σ H x y v u Q I rx ry h
  obtain ⟨a, kvs, j, rfl, ea, rfl, q⟩ := h
  cases (show v = Value.ref a from rx)
  obtain ⟨tk, rfl⟩ := ry
  obtain ⟨_, _, va, _, o, es, ep, ho, ex, od, _⟩ := (show ObjOk X.prog X.w H s.heap a (.dK kvs) from I.hok a _ ea)
  exact SeqAt.rc_eq_decline_or (k := false) ⟨_, ho, ex.1⟩ (typeIs_int s j tk) (by decide) PySem.F.sub_int_dict PySem.F.slot_dict_eq PySem.F.slot_int_eq_refl
    (fun _ hq => call_meets PySem.F.slot_dict_eq ⟨_, ho, ex.1⟩ PySem.F.entry_dict_eq (PySem.F.args_dict_eq_2 _ _) (dic_no j tk) ⟨ho, ex.1, hq⟩)
    (fun _ hq => call_meets PySem.F.slot_int_eq_refl (typeIs_int s j tk) PySem.F.entry_int_eq (PySem.F.args_int_eq_2 _ _) (int_no j tk) ⟨ho, ex.1, od, hq⟩)
    (fun _ hq => wpAny_of_eq (rfl : isSame (.ref a) (.int j tk) = pure false) hq) (.inr hu) (fin_bl I q rfl)
end Ev
namespace Ev
open PySem PySem.Spec L2 PyProof.Rows
section
variable {T : Ad} {m : Mp} {H : Hp} {σ : L2.St} {W : WX} {S : Store} {Q : VK} {dx dy : D} {x y : V}
mutual
theorem RD.dp : ∀ (d : D) (v : V), RD T m H d v → d.plain = true → Dp T.K H v d.pd
  | .non, v, h, _ => by
    cases (show v = .non from h)
    exact .non
  | .bl b, v, h, _ => by
    cases (show v = .bl b from h)
    exact .bl b
  | .int b, v, h, _ => by
    cases (show v = .int b from h)
    exact .int b
  | .str b, v, h, _ => by
    cases (show v = .str b from h)
    exact .str b
  | .tup xs, v, h, p => by
    obtain ⟨a, vs, h1, h2, h3⟩ := h
    subst h1
    rw [D.pd]
    exact .tup h2 (RDs.dp xs vs h3 (by rw [D.plain] at p; exact p))
  | .lst xs, v, h, p => by
    obtain ⟨a, vs, h1, h2, h3⟩ := h
    subst h1
    rw [D.pd]
    exact .lst (SqL.of h2.1) (RDs.dp xs vs h3 (by rw [D.plain] at p; exact p))
  | .ref _, _, _, p => by simp [D.plain] at p
  | .fn _, _, _, p => by simp [D.plain] at p
  | .scr _, _, _, p => by simp [D.plain] at p
theorem RDs.dp : ∀ (ds : List D) (vs : List V), RDs T m H ds vs → D.plains ds = true → DpAll T.K H vs (D.pds ds)
  | [], vs, h, _ => by
    cases (show vs = [] from h)
    rw [D.pds]
    exact .nil
  | d :: ds, vs, h, p => by
    obtain ⟨v, r, h1, h2, h3⟩ := h
    subst h1
    rw [D.plains, Bool.and_eq_true] at p
    rw [D.pds]
    exact .cons (RD.dp d v h2 p.1) (RDs.dp ds r h3 p.2)
end
theorem view_ref {l : Nat} : view S (.ref l) = (match S[l]? with | some (.lst xs) => .lst xs | _ => .ref l) := rfl
theorem view_lst {l : Nat} {xs : List D} (h : S[l]? = some (.lst xs)) : view S (.ref l) = .lst xs := by rw [view_ref, h]
theorem view_dp {d : D} {v : V} (r : RS T m H S) (h : RD T m H d v) (p : (view S d).plain = true) : Dp T.K H v (view S d).pd := by
  cases d with
  | ref l =>
    cases e : S[l]? with
    | none =>
      rw [view_ref, e] at p
      simp [D.plain] at p
    | some o =>
      cases o with
      | dct _ =>
        rw [view_ref, e] at p
        simp [D.plain] at p
      | obj _ _ =>
        rw [view_ref, e] at p
        simp [D.plain] at p
      | dtt _ =>
        rw [view_ref, e] at p
        simp [D.plain] at p
      | dtl _ =>
        rw [view_ref, e] at p
        simp [D.plain] at p
      | lst xs =>
        rw [view_lst e] at p ⊢
        obtain ⟨a, h1, h2⟩ := h
        obtain ⟨q, vs, h3, h4, h5⟩ := r.lst e
        rw [h1] at h3
        cases h3
        subst h2
        rw [D.pd]
        exact .lst (SqL.of h4) (RDs.dp xs vs h5 (by rw [D.plain] at p; exact p))
  | _ => exact RD.dp _ _ h p
theorem scal_use {b : Bool} (h : scalD dx dy = some b) (hx : RD T m H dx x) (hy : RD T m H dy y) : scal x y = true ∧ b = decide (x = y) := by
  cases dx <;> cases dy <;> (first | (simp [scalD] at h; done) | skip) <;> simp only [RD] at hx hy <;> subst hx hy <;> simp_all [scalD, scal]
theorem dat_use {b : Bool} (r : RS T m H S) (h : (if (view S dx).plain && (view S dy).plain && SeqAt.shaped (view S dx).pd && SeqAt.shaped (view S dy).pd then some (PyData.eqv (view S dx).pd (view S dy).pd) else none) = some b) (hx : RD T m H dx x) (hy : RD T m H dy y) :
    ∃ d e, Dp T.K H x d ∧ Dp T.K H y e ∧ SeqAt.shaped d = true ∧ SeqAt.shaped e = true ∧ b = PyData.eqv d e := by
  split at h
  · rename_i c
    simp only [Bool.and_eq_true] at c
    exact ⟨_, _, view_dp r hx c.1.1.1, view_dp r hy c.1.1.2, c.1.2, c.2, (Option.some.inj h).symm⟩
  · cases h
theorem ofB_use {o : Option Bool} (r : RS T m H S) (h : PostK T (ofB o S) m H σ W (KQ T Q)) : ∃ b, o = some b ∧ Q (.bl b) H := by
  cases o with
  | none => exact h.elim
  | some b => exact ⟨b, rfl, ok_use r h rfl⟩
theorem eq_use (r : RS T m H S) {b : Bool} (h : eqD S dx dy = some b) (hx : RD T m H dx x) (hy : RD T m H dy y) (k : Q (.bl b) H) : rEq x y H Q ∨ rEqD T.K x y H Q := by
  unfold eqD at h
  cases e : scalD dx dy with
  | some c =>
    rw [e] at h
    cases h
    obtain ⟨h1, h2⟩ := scal_use e hx hy
    exact .inl ⟨h1, by rw [← h2]; exact k⟩
  | none =>
    rw [e] at h
    obtain ⟨d, e, h1, h2, h3, h4, h5⟩ := dat_use r h hx hy
    exact .inr ⟨d, e, h1, h2, h3, h4, by rw [← h5]; exact k⟩
theorem ne_use (r : RS T m H S) {b : Bool} (h : eqD S dx dy = some b) (hx : RD T m H dx x) (hy : RD T m H dy y) (k : Q (.bl (!b)) H) : rNe x y H Q ∨ rNeD T.K x y H Q := by
  unfold eqD at h
  cases e : scalD dx dy with
  | some c =>
    rw [e] at h
    cases h
    obtain ⟨h1, h2⟩ := scal_use e hx hy
    exact .inl ⟨h1, by rw [← h2]; exact k⟩
  | none =>
    rw [e] at h
    obtain ⟨d, e, h1, h2, h3, h4, h5⟩ := dat_use r h hx hy
    exact .inr ⟨d, e, h1, h2, h3, h4, by rw [← h5]; exact k⟩
theorem flat_use {d : D} {v : V} (h : RD T m H d v) (f : flatD d = true) : flatV v = true := by
  cases d <;> simp [flatD] at f <;> simp only [RD] at h <;> subst h <;> rfl
theorem flatEq_use {d e : D} {v w : V} (h : RD T m H d v) (k : RD T m H e w) (f : flatD d = true) (g : flatD e = true) : eqV v w = flatEq d e := by
  cases d <;> simp [flatD] at f <;> simp only [RD] at h <;> subst h <;> cases e <;> simp [flatD] at g <;> simp only [RD] at k <;> subst k <;> rfl
theorem flats_use : ∀ {ds : List D} {vs : List V}, RDs T m H ds vs → ds.all flatD = true → vs.all flatV = true
  | [], vs, h, _ => by
    cases (show vs = [] from h)
    rfl
  | d :: ds, vs, h, f => by
    obtain ⟨v, r, h1, h2, h3⟩ := h
    subst h1
    rw [List.all_cons, Bool.and_eq_true] at f
    rw [List.all_cons, flat_use h2 f.1, flats_use h3 f.2]
    rfl
theorem any_use {e : D} {w : V} (k : RD T m H e w) (g : flatD e = true) : ∀ {ds : List D} {vs : List V}, RDs T m H ds vs → ds.all flatD = true → inV w vs = ds.any fun y => flatEq y e
  | [], vs, h, _ => by
    cases (show vs = [] from h)
    rfl
  | d :: ds, vs, h, f => by
    obtain ⟨v, r, h1, h2, h3⟩ := h
    subst h1
    rw [List.all_cons, Bool.and_eq_true] at f
    show (eqV v w || inV w r) = _
    rw [List.any_cons, flatEq_use h2 k f.1 g, any_use k g h3 f.2]
theorem inSeq_use {b : Bool} {ds : List D} {vs : List V} (h : inSeq dx ds = some b) (hx : RD T m H dx x) (hy : RDs T m H ds vs) : flatV x = true ∧ vs.all flatV = true ∧ b = inV x vs := by
  unfold inSeq at h
  split at h
  · rename_i c
    rw [Bool.and_eq_true] at c
    exact ⟨flat_use hx c.1, flats_use hy c.2, by rw [any_use hx c.1 hy c.2]; exact (Option.some.inj h).symm⟩
  · cases h
theorem any_pds (p : PyData) : ∀ ds : List D, (ds.any fun y => PyData.eqv y.pd p) = (D.pds ds).any fun z => PyData.eqv z p
  | [] => by rw [D.pds]; rfl
  | d :: ds => by rw [D.pds, List.any_cons, List.any_cons, any_pds p ds]
theorem inDat_use {b : Bool} {ds : List D} {vs : List V} {p : Addr} (h : inDat dx ds = some b) (hx : RD T m H dx x) (hp : H p = some (.lst vs)) (hy : RDs T m H ds vs) :
    ∃ d es, Dp T.K H x d ∧ Dp T.K H (.ref p) (.list es) ∧ SeqAt.shaped d = true ∧ SeqAt.shaped (.list es) = true ∧ b = es.any fun z => PyData.eqv z d := by
  unfold inDat at h
  split at h
  · rename_i c
    simp only [Bool.and_eq_true] at c
    exact ⟨_, _, RD.dp _ _ hx c.1.1.1, .lst (SqL.of hp) (RDs.dp _ _ hy c.1.1.2), c.1.2, c.2, by rw [← any_pds]; exact (Option.some.inj h).symm⟩
  · cases h
theorem inDatT_use {b : Bool} {ds : List D} {vs : List V} {p : Addr} (h : inDatT dx ds = some b) (hx : RD T m H dx x) (hp : SqT T.K H p vs) (hy : RDs T m H ds vs) :
    ∃ d es, Dp T.K H x d ∧ Dp T.K H (.ref p) (.tuple es) ∧ SeqAt.shaped d = true ∧ SeqAt.shaped (.tuple es) = true ∧ b = es.any fun z => PyData.eqv z d := by
  unfold inDatT at h
  split at h
  · rename_i c
    simp only [Bool.and_eq_true] at c
    exact ⟨_, _, RD.dp _ _ hx c.1.1.1, .tup hp (RDs.dp _ _ hy c.1.1.2), c.1.2, c.2, by rw [← any_pds]; exact (Option.some.inj h).symm⟩
  · cases h
theorem op_inT {X : Cx} (hu : X.A.units + 65 < cLine) : OpR X (compareOp .In) (fun x y H Q => ∃ d ds, Dp X.K H x d ∧ Dp X.K H y (.tuple ds) ∧ SeqAt.shaped d = true ∧ SeqAt.shaped (.tuple ds) = true ∧ Q (.bl (id (ds.any fun z => PyData.eqv z d))) H) := by
  intro pins s σ H x y v u Q I rx ry h
  obtain ⟨d, ds, dpx, dpy, shx, shy, k⟩ := h
  obtain ⟨as, ra⟩ := Dp.reads I d x v dpx rx
  obtain ⟨bs, rb⟩ := Dp.reads I (.tuple ds) y u dpy ry
  exact SeqAt.in_tuple_reads rb ra (SeqAt.canLay_of_shaped shy) (SeqAt.canLay_of_shaped shx) (room_in_shaped shx hu) ⟨.bl _, H, I, rfl, k⟩
theorem op_notInT {X : Cx} (hu : X.A.units + 65 < cLine) : OpR X (compareOp .NotIn) (fun x y H Q => ∃ d ds, Dp X.K H x d ∧ Dp X.K H y (.tuple ds) ∧ SeqAt.shaped d = true ∧ SeqAt.shaped (.tuple ds) = true ∧ Q (.bl (not (ds.any fun z => PyData.eqv z d))) H) := by
  intro pins s σ H x y v u Q I rx ry h
  obtain ⟨d, ds, dpx, dpy, shx, shy, k⟩ := h
  obtain ⟨as, ra⟩ := Dp.reads I d x v dpx rx
  obtain ⟨bs, rb⟩ := Dp.reads I (.tuple ds) y u dpy ry
  exact SeqAt.notIn_tuple_reads rb ra (SeqAt.canLay_of_shaped shy) (SeqAt.canLay_of_shaped shx) (room_in_shaped shx hu) ⟨.bl _, H, I, rfl, k⟩
def rSign (f : Bool → Bool) : R2 := fun x y H Q => ∃ (c : Nat) (z : Str), x = .str ⟨#[c]⟩ ∧ y = .str z ∧ Q (.bl (f (decide (c ∈ z.cps.toList)))) H
def rSub (f : Bool → Bool) : R2 := fun x y H Q => ∃ i j, x = .str i ∧ y = .str j ∧ Q (.bl (f (!(Builtin.Str.occurrences j i 0 j.length 1).isEmpty))) H
def rDat (K : PySem.W.Frag) (f : Bool → Bool) : R2 := fun x y H Q => (∃ d ds, Dp K H x d ∧ Dp K H y (.list ds) ∧ SeqAt.shaped d = true ∧ SeqAt.shaped (.list ds) = true ∧ Q (.bl (f (ds.any fun z => PyData.eqv z d))) H) ∨
  ∃ d ds, Dp K H x d ∧ Dp K H y (.tuple ds) ∧ SeqAt.shaped d = true ∧ SeqAt.shaped (.tuple ds) = true ∧ Q (.bl (f (ds.any fun z => PyData.eqv z d))) H
def rSeq (K : PySem.W.Frag) (f : Bool → Bool) : R2 := fun x y H Q => ∃ p xs, y = .ref p ∧ (SqL K H p xs ∨ SqT K H p xs) ∧ flatV x = true ∧ xs.all flatV = true ∧ Q (.bl (f (inV x xs))) H
def rInAll (P : Program) (w : World) (K : PySem.W.Frag) (f : Bool → Bool) : R2 := fun x y H Q => rSign f x y H Q ∨ rSub f x y H Q ∨ rSeq K f x y H Q ∨ rDat K f x y H Q ∨ rInS P w K f x y H Q ∨ rInK f x y H Q
theorem keys_use : ∀ {ds : List D} {vs : List V} {ks : List Key}, keysOf ds = some ks → RDs T m H ds vs → vs = ks.map kV
  | [], vs, ks, h, r => by
    cases h
    exact r
  | d :: ds, vs, ks, h, r => by
    obtain ⟨v, q, rfl, h2, h3⟩ := r
    unfold keysOf at h
    cases e1 : kD d with
    | none =>
      rw [e1] at h
      cases h
    | some k =>
      cases e2 : keysOf ds with
      | none =>
        rw [e1, e2] at h
        cases h
      | some l =>
        rw [e1, e2] at h
        cases h
        rw [rd_key e1 h2, keys_use e2 h3]
        rfl
theorem tkD_use {k : List Key} (h : tkD dx = some k) (hx : RD T m H dx x) : ∃ b, x = .ref b ∧ SqT T.K H b (k.map kV) := by
  cases dx with
  | tup xs =>
    obtain ⟨p, vs, h1, h2, h3⟩ := hx
    rw [keys_use (show keysOf xs = some k from h) h3] at h2
    exact ⟨p, h1, h2⟩
  | _ => simp [tkD] at h
theorem tAt_use {k : List Key} : ∀ {ks : List (List Key)} {as : List Addr} {vs : List V} {ds : List D}, as.length = ks.length → vs.length = ks.length → RDs T m H ds vs →
    (tAt ks ds k = none ∧ valT (tvs ks as vs) k = none) ∨ ∃ d v, tAt ks ds k = some d ∧ valT (tvs ks as vs) k = some v ∧ RD T m H d v
  | [], as, vs, ds, h1, h2, r => .inl ⟨rfl, rfl⟩
  | k0 :: ks, [], vs, ds, h1, h2, r => by simp at h1
  | k0 :: ks, a :: as, [], ds, h1, h2, r => by simp at h2
  | k0 :: ks, a :: as, v :: vs, [], h1, h2, r => by cases (show v :: vs = [] from r)
  | k0 :: ks, a :: as, v :: vs, d :: ds, h1, h2, r => by
    obtain ⟨v', q, e, r2, r3⟩ := r
    cases e
    by_cases c : k0 = k
    · refine .inr ⟨d, v, ?_, ?_, r2⟩
      · simp [tAt, c]
      · simp [valT, tvs, c]
    · have e1 : tAt (k0 :: ks) (d :: ds) k = tAt ks ds k := by simp [tAt, c]
      have e2 : valT (tvs (k0 :: ks) (a :: as) (v :: vs)) k = valT (tvs ks as vs) k := by simp [valT, tvs, c]
      rw [e1, e2]
      exact tAt_use (ks := ks) (by simpa using h1) (by simpa using h2) r3
theorem tdc_ask {ks : List (List Key)} {ds : List D} {k : List Key} (hx : RD T m H (.tdc ks ds) x) (hk : tkD dy = some k) (hy : RD T m H dy y) :
    ∃ a r, x = .ref a ∧ DAsk T.P T.w T.K H a y r ∧ ((tAt ks ds k = none ∧ r = none) ∨ ∃ d v, tAt ks ds k = some d ∧ r = some v ∧ RD T m H d v) := by
  obtain ⟨p, as, vs, h1, h2, _, h3, h4, h5, h6⟩ := hx
  obtain ⟨b, e1, e2⟩ := tkD_use hk hy
  exact ⟨p, _, h1, ⟨tvs ks as vs, b, k, .inl h2, h5, e1, e2, rfl⟩, tAt_use h3 h4 h6⟩
theorem dctOf_ref {S : Store} {d : D} {kvs : List (D × D)} (h : dctOf S d = some kvs) : ∃ l, d = .ref l ∧ S[l]? = some (.dct kvs) := by
  cases d with
  | ref l =>
    refine ⟨l, rfl, ?_⟩
    have h : (match S[l]? with | some (.dct kvs) => some kvs | _ => none) = some kvs := h
    cases e : S[l]? with
    | none =>
      rw [e] at h
      cases h
    | some ob =>
      rw [e] at h
      cases ob with
      | lst _ => cases h
      | obj _ _ => cases h
      | dtt _ => cases h
      | dtl _ => cases h
      | dct _ =>
        cases h
        rfl
  | _ => cases h
theorem dttOf_ref {S : Store} {d : D} {kvs : List (List Key × D)} (h : dttOf S d = some kvs) : ∃ l, d = .ref l ∧ (S[l]? = some (.dtt kvs) ∨ S[l]? = some (.dtl kvs)) := by
  cases d with
  | ref l =>
    refine ⟨l, rfl, ?_⟩
    have h : (match S[l]? with | some (.dtt kvs) => some kvs | some (.dtl kvs) => some kvs | _ => none) = some kvs := h
    cases e : S[l]? with
    | none =>
      rw [e] at h
      cases h
    | some ob =>
      rw [e] at h
      cases ob with
      | dtt _ =>
        cases h
        exact .inl rfl
      | dtl _ =>
        cases h
        exact .inr rfl
      | _ => cases h
  | _ => cases h
theorem ttAt_eq (k : List Key) : ∀ kvs : List (List Key × D), ttAt kvs k = tAt (kvs.map (·.1)) (kvs.map (·.2)) k := fun kvs => by
  have e : (kvs.map (·.1)).zip (kvs.map (·.2)) = kvs := by
    induction kvs with
    | nil => rfl
    | cons a l ih => rw [List.map_cons, List.map_cons, List.zip_cons_cons, ih]
  unfold ttAt tAt
  rw [e]
theorem dtt_at {kvs : List (List Key × D)} (r : RS T m H S) (e : dttOf S dx = some kvs) (hx : RD T m H dx x) : ∃ l a as vs, dx = .ref l ∧ (S[l]? = some (.dtt kvs) → H a = some (DictS T.P T.w a (tvs (kvs.map (·.1)) as vs))) ∧ m.c[l]? = some a ∧ x = .ref a ∧ IsDS T.P T.w H a (tvs (kvs.map (·.1)) as vs) ∧ as.length = kvs.length ∧ vs.length = kvs.length ∧
    (∀ q ∈ tvs (kvs.map (·.1)) as vs, SqT T.K H q.2.1 (q.1.map kV)) ∧ RDs T m H (kvs.map (·.2)) vs := by
  obtain ⟨l, rfl, e2⟩ := dttOf_ref e
  rcases e2 with e2 | e2
  · obtain ⟨p, as, vs, h1, h2, h3, h4, h5⟩ := r.dtt e2
    obtain ⟨p', h6, rfl⟩ := hx
    rw [h1] at h6
    cases h6
    exact ⟨l, p, as, vs, rfl, fun _ => h2, h1, rfl, .inl h2, h3, by rw [h5.length, List.length_map], h4, h5⟩
  · obtain ⟨p, od, as, vs, h1, h2, h3, h4, h5⟩ := r.dtl e2
    obtain ⟨p', h6, rfl⟩ := hx
    rw [h1] at h6
    cases h6
    exact ⟨l, p, as, vs, rfl, fun z => (by rw [e2] at z; cases z), h1, rfl, .inr ⟨od, h2⟩, h3, by rw [h5.length, List.length_map], h4, h5⟩
theorem dtt_ask {kvs : List (List Key × D)} {k : List Key} (r : RS T m H S) (e : dttOf S dx = some kvs) (hx : RD T m H dx x) (hk : tkD dy = some k) (hy : RD T m H dy y) :
    ∃ a o, x = .ref a ∧ DAsk T.P T.w T.K H a y o ∧ ((ttAt kvs k = none ∧ o = none) ∨ ∃ d v, ttAt kvs k = some d ∧ o = some v ∧ RD T m H d v) := by
  obtain ⟨l, a, as, vs, _, _, _, h1, h2, h3, h4, h5, h6⟩ := dtt_at r e hx
  obtain ⟨b, e1, e2⟩ := tkD_use hk hy
  refine ⟨a, _, h1, ⟨_, b, k, h2, h5, e1, e2, rfl⟩, ?_⟩
  rw [ttAt_eq]
  exact tAt_use (by rw [List.length_map]; exact h3) (by rw [List.length_map]; exact h4) h6
theorem dct_ask {kvs : List (D × D)} {k : Key} (r : RS T m H S) (e : dctOf S dx = some kvs) (hx : RD T m H dx x) (hk : kD dy = some k) (hy : RD T m H dy y) :
    ∃ a o, x = .ref a ∧ DGet H a y o ∧ ((dAt kvs k = none ∧ o = none) ∨ ∃ d v, dAt kvs k = some d ∧ o = some v ∧ RD T m H d v) := by
  obtain ⟨l, rfl, e2⟩ := dctOf_ref e
  obtain ⟨p, vs, h1, h2, h3⟩ := r.dct e2
  obtain ⟨p', h4, rfl⟩ := hx
  rw [h1] at h4
  cases h4
  obtain rfl := rd_key hk hy
  refine ⟨p, _, rfl, DGet.k h2, ?_⟩
  cases q : dAt kvs k with
  | none =>
    refine .inl ⟨rfl, ?_⟩
    have a := h3.any_ (k := k)
    rw [valV_any] at a
    cases z : valV vs k with
    | none => rfl
    | some v =>
      rw [z] at a
      have : (dAt kvs k).isSome = true := by
        unfold dAt
        rw [Option.isSome_map, List.find?_isSome]
        obtain ⟨y, hy1, hy2⟩ := List.any_eq_true.mp a
        exact ⟨y, hy1, hy2⟩
      rw [q] at this
      cases this
  | some d =>
    obtain ⟨v, e3, e4⟩ := h3.at_ q
    exact .inr ⟨d, v, rfl, e3, e4⟩
theorem in_use0 (r : RS T m H S) {b : Bool} (f : Bool → Bool) (h : inD S dx dy = some b) (hx : RD T m H dx x) (hy : RD T m H dy y) (k : Q (.bl (f b)) H) : rInAll T.P T.w T.K f x y H Q := by
  have lists : (match lstOf S dy with | some ys => (match inSeq dx ys with | some b => some b | none => inDat dx ys) | none => none) = some b → rInAll T.P T.w T.K f x y H Q := fun h => by
    cases e : lstOf S dy with
    | none =>
      rw [e] at h
      cases h
    | some ys =>
      rw [e] at h
      obtain ⟨p, vs, rfl, h2, h3⟩ := lst_of r e hy
      simp only at h
      cases e2 : inSeq dx ys with
      | some c =>
        rw [e2] at h
        cases h
        obtain ⟨f1, f2, f3⟩ := inSeq_use e2 hx h3
        exact .inr (.inr (.inl ⟨p, vs, rfl, .inl (SqL.of h2), f1, f2, by rw [← f3]; exact k⟩))
      | none =>
        rw [e2] at h
        obtain ⟨d, es, f1, f2, f3, f4, f5⟩ := inDat_use h hx h2 h3
        exact .inr (.inr (.inr (.inl (.inl ⟨d, es, f1, f2, f3, f4, by rw [← f5]; exact k⟩))))
  cases dy with
  | str z =>
    obtain rfl := rd_str hy
    have h : inStr z dx = some b := h
    cases dx with
    | str a =>
      obtain rfl := rd_str hx
      have h : (if a.cps.size = 1 then some (decide (a.cps.getD 0 0 ∈ z.cps.toList)) else some (!(Builtin.Str.occurrences z a 0 z.length 1).isEmpty)) = some b := h
      by_cases c : a.cps.size = 1
      · rw [if_pos c] at h
        have e : a = ⟨#[a.cps.getD 0 0]⟩ := by
          obtain ⟨l⟩ := a
          obtain ⟨l⟩ := l
          match l, c with
          | [u], _ => rfl
        exact .inl ⟨_, z, by rw [← e], rfl, by rw [Option.some.inj h]; exact k⟩
      · rw [if_neg c] at h
        exact .inr (.inl ⟨a, z, rfl, rfl, by rw [Option.some.inj h]; exact k⟩)
    | _ => simp [inStr] at h
  | tup ys =>
    obtain ⟨p, vs, rfl, h2, h3⟩ := tup_of hy
    have h : (match inSeq dx ys with | some b => some b | none => inDatT dx ys) = some b := h
    cases e2 : inSeq dx ys with
    | some c =>
      rw [e2] at h
      cases h
      obtain ⟨f1, f2, f3⟩ := inSeq_use e2 hx h3
      exact .inr (.inr (.inl ⟨p, vs, rfl, .inr h2, f1, f2, by rw [← f3]; exact k⟩))
    | none =>
      rw [e2] at h
      obtain ⟨d, es, f1, f2, f3, f4, f5⟩ := inDatT_use h hx h2 h3
      exact .inr (.inr (.inr (.inl (.inr ⟨d, es, f1, f2, f3, f4, by rw [← f5]; exact k⟩))))
  | tdc ks ds =>
    have h : (match tkD dx with | some k => some (tAt ks ds k).isSome | none => none) = some b := h
    cases ek : tkD dx with
    | none =>
      rw [ek] at h
      cases h
    | some kk =>
      rw [ek] at h
      obtain ⟨a, o, e1, e2, e3⟩ := tdc_ask hy ek hx
      refine .inr (.inr (.inr (.inr (.inl ⟨a, o, e1, e2, ?_⟩))))
      have h : some (tAt ks ds kk).isSome = some b := h
      have e4 : o.isSome = b := by
        rcases e3 with ⟨e3, rfl⟩ | ⟨d, v, e3, rfl, _⟩ <;> rw [e3] at h <;> cases h <;> rfl
      rw [e4]
      exact k
  | _ => exact lists h
theorem in_use (r : RS T m H S) {b : Bool} (f : Bool → Bool) (h : inDD S dx dy = some b) (hx : RD T m H dx x) (hy : RD T m H dy y) (k : Q (.bl (f b)) H) : rInAll T.P T.w T.K f x y H Q := by
  unfold inDD at h
  cases e : dctOf S dy with
  | some kvs =>
    rw [e] at h
    obtain ⟨kk, ek, e3⟩ := Option.map_eq_some_iff.mp h
    obtain ⟨a, o, e1, e2, e4⟩ := dct_ask r e hy ek hx
    refine .inr (.inr (.inr (.inr (.inr ⟨a, o, e1, e2, ?_⟩))))
    rcases e4 with ⟨e4, rfl⟩ | ⟨d, v, e4, rfl, _⟩ <;> rw [e4] at e3 <;> subst e3 <;> exact k
  | none =>
    rw [e] at h
    cases e' : dttOf S dy with
    | some kvs =>
      rw [e'] at h
      obtain ⟨kk, ek, e3⟩ := Option.map_eq_some_iff.mp h
      obtain ⟨a, o, e1, e2, e4⟩ := dtt_ask r e' hy ek hx
      refine .inr (.inr (.inr (.inr (.inl ⟨a, o, e1, e2, ?_⟩))))
      rcases e4 with ⟨e4, rfl⟩ | ⟨d, v, e4, rfl, _⟩ <;> rw [e4] at e3 <;> subst e3 <;> exact k
    | none =>
      rw [e'] at h
      exact in_use0 r f h hx hy k
theorem intsOf_use : ∀ {ds : List D} {vs : List V} {ns : List Int}, intsOf ds = some ns → RDs T m H ds vs → vs = ns.map V.int
  | [], vs, ns, h, k => by
    cases (show vs = [] from k)
    cases h
    rfl
  | d :: ds, vs, ns, h, k => by
    obtain ⟨v, r, h1, h2, h3⟩ := k
    cases d with
    | int i =>
      rw [intsOf] at h
      cases e : intsOf ds with
      | none =>
        rw [e] at h
        cases h
      | some ms =>
        rw [e] at h
        cases h
        cases (show v = .int i from h2)
        rw [h1, intsOf_use e h3]
        rfl
    | _ => simp [intsOf] at h
theorem blsOf_use : ∀ {ds : List D} {vs : List V} {ns : List Bool}, blsOf ds = some ns → RDs T m H ds vs → vs = ns.map V.bl
  | [], vs, ns, h, k => by
    cases (show vs = [] from k)
    cases h
    rfl
  | d :: ds, vs, ns, h, k => by
    obtain ⟨v, r, h1, h2, h3⟩ := k
    cases d with
    | bl i =>
      rw [blsOf] at h
      cases e : blsOf ds with
      | none =>
        rw [e] at h
        cases h
      | some ms =>
        rw [e] at h
        cases h
        cases (show v = .bl i from h2)
        rw [h1, blsOf_use e h3]
        rfl
    | _ => simp [blsOf] at h
theorem strsOf_use : ∀ {ds : List D} {vs : List V} {ns : List Str}, strsOf ds = some ns → RDs T m H ds vs → vs = ns.map V.str
  | [], vs, ns, h, k => by
    cases (show vs = [] from k)
    cases h
    rfl
  | d :: ds, vs, ns, h, k => by
    obtain ⟨v, r, h1, h2, h3⟩ := k
    cases d with
    | str i =>
      rw [strsOf] at h
      cases e : strsOf ds with
      | none =>
        rw [e] at h
        cases h
      | some ms =>
        rw [e] at h
        cases h
        cases (show v = .str i from h2)
        rw [h1, strsOf_use e h3]
        rfl
    | _ => simp [strsOf] at h
def opC : Cop → CmpOp
  | .eq => .Eq
  | .ne => .NotEq
  | .lt => .Lt
  | .gt => .Gt
  | .le => .LtE
  | .ge => .GtE
  | .is => .Is
  | .nis => .IsNot
  | .isin => .In
  | .nin => .NotIn
def rC (P : Program) (w : World) (K : PySem.W.Frag) : Cop → R2
  | .eq => fun x y H Q => (rEq x y H Q ∨ rEqD K x y H Q) ∨ rEqDN x y H Q
  | .ne => fun x y H Q => rNe x y H Q ∨ rNeD K x y H Q
  | .lt => fun x y H Q => rI0 (fun i j => .bl (decide (i < j))) x y H Q ∨ (∃ i j, x = .str i ∧ y = .str j ∧ Q (.bl (decide (i.cps.toList < j.cps.toList))) H) ∨ rLtT K x y H Q
  | .gt => rI0 fun i j => .bl (decide (j < i))
  | .le => rI0 fun i j => .bl (decide (i ≤ j))
  | .ge => rI0 fun i j => .bl (decide (j ≤ i))
  | .is => fun x y H Q => (y = .non ∧ Q (.bl (decide (x = .non))) H) ∨ rIsB x y H Q
  | .nis => fun x y H Q => (y = .non ∧ Q (.bl (!decide (x = .non))) H) ∨ rNotB x y H Q
  | .isin => rInAll P w K id
  | .nin => rInAll P w K not
theorem opC_ok {X : Cx} (hu : X.A.units + 65 < cLine) (op : Cop) : OpR X (compareOp (opC op)) (rC X.prog X.w X.K op) := by
  cases op with
  | eq => exact (op_eq.or (op_eqD (by omega))).or (op_eqDN (by omega))
  | ne => exact op_ne.or (op_neD (by omega))
  | lt => exact op_lt.or (op_lt_str.or (op_ltT (by omega)))
  | gt => exact op_gt
  | le => exact op_le
  | ge => exact op_ge
  | is => exact op_isN.or op_isBl
  | nis => exact op_notN.or op_notBl
  | isin => exact op_in_sign.or (op_in_str.or (op_in_seq.or (((op_inD hu).or (op_inT hu)).or ((op_inS (by omega)).or (op_inK (by omega))))))
  | nin => exact op_notIn_sign.or (op_notin_str.or (op_notIn_seq.or (((op_notInD hu).or (op_notInT hu)).or ((op_notinS (by omega)).or (op_notinK (by omega))))))
theorem ltD_use (r : RS T m H S) {b : Bool} (h : ltD dx dy = some b) (hx : RD T m H dx x) (hy : RD T m H dy y) (k : Q (.bl b) H) : rC T.P T.w T.K .lt x y H Q := by
  cases dx with
  | int i =>
    cases dy with
    | int j =>
      obtain rfl := rd_int hx
      obtain rfl := rd_int hy
      exact .inl ⟨i, j, rfl, rfl, by have e : decide (i < j) = b := Option.some.inj h; show Q (.bl (decide (i < j))) H; rw [e]; exact k⟩
    | _ => simp [ltD] at h
  | str i =>
    cases dy with
    | str j =>
      obtain rfl := rd_str hx
      obtain rfl := rd_str hy
      exact .inr (.inl ⟨i, j, rfl, rfl, by rw [show decide (i.cps.toList < j.cps.toList) = b from Option.some.inj h]; exact k⟩)
    | _ => simp [ltD] at h
  | tup a =>
    cases dy with
    | tup c =>
      obtain ⟨p, vs, rfl, h2, h3⟩ := tup_of hx
      obtain ⟨q, ws, rfl, h5, h6⟩ := tup_of hy
      have h : (match intsOf a, intsOf c with | some m, some n => some (HT.lexLt m n) | _, _ => none) = some b := h
      cases e1 : intsOf a with
      | none =>
        rw [e1] at h
        cases h
      | some m1 =>
        cases e2 : intsOf c with
        | none =>
          rw [e1, e2] at h
          cases h
        | some n1 =>
          rw [e1, e2] at h
          rw [intsOf_use e1 h3] at h2
          rw [intsOf_use e2 h6] at h5
          exact .inr (.inr ⟨p, q, m1, n1, rfl, rfl, h2, h5, by rw [show HT.lexLt m1 n1 = b from Option.some.inj h]; exact k⟩)
    | _ => simp [ltD] at h
  | _ => cases dy <;> simp [ltD] at h
theorem two_ints {op : Cop} {f : Int → Int → Bool} (r : RS T m H S) (hx : RD T m H dx x) (hy : RD T m H dy y) (h : PostK T (match dx, dy with | .int i, .int j => .ok (.bl (f i j)) S | _, _ => .stuck) m H σ W (KQ T Q)) : ∃ i j, x = .int i ∧ y = .int j ∧ Q (.bl (f i j)) H := by
  cases dx with
  | int i =>
    cases dy with
    | int j =>
      obtain rfl := rd_int hx
      obtain rfl := rd_int hy
      exact ⟨i, j, rfl, rfl, ok_use r h rfl⟩
    | _ => exact h.elim
  | _ => exact absurd h (by cases dy <;> simp [PostK])
theorem non_iff {d : D} {v : V} (h : RD T m H d v) : decide (v = .non) = isNon d := by
  cases d with
  | non => simp [show v = .non from h, isNon]
  | tup xs => obtain ⟨p, vs, h1, _⟩ := h; simp [h1, isNon]
  | lst xs => obtain ⟨p, vs, h1, _⟩ := h; simp [h1, isNon]
  | ref l => obtain ⟨p, _, h1⟩ := h; simp [h1, isNon]
  | scr l => obtain ⟨p, h1, _⟩ := h; simp [h1, isNon]
  | tdc ks ds => obtain ⟨p, _, _, h1, _⟩ := h; simp [h1, isNon]
  | bl b => simp [show v = .bl b from h, isNon]
  | int b => simp [show v = .int b from h, isNon]
  | str b => simp [show v = .str b from h, isNon]
  | fn b => simp [show v = .ref (T.fa b) from h, isNon]
theorem rC_ok {op : Cop} (r : RS T m H S) (hx : RD T m H dx x) (hy : RD T m H dy y) (h : PostK T (cmpV op dx dy S) m H σ W (KQ T Q)) : rC T.P T.w T.K op x y H Q := by
  cases op with
  | eq =>
    have h : PostK T (if dicI S dx dy then .ok (.bl false) S else ofB (eqD S dx dy) S) m H σ W (KQ T Q) := h
    by_cases c : dicI S dx dy = true
    · rw [if_pos c] at h
      have q : Q (.bl false) H := ok_use r h rfl
      unfold dicI at c
      split at c
      · rename_i l j
        split at c
        · rename_i kvs e
          obtain ⟨p, hp, rfl⟩ := hx
          obtain ⟨o, h3, vs, rfl, _⟩ := r.at_ l _ p e hp
          obtain rfl := rd_int hy
          exact .inr ⟨p, vs, j, rfl, h3, rfl, q⟩
        · cases c
      · cases c
    · rw [if_neg c] at h
      obtain ⟨b, e, k⟩ := ofB_use r h
      exact .inl (eq_use r e hx hy k)
  | ne =>
    obtain ⟨b, e, k⟩ := ofB_use r (show PostK T (ofB ((eqD S dx dy).map (!·)) S) m H σ W (KQ T Q) from h)
    obtain ⟨c, e1, e2⟩ := Option.map_eq_some_iff.mp e
    subst e2
    exact ne_use r e1 hx hy k
  | lt =>
    obtain ⟨b, e, k⟩ := ofB_use r (show PostK T (ofB (ltD dx dy) S) m H σ W (KQ T Q) from h)
    exact ltD_use r e hx hy k
  | gt => exact two_ints (op := .gt) (f := fun i j => decide (j < i)) r hx hy h
  | le => exact two_ints (op := .le) (f := fun i j => decide (i ≤ j)) r hx hy h
  | ge => exact two_ints (op := .ge) (f := fun i j => decide (j ≤ i)) r hx hy h
  | is =>
    cases dy with
    | non =>
      obtain rfl := rd_non hy
      have h : PostK T (.ok (.bl (isNon dx)) S) m H σ W (KQ T Q) := by cases dx <;> exact h
      exact .inl ⟨rfl, by rw [non_iff hx]; exact ok_use r h rfl⟩
    | bl b =>
      cases dx with
      | bl a =>
        obtain rfl := rd_bl hx
        obtain rfl := rd_bl hy
        exact .inr ⟨a, b, rfl, rfl, ok_use r h rfl⟩
      | _ => exact absurd h (by simp [cmpV, PostK])
    | _ => exact absurd h (by cases dx <;> simp [cmpV, PostK])
  | nis =>
    cases dy with
    | non =>
      obtain rfl := rd_non hy
      have h : PostK T (.ok (.bl (!isNon dx)) S) m H σ W (KQ T Q) := by cases dx <;> exact h
      refine .inl ⟨rfl, ?_⟩
      rw [non_iff hx]
      exact ok_use r h rfl
    | bl b =>
      cases dx with
      | bl a =>
        obtain rfl := rd_bl hx
        obtain rfl := rd_bl hy
        exact .inr ⟨a, b, rfl, rfl, ok_use r h rfl⟩
      | _ => exact absurd h (by simp [cmpV, PostK])
    | _ => exact absurd h (by cases dx <;> simp [cmpV, PostK])
  | isin =>
    obtain ⟨b, e, k⟩ := ofB_use r (show PostK T (ofB (inDD S dx dy) S) m H σ W (KQ T Q) from h)
    exact in_use r id e hx hy k
  | nin =>
    obtain ⟨b, e, k⟩ := ofB_use r (show PostK T (ofB ((inDD S dx dy).map (!·)) S) m H σ W (KQ T Q) from h)
    obtain ⟨c, e1, e2⟩ := Option.map_eq_some_iff.mp e
    subst e2
    exact in_use r not e1 hx hy k
end
end Ev
namespace Ev
open PySem PySem.Spec L2 PyProof.Rows
inductive Sc where
  | l (a : Addr) | t (a : Addr) | s (z : Str)
def Sc.foot : Sc → List Addr
  | .l a => [a]
  | .t a => [a]
  | .s _ => []
def Sc.has (K : PySem.W.Frag) : Sc → Hp → List V → Prop
  | .l a, H, xs => SqL K H a xs
  | .t a, H, xs => SqT K H a xs
  | .s z, _, xs => xs = z.cps.toList.map fun c => V.str ⟨#[c]⟩
def Sc.is : Sc → V → Prop
  | .l a, v => v = .ref a
  | .t a, v => v = .ref a
  | .s z, v => v = .str z
def Sc.it : Sc → Nat → Heap → Addr → Prop
  | .l a, i, h, p => h.IsListIter p a i
  | .t a, i, h, p => h.IsTupleIter p a i
  | .s z, i, h, p => ∃ t, h.IsStrIter p (strIterType z) z t i
section
variable {X : Cx} {pins : List (Addr × Obj)} {σ : L2.St} {H : Hp} {s : Shared} {c : Sc} {p : Addr} {i : Nat} {xs ys : List V}
theorem Sc.uniq (I : Inv X pins σ H s) (h1 : c.has X.K H xs) (h2 : c.has X.K H ys) : xs = ys := by
  cases c with
  | l a => exact I.list_inj h1 h2
  | t a => exact I.tuple_inj h1 h2
  | s z => exact h1.trans h2.symm
theorem Sc.it_live {h : Heap} (st : c.it i h p) : ∃ o, h.get? p = some o ∧ ∀ v, o.data ≠ .cell v := by
  cases c with
  | l a => obtain ⟨o, h1, _, h2⟩ := st; exact ⟨o, h1, fun v q => by rw [h2] at q; cases q⟩
  | t a => obtain ⟨o, h1, _, h2⟩ := st; exact ⟨o, h1, fun v q => by rw [h2] at q; cases q⟩
  | s z => obtain ⟨t, o, h1, _, h2⟩ := st; exact ⟨o, h1, fun v q => by rw [h2] at q; cases q⟩
theorem Sc.it_keep {h h' : Heap} (st : c.it i h p) (k : ∀ o, h.get? p = some o → h'.get? p = some o) : c.it i h' p := by
  cases c with
  | l a => exact Heap.IsListIter.at st k
  | t a => exact Heap.IsTupleIter.at st k
  | s z => obtain ⟨t, o, h1, h2, h3⟩ := st; exact ⟨t, o, k o h1, h2, h3⟩
/-- what it draws, as it stands -/
theorem Sc.drw (A' : Around) (I : Inv X pins σ H s) (hh : A'.handled = none) (h : c.has X.K H xs) (hp : p ∉ c.foot) (st : c.it i s.heap p) : ∃ (P : Nat → Value → Prop) (St : Nat → Heap → Prop), Draws X.prog X.w A' p (p :: c.foot) xs.length P St ∧ St i s.heap ∧
    (∀ j v, P j v → ∃ x, xs[j]? = some x ∧ RelV x v) ∧ ∀ j h', St j h' → c.it j h' p := by
  cases c with
  | l a =>
    obtain ⟨its, rv, q, _⟩ := I.list h
    have D := Draws.list (prog := X.prog) (w := X.w) (A := A') hh p a (fun e => hp (by rw [← e]; simp [Sc.foot])) its.toArray
    have en : its.toArray.size = xs.length := by simpa using rv.length.symm
    rw [en] at D
    exact ⟨_, _, D, ⟨st, q.isList⟩, fun j v hv => by
      have hv : its[j]? = some v := by simpa using hv
      have hj := (List.getElem?_eq_some_iff.mp hv).1
      have hj2 : j < xs.length := by rw [rv.length]; exact hj
      obtain ⟨u, hu, ru⟩ := rv.get (List.getElem?_eq_getElem hj2)
      rw [hv] at hu
      cases hu
      exact ⟨_, List.getElem?_eq_getElem hj2, ru⟩, fun j h' z => z.1⟩
  | t a =>
    obtain ⟨its, rv, q, _⟩ := I.tuple h
    have D := Draws.tuple (prog := X.prog) (w := X.w) (A := A') hh p a (fun e => hp (by rw [← e]; simp [Sc.foot])) its.toArray
    have en : its.toArray.size = xs.length := by simpa using rv.length.symm
    rw [en] at D
    exact ⟨_, _, D, ⟨st, q⟩, fun j v hv => by
      have hv : its[j]? = some v := by simpa using hv
      have hj := (List.getElem?_eq_some_iff.mp hv).1
      have hj2 : j < xs.length := by rw [rv.length]; exact hj
      obtain ⟨u, hu, ru⟩ := rv.get (List.getElem?_eq_getElem hj2)
      rw [hv] at hu
      cases hu
      exact ⟨_, List.getElem?_eq_getElem hj2, ru⟩, fun j h' z => z.1⟩
  | s z =>
    obtain ⟨t, st⟩ := st
    have h : xs = z.cps.toList.map fun c => V.str ⟨#[c]⟩ := h
    subst h
    have D := Draws.text (prog := X.prog) (w := X.w) (A := A') hh p z t
    have en : z.cps.size = (z.cps.toList.map fun c => V.str ⟨#[c]⟩).length := by simp
    rw [en] at D
    exact ⟨_, _, D, st, fun j v hv => by
      obtain ⟨c, u, h1, rfl⟩ := hv
      refine ⟨.str ⟨#[c]⟩, ?_, ⟨u, rfl⟩⟩
      rw [List.getElem?_map]
      rw [← Array.getElem?_toList] at h1
      rw [h1]
      rfl, fun j h' z => ⟨t, z⟩⟩
/-- the items in new pairs -/
def ItG (K : PySem.W.Frag) (c1 c2 : Sc) : It :=
  ⟨fun i H => ∃ (xs ys : List V), c1.has K H xs ∧ c2.has K H ys ∧ i < xs.length ∧ i < ys.length,
    fun i H v H' => ∃ T x y, v = .ref T ∧ H T = none ∧ H' = upd H T (.tup [x, y]) ∧ (∀ xs, c1.has K H xs → xs[i]? = some x) ∧ ∀ ys, c2.has K H ys → ys[i]? = some y,
    fun i H => ∃ xs ys : List V, c1.has K H xs ∧ c2.has K H ys ∧ i ≤ xs.length ∧ i ≤ ys.length ∧ (i = xs.length ∨ i = ys.length)⟩
/-- the cells lie apart -/
structure ApG (z TI TO i1 i2 : Addr) (c1 c2 : Sc) : Prop where
  nd : [z, TI, TO, i1, i2].Nodup
  f1 : ∀ b ∈ [z, TI, TO, i1, i2], b ∉ c1.foot
  f2 : ∀ b ∈ [z, TI, TO, i1, i2], b ∉ c2.foot
theorem ApG.sep {z TI TO i1 i2 : Addr} {c1 c2 : Sc} (D : ApG z TI TO i1 i2 c1 c2) : ZipSep2 z TI TO i1 i2 (i1 :: c1.foot) (i2 :: c2.foot) := by
  have n := D.nd
  simp only [List.nodup_cons, List.mem_cons, List.not_mem_nil, or_false, not_or, List.nodup_nil, and_true, not_false_eq_true] at n
  obtain ⟨⟨a1, a2, a3, a4⟩, ⟨b1, b2, b3⟩, ⟨c1, c2⟩, d⟩ := n
  have f1 := fun b hb => D.f1 b hb
  have f2 := fun b hb => D.f2 b hb
  refine ⟨Ne.symm a1, Ne.symm a2, b1, b2, List.mem_cons_self, ?_, ?_, b3, List.mem_cons_self, ?_, ?_, ?_, ?_⟩
  all_goals (intro e; rcases List.mem_cons.mp e with e | e)
  · exact a3 e
  · exact f1 _ (by simp) e
  · exact c1 e
  · exact f1 _ (by simp) e
  · exact a4 e
  · exact f2 _ (by simp) e
  · exact c2 e
  · exact f2 _ (by simp) e
  · exact d e
  · exact f2 _ (by simp) e
  · exact d e.symm
  · exact f1 _ (by simp) e
end
theorem turn_zipG {P : Program} {w : World} {K : PySem.W.Frag} {elts : List Expr} {kk : Nat} {tpos : Pos} {c1 c2 : Sc} {z TI TO i1 i2 : Addr} (D : ApG z TI TO i1 i2 c1 c2) :
    Turn P w K (.Tuple elts kk tpos) (ItG K c1 c2) [z, TI, TO, i1, i2] z (fun i h => IsZip h z TI TO .none ∧ IsPair h TI (.ref i1) (.ref i2) ∧ (∃ x y, IsPair h TO x y) ∧ c1.it i h i1 ∧ c2.it i h i2) where
  mem := by simp
  obj := fun i h st c hc => by
    obtain ⟨hz, hTI, ⟨x, y, hTO⟩, h1, h2⟩ := st
    simp only [List.mem_cons, List.not_mem_nil, or_false] at hc
    rcases hc with rfl | rfl | rfl | rfl | rfl
    · exact ⟨_, hz, fun v q => nomatch q⟩
    · exact ⟨_, hTI, fun v q => nomatch q⟩
    · exact ⟨_, hTO, fun v q => nomatch q⟩
    · exact Sc.it_live h1
    · exact Sc.it_live h2
  keep := fun i h h' st k => by
    obtain ⟨hz, hTI, ⟨x, y, hTO⟩, h1, h2⟩ := st
    exact ⟨k z (by simp) _ hz, k TI (by simp) _ hTI, ⟨x, y, k TO (by simp) _ hTO⟩, Sc.it_keep h1 (k i1 (by simp)), Sc.it_keep h2 (k i2 (by simp))⟩
  item := by
    intro X hP hw hK hc i pins s σ H E I hf st hg
    subst hP hw hK
    obtain ⟨hz, hTI, ⟨x0, y0, hTO⟩, h1, h2⟩ := st
    obtain ⟨xs, ys, hqx, hqy, lx, ly⟩ := hg
    obtain ⟨P1, St1, D1, s1, e1, r1⟩ := Sc.drw X.A.in1 I (I.ok.hd hc) hqx (D.f1 _ (by simp)) h1
    obtain ⟨P2, St2, D2, s2, e2, r2⟩ := Sc.drw X.A.in1 I (I.ok.hd hc) hqy (D.f2 _ (by simp)) h2
    have hzl : z < s.heap.objs.size := Heap.lt_size hz
    refine wpAny_pyNext_zipD2_item D.sep D1 D2 hz hTI hTO s1 s2 lx ly fun u u2 h' tk y1 y2 z' TO' t1 t2 hT hsz hk => ?_
    obtain ⟨x, hx, ru⟩ := e1 _ _ y1
    obtain ⟨y, hy, ru2⟩ := e2 _ _ y2
    have sep := D.sep
    refine ⟨_, rfl, wpAny_letOwnedTupleGo_zip (s := { s with heap := h', toks := tk }) z' fun h'' z'' sb => ?_⟩
    have hT2 : h''.get? s.heap.objs.size = some { cls := .type "tuple", data := .seq #[u, u2] } := (sb.2 _ (Nat.ne_of_gt hzl)).trans hT
    have new : ObjOk X.prog X.w (upd H s.heap.objs.size (.tup [x, y])) h'' s.heap.objs.size (.tup [x, y]) :=
      ⟨by show 2 ≤ sizeLine; decide, [u, u2], .cons ru (.cons ru2 .nil), ⟨_, hT2, rfl, _, rfl⟩⟩
    have I1 : Inv X pins σ (upd H s.heap.objs.size (.tup [x, y])) { s with heap := h'', toks := tk } :=
      I.turnedNew (t' := tk) (ch := [z, TI, TO, i1, i2]) (fun c o hb q => by
        simp only [List.mem_cons, List.not_mem_nil, or_false, not_or] at hb
        exact (sb.2 c hb.1).trans (hk c o hb.1 hb.2.2.1 hb.2.2.2.1 hb.2.2.2.2 q)) hf (Nat.le_refl _) new
    refine ⟨.ref s.heap.objs.size, _, I1, rfl, ⟨_, x, y, rfl, I.hok.fresh (Nat.le_refl _), rfl, fun l hl => by rw [Sc.uniq I hl hqx]; exact hx, fun l hl => by rw [Sc.uniq I hl hqy]; exact hy⟩, ⟨z'', ?_, ⟨u, u2, ?_⟩, ?_, ?_⟩, fun c hcm => ?_⟩
    · exact (sb.2 _ sep.TIz).trans (hk _ _ sep.TIz sep.TITO sep.TIi1 sep.TIi2 hTI)
    · exact (sb.2 _ sep.TOz).trans TO'
    · exact Sc.it_keep (r1 _ _ t1) fun o q => (sb.2 _ sep.zi1.symm).trans q
    · exact Sc.it_keep (r2 _ _ t2) fun o q => (sb.2 _ sep.zi2.symm).trans q
    · have hlt : c < s.heap.objs.size := by
        simp only [List.mem_cons, List.not_mem_nil, or_false] at hcm
        rcases hcm with rfl | rfl | rfl | rfl | rfl
        · exact hzl
        · exact Heap.lt_size hTI
        · exact Heap.lt_size hTO
        · obtain ⟨_, e, _⟩ := Sc.it_live h1; exact Heap.lt_size e
        · obtain ⟨_, e, _⟩ := Sc.it_live h2; exact Heap.lt_size e
      rw [upd_ne (Nat.ne_of_lt hlt)]
      exact (hf c hcm).1
  done := by
    intro X hP hw hK hc i pins s σ H E I hf st hg
    subst hP hw hK
    obtain ⟨hz, hTI, ⟨x0, y0, hTO⟩, h1, h2⟩ := st
    obtain ⟨xs, ys, hqx, hqy, lx, ly, hend⟩ := hg
    obtain ⟨P1, St1, D1, s1, _, _⟩ := Sc.drw X.A.in1 I (I.ok.hd hc) hqx (D.f1 _ (by simp)) h1
    obtain ⟨P2, St2, D2, s2, _, _⟩ := Sc.drw X.A.in1 I (I.ok.hd hc) hqy (D.f2 _ (by simp)) h2
    refine wpAny_pyNext_zipD2_end D.sep D1 D2 hz hTI hTO s1 s2 lx ly hend fun h' tk hk => ⟨rfl, I.turnedL (t' := tk) (ch := [z, TI, TO, i1, i2]) (fun c o hb q => ?_) hf⟩
    simp only [List.mem_cons, List.not_mem_nil, or_false, not_or] at hb
    exact hk c o hb.1 hb.2.2.1 hb.2.2.2.1 hb.2.2.2.2 q
  self := fun A i s Q E st h => wpAny_pyIter_zip st.1 h
/-- iter of a source -/
theorem Sc.beg {X : Cx} {pins : List (Addr × Obj)} {σ : L2.St} {H : Hp} {s : Shared} {c : Sc} {xs : List V} {v : V} {u : Value} (I : Inv X pins σ H s) (h : c.has X.K H xs) (hv : c.is v) (r : RelV v u) :
    ∃ (o : Obj) (G : Heap → Prop), Begins u o G ∧ G s.heap ∧ (∀ b ∈ c.foot, b < s.heap.objs.size) ∧ ∀ h' p, h'.get? p = some o → c.it 0 h' p := by
  cases c with
  | l a =>
    have hv : v = .ref a := hv
    subst hv
    cases r
    obtain ⟨its, rv, q, _⟩ := I.list h
    exact ⟨_, _, begins_list a its.toArray, q.isList, fun b hb => by
      have hb : b = a := by simpa [Sc.foot] using hb
      rw [hb]
      exact q.lt, fun h' p e => ⟨_, e, rfl, rfl⟩⟩
  | t a =>
    have hv : v = .ref a := hv
    subst hv
    cases r
    obtain ⟨its, rv, q, _⟩ := I.tuple h
    obtain ⟨o1, ho1, _⟩ := id q
    exact ⟨_, _, begins_tuple a its.toArray, q, fun b hb => by
      have hb : b = a := by simpa [Sc.foot] using hb
      rw [hb]
      exact Heap.lt_size ho1, fun h' p e => ⟨_, e, rfl, rfl⟩⟩
  | s z =>
    have hv : v = .str z := hv
    subst hv
    obtain ⟨t, rfl⟩ := r
    exact ⟨_, _, begins_text z t, trivial, fun b hb => by simp [Sc.foot] at hb, fun h' p e => ⟨t, _, e, rfl, rfl⟩⟩
def iZipG (K : PySem.W.Frag) (ta : TA) : TI := fun σ H R => ta σ H fun vs H1 => ∃ c1 c2 v1 v2 xs ys, vs = [v1, v2] ∧ Sc.is c1 v1 ∧ Sc.is c2 v2 ∧ c1.has K H1 xs ∧ c2.has K H1 ys ∧ R (ItG K c1 c2) H1
theorem pi_zipG {X : Cx} {e e2 : Expr} {ta : TA} {p pos tpos : Pos} {elts : List Expr} {kk : Nat} (hg : Gl X "zip") (hm : X.mg "zip" = none) (ha : PA X [e, e2] ta)
    (hs : starEach [e, e2] X.env = (false, eval e X.env) :: starEach [e2] X.env := by rfl) (hpl : (backTo pos (starEach [e2] X.env)).any (·.1) = false := by rfl) :
    PI X (.Tuple elts kk tpos) (.Call (.Name "zip" p) [e, e2] [] pos) (iZipG X.K ta) := by
  refine ⟨fun pins s σ H R I h => ?_⟩
  refine Call_ (ld_blt I hg hm PyProof.Rows.boot_zip (PyProof.Rows.callWith_type1 (thn (ha.run pos pins s σ H _ I h) fun us s1 ⟨vs, H1, I1, r1, q1⟩ => ?_) hs hpl))
  obtain ⟨c1, c2, v1, v2, xs, ys, rfl, i1, i2, h1, h2, q⟩ := q1
  cases r1 with
  | cons r rr =>
    cases rr with
    | cons r' rr =>
      cases rr
      obtain ⟨o1, G1, B1, g1, l1, t1⟩ := Sc.beg I1 h1 i1 r
      obtain ⟨o2, G2, B2, g2, l2, t2⟩ := Sc.beg I1 h2 i2 r'
      have mem5 : ∀ c, c ∈ [s1.heap.objs.size + 4, s1.heap.objs.size + 2, s1.heap.objs.size + 3, s1.heap.objs.size, s1.heap.objs.size + 1] → s1.heap.objs.size ≤ c := fun c hc => by
        simp only [List.mem_cons, List.not_mem_nil, or_false] at hc
        omega
      refine zip_begins2 B1 B2 g1 g2 fun h' hz hTI hTO a1 a2 hsz hk => wpAny_pyIter_zip hz ?_
      have I2 : Inv X pins σ H1 { s1 with heap := h' } := I1.kept (t' := s1.toks) hk
      refine ⟨s1.heap.objs.size + 4, [s1.heap.objs.size + 4, s1.heap.objs.size + 2, s1.heap.objs.size + 3, s1.heap.objs.size, s1.heap.objs.size + 1], _, _, H1, rfl, I2, turn_zipG (TI := s1.heap.objs.size + 2) (TO := s1.heap.objs.size + 3) (i1 := s1.heap.objs.size) (i2 := s1.heap.objs.size + 1) ⟨?_, fun b hb z => ?_, fun b hb z => ?_⟩, ⟨hz, hTI, ⟨_, _, hTO⟩, t1 _ _ a1, t2 _ _ a2⟩, fun c hc => I1.fpOk (mem5 c hc) (I1.hok.fresh (mem5 c hc)), q⟩
      · simp
      · exact Nat.lt_irrefl _ (Nat.lt_of_lt_of_le (l1 b z) (mem5 b hb))
      · exact Nat.lt_irrefl _ (Nat.lt_of_lt_of_le (l2 b z) (mem5 b hb))
theorem walk_zipG {K : PySem.W.Frag} {c1 c2 : Sc} {xs ys : List V} {n : Nat} (hn : n = min xs.length ys.length) : Walk (ItG K c1 c2) n (fun H => c1.has K H xs ∧ c2.has K H ys) (YPair (fun i => xs[i]?) (fun i => ys[i]?)) := by
  subst hn
  refine ⟨fun i _ hi q => ⟨xs, ys, q.1, q.2, by omega, by omega⟩, fun _ q => ⟨xs, ys, q.1, q.2, by omega, by omega, by omega⟩, fun i H v H' _ q y => ?_⟩
  obtain ⟨T, x, z, e1, e2, e3, e4, e5⟩ := y
  exact ⟨T, x, z, e1, e2, e3, e4 xs q.1, e5 ys q.2⟩
end Ev
namespace Ev
open PySem PySem.Spec L2 PyProof.Rows
def rSortG (K : PySem.W.Frag) : List V → Hp → VK → Prop := fun xs H Q => ∃ (a : Addr) (ps : List (PyData × V)), xs = [.ref a] ∧ SqL K H a (ps.map (·.2)) ∧ (∀ p ∈ ps, Dp K H p.2 p.1) ∧ PySem.W.AllAlike (ps.map (·.1)) ∧ PySem.W.Sortable (ps.map (·.1)) ∧ (∀ p ∈ ps, p.1.depth ≤ 64) ∧
  ∀ l, H l = none → Q (.ref l) (upd H l (.lst ((ps.mergeSort (PySem.W.dataLe false (·.1))).map (·.2))))
theorem each_vals : ∀ {ps : List (PyData × V)} {us : List Value}, Vals (ps.map (·.2)) us → PySem.W.EachIs (fun u (p : PyData × V) => RelV p.2 u) us ps
  | [], _, .nil => .nil
  | p :: ps, _, .cons h t => .cons h (each_vals t)
theorem vals_each : ∀ {ps : List (PyData × V)} {us : List Value}, PySem.W.EachIs (fun u (p : PyData × V) => RelV p.2 u) us ps → Vals (ps.map (·.2)) us
  | _, _, .nil => .nil
  | _, _, .cons h t => .cons h (vals_each t)
theorem each_reads {X : Cx} {pins : List (Addr × Obj)} {σ : L2.St} {H : Hp} {s : Shared} (I : Inv X pins σ H s) : ∀ {ps : List (PyData × V)} {us : List Value}, Vals (ps.map (·.2)) us → (∀ p ∈ ps, Dp X.K H p.2 p.1) → PySem.W.EachIs (fun u (p : PyData × V) => ∃ as, Reads s.heap u p.1 as) us ps
  | [], _, .nil, _ => .nil
  | p :: ps, _, .cons h t, k => .cons (Dp.reads I p.1 p.2 _ (k p List.mem_cons_self) h) (each_reads I t fun q hq => k q (List.mem_cons_of_mem _ hq))
theorem call_sortedG {X : Cx} (hu : X.A.units + 70 < cLine) : CallR X (.builtin "sorted") (rSortG X.K) := by
  intro pins s σ H vs us Q I r h
  obtain ⟨a, ps, rfl, hs, hd, hal, hk, hdp, q⟩ := h
  obtain ⟨its, rv, pl, hz⟩ := I.list hs
  obtain ⟨u, rfl, ru⟩ := vals1 r
  obtain rfl : u = Value.ref a := ru
  have hl : ps.length ≤ sizeLine := by simpa using hz
  refine PySem.W.sorted_data (vs := its) (bs := ps) (enc := fun p : PyData × V => p.1) (R := fun u p => RelV p.2 u) pl.isList (each_vals rv) (each_reads I rv hd) hal hk hl (fun b hb => by have := hdp b hb; omega) fun out hlen he => ?_
  have hv := vals_each he
  have hn := PyProof.Rows.sortedAll_at s.heap its out.toArray
  obtain ⟨n, hn⟩ := hn
  refine ⟨.ref (s.heap.objs.size + 1), _, I.laid (t' := s.toks) (o := .lst ((ps.mergeSort (PySem.W.dataLe false (·.1))).map (·.2))) (fun b o e => PyProof.Rows.sortedAll_old e) (Nat.le_succ _) ⟨?_, out, n, hv, hn⟩, rfl, q _ (I.hok.fresh (Nat.le_succ _))⟩
  rw [List.length_map, List.length_mergeSort]
  exact hl
end Ev
namespace Ev
open PySem PySem.Spec L2 PyProof.Rows
section
variable {X : Cx} {pins : List (Addr × Obj)} {σ : L2.St} {H : Hp} {s : Shared} {d : Addr} {od : Obj} {tvs : TVs}
theorem TRel.at_ : ∀ {l : TVs} {m : TKs}, TRel l m → ∀ {i : Nat} {q : List L2.Key × Addr × V}, l[i]? = some q → ∃ u, m[i]? = some (q.1, q.2.1, u) ∧ RelV q.2.2 u
  | _, _, .nil, i, q, e => by simp at e
  | _, _, .cons (a := a) (b := b) h t, i, q, e => by
    obtain ⟨b1, b2, b3⟩ := b
    obtain ⟨h1, h2, h3⟩ := h
    cases i with
    | zero =>
      cases (Option.some.inj e : a = q)
      cases h1
      cases h2
      exact ⟨b3, rfl, h3⟩
    | succ i => exact TRel.at_ t (by simpa using e)
theorem frzS (I : Inv X pins σ H s) (h : H d = some (.frz od (DictS X.prog X.w d tvs))) :
    (d == sysModules) = false ∧ s.heap.get? d = some od ∧ od.ExactDict ∧ ∃ (es : Array DictEntry) (ep : Nat), od.data = .dict es ep ∧ es.size = tvs.length ∧
      ∀ (i : Nat) (q : List L2.Key × Addr × V), tvs[i]? = some q → ∃ en : DictEntry, es[i]? = some en ∧ en.key = .ref q.2.1 ∧ RelV q.2.2 en.val := by
  obtain ⟨hd, ⟨sm, xs, r, o, es, ep, n1, n2, n3, n4, n5⟩, -⟩ := (show _ ∧ _ from I.hok d _ h)
  rw [hd] at n1
  cases n1
  refine ⟨sm, hd, n2, es, ep, n3, ?_, fun i q e => ?_⟩
  · have l1 : es.size = xs.length := size_of_entries n4
    have l2 : tvs.length = xs.length := Paired.length r
    omega
  · obtain ⟨u, hu, ru⟩ := r.at_ e
    have z := entry_at n4 i
    rw [hu] at z
    exact ⟨_, z, rfl, ru⟩
end
/-- its keys, in their order -/
def Itks (P : Program) (w : World) (d : Addr) (o : Obj) (tvs : TVs) : It :=
  ⟨fun i H => H d = some (.frz o (DictS P w d tvs)) ∧ i < tvs.length, fun i H x H' => H' = H ∧ ∃ q, tvs[i]? = some q ∧ x = .ref q.2.1, fun i H => H d = some (.frz o (DictS P w d tvs)) ∧ tvs.length ≤ i⟩
/-- its pairs, each a new tuple -/
def Itps (P : Program) (w : World) (d : Addr) (o : Obj) (tvs : TVs) : It :=
  ⟨fun i H => H d = some (.frz o (DictS P w d tvs)) ∧ i < tvs.length, fun i H x H' => ∃ t q, tvs[i]? = some q ∧ x = .ref t ∧ H t = none ∧ H' = upd H t (.tup [.ref q.2.1, q.2.2]), fun i H => H d = some (.frz o (DictS P w d tvs)) ∧ tvs.length ≤ i⟩
theorem ep_one {o : Obj} {es es' : Array DictEntry} {ep ep' : Nat} (h : o.data = .dict es ep) (h' : o.data = .dict es' ep') : es' = es ∧ ep' = ep := by
  have e := h.symm.trans h'
  cases e
  exact ⟨rfl, rfl⟩
section
variable {P : Program} {w : World} {K : PySem.W.Frag} {tg : Expr} {d : Addr} {o : Obj} {es : Array DictEntry} {ep : Nat} {tvs : TVs}
theorem turn_keysS (it : Addr) (hod : o.data = .dict es ep) : Turn P w K tg (Itks P w d o tvs) [it] it (fun i h => h.IsKeyIter it d i tvs.length ep) where
  mem := List.mem_singleton.mpr rfl
  obj := fun i h st b hb => by
    cases (List.mem_singleton.mp hb)
    obtain ⟨oi, e, _, dd⟩ := st
    exact ⟨oi, e, fun v z => nomatch dd.symm.trans z⟩
  keep := fun i h h' st k => st.at fun oi e => k it (List.mem_singleton.mpr rfl) oi e
  item := by
    intro X hP hw hK hc i pins s σ H E I hf st ⟨hd, hi⟩
    subst hP
    subst hw
    obtain ⟨f0, f1, f2, f3, f4, f5⟩ := hf it (List.mem_singleton.mpr rfl)
    obtain ⟨_, g1, g2, es', ep', g3, g4, g5⟩ := frzS I hd
    obtain ⟨rfl, rfl⟩ := ep_one hod g3
    obtain ⟨en, e1, e2, _⟩ := g5 i _ (List.getElem?_eq_getElem hi)
    refine next_key_item st g1 g3 g4 e1 fun h' st' sb => ?_
    have I1 : Inv X pins σ H { s with heap := h' } := I.turned (t' := s.toks) (fun b ob hb e => (sb.2 b hb).trans e) f0 f1 f3 f4 f5
    obtain ⟨oi, e, c, dd⟩ := id st'
    exact ⟨_, rfl, go_of (s := { s with heap := h' }) e c dd (by decide) ⟨_, H, I1, e2 ▸ rfl, ⟨rfl, _, List.getElem?_eq_getElem hi, rfl⟩, st', fun b hb => (hf b hb).1⟩⟩
  done := by
    intro X hP hw hK hc i pins s σ H E I hf st ⟨hd, hi⟩
    subst hP
    subst hw
    obtain ⟨f0, f1, f2, f3, f4, f5⟩ := hf it (List.mem_singleton.mpr rfl)
    obtain ⟨_, g1, g2, es', ep', g3, g4, g5⟩ := frzS I hd
    obtain ⟨rfl, rfl⟩ := ep_one hod g3
    exact next_key_end (I.ok.hd hc) st g1 g3 g4 hi fun h' eb => ⟨rfl, I.turned (t' := s.toks) (fun b ob hb e => eb b ob hb e) f0 f1 f3 f4 f5⟩
  self := fun A i s Q E st h => wpAny_pyIter_keyiter st h
theorem turn_itemsS {elts : List Expr} {kk : Nat} {tpos : Pos} (it : Addr) (hod : o.data = .dict es ep) (hsz : es.size = tvs.length) :
    Turn P w K (.Tuple elts kk tpos) (Itps P w d o tvs) [it] it (fun i h => ∃ ok ov, IsItemIter h it d i es.size ep ok ov) where
  mem := List.mem_singleton.mpr rfl
  obj := fun i h st b hb => by
    cases (List.mem_singleton.mp hb)
    obtain ⟨_, _, e⟩ := st
    exact ⟨_, e, fun v z => nomatch z⟩
  keep := fun i h h' st k => by
    obtain ⟨a, b, e⟩ := st
    exact ⟨a, b, k it (List.mem_singleton.mpr rfl) _ e⟩
  item := by
    intro X hP hw hK hc i pins s σ H E I hf st ⟨hd, hi⟩
    subst hP
    subst hw
    obtain ⟨_, g1, g2, es', ep', g3, g4, g5⟩ := frzS I hd
    obtain ⟨rfl, rfl⟩ := ep_one hod g3
    obtain ⟨en, e1, e2, e3⟩ := g5 i _ (List.getElem?_eq_getElem hi)
    obtain ⟨ok, ov, he⟩ := st
    have hi' : i < es'.size := by omega
    have e4 : es'[i] = en := Option.some.inj ((Array.getElem?_eq_getElem hi').symm.trans e1)
    have hlt : it < s.heap.objs.size := Heap.lt_size he
    refine wpAny_pyNext_items_item_raw he ⟨o, g1, g2, g3⟩ hi' fun h' ho hT hz hk => ?_
    rw [e4] at ho hT
    refine ⟨_, rfl, wpAny_letOwnedTupleGo_items (s := { s with heap := h' }) ho fun h'' he' sb => ?_⟩
    have hT2 : h''.get? s.heap.objs.size = some { cls := .type "tuple", data := .seq #[en.key, en.val] } := (sb.2 _ (Nat.ne_of_gt hlt)).trans hT
    have new : ObjOk X.prog X.w (upd H s.heap.objs.size (.tup [.ref tvs[i].2.1, tvs[i].2.2])) h'' s.heap.objs.size (.tup [.ref tvs[i].2.1, tvs[i].2.2]) :=
      ⟨by show 2 ≤ sizeLine; decide, [en.key, en.val], .cons (e2 ▸ rfl) (.cons e3 .nil), ⟨_, hT2, rfl, _, rfl⟩⟩
    have I1 := I.turnedNew (t' := s.toks) (ch := [it]) (fun b ob hb e => (sb.2 b (by simpa using hb)).trans (hk b ob (by simpa using hb) e)) hf (Nat.le_refl _) new
    refine ⟨.ref s.heap.objs.size, _, I1, rfl, ⟨_, _, List.getElem?_eq_getElem hi, rfl, I.hok.fresh (Nat.le_refl _), rfl⟩, ⟨_, _, he'⟩, fun b hb => ?_⟩
    cases (List.mem_singleton.mp hb)
    rw [upd_ne (Nat.ne_of_lt hlt)]
    exact (hf it (List.mem_singleton.mpr rfl)).1
  done := by
    intro X hP hw hK hc i pins s σ H E I hf st ⟨hd, hi⟩
    subst hP
    subst hw
    obtain ⟨f0, f1, f2, f3, f4, f5⟩ := hf it (List.mem_singleton.mpr rfl)
    obtain ⟨_, g1, g2, es', ep', g3, g4, g5⟩ := frzS I hd
    obtain ⟨rfl, rfl⟩ := ep_one hod g3
    obtain ⟨ok, ov, he⟩ := st
    exact wpAny_pyNext_items_end_raw (I.ok.hd hc) he ⟨o, g1, g2, g3⟩ (by omega) fun h' eb => ⟨rfl, I.turned (t' := s.toks) (fun b ob hb e => eb b ob hb e) f0 f1 f3 f4 f5⟩
  self := fun A i s Q E st h => by
    obtain ⟨a, b, e⟩ := st
    exact PySem.W.kcp_self e h
end
/-- the dict is locked here, if it isn't -/
def rDW (P : Program) (w : World) (J : Addr → Obj → TVs → It) (x : V) (H : Hp) (R : It → Hp → Prop) : Prop := ∃ d tvs, x = .ref d ∧
  ((H d = some (DictS P w d tvs) ∧ ∀ od, R (J d od tvs) (upd H d (.frz od (DictS P w d tvs)))) ∨ ∃ od, H d = some (.frz od (DictS P w d tvs)) ∧ R (J d od tvs) H)
section
variable {X : Cx} {tg e : Expr} {td : TE} {apos cpos : Pos}
theorem dw_lock {J : Addr → Obj → TVs → It} {pins : List (Addr × Obj)} {σ : L2.St} {H : Hp} {s : Shared} {R : It → Hp → Prop} {x : V} (I : Inv X pins σ H s) (h : rDW X.prog X.w J x H R) :
    ∃ d od tvs H', x = .ref d ∧ Inv X pins σ H' s ∧ H' d = some (.frz od (DictS X.prog X.w d tvs)) ∧ R (J d od tvs) H' := by
  obtain ⟨d, tvs, rfl, h | ⟨od, h1, h2⟩⟩ := h
  · obtain ⟨h1, h2⟩ := h
    obtain ⟨od, I1⟩ := I.lock h1 True.intro
    exact ⟨d, od, tvs, _, rfl, I1, upd_same, h2 od⟩
  · exact ⟨d, od, tvs, H, rfl, I, h1, h2⟩
theorem pi_keysS (he : PE X e td) : PI X tg e (fun σ H R => td σ H fun x H1 => rDW X.prog X.w (Itks X.prog X.w) x H1 R) := by
  refine ⟨fun pins s σ H R I h => thn (he.run pins s σ H _ I h) fun u s1 ⟨x, H1, I1, rx, q⟩ => ?_⟩
  obtain ⟨d, od, tvs, H', rfl, I2, hd, q⟩ := dw_lock I1 q
  obtain rfl : u = Value.ref d := rx
  obtain ⟨g0, g1, g2, es, ep, g3, g4, g5⟩ := frzS I2 hd
  refine iter_keys g0 g1 g2 g3 (pi_one (tk := s1.toks) I2 _ (turn_keysS _ g3) ⟨_, Heap.get?_push_size _ rfl, rfl, ?_⟩ q)
  rw [g4]
  rfl
theorem pi_itemsS {elts : List Expr} {kk : Nat} {tpos : Pos} (he : PE X e td) (hbase : attributeBase e "items" X.env (eval e X.env) = eval e X.env := by rfl) (hline : (apos.endLine == cpos.line) = true := by rfl) :
    PI X (.Tuple elts kk tpos) (.Call (.Attribute e "items" apos) [] [] cpos) (fun σ H R => td σ H fun x H1 => rDW X.prog X.w (Itps X.prog X.w) x H1 R) := by
  refine ⟨fun pins s σ H R I h => ?_⟩
  refine wpAny_Call_method (T := "dict") (id := "dict.items") hbase rfl hline F.plainAttrs_dict F.slot_dict_items F.type_dict_items (thn (he.run pins s σ H _ I h) fun u s1 ⟨x, H1, I1, rx, q⟩ => ?_)
  obtain ⟨d, od, tvs, H', rfl, I2, hd, q⟩ := dw_lock I1 q
  obtain rfl : u = Value.ref d := rx
  obtain ⟨g0, g1, g2, es, ep, g3, g4, g5⟩ := frzS I2 hd
  have hm : s1.heap.DictRaw d es ep := ⟨od, g1, g2, g3⟩
  refine ⟨hm.typeIs, fun a e => (by cases e; exact ⟨od, g1, g2.2.1⟩), ?_⟩
  have I3 : Inv X pins σ H' { s1 with heap := s1.heap.push { cls := .type "dict_items", data := .fields #[.ref d] } } := I2.kept (t' := s1.toks) fun b ob z => Heap.get?_push_of_some _ z
  have fin : wpAny (model X.prog X.w) X.A (pyIter (.ref s1.heap.objs.size)) (PIE X pins σ (.Tuple elts kk tpos) R) X.xe { s1 with heap := s1.heap.push { cls := .type "dict_items", data := .fields #[.ref d] } } :=
    wpAny_pyIter_items_raw (d := d) ⟨_, Heap.get?_push_size _ rfl, rfl, rfl⟩ (hm.at fun o z => Heap.get?_push_of_some _ z) (pi_one (tk := s1.toks) I3 _ (turn_itemsS _ g3 g4) ⟨.none, .none, Heap.get?_push_size _ rfl⟩ q)
  show wpAny _ _ (callWith cpos (.builtin "dict.items") [.ref d] [] []) _ X.xe s1
  exact method_meetsIn F.slot_dict_items F.entry_dict_items rfl (PySem.evalArgs_none ⟨rfl, hm.typeIs, F.args_dict_items_1 _, _, meets_dict_items_raw d g0, ⟨⟨es, ep, hm⟩, fin⟩⟩)
end
section
open PySem.W
variable {prog : Program} {w : World} {A : Around} {E : Value → Shared → Prop} {s : Shared}
theorem keys_got {d : Addr} {es : Array DictEntry} {ep : Nat} {o : Obj} {R : List Value → Shared → Prop} (lo : (d == sysModules) = false) (hx : o.ExactDict) (hd : o.data = .dict es ep) (hh : A.handled = none) (hok : s.heap.get? d = some o) (hn : es.size ≤ sizeLine)
    (q : ∀ (h' : Heap) (tk : Nat) (acc : Array Value), s.heap.objs.size < h'.objs.size → (∀ b u, s.heap.get? b = some u → h'.get? b = some u) → ItemsOf (fun i v => ∃ en : DictEntry, es[i]? = some en ∧ v = en.key) acc es.size → R acc.toList { s with heap := h', toks := tk }) :
    wpAny (model prog w) A (collect (.ref d)) R E s := by
  have K := kdl_raw (prog := prog) (w := w) (d := d) lo hx hd
  have lt := K.there _ hok
  unfold collect
  refine wpAny_bind (wpAny_runValue (codeAny_builtin entry_proto_collect' ?_))
  rw [Around.under_plainId PySem.F.plain_proto_collect _]
  show wpAny _ A.in1 (newList [] >>= fun l => again (.builtin "list.__iadd__" ⟨[l, .ref d], []⟩)) _ _ s
  refine wpAny_bind (wpAny_newObj_type (wpAny_pure ⟨plainId_quiet PySem.F.plain_list_iadd _, codeAny_builtin entry_list_iadd' ?_⟩))
  rw [Around.under_plainId PySem.F.plain_list_iadd _]
  have g0 : (s.heap.push { cls := .type "list", data := .seq ([] : List Value).toArray }).get? s.heap.objs.size = some { cls := .type "list", data := .seq #[] } := Heap.get?_push_size _ rfl
  have key := kdl_extend (A := A) (s := { s with heap := s.heap.push { cls := .type "list", data := .seq ([] : List Value).toArray } })
    (R := fun (r : Result) (s' : Shared) => ∃ (h' : Heap) (tk : Nat) (acc : Array Value) (c : Nat), r = .ok (.ret (.ref s.heap.objs.size)) ∧ s' = { s with heap := h', toks := tk } ∧
      (∀ b u, s.heap.get? b = some u → h'.get? b = some u) ∧ h'.get? s.heap.objs.size = some { cls := .type "list", dict := none, data := .seq acc c, slots := #[] } ∧ ItemsOf (fun i v => ∃ en : DictEntry, es[i]? = some en ∧ v = en.key) acc es.size)
    K hh (K.keep _ _ hok fun b _ u e => Heap.get?_push_of_some _ e) s.heap.objs.size (Nat.ne_of_gt lt.1) (Nat.ne_of_gt lt.2) (.ref s.heap.objs.size) 0 g0
    (fun h' tk acc c k1 k2 k3 => ⟨h', tk, acc, c, rfl, rfl, fun b u e => k1 b u (Nat.ne_of_lt (Heap.lt_size e)) (Heap.get?_push_of_some _ e), k2, k3⟩) hn
  refine wpAny_mono key (fun fin s' x => ?_) fun e s' x => ?_
  · cases fin with
    | done f =>
      obtain ⟨h', tk, acc, c, e, rfl, k1, k2, k3⟩ := x
      cases e
      exact wpAny_bind (wpAny_load k2 (wpAny_pure (q h' tk acc (Heap.lt_size k2) k1 k3)))
    | again c₁ =>
      refine ⟨x.1, codeAny_mono x.2 fun r s₂ y => ?_⟩
      obtain ⟨h', tk, acc, c, rfl, rfl, k1, k2, k3⟩ := y
      exact wpAny_bind (wpAny_load k2 (wpAny_pure (q h' tk acc (Heap.lt_size k2) k1 k3)))
  · obtain ⟨_, _, _, _, e', _⟩ := x
    cases e'
theorem sort_old {β : Type} {Rv : Value → β → Prop} {enc : β → PyData} {vs : List Value} {bs : List β} {h0 : Heap} {a : Addr} {n : Nat} {Q : Value → Shared → Prop} (k0 : ∀ b o, h0.get? b = some o → b ≠ a ∧ s.heap.get? b = some o) (ho : s.heap.get? a = some (seqObj "list" vs.toArray n)) (e : EachIs Rv vs bs)
    (er : EachIs (fun v b => ∃ as, Reads h0 v (enc b) as) vs bs) (hal : AllAlike (bs.map enc)) (hk : Sortable (bs.map enc)) (hL : bs.length ≤ sizeLine)
    (hu : ∀ b, b ∈ bs → A.units + 1 + (enc b).depth < cLine) (h : ∀ out, out.length = bs.length → EachIs Rv out (bs.mergeSort (dataLe false enc)) → Q .none { s with heap := sortedHeap s.heap a vs (List.toArray out) }) :
    wpAny (model prog w) A (call (.builtin "list.sort") [.ref a]) Q E s := by
  have er' : EachIs (fun v b => ∃ as, Reads (sortingHeap s.heap a vs) v (enc b) as) vs bs := er.mono fun _ _ ⟨as, r⟩ => ⟨as, PyProof.Rows.Reads.keeps (fun b o z => sortingHeap_old (k0 b o z).1 (k0 b o z).2) r⟩
  refine wpAny_call_entry slot_list_sort ⟨_, ho, rfl⟩ entry_list_sort (list_sort_vals (κ := dataKind (sortingHeap s.heap a vs) (bs.map enc)) ho (SortsAt.data (s := { s with heap := sortingHeap s.heap a vs }) (each_map (R := fun v d => ∃ as, Reads (sortingHeap s.heap a vs) v d as) enc er') hal hk (bound_map hu)) (by rw [e.length]; exact hL) ⟨.none, rfl, ?_⟩) (args_list_sort _)
  exact h _ (by rw [sortVals_length false rfl]; exact e.length) (sortVals_data false e er' hal)
end
def rSortS (P : Program) (w : World) (K : PySem.W.Frag) : List V → Hp → VK → Prop := fun xs H Q => ∃ (a : Addr) (tvs : TVs) (ps : List (PyData × V)), xs = [.ref a] ∧ IsDS P w H a tvs ∧ ps.map (·.2) = tvs.map (fun q => V.ref q.2.1) ∧ (∀ p ∈ ps, Dp K H p.2 p.1) ∧
  PySem.W.AllAlike (ps.map (·.1)) ∧ PySem.W.Sortable (ps.map (·.1)) ∧ (∀ p ∈ ps, p.1.depth ≤ 64) ∧ ps.length ≤ sizeLine ∧ ∀ l, H l = none → Q (.ref l) (upd H l (.lst ((ps.mergeSort (PySem.W.dataLe false (·.1))).map (·.2))))
theorem keys_of : ∀ {l : TVs} {vs : List Value}, vs.length = l.length → (∀ (j : Nat) (v : Value) (q : List L2.Key × Addr × V), vs[j]? = some v → l[j]? = some q → v = .ref q.2.1) → Vals (l.map fun q => V.ref q.2.1) vs
  | [], [], _, _ => .nil
  | [], _ :: _, h, _ => by simp at h
  | _ :: _, [], h, _ => by simp at h
  | q :: l, v :: vs, h, k => .cons (show v = Value.ref q.2.1 from k 0 v q rfl rfl) (keys_of (by simpa using h) fun j v' q' e1 e2 => k (j + 1) v' q' (by simpa using e1) (by simpa using e2))
theorem call_sortedS {X : Cx} (hc : X.calm = true) (hu : X.A.units + 70 < cLine) : CallR X (.builtin "sorted") (rSortS X.prog X.w X.K) := by
  intro pins s σ H vs us Us I r h
  obtain ⟨a, tvs, ps, rfl, hd, hv, hp, hal, hk, hdp, hl, q⟩ := h
  obtain ⟨⟨sm, xs, rel, o, es, ep, n1, n2, n3, n4, n5⟩, -⟩ := dS_hok I hd
  obtain ⟨u, rfl, ru⟩ := vals1 r
  obtain rfl : u = Value.ref a := ru
  have l1 : es.size = xs.length := size_of_entries n4
  have l2 : tvs.length = xs.length := Paired.length rel
  have l3 : ps.length = tvs.length := by simpa using congrArg List.length hv
  refine PySem.Calls.call_function_entry kind_sorted plain_sorted entry_sorted (args_sorted1 _) ?_
  unfold Builtin.«sorted»
  refine wpAny_bind (m := checkCount "sorted" 1 1 _) (wpAny_pure ?_)
  refine wpAny_bind (keys_got (A := X.A.in1) sm n2 n3 (I.ok.hd hc) n1 (by omega) fun h' tk acc hz k1 k2 => ?_)
  have hl2 : acc.toList.length = es.size := by rw [Array.length_toList]; exact k2.1
  have rv : Vals (ps.map (·.2)) acc.toList := by
    rw [hv]
    refine keys_of (by omega) fun j v p e1 e2 => ?_
    obtain ⟨en, f1, f2⟩ := k2.2 j v (by rw [← Array.getElem?_toList]; exact e1)
    obtain ⟨y, g1, _⟩ := rel.at_ e2
    have z := entry_at n4 j
    rw [g1, f1] at z
    rw [f2, Option.some.inj z]
    rfl
  refine wpAny_bind (wpAny_newList ?_ (by rw [hl2]; omega))
  have hb2 : ∀ b o, s.heap.get? b = some o → b ≠ h'.objs.size ∧ (h'.push { cls := .type "list", data := .seq acc.toList.toArray }).get? b = some o := fun b o e => ⟨Nat.ne_of_lt (Heap.lt_size (k1 b o e)), Heap.get?_push_of_some _ (k1 b o e)⟩
  have g0 : (h'.push { cls := .type "list", data := .seq acc.toList.toArray }).get? h'.objs.size = some (seqObj "list" acc.toList.toArray 0) := Heap.get?_push_size _ rfl
  have hs := sort_old (prog := X.prog) (w := X.w) (E := X.xe) (s := { s with heap := h'.push { cls := .type "list", data := .seq acc.toList.toArray }, toks := tk }) (A := X.A.in1) (vs := acc.toList) (bs := ps) (enc := fun p : PyData × V => p.1) (Rv := fun u p => RelV p.2 u) (h0 := s.heap) (a := h'.objs.size) (n := 0)
    (Q := fun _ s' => ∃ v H', Inv X pins σ H' s' ∧ RelV v (.ref h'.objs.size) ∧ Us v H') hb2 g0 (each_vals rv) (each_reads I rv hp) hal hk hl (fun b hb => by have := hdp b hb; show X.A.in1.units + 1 + _ < cLine; have : X.A.in1.units = X.A.units + 1 := rfl; omega) fun out ho eo => by
      obtain ⟨n, hn⟩ := sortedHeap_at (h := h'.push { cls := .type "list", data := .seq acc.toList.toArray }) (vs := acc.toList) (out := out.toArray) g0
      have le : s.heap.objs.size ≤ h'.objs.size := Nat.le_of_lt hz
      refine ⟨.ref h'.objs.size, _, I.laid (t' := tk) (o := .lst ((ps.mergeSort (PySem.W.dataLe false (·.1))).map (·.2))) (fun b o e => ?_) le ⟨?_, out, n, vals_each eo, hn⟩, rfl, q _ (I.hok.fresh le)⟩
      · obtain ⟨e1, e2⟩ := hb2 b o e
        exact (sortedHeap_old e1 (Heap.lt_size e2)).trans e2
      · rw [List.length_map, List.length_mergeSort]
        exact hl
  refine wpAny_bind (wpAny_holding (wpAny_mono hs (fun _ s' x => ?_) fun _ _ e => e))
  exact wpAny_pure ⟨_, rfl, x⟩
end Ev
namespace Ev
open PySem PySem.Spec L2 PyProof.Rows
/-- zip's record, its last pair in f0 -/
abbrev ZipR (h : Heap) (z TI TO : Addr) (f0 : Value) (b : Bool) : Prop := h.get? z = some { cls := .type "zip", dict := none, data := .fields #[f0, .bool b, .bool false, .ref TI, .ref TO], slots := #[] }
def ZipS (h : Heap) (z TI TO : Addr) : Prop := ∃ f0 b, ZipR h z TI TO f0 b ∧ (f0 = .none ∨ ∃ T : Addr, f0 = rawInt T)
section
variable {prog : Program} {w : World} {A : Around} {E : Value → Shared → Prop} {s : Shared} {z TI TO i1 i2 : Addr} {fp1 fp2 : List Addr} {n1 n2 i : Nat} {P1 P2 : Nat → Value → Prop} {St1 St2 : Nat → Heap → Prop} {a1 a2 : Value}
theorem alive_ask {M : Model} {a : Addr} {Q : Option Obj → Shared → Prop} (h : Q (s.heap.get? a) s) : wpAny M A (loadIfAlive a) Q E s := fun _ _ _ => h
/-- whether the last pair is gone: nobody asks -/
theorem zip_free (h : ZipS s.heap z TI TO) : wpAny (model prog w) A (Builtin.SmallTypes.ownedTupleIsFree (.ref z)) (fun _ s' => ∃ h', s' = { s with heap := h' } ∧ Heap.SameBut z s.heap h' ∧ ZipS h' z TI TO) E s := by
  obtain ⟨f0, b, hz, hf⟩ := h
  have stay : ∃ h', s = { s with heap := h' } ∧ Heap.SameBut z s.heap h' ∧ ZipS h' z TI TO := ⟨s.heap, rfl, Heap.SameBut.refl _ _, f0, b, hz, hf⟩
  unfold Builtin.SmallTypes.ownedTupleIsFree
  rcases hf with rfl | ⟨T, rfl⟩
  · exact wpAny_bind (wpAny_field hz rfl (x := .none) rfl (wpAny_pure stay))
  · refine wpAny_bind (wpAny_field hz rfl (x := rawInt T) rfl ?_)
    show wpAny _ _ (loadIfAlive ((T : Int).toNat) >>= _) _ _ _; refine wpAny_bind (alive_ask ?_)
    generalize s.heap.get? ((T : Int).toNat) = q
    cases q with
    | none => simp only [Option.isNone_none, if_true]; exact wpAny_pure stay
    | some o =>
      simp only [Option.isNone_some, Bool.false_eq_true, if_false]
      refine wpAny_bind (wpAny_field hz rfl (x := .bool b) rfl ?_)
      cases b with
      | true => exact wpAny_pure stay
      | false => exact wpAny_bind (wpAny_setField_rec hz (by simp) fun h1 hz1 hs1 => wpAny_pure ⟨h1, rfl, hs1, rawInt T, true, hz1, .inr ⟨T, rfl⟩⟩)
theorem pair_put {T : Addr} {x : Value} {k : Nat} {Q : Unit → Shared → Prop} (hT : IsPair s.heap T a1 a2) (hk : k = 0 ∨ k = 1)
    (h : ∀ h' b1 b2, IsPair h' T b1 b2 → (k = 0 → b1 = x ∧ b2 = a2) → (k = 1 → b1 = a1 ∧ b2 = x) → Heap.SameBut T s.heap h' → Q () { s with heap := h' }) :
    wpAny (model prog w) A (updateSeq T (·.setIfInBounds k x)) Q E s := by
  refine wpAny_updateSeq hT rfl ?_
  have g := Heap.get?_update_self (Obj.mapSeq (·.setIfInBounds k x)) hT rfl
  rcases hk with rfl | rfl
  · exact h _ x a2 (g.trans (by simp [Obj.mapSeq])) (fun _ => ⟨rfl, rfl⟩) (fun e => absurd e (by decide)) (Heap.SameBut.update ..)
  · exact h _ a1 x (g.trans (by simp [Obj.mapSeq])) (fun e => absurd e (by decide)) (fun _ => ⟨rfl, rfl⟩) (Heap.SameBut.update ..)
/-- a pair more -/
theorem zipS_item {Q : Value → Shared → Prop} (S : ZipSep2 z TI TO i1 i2 fp1 fp2) (D1 : Draws prog w A i1 fp1 n1 P1 St1) (D2 : Draws prog w A i2 fp2 n2 P2 St2) (hz : ZipS s.heap z TI TO) (hTI : IsPair s.heap TI (.ref i1) (.ref i2)) (hTO : ∃ x y, IsPair s.heap TO x y) (st1 : St1 i s.heap) (st2 : St2 i s.heap) (l1 : i < n1) (l2 : i < n2)
    (hQ : ∀ x1 x2 h' tk, P1 i x1 → P2 i x2 → ZipS h' z TI TO → (∃ x y, IsPair h' TO x y) → St1 (i + 1) h' → St2 (i + 1) h' → IsPair h' s.heap.objs.size x1 x2 → h'.objs.size = s.heap.objs.size + 1 → (∀ c o, c ≠ z → c ≠ TO → c ≠ i1 → c ≠ i2 → s.heap.get? c = some o → h'.get? c = some o) → Q (.ref s.heap.objs.size) { s with heap := h', toks := tk }) :
    wpAny (model prog w) A (Builtin.«zip.__next__» ⟨[.ref z], []⟩) (fun fin s' => ∃ v, fin = .done (.ret v) ∧ Q v s') E s := by
  obtain ⟨f0, b, hz0, hf⟩ := id hz
  show wpAny _ _ (field (.ref z) 2 >>= _) _ _ _; refine wpAny_bind (wpAny_field hz0 rfl (x := .bool false) rfl ?_)
  show wpAny _ _ (field (.ref z) 3 >>= _) _ _ _; refine wpAny_bind (wpAny_field hz0 rfl (x := .ref TI) rfl (wpAny_bind (wpAny_seqItems hTI rfl ?_)))
  show wpAny _ _ (Builtin.SmallTypes.ownedTupleIsFree (.ref z) >>= _) _ _ _
  refine wpAny_bind (wpAny_mono (zip_free hz) (fun r s1 hh => ?_) fun _ _ z => z)
  obtain ⟨h1, rfl, sb, f1, b1, hz1, hf1⟩ := hh
  cases r with
  | true =>
    obtain ⟨y1, y2, hTO⟩ := hTO
    simp only [if_true]
    refine wpAny_bind (wpAny_rule (wpAny_bind (wpAny_field hz1 rfl (x := .ref TO) rfl (wpAny_bind (wpAny_setField_rec hz1 (by simp) fun h2 hz2 b2 => ?_)))))
    replace hz2 : ZipR h2 z TI TO .ellipsis b1 := hz2
    have T2 : IsPair h2 TO y1 y2 := b2.extBut _ _ S.TOz (sb.extBut _ _ S.TOz hTO)
    simp only [List.zipIdx_cons, List.zipIdx_nil, List.forIn_cons, List.forIn_nil]
    refine wpAny_bind (wpAny_bind (wpAny_bind (wpAny_onRaise ?_)))
    show wpAny _ _ (Builtin.SmallTypes.nextOf (.ref i1) >>= _) _ _ _
    refine wpAny_bind (D1.item i _ _ _ l1 (D1.over (D1.over st1 sb S.zf1) b2 S.zf1) fun x1 h3 t3 p1 s1 b3 => wpAny_pure ?_)
    have T3 : IsPair h3 TO y1 y2 := b3.extBut _ _ S.Ti1 T2
    refine wpAny_bind (wpAny_seqItems T3 rfl (wpAny_bind (pair_put T3 (.inl rfl) fun h4 u1 u2 T4 e4 _ b4 => wpAny_bind (wpAny_letGo (wpAny_pure ?_)))))
    obtain ⟨rfl, rfl⟩ := e4 rfl
    refine wpAny_bind (wpAny_bind (wpAny_onRaise ?_))
    show wpAny _ _ (Builtin.SmallTypes.nextOf (.ref i2) >>= _) _ _ _
    refine wpAny_bind (D2.item i _ _ _ l2 (D2.over (D2.over (D2.over (D2.over st2 sb S.zf2) b2 S.zf2) b3 S.sep1_2) b4 S.Tf2) fun x2 h5 t5 p2 s2 b5 => wpAny_pure ?_)
    have T5 : IsPair h5 TO u1 u2 := b5.extBut _ _ S.Ti2 T4
    refine wpAny_bind (wpAny_seqItems T5 rfl (wpAny_bind (pair_put T5 (.inr rfl) fun h6 v1 v2 T6 _ e6 b6 => wpAny_bind (wpAny_letGo (wpAny_pure (wpAny_pure ?_))))))
    obtain ⟨rfl, rfl⟩ := e6 rfl
    refine wpAny_bind (wpAny_seqItems T6 rfl (wpAny_bind (wpAny_newTuple (hsz := (by show 2 ≤ sizeLine; decide)) ?_)))
    have sz : h6.objs.size = s.heap.objs.size := ((((b6.1.trans b5.1).trans b4.1).trans b3.1).trans b2.1).trans sb.1
    have z6 : ZipR h6 z TI TO .ellipsis b1 := b6.extBut _ _ S.TOz.symm (b5.extBut _ _ S.zi2 (b4.extBut _ _ S.TOz.symm (b3.extBut _ _ S.zi1 hz2)))
    have k6 : ∀ c o, c ≠ z → c ≠ TO → c ≠ i1 → c ≠ i2 → s.heap.get? c = some o → h6.get? c = some o := fun c o c1 c2 c3 c4 e =>
      b6.extBut _ _ c2 (b5.extBut _ _ c4 (b4.extBut _ _ c2 (b3.extBut _ _ c3 (b2.extBut _ _ c1 (sb.extBut _ _ c1 e)))))
    have q1 : St1 (i + 1) h6 := D1.over (D1.over (D1.over s1 b4 S.Tf1) b5 S.sep2_1) b6 S.Tf1
    have q2 : St2 (i + 1) h6 := D2.over s2 b6 S.Tf2
    have zlt : z < h6.objs.size := Heap.lt_size z6
    have z7 : ZipR (h6.push { cls := .type "tuple", data := .seq #[v1, v2] }) z TI TO .ellipsis b1 := Heap.get?_push_of_some _ z6
    show wpAny _ _ (Builtin.SmallTypes.ownedTupleHandOut (.ref z) (.ref h6.objs.size) >>= _) _ _ _
    refine wpAny_bind ?_; unfold Builtin.SmallTypes.ownedTupleHandOut
    refine wpAny_bind (wpAny_setField_rec z7 (by simp) fun h8 z8 b8 => ?_)
    replace z8 : ZipR h8 z TI TO (rawInt h6.objs.size) b1 := z8
    refine wpAny_setField_rec z8 (by simp) fun h9 z9 b9 => wpAny_pure ⟨_, rfl, ?_⟩
    replace z9 : ZipR h9 z TI TO (rawInt h6.objs.size) false := z9
    have up : ∀ c o, c ≠ z → (h6.push { cls := .type "tuple", data := .seq #[v1, v2] }).get? c = some o → h9.get? c = some o := fun c o c1 e => b9.extBut _ _ c1 (b8.extBut _ _ c1 e)
    have new : IsPair h9 h6.objs.size v1 v2 := up _ _ (Nat.ne_of_gt zlt) (Heap.get?_push_size _ rfl)
    have szn : h9.objs.size = h6.objs.size + 1 := by rw [b9.1, b8.1, Heap.size_push]
    have up6 : ∀ c o, c ≠ z → h6.get? c = some o → h9.get? c = some o := fun c o c1 e => up c o c1 (Heap.get?_push_of_some _ e)
    show Q (.ref h6.objs.size) { heap := h9, gens := s.gens, drawn := s.drawn, toks := t5, os := s.os }
    rw [sz] at new szn ⊢
    exact hQ v1 v2 h9 t5 p1 p2 ⟨_, false, z9, .inr ⟨_, rfl⟩⟩ ⟨_, _, up6 _ _ S.TOz T6⟩ (D1.frame _ _ _ q1 fun c hc o e => up6 c o (fun y => S.zf1 (y ▸ hc)) e) (D2.frame _ _ _ q2 fun c hc o e => up6 c o (fun y => S.zf2 (y ▸ hc)) e) new szn fun c o c1 c2 c3 c4 e => up6 c o c1 (k6 c o c1 c2 c3 c4 e)
  | false =>
    simp only [Bool.false_eq_true, if_false, List.forIn_toArray, List.forIn_cons, List.forIn_nil]
    refine wpAny_bind (wpAny_bind (wpAny_bind (wpAny_holding ?_)))
    show wpAny _ _ (Builtin.SmallTypes.nextOf (.ref i1) >>= _) _ _ _
    refine wpAny_bind (D1.item i _ _ _ l1 (D1.over st1 sb S.zf1) fun x1 h2 t2 p1 s1 b2 => wpAny_pure (wpAny_pure (wpAny_bind (wpAny_bind (wpAny_holding ?_)))))
    show wpAny _ _ (Builtin.SmallTypes.nextOf (.ref i2) >>= _) _ _ _
    refine wpAny_bind (D2.item i _ _ _ l2 (D2.over (D2.over st2 sb S.zf2) b2 S.sep1_2) fun x2 h3 t3 p2 s2 b3 => wpAny_pure (wpAny_pure (wpAny_pure (wpAny_bind (wpAny_newTuple (hsz := (by show 2 ≤ sizeLine; decide)) ?_)))))
    have sz : h3.objs.size = s.heap.objs.size := (b3.1.trans b2.1).trans sb.1
    have up : ∀ c o, c ≠ z → c ≠ i1 → c ≠ i2 → s.heap.get? c = some o → (h3.push { cls := .type "tuple", data := .seq #[x1, x2] }).get? c = some o := fun c o c1 c2 c3 e => Heap.get?_push_of_some _ (b3.extBut _ _ c3 (b2.extBut _ _ c2 (sb.extBut _ _ c1 e)))
    obtain ⟨y1, y2, hTO⟩ := hTO
    refine wpAny_pure ⟨_, rfl, ?_⟩
    show Q (.ref h3.objs.size) { heap := h3.push { cls := .type "tuple", data := .seq #[x1, x2] }, gens := s.gens, drawn := s.drawn, toks := t3, os := s.os }
    have new := Heap.get?_push_size h3 (o := { cls := .type "tuple", data := .seq #[x1, x2] }) rfl
    have szn := Heap.size_push (h := h3) (o := { cls := .type "tuple", data := .seq #[x1, x2] })
    have D1n := D1.frame _ _ _ (D1.over s1 b3 S.sep2_1) fun c _ o e => Heap.get?_push_of_some { cls := .type "tuple", data := .seq #[x1, x2] } e
    have D2n := D2.frame _ _ _ s2 fun c _ o e => Heap.get?_push_of_some { cls := .type "tuple", data := .seq #[x1, x2] } e
    rw [sz] at new szn ⊢
    exact hQ x1 x2 _ t3 p1 p2 ⟨f1, b1, Heap.get?_push_of_some _ (b3.extBut _ _ S.zi2 (b2.extBut _ _ S.zi1 hz1)), hf1⟩ ⟨y1, y2, up _ _ S.TOz S.Ti1 S.Ti2 hTO⟩ D1n D2n new szn fun c o c1 _ c2 c3 e => up c o c1 c2 c3 e
/-- an end is seen -/
theorem zipS_end {Q : Fin → Shared → Prop} (S : ZipSep2 z TI TO i1 i2 fp1 fp2) (D1 : Draws prog w A i1 fp1 n1 P1 St1) (D2 : Draws prog w A i2 fp2 n2 P2 St2) (hz : ZipS s.heap z TI TO) (hTI : IsPair s.heap TI (.ref i1) (.ref i2)) (hTO : ∃ x y, IsPair s.heap TO x y) (st1 : St1 i s.heap) (st2 : St2 i s.heap) (l1 : i ≤ n1) (l2 : i ≤ n2) (le : i = n1 ∨ i = n2)
    (hE : ∀ h' tk e, (∀ c o, c ≠ z → c ≠ TO → c ≠ i1 → c ≠ i2 → s.heap.get? c = some o → h'.get? c = some o) → (∃ o, h'.get? e = some o ∧ o.cls = .type "StopIteration") → E (.ref e) { s with heap := h', toks := tk }) :
    wpAny (model prog w) A (Builtin.«zip.__next__» ⟨[.ref z], []⟩) Q E s := by
  obtain ⟨f0, b, hz0, hf⟩ := id hz
  obtain ⟨y1, y2, hTO⟩ := hTO
  show wpAny _ _ (field (.ref z) 2 >>= _) _ _ _; refine wpAny_bind (wpAny_field hz0 rfl (x := .bool false) rfl ?_)
  show wpAny _ _ (field (.ref z) 3 >>= _) _ _ _; refine wpAny_bind (wpAny_field hz0 rfl (x := .ref TI) rfl (wpAny_bind (wpAny_seqItems hTI rfl ?_)))
  show wpAny _ _ (Builtin.SmallTypes.ownedTupleIsFree (.ref z) >>= _) _ _ _
  refine wpAny_bind (wpAny_mono (zip_free hz) (fun r s1 hh => ?_) fun _ _ z => z)
  obtain ⟨h1, rfl, sb, f1, b1, hz1, hf1⟩ := hh
  cases r with
  | true =>
    simp only [if_true]
    refine wpAny_bind (wpAny_rule (wpAny_bind (wpAny_field hz1 rfl (x := .ref TO) rfl (wpAny_bind (wpAny_setField_rec hz1 (by simp) fun h2 hz2 b2 => ?_)))))
    replace hz2 : ZipR h2 z TI TO .ellipsis b1 := hz2
    have T2 : IsPair h2 TO y1 y2 := b2.extBut _ _ S.TOz (sb.extBut _ _ S.TOz hTO)
    have gone : ∀ (h : Heap) (e : Addr) (t : Nat), ZipR h z TI TO .ellipsis b1 → (∃ o, h.get? e = some o ∧ o.cls = .type "StopIteration") → (∀ c o, c ≠ z → c ≠ TO → c ≠ i1 → c ≠ i2 → s.heap.get? c = some o → h.get? c = some o) →
        wpAny (model prog w) A (setField (.ref z) 0 .none) (fun _ s' => E (.ref e) s') E { s with heap := h, toks := t } := fun h e t hzh ⟨o, ho, hc⟩ hk => by
      have ez : e ≠ z := fun x => by subst x; rw [hzh] at ho; cases ho; simp at hc
      exact wpAny_setField_rec hzh (by simp) fun h' _ hs' => hE h' t e (fun c o c1 c2 c3 c4 x => hs'.extBut _ _ c1 (hk c o c1 c2 c3 c4 x)) ⟨o, hs'.extBut _ _ ez ho, hc⟩
    simp only [List.zipIdx_cons, List.zipIdx_nil, List.forIn_cons, List.forIn_nil]
    refine wpAny_bind (wpAny_bind (wpAny_bind (wpAny_onRaise ?_)))
    show wpAny _ _ (Builtin.SmallTypes.nextOf (.ref i1) >>= _) _ _ _
    by_cases c : i < n1
    · refine wpAny_bind (D1.item i _ _ _ c (D1.over (D1.over st1 sb S.zf1) b2 S.zf1) fun x1 h3 t3 p1 s1 b3 => wpAny_pure ?_)
      have T3 : IsPair h3 TO y1 y2 := b3.extBut _ _ S.Ti1 T2
      refine wpAny_bind (wpAny_seqItems T3 rfl (wpAny_bind (pair_put T3 (.inl rfl) fun h4 u1 u2 T4 e4 _ b4 => wpAny_bind (wpAny_letGo (wpAny_pure ?_)))))
      refine wpAny_bind (wpAny_bind (wpAny_onRaise ?_))
      show wpAny _ _ (Builtin.SmallTypes.nextOf (.ref i2) >>= _) _ _ _
      have e2 : i = n2 := by omega
      subst e2
      refine wpAny_bind (D2.done _ _ _ (D2.over (D2.over (D2.over (D2.over st2 sb S.zf2) b2 S.zf2) b3 S.sep1_2) b4 S.Tf2) fun h5 e b5 he => gone h5 e t3 (b5 _ _ S.zi2 (b4.extBut _ _ S.TOz.symm (b3.extBut _ _ S.zi1 hz2))) he fun c o c1 c2 c3 c4 x => b5 _ _ c4 (b4.extBut _ _ c2 (b3.extBut _ _ c3 (b2.extBut _ _ c1 (sb.extBut _ _ c1 x)))))
    · have e1 : i = n1 := by omega
      subst e1
      refine wpAny_bind (D1.done _ _ _ (D1.over (D1.over st1 sb S.zf1) b2 S.zf1) fun h3 e b3 he => gone h3 e s.toks (b3 _ _ S.zi1 hz2) he fun c o c1 c2 c3 c4 x => b3 _ _ c3 (b2.extBut _ _ c1 (sb.extBut _ _ c1 x)))
  | false =>
    simp only [Bool.false_eq_true, if_false, List.forIn_toArray, List.forIn_cons, List.forIn_nil]
    refine wpAny_bind (wpAny_bind (wpAny_bind (wpAny_holding ?_)))
    show wpAny _ _ (Builtin.SmallTypes.nextOf (.ref i1) >>= _) _ _ _
    by_cases c : i < n1
    · refine wpAny_bind (D1.item i _ _ _ c (D1.over st1 sb S.zf1) fun x1 h2 t2 p1 s1 b2 => wpAny_pure (wpAny_pure (wpAny_bind (wpAny_bind (wpAny_holding ?_)))))
      show wpAny _ _ (Builtin.SmallTypes.nextOf (.ref i2) >>= _) _ _ _
      have e2 : i = n2 := by omega
      subst e2
      refine wpAny_bind (D2.done _ _ _ (D2.over (D2.over st2 sb S.zf2) b2 S.sep1_2) fun h3 e b3 he => hE h3 t2 e (fun c o c1 c2 c3 c4 x => b3 _ _ c4 (b2.extBut _ _ c3 (sb.extBut _ _ c1 x))) he)
    · have e1 : i = n1 := by omega
      subst e1
      refine wpAny_bind (D1.done _ _ _ (D1.over st1 sb S.zf1) fun h2 e b2 he => hE h2 s.toks e (fun c o c1 c2 c3 c4 x => b2 _ _ c3 (sb.extBut _ _ c1 x)) he)
/-- enumerate's turn over zip -/
theorem enZ_item {e : Addr} {c : Int} {old : Value} {Q : Option Value → Shared → Prop} (S : ZipSep2 z TI TO i1 i2 fp1 fp2) (D1 : Draws prog w A.in1.in1 i1 fp1 n1 P1 St1) (D2 : Draws prog w A.in1.in1 i2 fp2 n2 P2 St2) (he : IsEnum s.heap e z c old) (hz : ZipS s.heap z TI TO) (hTI : IsPair s.heap TI (.ref i1) (.ref i2)) (hTO : ∃ x y, IsPair s.heap TO x y) (st1 : St1 i s.heap) (st2 : St2 i s.heap) (l1 : i < n1) (l2 : i < n2)
    (ez : e ≠ z) (eT : e ≠ TO) (e1 : e ≠ i1) (e2 : e ≠ i2) (ef1 : e ∉ fp1) (ef2 : e ∉ fp2) (eTI : e ≠ TI)
    (hQ : ∀ x1 x2 h' tk tk2, P1 i x1 → P2 i x2 → IsEnumOut h' e z (c + 1) (.ref s.heap.objs.size) (s.heap.objs.size + 1) → ZipS h' z TI TO → (∃ x y, IsPair h' TO x y) → St1 (i + 1) h' → St2 (i + 1) h' → IsPair h' s.heap.objs.size x1 x2 → IsPair h' (s.heap.objs.size + 1) (.int c tk) (.ref s.heap.objs.size) → h'.objs.size = s.heap.objs.size + 2 → (∀ b o, b ≠ e → b ≠ z → b ≠ TO → b ≠ i1 → b ≠ i2 → s.heap.get? b = some o → h'.get? b = some o) → Q (some (.ref (s.heap.objs.size + 1))) { s with heap := h', toks := tk2 }) :
    wpAny (model prog w) A (pyNext (.ref e)) Q E s := by
  have hT : s.TypeIs (.ref e) "enumerate" := ⟨_, he, rfl⟩
  have hT2 : s.TypeIs (.ref z) "zip" := by obtain ⟨f0, b, hz, _⟩ := hz; exact ⟨_, hz, rfl⟩
  unfold pyNext
  refine wpAny_bind (wpAny_attempt (wpAny_callSpecial?_slot (name := Str.ofString "__next__") hT F.slot_enumerate_next (wpAny_call_entry F.slot_enumerate_next hT F.entry_enumerate_next ?_ (F.args_enumerate_next_1 _))))
  show wpAny _ _ (field (.ref e) 2 >>= _) _ _ _; refine wpAny_bind (wpAny_field he rfl (x := .ref z) rfl (wpAny_bind ?_))
  unfold Builtin.SmallTypes.nextOf
  refine wpAny_bind (wpAny_callSpecial?_slot (name := Str.ofString "__next__") hT2 F.slot_zip_next (wpAny_call_entry F.slot_zip_next hT2 F.entry_zip_next (zipS_item S D1 D2 hz hTI hTO st1 st2 l1 l2 fun x1 x2 h1 t1 p1 p2 z1 o1 q1 q2 T1 sz1 k1 => wpAny_pure ?_) (F.args_zip_next_1 _)))
  have g1 : IsEnum h1 e z c old := k1 _ _ ez eT e1 e2 he
  have elt : e < s.heap.objs.size := Heap.lt_size he
  show wpAny _ _ (field (.ref e) 3 >>= _) _ _ _; refine wpAny_bind (wpAny_field g1 rfl (x := rawInt c) rfl ?_)
  show wpAny _ _ (field (.ref e) 4 >>= _) _ _ _; refine wpAny_bind (wpAny_field g1 rfl (x := .none) rfl ?_)
  show wpAny _ _ (mkInt c >>= _) _ _ _; refine wpAny_bind (wpAny_mkInt ?_)
  show wpAny _ _ (setField (.ref e) 3 (rawInt (c + 1)) >>= _) _ _ _; refine wpAny_bind (wpAny_setField_rec g1 (by simp) fun h2 g2 b2 => ?_)
  replace g2 : IsEnum h2 e z (c + 1) old := g2
  show wpAny _ _ (setField (.ref e) 4 .none >>= _) _ _ _; refine wpAny_bind (wpAny_setField_rec g2 (by simp) fun h3 g3 b3 => ?_)
  replace g3 : IsEnum h3 e z (c + 1) old := g3
  show wpAny _ _ (newTuple [.int c t1, .ref s.heap.objs.size] >>= _) _ _ _
  refine wpAny_bind (wpAny_newTuple ?_)
  have sz3 : h3.objs.size = s.heap.objs.size + 1 := (b3.1.trans b2.1).trans sz1
  obtain ⟨h4, hh4⟩ : ∃ h4, h4 = h3.push { cls := .type "tuple", data := .seq #[.int c t1, .ref s.heap.objs.size] } := ⟨_, rfl⟩
  have up4 : ∀ b o, b ≠ e → h1.get? b = some o → h4.get? b = some o := fun b o be x => by rw [hh4]; exact Heap.get?_push_of_some _ (b3.extBut _ _ be (b2.extBut _ _ be x))
  have g4 : IsEnum h4 e z (c + 1) old := by rw [hh4]; exact Heap.get?_push_of_some _ g3
  have n4 : IsPair h4 (s.heap.objs.size + 1) (.int c t1) (.ref s.heap.objs.size) := by rw [hh4, ← sz3]; exact Heap.get?_push_size _ rfl
  have sz4 : h4.objs.size = s.heap.objs.size + 2 := by rw [hh4, Heap.size_push, sz3]
  show wpAny _ _ (Builtin.SmallTypes.ownedTupleIsFree (.ref e) >>= _) _ _ { heap := h3.push { cls := .type "tuple", data := .seq #[.int c t1, .ref s.heap.objs.size] }, gens := s.gens, drawn := s.drawn, toks := t1 + 1, os := s.os }
  rw [sz3, ← hh4]
  refine wpAny_bind ?_; unfold Builtin.SmallTypes.ownedTupleIsFree
  refine wpAny_bind (wpAny_field g4 rfl (x := .none) rfl (wpAny_pure ?_)); simp only [if_true]
  refine wpAny_bind (wpAny_rule (wpAny_bind (wpAny_field g4 rfl (x := old) rfl (wpAny_bind (wpAny_setField_rec g4 (by simp) fun h5 g5 b5 => ?_)))))
  replace g5 : IsEnum h5 e z (c + 1) (.ref s.heap.objs.size) := g5
  show wpAny _ _ (Builtin.SmallTypes.ownedTupleHandOut (.ref e) (.ref (s.heap.objs.size + 1)) >>= _) _ _ _
  refine wpAny_bind ?_; unfold Builtin.SmallTypes.ownedTupleHandOut
  refine wpAny_bind (wpAny_setField_rec g5 (by simp) fun h6 g6 b6 => ?_)
  replace g6 : IsEnumOut h6 e z (c + 1) (.ref s.heap.objs.size) (s.heap.objs.size + 1) := g6
  refine wpAny_setField_rec g6 (by simp) fun h7 g7 b7 => ?_
  replace g7 : IsEnumOut h7 e z (c + 1) (.ref s.heap.objs.size) (s.heap.objs.size + 1) := g7
  have up7 : ∀ b o, b ≠ e → h4.get? b = some o → h7.get? b = some o := fun b o be x => b7.extBut _ _ be (b6.extBut _ _ be (b5.extBut _ _ be x))
  have up : ∀ b o, b ≠ e → h1.get? b = some o → h7.get? b = some o := fun b o be x => up7 b o be (up4 b o be x)
  refine wpAny_bind (wpAny_letGo (wpAny_pure ⟨_, rfl, wpAny_pure ?_⟩))
  obtain ⟨f0, b0, z1, z1'⟩ := z1
  obtain ⟨y1, y2, o1⟩ := o1
  refine hQ x1 x2 h7 t1 (t1 + 1) p1 p2 g7 ⟨f0, b0, up _ _ (Ne.symm ez) z1, z1'⟩ ⟨y1, y2, up _ _ (Ne.symm eT) o1⟩ (D1.frame _ _ _ q1 fun b hb o x => up b o (fun y => ef1 (y ▸ hb)) x) (D2.frame _ _ _ q2 fun b hb o x => up b o (fun y => ef2 (y ▸ hb)) x)
    (up _ _ (Nat.ne_of_gt elt) T1) (up7 _ _ (Nat.ne_of_gt (Nat.lt_succ_of_lt elt)) n4) (by rw [b7.1, b6.1, b5.1, sz4]) fun b o c1 c2 c3 c4 c5 x => up b o c1 (k1 b o c2 c3 c4 c5 x)
/-- enumerate's end over zip -/
theorem enZ_end {e : Addr} {c : Int} {old : Value} {Q : Option Value → Shared → Prop} (S : ZipSep2 z TI TO i1 i2 fp1 fp2) (D1 : Draws prog w A.in1.in1 i1 fp1 n1 P1 St1) (D2 : Draws prog w A.in1.in1 i2 fp2 n2 P2 St2) (he : IsEnum s.heap e z c old) (hz : ZipS s.heap z TI TO) (hTI : IsPair s.heap TI (.ref i1) (.ref i2)) (hTO : ∃ x y, IsPair s.heap TO x y) (st1 : St1 i s.heap) (st2 : St2 i s.heap) (l1 : i ≤ n1) (l2 : i ≤ n2) (le : i = n1 ∨ i = n2)
    (hQ : ∀ h' tk, (∀ b o, b ≠ z → b ≠ TO → b ≠ i1 → b ≠ i2 → s.heap.get? b = some o → h'.get? b = some o) → Q none { s with heap := h', toks := tk }) : wpAny (model prog w) A (pyNext (.ref e)) Q E s := by
  have hT : s.TypeIs (.ref e) "enumerate" := ⟨_, he, rfl⟩
  have hT2 : s.TypeIs (.ref z) "zip" := by obtain ⟨f0, b, hz, _⟩ := hz; exact ⟨_, hz, rfl⟩
  unfold pyNext
  refine wpAny_bind (wpAny_attempt (wpAny_callSpecial?_slot (name := Str.ofString "__next__") hT F.slot_enumerate_next (wpAny_call_entry F.slot_enumerate_next hT F.entry_enumerate_next ?_ (F.args_enumerate_next_1 _))))
  show wpAny _ _ (field (.ref e) 2 >>= _) _ _ _; refine wpAny_bind (wpAny_field he rfl (x := .ref z) rfl (wpAny_bind ?_))
  unfold Builtin.SmallTypes.nextOf
  refine wpAny_bind (wpAny_callSpecial?_slot (name := Str.ofString "__next__") hT2 F.slot_zip_next (wpAny_call_entry F.slot_zip_next hT2 F.entry_zip_next (zipS_end S D1 D2 hz hTI hTO st1 st2 l1 l2 le fun h1 t1 x k1 hx => ?_) (F.args_zip_next_1 _)))
  obtain ⟨o, ho, hc⟩ := hx
  exact wpAny_bind (wpAny_isInstance (T := "StopIteration") (b := true) ⟨o, ho, hc⟩ isSubtype_stop (wpAny_pure (hQ h1 t1 k1)))
/-- enumerate(z), z a new zip -/
theorem enum_newZ (z TI TO : Addr) : Meets (Builtin.«enumerate.__new__» ⟨[.type "enumerate", .ref z], []⟩) (fun _ R s => IsZip s.heap z TI TO .none ∧ R (.ok (.ret (.ref s.heap.objs.size))) { s with heap := s.heap.push { cls := .type "enumerate", data := .fields #[.none, .bool false, .ref z, rawInt 0, .none, .none] } }) :=
  .of_wp fun prog w A R s h => by
    obtain ⟨hp, g, d, tk, os⟩ := s; obtain ⟨hz, h⟩ := h
    have hsub := sub_enumerate
    have hZ : IsZip (Shared.heap ⟨hp, g, d, tk, os⟩) z TI TO .none := hz
    wp_walk using wpAny_loadPart' hz
    refine wpAny_stack_any fun st => wpAny_pure ?_
    split
    · rename_i c _ _ _ _ _
      cases (c == Value.type "enumerate")
      · wp_walk using wpAny_loadPart' hz, wpAny_pyIter_zip hZ; exact ⟨_, rfl, h⟩
      · wp_walk using wpAny_loadPart' hz, wpAny_pyIter_zip hZ; exact ⟨_, rfl, h⟩
    · wp_walk using wpAny_loadPart' hz, wpAny_pyIter_zip hZ; exact ⟨_, rfl, h⟩
theorem call_enumZ {Q : Value → Shared → Prop} (hz : IsZip s.heap z TI TO .none) (h : ∀ h', IsEnum h' s.heap.objs.size z 0 .none → (∀ b o, s.heap.get? b = some o → h'.get? b = some o) → Q (.ref s.heap.objs.size) { s with heap := h' }) : wpAny (model prog w) A (call (.type "enumerate") [.ref z]) Q E s := by
  refine callType_new F.called_enumerate (by decide) (F.typeCall_enumerate_1 _) (F.newCall_enumerate_1 _) (fun obj => F.args_object_init_2 obj _) F.entry_enumerate_new (enum_newZ z TI TO) ⟨hz, ?_⟩
  have he : IsEnum (s.heap.push { cls := .type "enumerate", data := .fields #[.none, .bool false, .ref z, rawInt 0, .none, .none] }) s.heap.objs.size z 0 .none := Heap.get?_push_size _ rfl
  exact ⟨⟨_, he, rfl⟩, h _ he fun b o x => Heap.get?_push_of_some _ x⟩
end
/-- iterators have turned, new things lie behind the old end -/
theorem inv_grown {X : Cx} {pins : List (Addr × Obj)} {σ : L2.St} {H H' : Hp} {s : Shared} {h' : Heap} {t' : Nat} {ch : List Addr} (I : Inv X pins σ H s) (k : ∀ b o, b ∉ ch → s.heap.get? b = some o → h'.get? b = some o) (hf : ∀ b ∈ ch, FpOk X pins H b) (old : ∀ b, b < s.heap.objs.size → H' b = H b)
    (new : ∀ b u, s.heap.objs.size ≤ b → H' b = some u → ObjOk X.prog X.w H' h' b u) : Inv X pins σ H' { s with heap := h', toks := t' } := by
  have lt : ∀ {b u}, H b = some u → b < s.heap.objs.size := fun {b u} e => Nat.lt_of_not_le fun z => by rw [I.hok.fresh z] at e; cases e
  have out : ∀ b u, H b = some u → b ∉ ch := fun b u e z => by rw [(hf b z).1] at e; cases e
  have same : ∀ {b u}, H b = some u → H' b = some u := fun {b u} e => (old b (lt e)).trans e
  refine I.step (H' := H') (g' := s.gens) (d' := s.drawn) (t' := t') (ch := ch) (fun b hb => let q := hf b hb; ⟨q.2.2.2.1, q.2.1, q.2.2.2.2.1, q.2.2.2.2.2⟩) (fun b o _ _ hc e _ => k b o hc e) (fun b o _ _ hc e _ => ⟨_, k b o hc e⟩)
    (fun b o _ e n => (old b (Heap.lt_size e)).trans n) (fun b o hc e => ⟨_, k b o hc e⟩) (fun b xs e => same e) (fun b o u e => same e) (fun b ps e => ⟨#[], by rw [Array.append_empty]; exact same e⟩) (fun m ⟨o, es, ep, ho, r⟩ => ⟨o, es, ep, k _ o (fun z => (hf _ z).2.1 rfl) ho, r⟩) (fun b u e => ?_) I.bare
  by_cases hb : b < s.heap.objs.size
  · have e' : H b = some u := (old b hb).symm.trans e
    exact (I.hok b u e').stay (fun c v hc q => k c v (hc.elim (fun z => z ▸ out b u e') fun z => out c _ z) q) (fun c q => same q) fun c xs q => same q
  · exact new b u (Nat.le_of_not_lt hb) e
/-- the items in new pairs, each in a new pair with its number -/
def ItE (K : PySem.W.Frag) (c1 c2 : Sc) : It :=
  ⟨(ItG K c1 c2).go,
    fun i H v H' => ∃ T Tp x y, v = .ref T ∧ H Tp = none ∧ H T = none ∧ Tp ≠ T ∧ H' = upd (upd H Tp (.tup [x, y])) T (.tup [.int (i : Nat), .ref Tp]) ∧ (∀ xs, c1.has K H xs → xs[i]? = some x) ∧ ∀ ys, c2.has K H ys → ys[i]? = some y,
    (ItG K c1 c2).stop⟩
theorem turn_enZ {P : Program} {w : World} {K : PySem.W.Frag} {elts : List Expr} {kk : Nat} {tpos : Pos} {c1 c2 : Sc} {e z TI TO i1 i2 : Addr} (D : ApG z TI TO i1 i2 c1 c2) (en : e ∉ [z, TI, TO, i1, i2]) (ef1 : e ∉ c1.foot) (ef2 : e ∉ c2.foot) :
    Turn P w K (.Tuple elts kk tpos) (ItE K c1 c2) [e, z, TI, TO, i1, i2] e (fun i h => (∃ old, IsEnum h e z ((i : Nat) : Int) old) ∧ ZipS h z TI TO ∧ IsPair h TI (.ref i1) (.ref i2) ∧ (∃ x y, IsPair h TO x y) ∧ c1.it i h i1 ∧ c2.it i h i2) where
  mem := by simp
  obj := fun i h st c hc => by
    obtain ⟨⟨old, he⟩, ⟨f0, b0, hz, _⟩, hTI, ⟨x, y, hTO⟩, h1, h2⟩ := st
    simp only [List.mem_cons, List.not_mem_nil, or_false] at hc
    rcases hc with rfl | rfl | rfl | rfl | rfl | rfl
    · exact ⟨_, he, fun v q => nomatch q⟩
    · exact ⟨_, hz, fun v q => nomatch q⟩
    · exact ⟨_, hTI, fun v q => nomatch q⟩
    · exact ⟨_, hTO, fun v q => nomatch q⟩
    · exact Sc.it_live h1
    · exact Sc.it_live h2
  keep := fun i h h' st k => by
    obtain ⟨⟨old, he⟩, ⟨f0, b0, hz, hf⟩, hTI, ⟨x, y, hTO⟩, h1, h2⟩ := st
    exact ⟨⟨old, k e (by simp) _ he⟩, ⟨f0, b0, k z (by simp) _ hz, hf⟩, k TI (by simp) _ hTI, ⟨x, y, k TO (by simp) _ hTO⟩, Sc.it_keep h1 (k i1 (by simp)), Sc.it_keep h2 (k i2 (by simp))⟩
  item := by
    intro X hP hw hK hc i pins s σ H E I hf st hg
    subst hP hw hK
    obtain ⟨⟨old, he⟩, hz, hTI, hTO, h1, h2⟩ := st
    obtain ⟨xs, ys, hqx, hqy, lx, ly⟩ := hg
    obtain ⟨P1, St1, D1, s1, e1, r1⟩ := Sc.drw X.A.in1.in1 I (I.ok.hd hc) hqx (D.f1 _ (by simp)) h1
    obtain ⟨P2, St2, D2, s2, e2, r2⟩ := Sc.drw X.A.in1.in1 I (I.ok.hd hc) hqy (D.f2 _ (by simp)) h2
    have sep := D.sep
    simp only [List.mem_cons, List.not_mem_nil, or_false, not_or] at en
    obtain ⟨n1, n2, n3, n4, n5⟩ := en
    have elt : e < s.heap.objs.size := Heap.lt_size he
    refine enZ_item sep D1 D2 he hz hTI hTO s1 s2 lx ly n1 n3 n4 n5 (fun q => (List.mem_cons.mp q).elim n4 ef1) (fun q => (List.mem_cons.mp q).elim n5 ef2) n2 fun u u2 h' tk tk2 y1 y2 g' z' TO' t1 t2 hT hT2 hsz hk => ?_
    obtain ⟨x, hx, ru⟩ := e1 _ _ y1
    obtain ⟨y, hy, ru2⟩ := e2 _ _ y2
    refine ⟨_, rfl, wpAny_letOwnedTupleGo_enum (s := { s with heap := h', toks := tk2 }) g' fun h'' g'' sb => ?_⟩
    have up : ∀ b o, b ≠ e → h'.get? b = some o → h''.get? b = some o := fun b o be q => sb.extBut _ _ be q
    have T1 : IsPair h'' s.heap.objs.size u u2 := up _ _ (Nat.ne_of_gt elt) hT
    have T2 : IsPair h'' (s.heap.objs.size + 1) (.int i tk) (.ref s.heap.objs.size) := up _ _ (Nat.ne_of_gt (Nat.lt_succ_of_lt elt)) hT2
    have kept : ∀ b ∉ [e, z, TI, TO, i1, i2], ∀ o, s.heap.get? b = some o → h''.get? b = some o := fun b hb o q => by
      simp only [List.mem_cons, List.not_mem_nil, or_false, not_or] at hb
      exact up _ _ hb.1 (hk b o hb.1 hb.2.1 hb.2.2.2.1 hb.2.2.2.2.1 hb.2.2.2.2.2 q)
    have nn : s.heap.objs.size ≠ s.heap.objs.size + 1 := by omega
    have I1 : Inv X pins σ (upd (upd H s.heap.objs.size (.tup [x, y])) (s.heap.objs.size + 1) (.tup [.int (i : Nat), .ref s.heap.objs.size])) { s with heap := h'', toks := tk2 } := by
      refine inv_grown I (fun b o hb q => kept b hb o q) hf (fun b hb => by rw [upd_ne (Nat.ne_of_lt (Nat.lt_succ_of_lt hb)), upd_ne (Nat.ne_of_lt hb)]) fun b v hb q => ?_
      by_cases b2 : b = s.heap.objs.size + 1
      · subst b2
        rw [upd_same] at q
        cases q
        exact ⟨by show 2 ≤ sizeLine; decide, [.int i tk, .ref s.heap.objs.size], .cons ⟨_, rfl⟩ (.cons rfl .nil), ⟨_, T2, rfl, _, rfl⟩⟩
      · rw [upd_ne b2] at q
        by_cases b1 : b = s.heap.objs.size
        · subst b1
          rw [upd_same] at q
          cases q
          exact ⟨by show 2 ≤ sizeLine; decide, [u, u2], .cons ru (.cons ru2 .nil), ⟨_, T1, rfl, _, rfl⟩⟩
        · rw [upd_ne b1, I.hok.fresh hb] at q
          cases q
    refine ⟨.ref (s.heap.objs.size + 1), _, I1, rfl, ⟨s.heap.objs.size + 1, s.heap.objs.size, x, y, rfl, I.hok.fresh (Nat.le_refl _), I.hok.fresh (Nat.le_succ _), nn, rfl, fun l hl => by rw [Sc.uniq I hl hqx]; exact hx, fun l hl => by rw [Sc.uniq I hl hqy]; exact hy⟩, ⟨⟨.ref s.heap.objs.size, ?_⟩, ?_, up _ _ (Ne.symm n2) (hk _ _ (Ne.symm n2) sep.TIz sep.TITO sep.TIi1 sep.TIi2 hTI), ?_, ?_, ?_⟩, fun b hb => ?_⟩
    · have e1 : ((i + 1 : Nat) : Int) = (i : Int) + 1 := by omega
      rw [e1]
      exact g''
    · obtain ⟨f0, b0, z1, z2⟩ := z'
      exact ⟨f0, b0, up _ _ (Ne.symm n1) z1, z2⟩
    · obtain ⟨v1, v2, z1⟩ := TO'
      exact ⟨v1, v2, up _ _ (Ne.symm n3) z1⟩
    · exact Sc.it_keep (r1 _ _ t1) fun o q => up _ _ (Ne.symm n4) q
    · exact Sc.it_keep (r2 _ _ t2) fun o q => up _ _ (Ne.symm n5) q
    · have hlt : b < s.heap.objs.size := by
        simp only [List.mem_cons, List.not_mem_nil, or_false] at hb
        rcases hb with rfl | rfl | rfl | rfl | rfl | rfl
        · exact elt
        · obtain ⟨_, _, q, _⟩ := hz; exact Heap.lt_size q
        · exact Heap.lt_size hTI
        · obtain ⟨_, _, q⟩ := hTO; exact Heap.lt_size q
        · obtain ⟨_, q, _⟩ := Sc.it_live h1; exact Heap.lt_size q
        · obtain ⟨_, q, _⟩ := Sc.it_live h2; exact Heap.lt_size q
      rw [upd_ne (Nat.ne_of_lt (Nat.lt_succ_of_lt hlt)), upd_ne (Nat.ne_of_lt hlt)]
      exact (hf b hb).1
  done := by
    intro X hP hw hK hc i pins s σ H E I hf st hg
    subst hP hw hK
    obtain ⟨⟨old, he⟩, hz, hTI, hTO, h1, h2⟩ := st
    obtain ⟨xs, ys, hqx, hqy, lx, ly, hend⟩ := hg
    obtain ⟨P1, St1, D1, s1, _, _⟩ := Sc.drw X.A.in1.in1 I (I.ok.hd hc) hqx (D.f1 _ (by simp)) h1
    obtain ⟨P2, St2, D2, s2, _, _⟩ := Sc.drw X.A.in1.in1 I (I.ok.hd hc) hqy (D.f2 _ (by simp)) h2
    refine enZ_end D.sep D1 D2 he hz hTI hTO s1 s2 lx ly hend fun h' tk hk => ⟨rfl, I.turnedL (t' := tk) (ch := [e, z, TI, TO, i1, i2]) (fun c o hb q => ?_) hf⟩
    simp only [List.mem_cons, List.not_mem_nil, or_false, not_or] at hb
    exact hk c o hb.2.1 hb.2.2.2.1 hb.2.2.2.2.1 hb.2.2.2.2.2 q
  self := fun A i s Q E st h => let ⟨⟨_, he⟩, _⟩ := st; wpAny_pyIter_enum he h
def iEnZ (K : PySem.W.Frag) (ta : TA) : TI := fun σ H R => ta σ H fun vs H1 => ∃ c1 c2 v1 v2 xs ys, vs = [v1, v2] ∧ Sc.is c1 v1 ∧ Sc.is c2 v2 ∧ c1.has K H1 xs ∧ c2.has K H1 ys ∧ R (ItE K c1 c2) H1
theorem pi_enZ {X : Cx} {e e2 : Expr} {ta : TA} {p p2 pos pos2 tpos : Pos} {elts : List Expr} {kk : Nat} (hg : Gl X "zip") (hm : X.mg "zip" = none) (hge : Gl X "enumerate") (hme : X.mg "enumerate" = none) (ha : PA X [e, e2] ta)
    (hs : starEach [e, e2] X.env = (false, eval e X.env) :: starEach [e2] X.env) (hpl : (backTo pos (starEach [e2] X.env)).any (·.1) = false) :
    PI X (.Tuple elts kk tpos) (.Call (.Name "enumerate" p2) [.Call (.Name "zip" p) [e, e2] [] pos] [] pos2) (iEnZ X.K ta) := by
  refine ⟨fun pins s σ H R I h => ?_⟩
  refine Call_ (ld_blt I hge hme boot_enumerate (PyProof.Rows.callWith_type1 (e := .Call (.Name "zip" p) [e, e2] [] pos) (rest := []) (show wpAny _ _ (spliced ((false, eval (.Call (.Name "zip" p) [e, e2] [] pos) X.env) :: [])) _ _ s from Calls.spliced_cons ?_) rfl rfl))
  refine Call_ (ld_blt I hg hm PyProof.Rows.boot_zip (PyProof.Rows.callWith_type1 (thn (ha.run pos pins s σ H _ I h) fun us s1 ⟨vs, H1, I1, r1, q1⟩ => ?_) hs hpl))
  obtain ⟨c1, c2, v1, v2, xs, ys, rfl, i1, i2, h1, h2, q⟩ := q1
  cases r1 with
  | cons r rr =>
  cases rr with
  | cons r' rr =>
  cases rr
  obtain ⟨o1, G1, B1, g1, l1, t1⟩ := Sc.beg I1 h1 i1 r
  obtain ⟨o2, G2, B2, g2, l2, t2⟩ := Sc.beg I1 h2 i2 r'
  refine zip_begins2 B1 B2 g1 g2 fun h' hz hTI hTO a1 a2 hsz hk => Calls.spliced_nil ?_
  refine call_enumZ hz fun h2' he hk2 => wpAny_pyIter_enum he ?_
  obtain ⟨N, hN⟩ : ∃ N, N = s1.heap.objs.size := ⟨_, rfl⟩
  have I2 : Inv X pins σ H1 { s1 with heap := h2' } := I1.kept (t' := s1.toks) fun b o x => hk2 b o (hk b o x)
  have he : IsEnum h2' (N + 5) (N + 4) 0 .none := by
    have := he
    rw [show ({ s1 with heap := h' } : Shared).heap.objs.size = N + 5 from by show h'.objs.size = _; rw [hsz, hN]] at this
    rw [← hN] at this
    exact this
  have eN : ({ s1 with heap := h' } : Shared).heap.objs.size = N + 5 := by show h'.objs.size = _; rw [hsz, hN]
  rw [eN]
  rw [← hN] at hz hTI hTO a1 a2 l1 l2
  have mem : ∀ c, c ∈ [N + 5, N + 4, N + 2, N + 3, N, N + 1] → N ≤ c := fun c hc => by
    simp only [List.mem_cons, List.not_mem_nil, or_false] at hc
    omega
  have mem5 : ∀ c, c ∈ [N + 4, N + 2, N + 3, N, N + 1] → N ≤ c := fun c hc => mem c (List.mem_cons_of_mem _ hc)
  refine ⟨N + 5, [N + 5, N + 4, N + 2, N + 3, N, N + 1], _, _, H1, rfl, I2, turn_enZ (TI := N + 2) (TO := N + 3) (i1 := N) (i2 := N + 1) ⟨?_, fun b hb z => ?_, fun b hb z => ?_⟩ ?_ (fun z => ?_) (fun z => ?_),
    ⟨⟨.none, he⟩, ⟨.none, false, hk2 _ _ hz, .inl rfl⟩, hk2 _ _ hTI, ⟨_, _, hk2 _ _ hTO⟩, t1 _ _ (hk2 _ _ a1), t2 _ _ (hk2 _ _ a2)⟩, fun c hc => I1.fpOk (hN ▸ mem c hc) (I1.hok.fresh (hN ▸ mem c hc)), q⟩
  · simp
  · exact Nat.lt_irrefl _ (Nat.lt_of_lt_of_le (l1 b z) (mem5 b hb))
  · exact Nat.lt_irrefl _ (Nat.lt_of_lt_of_le (l2 b z) (mem5 b hb))
  · simp
  · exact Nat.lt_irrefl _ (Nat.lt_of_lt_of_le (l1 _ z) (mem _ List.mem_cons_self))
  · exact Nat.lt_irrefl _ (Nat.lt_of_lt_of_le (l2 _ z) (mem _ List.mem_cons_self))
/-- a new pair of the number and a new pair -/
def YEnZ (xs ys : List V) : Nat → Hp → V → Hp → Prop := fun i H v H' => ∃ T Tp x y, v = .ref T ∧ H Tp = none ∧ H T = none ∧ Tp ≠ T ∧ H' = upd (upd H Tp (.tup [x, y])) T (.tup [.int (i : Nat), .ref Tp]) ∧ xs[i]? = some x ∧ ys[i]? = some y
theorem walk_enZ {K : PySem.W.Frag} {c1 c2 : Sc} {xs ys : List V} {n : Nat} (hn : n = min xs.length ys.length) : Walk (ItE K c1 c2) n (fun H => c1.has K H xs ∧ c2.has K H ys) (YEnZ xs ys) := by
  subst hn
  refine ⟨fun i _ hi q => ⟨xs, ys, q.1, q.2, by omega, by omega⟩, fun _ q => ⟨xs, ys, q.1, q.2, by omega, by omega, by omega⟩, fun i H v H' _ q y => ?_⟩
  obtain ⟨T, Tp, x, z, e1, e2, e3, e4, e5, e6, e7⟩ := y
  exact ⟨T, Tp, x, z, e1, e2, e3, e4, e5, e6 xs q.1, e7 ys q.2⟩
end Ev
namespace Ev
open PySem PySem.Spec L2 PyProof.Rows HotX
/-- the exception that the suite holds, its context None -/
structure HotP (X : Cx) (x1 : Addr) (o1 : Obj) : Prop where
  m : (x1, o1) ∈ X.pn
  h : X.A.handled = some (.ref x1)
  d : ∃ vs : Array Value, o1.data = .fields vs ∧ vs[2]? = some .none
theorem HotP.at {X : Cx} {pins : List (Addr × Obj)} {σ : L2.St} {H : Hp} {s : Shared} {x1 : Addr} {o1 : Obj} (p : HotP X x1 o1) (I : Inv X pins σ H s) : HotAt X.A x1 s.heap := by
  obtain ⟨vs, d, c⟩ := p.d
  exact ⟨p.h, o1, vs, (I.pin (x1, o1) (List.mem_append_left _ p.m)).1, d, c⟩
end Ev
namespace Ev
open PySem PySem.Spec L2 PyProof.Rows
section
variable {el tgt src nsrc ntg : Expr} {tests ntests : List Expr} {gs : List Comprehension} {scp : Scope} {pos : Pos} {it acc : Value} {env : PySem.Env} {d : Nat}
/-- a turn of a clause behind which another stands -/
theorem cl_turn_mid (hz0 : gs[d]? = some ⟨tgt, src, tests, 0⟩) (hz1 : gs[d + 1]? = some ⟨ntg, nsrc, ntests, 0⟩) : compTurn (.ListComp el gs scp pos) d it acc env = (do
    standAt src.pos
    let r ← pyNext it
    match r with
    | none => pure (.done .next)
    | some u =>
      letOwnedTupleGo tgt it u
      assign tgt env u
      let mut yes := true
      for q in tests do
        if yes then yes ← isTrue q env (eval q env)
      if yes then
        let z ← eval nsrc env
        standAt nsrc.pos
        let z ← foldedSetIterable nsrc env z
        let _ ← runOwn (.compStart (.ListComp el gs scp pos) (d + 1) (← holding [z] (pyIter z)) acc env) env
      again (.compLoop (.ListComp el gs scp pos) d it acc env)) := by
  unfold compTurn
  simp only [hz0, hz1]
  rfl
theorem cl_turn_last (hz0 : gs[d]? = some ⟨tgt, src, tests, 0⟩) (hz1 : gs[d + 1]? = none) : compTurn (.ListComp el gs scp pos) d it acc env = (do
    standAt src.pos
    let r ← pyNext it
    match r with
    | none => pure (.done .next)
    | some u =>
      letOwnedTupleGo tgt it u
      assign tgt env u
      let mut yes := true
      for q in tests do
        if yes then yes ← isTrue q env (eval q env)
      if yes then
        (do let _ ← call (.builtin "list.append") [acc, ← eval el env])
      again (.compLoop (.ListComp el gs scp pos) d it acc env)) := by
  unfold compTurn
  simp only [hz0, hz1]
  rfl
end
section
variable {prog : Program} {w : World} {A : Around} {R : Result → Shared → Prop} {s : Shared} {el t0 i0 : Expr} {ifs0 : List Expr} {gs : List Comprehension} {scp : Scope} {pos : Pos} {it acc : Value} {env : PySem.Env} {d : Nat}
/-- what is done behind a clause's tests, and what is to hold then -/
def bodyAny (prog : Program) (w : World) (A : Around) (el : Expr) (gs : List Comprehension) (scp : Scope) (pos : Pos) (acc : Value) (env : PySem.Env) (d : Nat) (P : Shared → Prop) (E : Value → Shared → Prop) (s : Shared) : Prop :=
  match gs[d]? with
  | none => wpAny (model prog w) A (eval el env) (fun x s4 => wpAny (model prog w) A (call (.builtin "list.append") [acc, x]) (fun _ s5 => P s5) E s4) E s
  | some c => (∀ x, foldedSetIterable c.iter env x = pure x) ∧ wpAny (model prog w) A (eval c.iter env) (fun x s4 => wpAny (model prog w) A (pyIter x) (fun it1 s5 =>
      codeAny (model prog w) A (.compStart (.ListComp el gs scp pos) d it1 acc env) (fun r sz => match r with
        | .ok _ => P sz
        | .error _ => False) s5) E s4) E s
/-- a clause's loop -/
theorem compLoopN (hz0 : gs[d]? = some ⟨t0, i0, ifs0, 0⟩) (hz : ∀ c, gs[d + 1]? = some c → c.is_async = 0) (I : Nat → Shared → Prop)
    (turn : ∀ nn s, I nn s → wpAny (model prog w) A (pyNext it) (fun r sa => match r with
      | none => R (.ok .next) sa
      | some v => wpAny (model prog w) A (letOwnedTupleGo t0 it v) (fun _ s₁' => wpAny (model prog w) A (assign t0 env v) (fun _ sb =>
          wpAny (model prog w) A (forIn ifs0 true fun c r => if r = true then do let ok ← isTrue c env (eval c env); pure (ForInStep.yield ok) else pure (ForInStep.yield r)) (fun ok sc =>
            if ok = true then bodyAny prog w A el gs scp pos acc env (d + 1) (fun sz => ∃ m, m < nn ∧ I m sz) (notedBy (model prog w) A env fun e sz => R (.error e) sz) sc
            else ∃ m, m < nn ∧ I m sc) (notedBy (model prog w) A env fun e sz => R (.error e) sz) sb) (notedBy (model prog w) A env fun e sz => R (.error e) sz) s₁') (notedBy (model prog w) A env fun e sz => R (.error e) sz) sa) (notedBy (model prog w) A env fun e sz => R (.error e) sz) s)
    (nn : Nat) (h : I nn s) :
    codeAny (model prog w) A (.compLoop (.ListComp el gs scp pos) d it acc env) R s := by
  refine codeAny_loop rfl I (fun nn s hI => ?_) nn h
  show wpAny _ A ((compTurn (.ListComp el gs scp pos) d it acc env).onRaise (fun x => do noteFrame x env; theTreesLotGoes x)) _ _ s
  refine wpAny_noted ?_
  have t := turn nn s hI
  unfold bodyAny at t
  cases hz1 : gs[d + 1]? with
  | none =>
    rw [cl_turn_last hz0 hz1]
    refine wpAny_bind (wpAny_standAt (wpAny_bind (wpAny_mono t (fun r sa ha => ?_) fun _ _ h' => h')))
    cases r with
    | none => exact wpAny_pure ha
    | some v =>
      refine wpAny_bind (wpAny_mono ha (fun _ s₁' h₁' => ?_) fun _ _ h' => h')
      refine wpAny_bind (wpAny_mono h₁' (fun _ sb hb => wpAny_bind (wpAny_mono hb (fun ok sc hc => ?_) fun _ _ h' => h')) fun _ _ h' => h')
      cases ok with
      | false => exact wpAny_pure ⟨rfl, hc⟩
      | true =>
        simp only [hz1, if_true] at hc
        exact wpAny_bind (wpAny_bind (wpAny_mono hc (fun x sd hd => wpAny_bind (wpAny_mono hd (fun _ se he => wpAny_pure (wpAny_pure ⟨rfl, he⟩)) fun _ _ h' => h')) fun _ _ h' => h'))
  | some c =>
    obtain ⟨ntg, nsrc, ntests, k⟩ := c
    have hk : k = 0 := hz _ hz1
    · subst hk
      rw [cl_turn_mid hz0 hz1]
      refine wpAny_bind (wpAny_standAt (wpAny_bind (wpAny_mono t (fun r sa ha => ?_) fun _ _ h' => h')))
      cases r with
      | none => exact wpAny_pure ha
      | some v =>
        refine wpAny_bind (wpAny_mono ha (fun _ s₁' h₁' => ?_) fun _ _ h' => h')
        refine wpAny_bind (wpAny_mono h₁' (fun _ sb hb => wpAny_bind (wpAny_mono hb (fun ok sc hc => ?_) fun _ _ h' => h')) fun _ _ h' => h')
        cases ok with
        | false => exact wpAny_pure ⟨rfl, hc⟩
        | true =>
          simp only [hz1, if_true] at hc
          obtain ⟨hs, hc⟩ := hc
          refine wpAny_bind (wpAny_mono hc (fun x sd hd => ?_) fun _ _ h' => h')
          refine wpAny_bind (wpAny_standAt (wpAny_bind (wpAny_of_eq (hs x) (wpAny_bind (wpAny_holding (wpAny_mono hd (fun it1 se he => ?_) fun _ _ h' => h'))))))
          refine wpAny_bind (wpAny_runOwn ?_)
          rw [Around.mark_none]
          refine codeAny_mono he fun r sz hrr => ?_
          cases r with
          | ok f =>
            first
              | exact wpAny_pure ⟨rfl, hrr⟩
              | exact wpAny_bind (wpAny_pure (wpAny_pure ⟨rfl, hrr⟩))
          | error e => exact hrr.elim
/-- a later clause's start -/
theorem compStartN (hz1 : gs[d]? = some ⟨t0, i0, ifs0, 0⟩) (hz0 : codeAny (model prog w) A (.compLoop (.ListComp el gs scp pos) d it acc env) R s)
    (h : wpAny (model prog w) A (pyIter it) (fun itx sz => codeAny (model prog w) A (.compLoop (.ListComp el gs scp pos) d itx acc env) R sz)
      (notedBy (model prog w) A env fun x sz => R (.error x) sz) s) :
    codeAny (model prog w) A (.compStart (.ListComp el gs scp pos) d it acc env) R s := by
  refine codeAny_of_tree ?_
  show wpAny _ _ ((compStart (.ListComp el gs scp pos) d it acc env).onRaise (fun x => do noteFrame x env; standAt theWindowsPlace)) _ _ s
  refine wpAny_notedAt ?_
  have e : (clausesOf (.ListComp el gs scp pos))[d]? = some ⟨t0, i0, ifs0, 0⟩ := hz1
  unfold compStart
  simp only [e, Option.elim, bne_self_eq_false, Bool.false_eq_true, if_false]
  show wpAny _ _ (ask >>= _) _ _ s
  refine wpAny_bind (wpAny_askSetting (wpAny_ite ?_))
  split
  · first
      | exact wpAny_bind (wpAny_pure (wpAny_pure (And.intro rfl hz0)))
      | exact wpAny_pure (And.intro rfl hz0)
  · first
      | exact wpAny_bind (wpAny_rule (wpAny_bind (wpAny_standAt (wpAny_bind (wpAny_mono h (fun itx sz h' => wpAny_pure (And.intro rfl h')) fun _ _ x => x)))))
      | (refine wpAny_bind (wpAny_rule ?_); show wpAny _ _ (standAt i0.pos >>= _) _ _ s; exact wpAny_bind (wpAny_standAt (wpAny_bind (wpAny_mono h (fun itx sz h' => wpAny_pure (And.intro rfl h')) fun _ _ x => x))))
end
end Ev
namespace Ev
open PySem PySem.Spec L2 PyProof.Rows
/-- a clause: its target, source, tests; what they do; the slots that it and those behind it store to -/
structure Cl where
  tg : Expr
  iter : Expr
  ifs : List Expr
  wi : TI
  g : TG
  tt : TT
  vs : List Nat
def Cl.c (c : Cl) : Comprehension := ⟨c.tg, c.iter, c.ifs, 0⟩
/-- from a clause's source on -/
def tIn (te : TE) (Dl : Addr) : List Cl → L2.St → Hp → (Hp → Prop) → Prop
  | [], σ, H, Nx => te σ H fun y H7 => ∃ acc, H7 Dl = some (.lst acc) ∧ acc.length < sizeLine ∧ Nx (upd H7 Dl (.lst (acc ++ [y])))
  | c :: cls, σ, H, Nx => c.wi σ H fun J1 H4 => ∃ W1 : Nat → Nat → Hp → Prop, (∃ m, W1 0 m H4) ∧ ∀ jj k H, W1 jj k H →
      (J1.stop jj H ∧ Nx H) ∨ (J1.go jj H ∧ ∃ Nx1 : Hp → Prop, (∀ Hz, Nx1 Hz → ∃ k', k' < k ∧ W1 (jj + 1) k' Hz) ∧ ∀ x Hz, J1.yld jj H x Hz → c.g x (wipe σ c.vs) Hz fun σ3 H5 => wipe σ3 c.vs = wipe σ c.vs ∧ c.tt σ3 H5 fun b H6 =>
        if b = true then tIn te Dl cls σ3 H6 Nx1 else Nx1 H6)
def tLcN (wi : TI) (g : TG) (tt : TT) (cls : List Cl) (te : TE) (vs : List Nat) : TE := fun σ H Q => wi σ H fun J H1 => ∀ Dl, H1 Dl = none → ∃ W : Nat → Nat → Hp → Prop, (∃ m, W 0 m (upd H1 Dl (.lst []))) ∧ ∀ i m H, W i m H →
  (J.stop i H ∧ Q (.ref Dl) H) ∨ (J.go i H ∧ ∃ Nx : Hp → Prop, (∀ Hz, Nx Hz → ∃ mz, mz < m ∧ W (i + 1) mz Hz) ∧ ∀ x Hz, J.yld i H x Hz → g x (wipe σ vs) Hz fun σ2 H2 => wipe σ2 vs = wipe σ vs ∧ tt σ2 H2 fun b H3 =>
    if b = true then tIn te Dl cls σ2 H3 Nx else Nx H3)
/-- the slots of the clauses behind -/
def hdVs : List Cl → List Nat
  | [] => []
  | c :: _ => c.vs
def nested : List Nat → List Cl → Prop
  | _, [] => True
  | vs, c :: cls => (∀ i ∈ c.vs, i ∈ vs) ∧ nested c.vs cls
section
variable {X : Cx}
/-- what is known of a clause in the block -/
structure ClOk (X : Cx) (c : Cl) : Prop where
  hi : PI X c.tg c.iter c.wi
  hg : PG X c.tg c.g
  ht : PTs X c.ifs c.tt
  hs : ∀ env x, foldedSetIterable c.iter env x = pure x
theorem wipe_sub {σ : L2.St} {vs ws : List Nat} (h : ∀ i ∈ ws, i ∈ vs) (jj : Nat) (v : V) (e : (wipe σ vs)[jj]? = some (some v)) : (wipe σ ws)[jj]? = some (some v) := by
  obtain ⟨e1, e2⟩ := wipe_some e
  rw [wipe_out fun z => e2 (h jj z)]
  exact e1
theorem lcN_in {el : Expr} {gs : List Comprehension} {scp : Scope} {pos : Pos} {te : TE} {Dl : Addr} (hc : X.calm = true) (hxe : ∀ e s, X.xe e s → False) (he : PE X el te) :
    ∀ (cls : List Cl) (d : Nat), (∀ k, gs[d + k]? = (cls.map Cl.c)[k]?) → (∀ c ∈ cls, ClOk X c) → ∀ (vs : List Nat), nested vs cls → ∀ (pns : List (Addr × Obj)) (σ : L2.St) (H : Hp) (s : Shared) (Nx : Hp → Prop) (Fi : Shared → Prop) (E : Value → Shared → Prop),
      Inv X pns σ H s → tIn te Dl cls σ H Nx → (∀ (σ' : L2.St) (sz : Shared) (Hz : Hp), Inv X pns σ' Hz sz → σ.length = σ'.length → (∀ (jj : Nat) v, (wipe σ (hdVs cls))[jj]? = some (some v) → σ'[jj]? = some (some v)) → Nx Hz → Fi sz) →
      bodyAny X.prog X.w X.A el gs scp pos (.ref Dl) X.env d Fi E s
  | [], d, hgs, hcl, vs, nest, pns, σ, H, s, Nx, Fi, E, I, q, fin => by
    have e : gs[d]? = none := hgs 0
    unfold bodyAny
    simp only [e]
    have q : te σ H _ := q
    refine wpAny_mono (he.run pns s σ H _ I q) (fun z s1 ⟨yv, H1, I1, r1, acc, hD1, hz1, nx⟩ => ?_) fun e s z => (hxe e s z).elim
    exact app_ok I1 hD1 hz1 r1 fun sy Ia => fin σ sy _ Ia rfl (fun jj v e => e) nx
  | c :: cls, d, hgs, hcl, vs, nest, pns, σ, H, s, Nx, Fi, E, I, q, fin => by
    have e : gs[d]? = some c.c := hgs 0
    obtain ⟨hi, hg, ht, hs⟩ := hcl c List.mem_cons_self
    have thX : ∀ {α : Type} {t : Sem α} {Q Q' : α → Shared → Prop} {E : Value → Shared → Prop} {s : Shared}, wpAny (model X.prog X.w) X.A t Q X.xe s → (∀ a s, Q a s → Q' a s) → wpAny (model X.prog X.w) X.A t Q' E s := fun h hQ => wpAny_mono h hQ fun e s z => (hxe e s z).elim
    unfold bodyAny
    simp only [e]
    have q : c.wi σ H _ := q
    refine ⟨hs X.env, thX (hi.run pns s σ H _ I q) fun xv s10 hx => thX hx fun itv ta1 h11 => ?_⟩
    obtain ⟨it1, fp1, tn1, J1, H11, e1, I11, T1, ta, f11, W1, ⟨m1, w1⟩, turn1⟩ := h11
    subst e1
    have stat1 : ∀ {Hz : Hp}, (∀ b ∈ fp1, Hz b = none) → ∀ b ∈ fp1, FpOk X pns Hz b := fun hn b hb => ⟨hn b hb, (f11 b hb).2⟩
    have loop1 : codeAny (model X.prog X.w) X.A (.compLoop (.ListComp el gs scp pos) d (.ref it1) (.ref Dl) X.env)
        (fun r sz => match r with
          | .ok _ => Fi sz
          | .error _ => False) ta1 := by
      refine compLoopN e (fun c' hc' => by rw [hgs 1] at hc'; cases cls <;> cases hc'; rfl) (fun k sz => ∃ jj Hz, Inv X pns (wipe σ c.vs) Hz sz ∧ tn1 jj sz.heap ∧ (∀ b ∈ fp1, Hz b = none) ∧ W1 jj k Hz) ?_ m1 ⟨0, H11, I11.weak (wipe_length _ _) (fun jj v e => (wipe_some e).1), ta, fun b hb => (f11 b hb).1, w1⟩
      rintro k tb ⟨jj, H12, I12, st12, n12, w12⟩
      rcases turn1 jj k H12 w12 with ⟨stop1, nx1⟩ | ⟨go1, Nx1, hNx1, step1⟩
      · refine thnF (T1.done X rfl rfl rfl hc jj _ tb (wipe σ c.vs) H12 (fun _ _ => False) I12 (stat1 n12) st12 stop1) fun r s13 ⟨hr, I13⟩ => ?_
        subst hr
        exact fin _ s13 H12 I13 (wipe_length σ c.vs).symm (fun jj v e => e) nx1
      · refine thnF (T1.item X rfl rfl rfl hc jj _ tb (wipe σ c.vs) H12 (fun _ _ => False) I12 (stat1 n12) st12 go1) fun r s13 ⟨u1, hr, h13⟩ => ?_
        subst hr
        refine thnF h13 fun _ tc ⟨x1, Hc, Ic4, r14, y14, td, n14⟩ => ?_
        have I14' := Ic4.pinned (stat1 n14) (T1.obj _ _ td)
        refine thX (hg.run _ tc (wipe σ c.vs) Hc x1 u1 _ I14' r14 (step1 x1 Hc y14)) fun _ s15 ⟨σ15, H15, I15, hw15, q15⟩ => ?_
        refine thX (ht.run _ s15 σ15 H15 _ I15 q15) fun b1 s16 ⟨H16, I16, qy⟩ => ?_
        have hl15 : (wipe σ c.vs).length = σ15.length := by rw [← hw15, wipe_length]
        have fin1 : ∀ {σ' : L2.St} {sz : Shared} {Hz : Hp}, Inv X (pns ++ pinsAt fp1 tc.heap) σ' Hz sz → σ15.length = σ'.length → (∀ (jj : Nat) v, (wipe σ c.vs)[jj]? = some (some v) → σ'[jj]? = some (some v)) → Nx1 Hz → ∃ m, m < k ∧ ∃ jj Hz, Inv X pns (wipe σ c.vs) Hz sz ∧ tn1 jj sz.heap ∧ (∀ b ∈ fp1, Hz b = none) ∧ W1 jj m Hz := fun {σ' sz Hz} Iz hl hk nx => by
          obtain ⟨mz, hm, w'⟩ := hNx1 Hz nx
          have pin' : ∀ b ∈ fp1, ∀ o, tc.heap.get? b = some o → sz.heap.get? b = some o ∧ Hz b = none := fun b hb o e =>
            let z := Iz.pin (b, o) (List.mem_append_right _ (List.mem_append_right _ (mem_pinsAt hb e)))
            ⟨z.1, z.2.1⟩
          refine ⟨mz, hm, jj + 1, Hz, Iz.unpinned.weak (hl15.trans hl) hk, T1.keep _ _ _ td fun b hb o e => (pin' b hb o e).1, fun b hb => ?_, w'⟩
          obtain ⟨o, e, _⟩ := T1.obj _ _ td b hb
          exact (pin' b hb o e).2
        cases b1 with
        | false =>
          simp only [Bool.false_eq_true, if_false] at qy ⊢
          exact fin1 I16 rfl (fun jj v e => by rw [← hw15] at e; exact (wipe_some e).1) qy
        | true =>
          simp only [if_true] at qy ⊢
          refine lcN_in hc hxe he cls (d + 1) (fun k => by rw [Nat.add_assoc, Nat.add_comm 1 k]; exact hgs (k + 1)) (fun c' h' => hcl c' (List.mem_cons_of_mem _ h')) c.vs nest.2 _ σ15 H16 s16 Nx1 _ _ I16 qy fun σ' sz Hz Iz hl hk nx => fin1 Iz hl (fun jj v e => hk jj v ?_) nx
          rw [← hw15] at e
          cases cls with
          | nil => exact wipe_sub (ws := []) (fun i hi => by cases hi) jj v e
          | cons c2 cls => exact wipe_sub nest.2.1 jj v e
    exact compStartN e loop1 (T1.self X.A 0 _ _ _ ta loop1)
theorem lcN_core {pns : List (Addr × Obj)} {s : Shared} {σ : L2.St} {H : Hp} {Q : VK} {el tg iter : Expr} {ifs : List Expr} {cls : List Cl} {scp : Scope} {ow : List (Str × Nat)} {pos pos' : Pos} {wi : TI} {g : TG} {tt : TT} {te : TE} {use : Option (Value → Sem Unit)} {Qf : Value → Shared → Prop}
    (hc : X.calm = true) (hN : X.N.Nodup) (I : Inv X pns σ H s) (hi : PI X tg iter wi) (okk : BlkOk X.N X.env.scope scp ow) (hv : nested (ow.map (·.2)) cls)
    (hg : ∀ (s : Shared) (H : Hp) (C : Addr) (cl : List (Str × Addr)) (fq : List Addr), PG (X.blk s H scp (compEnvC scp cl C X.env) fq) tg g) (ht : ∀ (s : Shared) (H : Hp) (C : Addr) (cl : List (Str × Addr)) (fq : List Addr), PTs (X.blk s H scp (compEnvC scp cl C X.env) fq) ifs tt)
    (he : ∀ (s : Shared) (H : Hp) (C : Addr) (cl : List (Str × Addr)) (fq : List Addr), PE (X.blk s H scp (compEnvC scp cl C X.env) fq) el te) (hs : ∀ x, foldedSetIterable iter X.env x = pure x)
    (hcl : ∀ c ∈ cls, ∀ (s : Shared) (H : Hp) (C : Addr) (cl : List (Str × Addr)) (fq : List Addr), ClOk (X.blk s H scp (compEnvC scp cl C X.env) fq) c)
    (h : tLcN wi g tt cls te (ow.map (·.2)) σ H Q)
    (hRR : ∀ Dl C sz m Hz, Inv X pns σ Hz sz → Q (.ref Dl) Hz → sz.heap.Ns C m → FpOk X pns Hz C → compPost (model X.prog X.w) X.A X.xe use Qf (.ref Dl) C (.ok .next) sz) :
    wpAny (model X.prog X.w) X.A (comprehension (.ListComp el (⟨tg, iter, ifs, 0⟩ :: cls.map Cl.c) scp pos) scp X.env pos' (newList []) false (eval iter X.env) use) Qf X.xe s := by
  have hfree : ∀ y ∈ scp.names, y.2 = .free → ∃ c, X.env.cells.lookup y.1 = some c := fun y hy e => by
    rcases okk.free y hy e with k | k
    · exact I.ok.has _ (.inl k)
    · exact I.ok.has _ (.inr k)
  refine wpAny_comprehension_free (use := use) rfl hs (closure_ok hfree) okk.kind (fun y hy e => by rw [okk.uniq y hy, e])
    (thn (hi.run pns s σ H _ I h) fun xv s1 hx => thn hx fun itv sy h2 => ?_)
  obtain ⟨it, fq, tn, J, H2, e, Ia, T, sty, f2, q⟩ := h2
  subst e
  refine wpAny_newObj_type (newEnv_comp ?_) (by show 0 ≤ sizeLine; decide)
  generalize hD : sy.heap.objs.size = Dl
  have hDn : H2 Dl = none := Ia.hok.fresh (Nat.le_of_eq hD)
  obtain ⟨W, ⟨mo, w0⟩, turn⟩ := q Dl hDn
  -- the new list
  generalize hsa : ({ sy with heap := sy.heap.push { cls := .type "list", data := .seq ([] : List Value).toArray } } : Shared) = s3
  have Ib : Inv X pns σ (upd H2 Dl (.lst [])) s3 := by
    rw [← hsa]
    refine Ia.laid (t' := sy.toks) (fun b o e => Heap.get?_push_of_some _ e) (Nat.le_of_eq hD) ⟨Nat.zero_le _, [], 0, .nil, ?_⟩
    rw [← hD]
    exact Heap.get?_push_size _ rfl
  have h3a : s3.heap = sy.heap.push { cls := .type "list", data := .seq ([] : List Value).toArray } := by rw [← hsa]
  have sz : ∀ b ∈ fq, b < sy.heap.objs.size := fun b hb => by
    obtain ⟨o, e, _⟩ := T.obj _ _ sty b hb
    exact Heap.lt_size e
  have f3 : ∀ b ∈ fq, FpOk X pns (upd H2 Dl (.lst [])) b ∧ b < s3.heap.objs.size := fun b hb => by
    have hlt := sz b hb
    refine ⟨⟨?_, (f2 b hb).2⟩, by rw [h3a, Heap.size_push]; exact Nat.lt_succ_of_lt hlt⟩
    rw [upd_ne (by rw [← hD]; exact Nat.ne_of_lt hlt)]
    exact (f2 b hb).1
  have st3 : tn 0 s3.heap := T.keep _ _ _ sty fun b _ o e => by rw [h3a]; exact Heap.get?_push_of_some _ e
  have Ic := block_start Ib okk hN f3
  have pga := hg s3 (upd H2 Dl (.lst [])) s3.heap.objs.size (cellsFrom (s3.heap.objs.size + 1) scp.names (cloFrom X.env.cells scp.names [])) fq
  have pta := ht s3 (upd H2 Dl (.lst [])) s3.heap.objs.size (cellsFrom (s3.heap.objs.size + 1) scp.names (cloFrom X.env.cells scp.names [])) fq
  have pea := he s3 (upd H2 Dl (.lst [])) s3.heap.objs.size (cellsFrom (s3.heap.objs.size + 1) scp.names (cloFrom X.env.cells scp.names [])) fq
  have pcl := fun c hc => hcl c hc s3 (upd H2 Dl (.lst [])) s3.heap.objs.size (cellsFrom (s3.heap.objs.size + 1) scp.names (cloFrom X.env.cells scp.names [])) fq
  show codeAny _ _ (.compStart (.ListComp el (⟨tg, iter, ifs, 0⟩ :: cls.map Cl.c) scp pos) 0 (.ref it) (.ref Dl) (compEnvC scp (cellsFrom (s3.heap.objs.size + 1) scp.names (cloFrom X.env.cells scp.names [])) s3.heap.objs.size X.env)) (compPost (model X.prog X.w) X.A X.xe use Qf (.ref Dl) s3.heap.objs.size) { s3 with heap := pushCells (s3.heap.push { cls := .type "dict", data := .dict #[] }) scp.names }
  have nfp : ∀ b ∈ fq, (upd H2 Dl (.lst [])) b = none := fun b hb => (f3 b hb).1.1
  generalize hce : compEnvC scp (cellsFrom (s3.heap.objs.size + 1) scp.names (cloFrom X.env.cells scp.names [])) s3.heap.objs.size X.env = cx at Ic pga pta pea pcl ⊢
  have cL : cx.locals = s3.heap.objs.size := by subst hce; rfl
  generalize hH3 : upd H2 Dl (.lst []) = H3 at Ib Ic pga pta pea pcl w0 nfp f3
  generalize hsb : ({ s3 with heap := pushCells (s3.heap.push { cls := .type "dict", data := .dict #[] }) scp.names } : Shared) = s4 at Ic ⊢
  have sta : tn 0 s4.heap := T.keep _ _ _ st3 fun b _ o e => by rw [← hsb]; exact pushCells_keeps _ _ _ _ (Heap.get?_push_of_some _ e)
  have stat : ∀ {σ' : L2.St} {Hz : Hp} {sz : Shared}, Inv (X.blk s3 H3 scp cx fq) [] σ' Hz sz → (∀ b ∈ fq, Hz b = none) → ∀ b ∈ fq, FpOk (X.blk s3 H3 scp cx fq) [] Hz b := fun {σ' Hz sz} Iz hn b hb =>
    ⟨hn b hb, (Iz.ok.exf b hb).1, Iz.ok.exfs b hb, .inl hb, fun x c e => (Iz.ok.exf b hb).2 x c e, fun p hp => absurd (show p ∈ ([] : List (Addr × Obj)) ++ [] from hp) (by simp)⟩
  have loop : codeAny (model X.prog X.w) X.A (.compLoop (.ListComp el (⟨tg, iter, ifs, 0⟩ :: cls.map Cl.c) scp pos) 0 (.ref it) (.ref Dl) cx) (compPost (model X.prog X.w) X.A X.xe use Qf (.ref Dl) s3.heap.objs.size) s4 := by
    refine compLoopN (d := 0) rfl (fun c' hc' => by have hc' : (cls.map Cl.c)[0]? = some c' := hc'; cases cls <;> cases hc'; rfl) (fun n sz => ∃ i Hz, Inv (X.blk s3 H3 scp cx fq) [] (wipe σ (ow.map (·.2))) Hz sz ∧ tn i sz.heap ∧ (∀ b ∈ fq, Hz b = none) ∧ W i n Hz) ?_ mo ⟨0, H3, Ic, sta, nfp, w0⟩
    rintro n s5 ⟨i, H5, Id, stb, na, w5⟩
    rcases turn i n H5 w5 with ⟨stop, qx⟩ | ⟨go, Nx, hNx, step⟩
    · have tda := T.done (X.blk s3 H3 scp cx fq) rfl rfl rfl hc i [] s5 _ H5 (fun _ _ => False) Id (stat Id na) stb stop
      refine thnF tda fun r s6 ⟨hr, Ie⟩ => ?_
      subst hr
      -- the block is left
      have If : Inv X pns σ H5 s6 := Ib.call' (ch := fq) Ie.os Ie.base Ie.hok Ie.bare fun b hb => ⟨(f3 b hb).1.2.2.2.1, (f3 b hb).1.2.1, (f3 b hb).1.2.2.2.2.1, (f3 b hb).1.2.2.2.2.2⟩
      have nC : H5 s3.heap.objs.size = none := by
        have z : H5 cx.locals = none := Ie.free
        rw [cL] at z
        exact z
      obtain ⟨m, hn, _⟩ := Ie.loc
      have hn : s6.heap.Ns cx.locals m := hn
      rw [cL] at hn
      exact hRR Dl s3.heap.objs.size s6 m H5 If qx hn (Ib.fpOk (Nat.le_refl _) nC)
    · have tia := T.item (X.blk s3 H3 scp cx fq) rfl rfl rfl hc i [] s5 _ H5 (fun _ _ => False) Id (stat Id na) stb go
      refine thnF tia fun r s6 ⟨u, hr, h6⟩ => ?_
      subst hr
      refine thnF h6 fun _ s7 ⟨x, H7, If, r7, y7, stc, nb⟩ => ?_
      have I7' := If.pinned (stat If nb) (T.obj _ _ stc)
      refine thnF (pga.run _ s7 _ H7 x u _ I7' r7 (step x H7 y7)) fun _ s8 ⟨τ8, H8, Ig, hw8, q8⟩ => ?_
      refine thnF (pta.run _ s8 τ8 H8 _ Ig q8) fun b s9 ⟨H9, Ih, qz⟩ => ?_
      -- where a turn ends
      have fin : ∀ {σ9 : L2.St} {sz : Shared} {Hz : Hp}, Inv (X.blk s3 H3 scp cx fq) ([] ++ pinsAt fq s7.heap) σ9 Hz sz → (wipe σ (ow.map (·.2))).length = σ9.length → (∀ (jj : Nat) v, (wipe σ (ow.map (·.2)))[jj]? = some (some v) → σ9[jj]? = some (some v)) → Nx Hz →
          ∃ m, m < n ∧ ∃ i Hz, Inv (X.blk s3 H3 scp cx fq) [] (wipe σ (ow.map (·.2))) Hz sz ∧ tn i sz.heap ∧ (∀ b ∈ fq, Hz b = none) ∧ W i m Hz := fun {σ9 sz Hz} Iz hl hk nx => by
        obtain ⟨mz, hm, w'⟩ := hNx Hz nx
        have pin' : ∀ b ∈ fq, ∀ o, s7.heap.get? b = some o → sz.heap.get? b = some o ∧ Hz b = none := fun b hb o e =>
          let z := Iz.pin (b, o) (List.mem_append_right _ (List.mem_append_right _ (mem_pinsAt hb e)))
          ⟨z.1, z.2.1⟩
        refine ⟨mz, hm, i + 1, Hz, (Iz.unpinned (pins := [])).weak hl hk, T.keep _ _ _ stc fun b hb o e => (pin' b hb o e).1, fun b hb => ?_, w'⟩
        obtain ⟨o, e, _⟩ := T.obj _ _ stc b hb
        exact (pin' b hb o e).2
      have hl8 : (wipe σ (ow.map (·.2))).length = τ8.length := by rw [← hw8, wipe_length]
      cases b with
      | false =>
        simp only [Bool.false_eq_true, if_false] at qz ⊢
        exact fin Ih hl8 (fun jj v e => by rw [← hw8] at e; exact (wipe_some e).1) qz
      | true =>
        simp only [if_true] at qz ⊢
        refine lcN_in (X := X.blk s3 H3 scp cx fq) hc (fun _ _ z => z) pea cls 1 (fun k => by rw [Nat.add_comm]; rfl) pcl _ hv _ τ8 H9 s9 Nx _ _ Ih qz fun σ' sz Hz Iz hl hk nx => fin Iz (hl8.trans hl) (fun jj v e => hk jj v ?_) nx
        rw [← hw8] at e
        cases cls with
        | nil => exact wipe_sub (ws := []) (fun i hi => by cases hi) jj v e
        | cons c2 cls => exact wipe_sub hv.1 jj v e
  exact codeAny_compStart_list loop (T.self X.A 0 _ _ _ sta loop)
/-- as a value -/
theorem pe_lcN {el tg iter : Expr} {ifs : List Expr} {cls : List Cl} {scp : Scope} {ow : List (Str × Nat)} {pos : Pos} {wi : TI} {g : TG} {tt : TT} {te : TE} (hc : X.calm = true) (hN : X.N.Nodup) (hi : PI X tg iter wi) (okk : BlkOk X.N X.env.scope scp ow) (hv : nested (ow.map (·.2)) cls)
    (hg : ∀ (s : Shared) (H : Hp) (C : Addr) (cl : List (Str × Addr)) (fq : List Addr), PG (X.blk s H scp (compEnvC scp cl C X.env) fq) tg g) (ht : ∀ (s : Shared) (H : Hp) (C : Addr) (cl : List (Str × Addr)) (fq : List Addr), PTs (X.blk s H scp (compEnvC scp cl C X.env) fq) ifs tt)
    (hcl : ∀ c ∈ cls, ∀ (s : Shared) (H : Hp) (C : Addr) (cl : List (Str × Addr)) (fq : List Addr), ClOk (X.blk s H scp (compEnvC scp cl C X.env) fq) c)
    (he : ∀ (s : Shared) (H : Hp) (C : Addr) (cl : List (Str × Addr)) (fq : List Addr), PE (X.blk s H scp (compEnvC scp cl C X.env) fq) el te) (hs : ∀ x, foldedSetIterable iter X.env x = pure x) :
    PE X (.ListComp el (⟨tg, iter, ifs, 0⟩ :: cls.map Cl.c) scp pos) (tLcN wi g tt cls te (ow.map (·.2))) := by
  refine ⟨fun pns s σ H Q I h => ?_⟩
  rw [eval_ListComp]
  refine lcN_core hc hN I hi okk hv hg ht he hs hcl h fun Dl C sz m Hz Iz q hn f => ⟨m, hn, fun h'' sb => ?_⟩
  obtain ⟨f0a, f1, f2, f3, f4, f5a⟩ := f
  exact ⟨.ref Dl, Hz, Iz.turned (t' := sz.toks) (fun b o hb e => (sb.2 b hb).trans e) f0a f1 f3 f4 f5a, rfl, q⟩
theorem ps_setLcN {i : Nat} {y : Str} {pyy : Pos} {el tg iter : Expr} {ifs : List Expr} {cls : List Cl} {scp : Scope} {ow : List (Str × Nat)} {pos spos : Pos} {wi : TI} {g : TG} {tt : TT} {te : TE} (hc : X.calm = true) (hN : X.N.Nodup) (hy : X.N[i]? = some y) (hyl : X.env.scope.names.lookup y = some .local)
    (hsx : swapsWith (.ListComp el (⟨tg, iter, ifs, 0⟩ :: cls.map Cl.c) scp pos) (some (.Name y pyy)) spos.line X.env = pure true) (hi : PI X tg iter wi) (okk : BlkOk X.N X.env.scope scp ow) (hv : nested (ow.map (·.2)) cls)
    (hg : ∀ (s : Shared) (H : Hp) (C : Addr) (cl : List (Str × Addr)) (fq : List Addr), PG (X.blk s H scp (compEnvC scp cl C X.env) fq) tg g) (ht : ∀ (s : Shared) (H : Hp) (C : Addr) (cl : List (Str × Addr)) (fq : List Addr), PTs (X.blk s H scp (compEnvC scp cl C X.env) fq) ifs tt)
    (hcl : ∀ c ∈ cls, ∀ (s : Shared) (H : Hp) (C : Addr) (cl : List (Str × Addr)) (fq : List Addr), ClOk (X.blk s H scp (compEnvC scp cl C X.env) fq) c)
    (he : ∀ (s : Shared) (H : Hp) (C : Addr) (cl : List (Str × Addr)) (fq : List Addr), PE (X.blk s H scp (compEnvC scp cl C X.env) fq) el te) (hs : ∀ x, foldedSetIterable iter X.env x = pure x) :
    PS X (.Assign [.Name y pyy] (.ListComp el (⟨tg, iter, ifs, 0⟩ :: cls.map Cl.c) scp pos) spos) (tAsg (tLcN wi g tt cls te (ow.map (·.2))) (gName i)) := by
  refine ⟨fun pns s σ H Dl I h => ?_⟩
  rw [exec_Assign_Name_used _ _ _ _ hsx]
  refine wpAny_bind (wpAny_standAt (wpAny_bind ?_))
  show wpAny _ X.A (do let _ ← comprehension (.ListComp el (⟨tg, iter, ifs, 0⟩ :: cls.map Cl.c) scp pos) scp X.env (firstIterPos (⟨tg, iter, ifs, 0⟩ :: cls.map Cl.c) pos) (newList []) false (eval iter X.env) (some (assign (.Name y pyy) X.env))) _ _ s
  have h : tLcN wi g tt cls te (ow.map (·.2)) σ H (fun x H1 => gName i x σ H1 Dl.nx) := h
  refine wpAny_bind (thn (lcN_core (Qf := fun _ sz => SP X pns Dl .next sz) hc hN I hi okk hv hg ht he hs hcl h fun L C sz m Hz Iz q hn f => ?_) fun _ sz hqx => wpAny_pure (wpAny_pure hqx))
  show wpAny _ _ (assign (.Name y pyy) X.env (.ref L)) _ _ _
  refine wpAny_assign_Name (store_ok2 (v := V.ref L) Iz hN hy (.inl hyl) rfl (fun sy Ia ⟨a, sb, ha⟩ => ?_) (.inr hyl))
  obtain ⟨f0a, f1, f2, f3, f4, f5a⟩ := f
  have haC : C ≠ a := by
    rcases ha with z | z
    · rw [z]; exact f1
    · exact fun e => f4 y a z e.symm
  refine ⟨m, hn.sameBut sb haC, fun h3a sb3 => ?_⟩
  exact ⟨_, Hz, Ia.turned (t' := sy.toks) (fun b o hb e => (sb3.2 b hb).trans e) f0a f1 f3 f4 f5a, q⟩
end
end Ev
namespace Ev
open PySem PySem.Spec L2 PyProof.Rows
section
variable {X : Cx}
def rReprD (K : PySem.W.Frag) : List V → Hp → VK → Prop := fun xs H Q => (∃ a d, xs = [V.ref a] ∧ Dp K H (.ref a) d ∧ d.showable = true ∧ d.hasDict = false ∧ d.depth ≤ 64 ∧ d.shown.length ≤ sizeLine ∧ Q (.str d.shown) H) ∨ (xs = [V.non] ∧ Q (.str "None") H)
theorem call_reprD (hg : X.A.guards = some []) (hu : X.A.units + 65 < cLine) : CallR X (.builtin "repr") (rReprD X.K) := by
  intro pins s σ H xs us Q I r h
  rcases h with ⟨a, d, rfl, hd, h1, h2, h3, h4, q⟩ | ⟨rfl, q⟩
  rotate_left
  · obtain ⟨u, rfl, ru⟩ := r.one
    cases ru
    exact PySem.P.repr_of_none ⟨.str "None", H, I.tok _, ⟨_, rfl⟩, q⟩
  obtain ⟨u, rfl, ru⟩ := r.one
  obtain ⟨as, rr⟩ := Dp.reads I d _ _ hd ru
  cases ru
  exact PySem.repr_of_reads' rr h1 (PyData.noDict_hsm h2) hg (by omega) (fun _ _ e => e) (fun h' t tk hk => ⟨.str _, H, I.kept (t' := tk) hk, ⟨t, rfl⟩, q⟩) h4
/-- str(x), x a tuple or a list -/
def rStrD (K : PySem.W.Frag) : List V → Hp → VK → Prop := fun xs H Q => ∃ a d, xs = [V.ref a] ∧ Dp K H (.ref a) d ∧ d.showable = true ∧ d.hasDict = false ∧ d.depth ≤ 64 ∧ d.shown.length ≤ sizeLine ∧ Q (.str d.shown) H
theorem call_strD (hg : X.A.guards = some []) (hu : X.A.units + 68 < cLine) : CallR X (.type "str") (rStrD X.K) := by
  intro pins s σ H xs us Q I r ⟨a, d, ex, hd, h1, h2, h3, h4, q⟩
  subst ex
  obtain ⟨u, eu, ru⟩ := r.one
  subst eu
  obtain ⟨as, rr⟩ := Dp.reads I d _ _ hd ru
  obtain rfl : u = Value.ref a := ru
  exact PySem.str_of_reads rr h1 (PyData.noDict_hsm h2) hg (by omega) (fun _ _ e => e) (fun h' t tk hk => ⟨.str _, H, I.kept (t' := tk) hk, ⟨t, rfl⟩, q⟩) h4
end
section
variable {T : Ad} {m : Mp} {H : Hp} {σ : L2.St} {W : WX} {S : Store} {Q : VK} {dx dy : D} {x y : V}
theorem ixN_at {α β : Type} {xs : List α} {vs : List β} (e : vs.length = xs.length) {i : Int} {a : α} (h : atI xs i = some a) : ∃ j : Nat, xs[j]? = some a ∧ ∀ b : β, vs[j]? = some b → atI vs i = some b := by
  unfold atI at h ⊢
  rw [e]
  cases hj : ixN xs.length i with
  | none =>
    rw [hj] at h
    cases h
  | some j =>
    rw [hj] at h
    exact ⟨j, h, fun b hb => hb⟩
theorem RDs.atI {ds : List D} {vs : List V} {i : Int} {d : D} (h : RDs T m H ds vs) (e : L2.atI ds i = some d) : ∃ v, L2.atI vs i = some v ∧ RD T m H d v := by
  obtain ⟨j, h1, h2⟩ := ixN_at h.length e
  obtain ⟨v, h3, h4⟩ := h.get h1
  exact ⟨v, h2 v h3, h4⟩
theorem some_L {o : Option (List D)} {f : List D → R D} {k : D → Store → Mp → Hp → Prop} (h : PostK T (match o with | some a => f a | none => .stuck) m H σ W k) : ∃ a, o = some a ∧ PostK T (f a) m H σ W k := by
  cases o with
  | none => exact h.elim
  | some a => exact ⟨a, rfl, h⟩
theorem some_D {o : Option (D)} {f : D → R D} {k : D → Store → Mp → Hp → Prop} (h : PostK T (match o with | some a => f a | none => .stuck) m H σ W k) : ∃ a, o = some a ∧ PostK T (f a) m H σ W k := by
  cases o with
  | none => exact h.elim
  | some a => exact ⟨a, rfl, h⟩
theorem some_N {o : Option (Nat)} {f : Nat → R D} {k : D → Store → Mp → Hp → Prop} (h : PostK T (match o with | some a => f a | none => .stuck) m H σ W k) : ∃ a, o = some a ∧ PostK T (f a) m H σ W k := by
  cases o with
  | none => exact h.elim
  | some a => exact ⟨a, rfl, h⟩
theorem some_I {o : Option (Int)} {f : Int → R D} {k : D → Store → Mp → Hp → Prop} (h : PostK T (match o with | some a => f a | none => .stuck) m H σ W k) : ∃ a, o = some a ∧ PostK T (f a) m H σ W k := by
  cases o with
  | none => exact h.elim
  | some a => exact ⟨a, rfl, h⟩
theorem some_LI {o : Option (List Int)} {f : List Int → R D} {k : D → Store → Mp → Hp → Prop} (h : PostK T (match o with | some a => f a | none => .stuck) m H σ W k) : ∃ a, o = some a ∧ PostK T (f a) m H σ W k := by
  cases o with
  | none => exact h.elim
  | some a => exact ⟨a, rfl, h⟩
theorem some_LB {o : Option (List Bool)} {f : List Bool → R D} {k : D → Store → Mp → Hp → Prop} (h : PostK T (match o with | some a => f a | none => .stuck) m H σ W k) : ∃ a, o = some a ∧ PostK T (f a) m H σ W k := by
  cases o with
  | none => exact h.elim
  | some a => exact ⟨a, rfl, h⟩
theorem ix_use0 (r : RS T m H S) (hx : RD T m H dx x) (hy : RD T m H dy y) (h : PostK T (ixV0 dx dy S) m H σ W (KQ T Q)) : rIx T.K x y H Q := by
  cases dy with
  | int i =>
    obtain rfl := rd_int hy
    have lists : PostK T (match lstOf S dx with | some xs => (match L2.atI xs i with | some d => .ok d S | none => .stuck) | none => .stuck) m H σ W (KQ T Q) → rIx T.K x (.int i) H Q := fun h => by
      obtain ⟨xs, e, h⟩ := some_L h
      obtain ⟨d, e2, h⟩ := some_D h
      obtain ⟨p, vs, rfl, h2, h3⟩ := lst_of r e hx
      obtain ⟨v, h4, h5⟩ := h3.atI e2
      exact .inl ⟨p, vs, i, v, rfl, rfl, SqL.of h2, h4, ok_use r h h5⟩
    cases dx with
    | tup xs =>
      obtain ⟨d, e2, h⟩ := some_D (show PostK T (match L2.atI xs i with | some d => .ok d S | none => .stuck) m H σ W (KQ T Q) from h)
      obtain ⟨p, vs, rfl, h2, h3⟩ := tup_of hx
      obtain ⟨v, h4, h5⟩ := h3.atI e2
      exact .inr (.inl ⟨p, vs, i, v, rfl, rfl, h2, h4, ok_use r h h5⟩)
    | str z =>
      obtain rfl := rd_str hx
      obtain ⟨hz, h⟩ := ite_use (show PostK T (if isz z.length then (match L2.atI z.cps.toList i with | some c => .ok (.str ⟨#[c]⟩) S | none => .stuck) else .stuck) m H σ W (KQ T Q) from h)
      obtain ⟨c, e2, h⟩ := some_N h
      exact .inr (.inr ⟨z, i, c, rfl, rfl, isz_of hz, e2, ok_use r h rfl⟩)
    | scr ns =>
      obtain ⟨n, e2, h⟩ := some_I (show PostK T (match L2.atI ns i with | some n => .ok (.int n) S | none => .stuck) m H σ W (KQ T Q) from h)
      obtain ⟨p, rfl, h2⟩ := scr_of hx
      obtain ⟨j, h3, h4⟩ := ixN_at (vs := ns.map V.int) (by simp) e2
      exact .inl ⟨p, _, i, .int n, rfl, rfl, h2, h4 _ (by simp [h3]), ok_use r h rfl⟩
    | _ => exact lists h
  | _ => exact absurd h (by cases dx <;> simp [ixV0, PostK])
/-- an item of a dict -/
def rIxDt : R2 := fun x y H Q => ∃ a v, x = .ref a ∧ DGet H a y (some v) ∧ Q v H
theorem ix_dict {X : Cx} (hu : X.A.units + 1 < cLine) : IxR X rIxDt := by
  intro value slice pins s σ H x y v u Q I rx ry h hs
  obtain ⟨a, r, rfl, g, q⟩ := h
  cases rx
  exact tail_any (dict_typeIs I g) PySem.F.slot_dict_getitem.lookup (d_getItem hu I g ry fun w' s' I' rw' => ⟨r, H, I', rw', q⟩) hs
def rIxA (P : Program) (w : World) (K : PySem.W.Frag) : R2 := fun x y H Q => rIx K x y H Q ∨ rIxDt x y H Q ∨ rIxS P w K x y H Q
theorem ix_useT (r : RS T m H S) (hx : RD T m H dx x) (hy : RD T m H dy y) (h : PostK T (ixT dx dy S) m H σ W (KQ T Q)) : rIx T.K x y H Q ∨ rIxS T.P T.w T.K x y H Q := by
  cases dx with
  | tdc ks ds =>
    have h : PostK T (match tkD dy with | some k => (match tAt ks ds k with | some d => .ok d S | none => .stuck) | none => .stuck) m H σ W (KQ T Q) := h
    cases ek : tkD dy with
    | none =>
      rw [ek] at h
      exact h.elim
    | some k =>
      rw [ek] at h
      obtain ⟨d, e3, h⟩ := some_D h
      obtain ⟨a, o, e1, e2, e4⟩ := tdc_ask hx ek hy
      rcases e4 with ⟨e4, _⟩ | ⟨d', v, e4, rfl, hv⟩
      · rw [e3] at e4
        cases e4
      · rw [e3] at e4
        cases e4
        exact .inr ⟨a, v, e1, e2, ok_use r h hv⟩
  | ref l =>
    have h : PostK T (match dttOf S (.ref l) with | some kvs => (match tkD dy with | some k => (match ttAt kvs k with | some d => .ok d S | none => .stuck) | none => .stuck) | none => ixV0 (.ref l) dy S) m H σ W (KQ T Q) := h
    cases e : dttOf S (.ref l) with
    | none =>
      rw [e] at h
      exact .inl (ix_use0 r hx hy h)
    | some kvs =>
      rw [e] at h
      cases ek : tkD dy with
      | none =>
        rw [ek] at h
        exact h.elim
      | some k =>
        rw [ek] at h
        obtain ⟨d, e3, h⟩ := some_D h
        obtain ⟨a, o, e1, e2, e4⟩ := dtt_ask r e hx ek hy
        rcases e4 with ⟨e4, _⟩ | ⟨d', v, e4, rfl, hv⟩
        · rw [e3] at e4
          cases e4
        · rw [e3] at e4
          cases e4
          exact .inr ⟨a, v, e1, e2, ok_use r h hv⟩
  | _ => exact .inl (ix_use0 r hx hy h)
theorem ix_use (r : RS T m H S) (hx : RD T m H dx x) (hy : RD T m H dy y) (h : PostK T (ixV dx dy S) m H σ W (KQ T Q)) : rIxA T.P T.w T.K x y H Q := by
  unfold ixV at h
  cases e : dctOf S dx with
  | none =>
    rw [e] at h
    rcases ix_useT r hx hy h with h | h
    · exact .inl h
    · exact .inr (.inr h)
  | some kvs =>
    rw [e] at h
    obtain ⟨l, rfl, e2⟩ := dctOf_ref e
    obtain ⟨p, vs, h1, h2, h3⟩ := r.dct e2
    obtain ⟨p', h4, rfl⟩ := hx
    rw [h1] at h4
    cases h4
    have h : PostK T (dctIx kvs dy S) m H σ W (KQ T Q) := h
    unfold dctIx at h
    cases ek : kD dy with
    | none =>
      rw [ek] at h
      exact h.elim
    | some k =>
      rw [ek] at h
      obtain ⟨d, e3, h⟩ := some_D h
      obtain ⟨v, h5, h6⟩ := h3.at_ e3
      refine .inr (.inl ⟨p, v, rfl, ?_, ok_use r h h6⟩)
      rw [rd_key ek hy, ← h5]
      exact DGet.k h2
abbrev R3 := V → Option Int → Option Int → Hp → VK → Prop
def rCut (K : PySem.W.Frag) : R3 := fun x lo hi H Q => rSlL K x lo hi H Q ∨ rSlA K x lo hi H Q ∨ rSlS x lo hi H Q
theorem sl_all {X : Cx} : SlR X (rCut X.K) := sl_list.or (sl_tupA.or sl_str)
theorem scr_cut (ns : List Int) (lo hi : Option Int) : L2.cutV (ns.map V.int) lo hi = (cutD ns lo hi).map V.int := by
  unfold L2.cutV cutD
  rw [List.length_map, ← List.map_drop, ← List.map_take]
theorem cut_use {new : Bool} {lo hi : Option Int} (r : RS T m H S) (hx : RD T m H dx x) (h : PostK T (Ev.cutV new dx lo hi S) m H σ W (KQ T Q)) : rCut T.K x lo hi H Q := by
  have lists : PostK T (match lstOf S dx with | some xs => mkL new (cutD xs lo hi) S | none => .stuck) m H σ W (KQ T Q) → rCut T.K x lo hi H Q := fun h => by
    obtain ⟨xs, e, h⟩ := some_L h
    obtain ⟨p, vs, rfl, h2, h3⟩ := lst_of r e hx
    exact .inl ⟨p, vs, rfl, SqL.of h2, (mkL_use r h (h3.cut lo hi)).2⟩
  cases dx with
  | tup xs =>
    obtain ⟨p, vs, rfl, h2, h3⟩ := tup_of hx
    have h : PostK T (.ok (.tup (cutD xs lo hi)) S) m H σ W (KQ T Q) := h
    refine .inr (.inl ⟨p, vs, rfl, h2, fun hw => ok_use r h ⟨p, vs, rfl, h2, ?_⟩, fun hw q hq => ?_⟩)
    · have e := h3.cut lo hi
      have e2 : L2.cutV vs lo hi = vs := by
        unfold L2.cutV
        rw [hw.1, hw.2, List.drop_zero, Nat.sub_zero, List.take_length]
      rw [e2] at e
      exact e
    · exact h _ _ (Ext.new r hq) (r.new hq) _ ⟨q, _, rfl, .inl (.inl upd_same), RDs.ext (Ext.new r hq) _ _ (h3.cut lo hi)⟩
  | str z =>
    obtain rfl := rd_str hx
    obtain ⟨hz, h⟩ := ite_use (show PostK T (if isz z.length then .ok (.str (cutS z lo hi)) S else .stuck) m H σ W (KQ T Q) from h)
    exact .inr (.inr ⟨z, rfl, isz_of hz, ok_use r h rfl⟩)
  | scr ns =>
    obtain ⟨p, rfl, h2⟩ := scr_of hx
    have h : PostK T (mkL new ((cutD ns lo hi).map .int) S) m H σ W (KQ T Q) := h
    exact .inl ⟨p, _, rfl, h2, by rw [scr_cut]; exact (mkL_use r h (RDs.ints _)).2⟩
  | _ => exact lists h
theorem rev_use {new : Bool} (r : RS T m H S) (hx : RD T m H dx x) (h : PostK T (match lstOf S dx with | some xs => mkL new xs.reverse S | none => .stuck) m H σ W (KQ T Q)) :
    ∃ a xs, x = .ref a ∧ SqL T.K H a xs ∧ ∀ p, H p = none → Q (.ref p) (upd H p (.lst xs.reverse)) := by
  obtain ⟨xs, e, h⟩ := some_L h
  obtain ⟨p, vs, rfl, h2, h3⟩ := lst_of r e hx
  exact ⟨p, vs, rfl, SqL.of h2, (mkL_use r h h3.reverse).2⟩
def bfNm : Bfn → Str
  | .len => "len"
  | .int => "int"
  | .abs => "abs"
  | .sum => "sum"
  | .all => "all"
  | .any => "any"
  | .list => "list"
  | .tuple => "tuple"
  | .repr => "repr"
  | .sorted => "sorted"
  | .max => "max"
  | .dict => "dict"
  | .str => "str"
def rLenS (P : Program) (w : World) (K : PySem.W.Frag) : List V → Hp → VK → Prop := fun xs H Q => ∃ (p : Addr) (tvs : TVs), xs = [.ref p] ∧ IsDS P w H p tvs ∧ (∀ q ∈ tvs, SqT K H q.2.1 (q.1.map kV)) ∧ (tvs.length : Int) < 2 ^ 63 ∧ Q (.int ((tvs.length : Nat) : Int)) H
def rDictS (P : Program) (w : World) (K : PySem.W.Frag) : List V → Hp → VK → Prop := fun xs H Q => ∃ (a : Addr) (ps : List Addr) (kvs : TVs), xs = [.ref a] ∧
    SqL K H a (ps.map V.ref) ∧ Paired (fun p kv => SqT K H p [.ref kv.2.1, kv.2.2] ∧ SqT K H kv.2.1 (kv.1.map kV)) ps kvs ∧
    ∀ p, H p = none → Q (.ref p) (upd H p (DictS P w p (foldV [] kvs)))
def rLen (P : Program) (w : World) (K : PySem.W.Frag) : List V → Hp → VK → Prop := fun xs H Q => ((∃ p ys, xs = [.ref p] ∧ (SqL K H p ys ∨ SqT K H p ys) ∧ Q (.int ys.length) H) ∨ rLenS P w K xs H Q) ∨ ∃ z, xs = [.str z] ∧ z.length ≤ sizeLine ∧ Q (.int z.length) H
def rInt : List V → Hp → VK → Prop := fun xs H Q => ((∃ i, xs = [.int i] ∧ Q (.int i) H) ∨ ∃ k, xs = [.bl k] ∧ Q (.int (if k then 1 else 0)) H) ∨ ∃ a n, xs = [.str a] ∧ PySem.intText? a = some n ∧ a.length ≤ 640 ∧ Q (.int n) H
def rBf (P : Program) (w : World) (K : PySem.W.Frag) : Bfn → List V → Hp → VK → Prop
  | .len => rLen P w K
  | .int => rInt
  | .abs => fun xs H Q => ∃ i, xs = [.int i] ∧ Q (.int (if i < 0 then -i else i)) H
  | .sum => rSum K
  | .all => rAll K
  | .any => rAny K
  | .list => fun xs H Q => (∃ p ys, xs = [.ref p] ∧ (SqL K H p ys ∨ SqT K H p ys) ∧ ∀ l, H l = none → Q (.ref l) (upd H l (.lst ys))) ∨ ∃ z, xs = [.str z] ∧ z.length ≤ sizeLine ∧ ∀ l, H l = none → Q (.ref l) (upd H l (.lst (z.cps.toList.map fun c => V.str ⟨#[c]⟩)))
  | .tuple => fun xs H Q => ∃ p ys, xs = [.ref p] ∧ ((SqL K H p ys ∧ ∀ l, H l = none → Q (.ref l) (upd H l (.tup ys))) ∨ (SqT K H p ys ∧ Q (.ref p) H))
  | .repr => rReprD K
  | .sorted => fun xs H Q => rSortG K xs H Q ∨ rSortS P w K xs H Q
  | .max => rMax K
  | .dict => rDictS P w K
  | .str => rStrD K
def bfTy : Bfn → Bool
  | .int => true
  | .list => true
  | .tuple => true
  | .dict => true
  | .str => true
  | _ => false
def bfId : Bfn → String
  | .len => "len"
  | .int => "int"
  | .abs => "abs"
  | .sum => "sum"
  | .all => "all"
  | .any => "any"
  | .list => "list"
  | .tuple => "tuple"
  | .repr => "repr"
  | .sorted => "sorted"
  | .max => "max"
  | .dict => "dict"
  | .str => "str"
def bfVal (f : Bfn) : Value := if bfTy f then .type (bfId f) else .builtin (bfId f)
theorem bf_boot (f : Bfn) : bootBuiltins (bfNm f) = some (bfVal f) := by
  cases f <;> decide +kernel
theorem bf_rule {X : Cx} (hc : X.calm = true) (hg : X.A.guards = some []) (hu : X.A.units + 70 < cLine) (f : Bfn) : CallR X (bfVal f) (rBf X.prog X.w X.K f) := by
  cases f with
  | len => exact (call_len_seq.or call_lenS).or call_len_str
  | int => exact call_int1.or call_int_str
  | abs => exact call_abs
  | sum => exact cr_sum hc
  | all => exact cr_all hc
  | any => exact cr_any hc
  | list => exact call_list_of.or (call_listS hc)
  | tuple => exact call_tuple_of
  | repr => exact call_reprD hg (by omega)
  | sorted => exact (call_sortedG hu).or (call_sortedS hc hu)
  | max => exact cr_max hc
  | dict => exact call_dictS hc (by show X.A.units + 2 < cLine; omega)
  | str => exact call_strD hg (by omega)
theorem okRepr_use {d : D} (h : okRepr d = true) : d.plain = true ∧ d.pd.showable = true ∧ d.pd.hasDict = false ∧ d.pd.depth ≤ 64 ∧ d.pd.shown.length ≤ sizeLine := by
  unfold okRepr at h
  simp only [Bool.and_eq_true, decide_eq_true_eq, Bool.not_eq_true'] at h
  exact ⟨h.1.1.1.1, h.1.1.1.2, h.1.1.2, h.1.2, h.2⟩
theorem plains_mem : ∀ {xs : List D}, D.plains xs = true → ∀ d ∈ xs, d.plain = true
  | x :: xs, h, d, hd => by
    rw [D.plains, Bool.and_eq_true] at h
    rcases List.mem_cons.mp hd with rfl | hd
    · exact h.1
    · exact plains_mem h.2 d hd
theorem zip_fst : ∀ {xs : List D} {vs : List V}, vs.length = xs.length → (xs.zip vs).map (·.1) = xs ∧ (xs.zip vs).map (·.2) = vs
  | [], [], _ => ⟨rfl, rfl⟩
  | x :: xs, v :: vs, h => by
    have := zip_fst (xs := xs) (vs := vs) (by simpa using h)
    exact ⟨by simp [this.1], by simp [this.2]⟩
  | [], _ :: _, h => by simp at h
  | _ :: _, [], h => by simp at h
theorem RDs.mem : ∀ {xs : List D} {vs : List V}, RDs T m H xs vs → ∀ p ∈ xs.zip vs, RD T m H p.1 p.2
  | [], vs, h, p, hp => by simp at hp
  | x :: xs, vs, h, p, hp => by
    obtain ⟨v, r, rfl, h2, h3⟩ := h
    rw [List.zip_cons_cons] at hp
    rcases List.mem_cons.mp hp with rfl | hp
    · exact h2
    · exact RDs.mem h3 p hp
theorem RDs.of_pairs : ∀ {ps : List (D × V)}, (∀ p ∈ ps, RD T m H p.1 p.2) → RDs T m H (ps.map (·.1)) (ps.map (·.2))
  | [], _ => rfl
  | p :: ps, h => ⟨_, _, rfl, h p List.mem_cons_self, RDs.of_pairs fun q hq => h q (List.mem_cons_of_mem _ hq)⟩
theorem sort_core {new : Bool} {xs : List D} {vs : List V} (r : RS T m H S) (h2 : RDs T m H xs vs) (ok : okSort xs = true) (h : PostK T (mkL new (xs.mergeSort leD) S) m H σ W (KQ T Q)) : ∃ ps : List (PyData × V), ps.map (·.2) = vs ∧ (∀ p ∈ ps, Dp T.K H p.2 p.1) ∧ PySem.W.AllAlike (ps.map (·.1)) ∧ PySem.W.Sortable (ps.map (·.1)) ∧ (∀ p ∈ ps, p.1.depth ≤ 64) ∧ ps.length ≤ sizeLine ∧
    ∀ l, H l = none → Q (.ref l) (upd H l (.lst ((ps.mergeSort (PySem.W.dataLe false (·.1))).map (·.2)))) := by
  unfold okSort at ok
  simp only [Bool.and_eq_true, List.all_eq_true, Bool.or_eq_true] at ok
  obtain ⟨⟨o1, o2⟩, o3⟩ := ok
  obtain ⟨e1, e2⟩ := zip_fst h2.length
  have hp : ∀ q ∈ (xs.zip vs).map (fun q => (q.1.pd, q.2)), ∃ d ∈ xs, q.1 = d.pd ∧ RD T m H d q.2 := fun q hq => by
    obtain ⟨a, ha, rfl⟩ := List.mem_map.mp hq
    exact ⟨a.1, (List.of_mem_zip ha).1, rfl, h2.mem a ha⟩
  have f1 : ((xs.zip vs).map (fun q => (q.1.pd, q.2))).map (·.1) = xs.map D.pd := by
    rw [List.map_map]
    conv => rhs; rw [← e1, List.map_map]
    rfl
  have f2 : ((xs.zip vs).map (fun q => (q.1.pd, q.2))).map (·.2) = vs := by
    rw [List.map_map]
    conv => rhs; rw [← e2]
    rfl
  refine ⟨(xs.zip vs).map fun q => (q.1.pd, q.2), f2, fun q hq => ?_, ?_, ?_, fun q hq => ?_, ?_⟩
  · obtain ⟨d, hd, e, hr⟩ := hp q hq
    rw [e]
    exact RD.dp _ _ hr (plains_mem o1 d hd)
  · rw [f1]
    intro a ha b hb
    obtain ⟨d, hd, rfl⟩ := List.mem_map.mp ha
    obtain ⟨d', hd', rfl⟩ := List.mem_map.mp hb
    exact (o2 d hd).2 d' hd'
  · rw [f1]
    rcases o3 with o3 | o3
    · refine .inl fun a ha => ?_
      obtain ⟨d, hd, rfl⟩ := List.mem_map.mp ha
      have t := o3 d hd
      match d, t with
      | .tup (a :: r), _ => exact ⟨_, _, rfl⟩
    · refine .inr fun a ha => ?_
      obtain ⟨d, hd, rfl⟩ := List.mem_map.mp ha
      have t := o3 d hd
      have pl := plains_mem o1 d hd
      cases d <;> first | (cases t; done) | (cases pl; done) | exact ⟨fun z => (by rw [D.pd] at z; cases z), fun xs z => (by rw [D.pd] at z; cases z)⟩
  · obtain ⟨d, hd, e, hr⟩ := hp q hq
    rw [e]
    exact SeqAt.depth_of_shaped (o2 d hd).1
  · have g : ((xs.zip vs).map (fun q => (q.1.pd, q.2))).mergeSort (PySem.W.dataLe false (·.1)) = ((xs.zip vs).mergeSort fun a b => leD a.1 b.1).map fun q => (q.1.pd, q.2) := by
      rw [← List.map_mergeSort]
      intro a _ b _
      rfl
    have g2 : xs.mergeSort leD = ((xs.zip vs).mergeSort fun a b => leD a.1 b.1).map (·.1) := by
      conv => lhs; rw [← e1]
      rw [← List.map_mergeSort]
      intro a _ b _
      rfl
    rw [g, List.map_map]
    have h3 : RDs T m H (xs.mergeSort leD) (((xs.zip vs).mergeSort fun a b => leD a.1 b.1).map (·.2)) := by
      rw [g2]
      exact RDs.of_pairs fun q hq => h2.mem q ((List.mergeSort_perm _ _).mem_iff.mp hq)
    obtain ⟨q1, q2⟩ := mkL_use r h h3
    refine ⟨?_, q2⟩
    rw [List.length_map, List.length_mergeSort] at q1
    rw [List.length_map]
    exact q1
theorem sort_use {new : Bool} {xs : List D} {vs : List V} {p : Addr} (r : RS T m H S) (h1 : SqL T.K H p vs) (h2 : RDs T m H xs vs) (ok : okSort xs = true) (h : PostK T (mkL new (xs.mergeSort leD) S) m H σ W (KQ T Q)) : rSortG T.K [.ref p] H Q := by
  obtain ⟨ps, e, q1, q2, q3, q4, _, q6⟩ := sort_core r h2 ok h
  exact ⟨p, ps, rfl, by rw [e]; exact h1, q1, q2, q3, q4, q6⟩
theorem rds_keys : ∀ ks : List Key, RDs T m H (ks.map keyD) (ks.map kV)
  | [] => rfl
  | k :: ks => ⟨_, _, rfl, by cases k <;> rfl, rds_keys ks⟩
theorem keysD_rd : ∀ {l : List (List Key × D)} {t : TVs}, t.map (·.1) = l.map (·.1) → (∀ q ∈ t, SqT T.K H q.2.1 (q.1.map kV)) → RDs T m H (l.map fun q => .tup (q.1.map keyD)) (t.map fun q => V.ref q.2.1)
  | [], [], _, _ => rfl
  | [], _ :: _, h, _ => by simp at h
  | _ :: _, [], h, _ => by simp at h
  | a :: l, b :: t, h, k => by
    rw [List.map_cons, List.map_cons] at h
    injection h with h1 h2
    refine ⟨_, _, rfl, ⟨b.2.1, _, rfl, k b List.mem_cons_self, ?_⟩, keysD_rd h2 fun q hq => k q (List.mem_cons_of_mem _ hq)⟩
    rw [h1]
    exact rds_keys _
theorem tvs_keys {ks : List (List Key)} {as : List Addr} {vs : List V} (h1 : as.length = ks.length) (h2 : vs.length = ks.length) : (tvs ks as vs).map (·.1) = ks := by
  unfold tvs
  rw [List.map_map]
  exact List.map_fst_zip (by simp; omega)
theorem sortT_use {new : Bool} {kvs : List (List Key × D)} (r : RS T m H S) (e : dttOf S dx = some kvs) (hx : RD T m H dx x) (ok : okSort (kvs.map fun q => .tup (q.1.map keyD)) = true) (h : PostK T (mkL new ((kvs.map fun q => D.tup (q.1.map keyD)).mergeSort leD) S) m H σ W (KQ T Q)) : rSortS T.P T.w T.K [x] H Q := by
  obtain ⟨l, a, as, vs, _, _, _, rfl, h2, h3, h4, h5, h6⟩ := dtt_at r e hx
  obtain ⟨ps, e, q1, q2, q3, q4, q5, q6⟩ := sort_core r (keysD_rd (tvs_keys (by simpa using h3) (by simpa using h4)) h5) ok h
  exact ⟨a, _, ps, rfl, h2, e, q1, q2, q3, q4, q5, q6⟩
/-- a pair of a dict's list -/
theorem pairT_use {d : D} {q : List Key × D} {v : V} (e : pairT d = some q) (h : RD T m H d v) : ∃ p b u, v = .ref p ∧ SqT T.K H p [.ref b, u] ∧ SqT T.K H b (q.1.map kV) ∧ RD T m H q.2 u := by
  unfold pairT at e
  split at e
  · rename_i k x
    obtain ⟨ks, e1, rfl⟩ := Option.map_eq_some_iff.mp e
    obtain ⟨p, vs, h1, h2, u, r, h3, h4, w, r2, h5, h6, h7⟩ := h
    cases (show r2 = [] from h7)
    subst h3
    subst h5
    obtain ⟨b, e2, e3⟩ := tkD_use e1 h4
    subst e2
    exact ⟨p, b, w, h1, h2, e3, h6⟩
  · cases e
theorem pairsT_use : ∀ {ds : List D} {vs : List V} {l : List (List Key × D)}, pairsT ds = some l → RDs T m H ds vs →
    ∃ (ps as : List Addr) (us : List V), vs = ps.map V.ref ∧ as.length = l.length ∧ us.length = l.length ∧ Paired (fun p kv => SqT T.K H p [.ref kv.2.1, kv.2.2] ∧ SqT T.K H kv.2.1 (kv.1.map kV)) ps (tvs (l.map (·.1)) as us) ∧ RDs T m H (l.map (·.2)) us
  | [], vs, l, e, h => by
    cases e
    exact ⟨[], [], [], h, rfl, rfl, .nil, rfl⟩
  | d :: ds, vs, l, e, h => by
    obtain ⟨v, r, h1, h2, h3⟩ := h
    unfold pairsT at e
    cases e1 : pairT d with
    | none =>
      rw [e1] at e
      cases e
    | some q =>
      cases e2 : pairsT ds with
      | none =>
        rw [e1, e2] at e
        cases e
      | some l2 =>
        rw [e1, e2] at e
        cases e
        obtain ⟨p, b, u, k1, k2, k3, k4⟩ := pairT_use e1 h2
        obtain ⟨ps, as, us, j1, j2, j3, j4, j5⟩ := pairsT_use e2 h3
        refine ⟨p :: ps, b :: as, u :: us, by rw [h1, k1, j1]; rfl, by simp [j2], by simp [j3], ?_, ⟨u, us, rfl, k4, j5⟩⟩
        show Paired _ (p :: ps) ((q.1, b, u) :: tvs (l2.map (·.1)) as us)
        exact .cons ⟨k2, k3⟩ j4
/-- a dict's keys and values, told three ways -/
structure TT3 (T : Ad) (m : Mp) (H : Hp) (l : List (List Key × D)) (t : TVs) : Prop where
  k : t.map (·.1) = l.map (·.1)
  v : RDs T m H (l.map (·.2)) (t.map (·.2.2))
  s : ∀ q ∈ t, SqT T.K H q.2.1 (q.1.map kV)
theorem RDs.setAt {k : List Key} {d : D} {v : V} (hv : RD T m H d v) : ∀ {l : List (List Key × D)} {t : TVs}, t.map (·.1) = l.map (·.1) → RDs T m H (l.map (·.2)) (t.map (·.2.2)) →
    RDs T m H ((l.map fun q => if q.1 = k then (q.1, d) else q).map (·.2)) ((t.map fun q => if q.1 = k then (q.1, q.2.1, v) else q).map (·.2.2))
  | [], [], _, _ => rfl
  | [], _ :: _, h, _ => by simp at h
  | _ :: _, [], h, _ => by simp at h
  | a :: l, b :: t, h, r => by
    rw [List.map_cons, List.map_cons] at h
    injection h with h1 h2
    obtain ⟨w, r2, e1, e2, e3⟩ := r
    rw [List.map_cons] at e1
    injection e1 with e4 e5
    subst e5
    have ih := RDs.setAt (k := k) hv h2 e3
    simp only [List.map_cons]
    by_cases c : a.1 = k
    · rw [if_pos c, if_pos (h1.trans c)]
      exact ⟨v, _, rfl, hv, ih⟩
    · rw [if_neg c, if_neg (fun z => c (h1.symm.trans z))]
      exact ⟨w, _, by rw [e4], e2, ih⟩
theorem any_keys {k : List Key} : ∀ {l : List (List Key × D)} {t : TVs}, t.map (·.1) = l.map (·.1) → (t.any fun q => decide (q.1 = k)) = l.any fun q => decide (q.1 = k)
  | [], [], _ => rfl
  | [], _ :: _, h => by simp at h
  | _ :: _, [], h => by simp at h
  | a :: l, b :: t, h => by
    rw [List.map_cons, List.map_cons] at h
    injection h with h1 h2
    rw [List.any_cons, List.any_cons, any_keys h2, h1]
theorem TT3.set {l : List (List Key × D)} {t : TVs} {k : List Key} {d : D} {v : V} {b : Addr} (h : TT3 T m H l t) (hv : RD T m H d v) (hb : SqT T.K H b (k.map kV)) : TT3 T m H (setT l k d) (setTV t k b v) := by
  unfold setT setTV
  rw [any_keys h.k]
  split
  · refine ⟨?_, RDs.setAt hv h.k h.v, fun q hq => ?_⟩
    · have e1 : ∀ t : TVs, (t.map fun q => if q.1 = k then (q.1, q.2.1, v) else q).map (·.1) = t.map (·.1) := fun t => by
        rw [List.map_map]
        exact List.map_congr_left fun q _ => by by_cases c : q.1 = k <;> simp [c]
      have e2 : (l.map fun q => if q.1 = k then (q.1, d) else q).map (·.1) = l.map (·.1) := by
        rw [List.map_map]
        exact List.map_congr_left fun q _ => by by_cases c : q.1 = k <;> simp [c]
      rw [e1, e2, h.k]
    · obtain ⟨q0, h0, rfl⟩ := List.mem_map.mp hq
      have := h.s q0 h0
      by_cases c : q0.1 = k <;> simp only [c, if_true, if_false] at this ⊢ <;> exact this
  · refine ⟨by rw [List.map_append, List.map_append, h.k]; rfl, ?_, fun q hq => ?_⟩
    · rw [List.map_append, List.map_append]
      exact h.v.append (RDs.one hv)
    · rcases List.mem_append.mp hq with hq | hq
      · exact h.s q hq
      · cases (show q = (k, b, v) by simpa using hq)
        exact hb
theorem TT3.fold : ∀ {r : List (List Key × D)} {as : List Addr} {us : List V} {ps : List Addr} {l : List (List Key × D)} {t : TVs}, as.length = r.length → us.length = r.length → Paired (fun p kv => SqT T.K H p [.ref kv.2.1, kv.2.2] ∧ SqT T.K H kv.2.1 (kv.1.map kV)) ps (tvs (r.map (·.1)) as us) → RDs T m H (r.map (·.2)) us →
    TT3 T m H l t → TT3 T m H (foldT l r) (foldV t (tvs (r.map (·.1)) as us))
  | [], as, us, ps, l, t, _, _, _, _, h => h
  | q :: r, [], us, ps, l, t, h, _, _, _, _ => by simp at h
  | q :: r, a :: as, [], ps, l, t, _, h, _, _, _ => by simp at h
  | q :: r, a :: as, u :: us, ps, l, t, h1, h2, pr, hv, h => by
    obtain ⟨w, r2, e1, e2, e3⟩ := hv
    cases e1
    have pr : Paired (fun p kv => SqT T.K H p [.ref kv.2.1, kv.2.2] ∧ SqT T.K H kv.2.1 (kv.1.map kV)) ps ((q.1, a, u) :: tvs (r.map (·.1)) as us) := pr
    cases pr with
    | cons p1 p2 => exact TT3.fold (r := r) (as := as) (us := us) (by simpa using h1) (by simpa using h2) p2 e3 (h.set e2 p1.2)
theorem tvs_of {T : Ad} {m : Mp} {H : Hp} {l : List (List Key × D)} {t : TVs} (h : TT3 T m H l t) : tvs (l.map (·.1)) (t.map (·.2.1)) (t.map (·.2.2)) = t := by
  rw [← h.k]
  unfold tvs
  clear h
  induction t with
  | nil => rfl
  | cons a t ih =>
    simp only [List.map_cons, List.zip_cons_cons]
    rw [ih]
theorem dict_use {xs : List D} {vs : List V} {p : Addr} {l : List (List Key × D)} (r : RS T m H S) (h1 : SqL T.K H p vs) (h2 : RDs T m H xs vs) (e : pairsT xs = some l) (h : PostK T (.ok (mkTdc (foldT [] l)) S) m H σ W (KQ T Q)) : rDictS T.P T.w T.K [.ref p] H Q := by
  obtain ⟨ps, as, us, j1, j2, j3, j4, j5⟩ := pairsT_use e h2
  subst j1
  refine ⟨p, ps, _, rfl, h1, j4, fun q hq => ?_⟩
  have t3 : TT3 T m H (foldT [] l) (foldV [] (tvs (l.map (·.1)) as us)) := TT3.fold j2 j3 j4 j5 ⟨rfl, rfl, fun q hq => by simp at hq⟩
  have en := Ext.new (o := DictS T.P T.w q (foldV [] (tvs (l.map (·.1)) as us))) r hq
  refine h _ _ en (r.new hq) _ ⟨q, (foldV [] (tvs (l.map (·.1)) as us)).map (·.2.1), (foldV [] (tvs (l.map (·.1)) as us)).map (·.2.2), rfl, ?_, r.notin hq, ?_, ?_, fun z hz => ?_, RDs.ext en _ _ t3.v⟩
  · rw [tvs_of t3]
    exact upd_same
  · rw [List.length_map, ← List.length_map (f := (·.1)), t3.k]
  · rw [List.length_map, ← List.length_map (f := (·.1)), t3.k]
  · rw [tvs_of t3] at hz
    exact en.toExt0.sqt (t3.s z hz)
theorem bf_use {new : Bool} {f : Bfn} (r : RS T m H S) (hx : RD T m H dx x) (h : PostK T (bfV new f dx S) m H σ W (KQ T Q)) : rBf T.P T.w T.K f [x] H Q := by
  cases f with
  | len =>
    have lists : PostK T (match lstOf S dx with | some xs => .ok (.int xs.length) S | none => .stuck) m H σ W (KQ T Q) → rBf T.P T.w T.K .len [x] H Q := fun h => by
      obtain ⟨xs, e, h⟩ := some_L h
      obtain ⟨p, vs, rfl, h2, h3⟩ := lst_of r e hx
      exact .inl (.inl ⟨p, vs, rfl, .inl (SqL.of h2), by rw [h3.length]; exact ok_use r h rfl⟩)
    cases dx with
    | tup xs =>
      obtain ⟨p, vs, rfl, h2, h3⟩ := tup_of hx
      exact .inl (.inl ⟨p, vs, rfl, .inr h2, by rw [h3.length]; exact ok_use r h rfl⟩)
    | str z =>
      obtain rfl := rd_str hx
      obtain ⟨hz, h⟩ := ite_use (show PostK T (if isz z.length then .ok (.int z.length) S else .stuck) m H σ W (KQ T Q) from h)
      exact .inr ⟨z, rfl, isz_of hz, ok_use r h rfl⟩
    | scr ns =>
      obtain ⟨p, rfl, h2⟩ := scr_of hx
      exact .inl (.inl ⟨p, _, rfl, .inl h2, by rw [List.length_map]; exact ok_use r h rfl⟩)
    | tdc ks ds =>
      obtain ⟨hz, h⟩ := ite_use (show PostK T (if isz (ks.zip ds).length then .ok (.int (ks.zip ds).length) S else .stuck) m H σ W (KQ T Q) from h)
      obtain ⟨p, as, vs, h1, h2, _, h3, h4, h5, h6⟩ := hx
      have hl : (tvs ks as vs).length = (ks.zip ds).length := by
        unfold tvs
        rw [List.length_map, List.length_zip, List.length_zip, List.length_zip, h3, h4, ← h6.length, h4]
        simp
      have hz := isz_of hz
      rw [← hl] at hz
      rw [sizeLine_eq] at hz
      exact .inl (.inr ⟨p, _, by rw [h1], .inl h2, h5, by omega, by rw [hl]; exact ok_use r h rfl⟩)
    | _ => exact lists h
  | int =>
    cases dx with
    | int i =>
      obtain rfl := rd_int hx
      exact .inl (.inl ⟨i, rfl, ok_use r h rfl⟩)
    | bl b =>
      obtain rfl := rd_bl hx
      exact .inl (.inr ⟨b, rfl, ok_use r h rfl⟩)
    | str a =>
      obtain rfl := rd_str hx
      obtain ⟨n, e, h⟩ := some_I (show PostK T (match PySem.intText? a with | some n => if decide (a.length ≤ 640) then .ok (.int n) S else .stuck | none => .stuck) m H σ W (KQ T Q) from h)
      obtain ⟨hz, h⟩ := ite_use h
      exact .inr ⟨a, n, rfl, e, of_decide_eq_true hz, ok_use r h rfl⟩
    | _ => exact absurd h (by simp [bfV, PostK])
  | abs =>
    cases dx with
    | int i =>
      obtain rfl := rd_int hx
      exact ⟨i, rfl, ok_use r h rfl⟩
    | _ => exact absurd h (by simp [bfV, PostK])
  | sum =>
    obtain ⟨xs, e, h⟩ := some_L (show PostK T (match lstOf S dx with | some xs => (match intsOf xs with | some ns => .ok (.int ns.sum) S | none => .stuck) | none => .stuck) m H σ W (KQ T Q) from h)
    obtain ⟨ns, e2, h⟩ := some_LI h
    obtain ⟨p, vs, rfl, h2, h3⟩ := lst_of r e hx
    rw [intsOf_use e2 h3] at h2
    exact ⟨p, ns, rfl, SqL.of h2, ok_use r h rfl⟩
  | max =>
    obtain ⟨xs, e, h⟩ := some_L (show PostK T (match lstOf S dx with | some xs => (match intsOf xs with | some ns => (match ns.max? with | some m => .ok (.int m) S | none => .stuck) | none => .stuck) | none => .stuck) m H σ W (KQ T Q) from h)
    obtain ⟨ns, e2, h⟩ := some_LI h
    obtain ⟨p, vs, rfl, h2, h3⟩ := lst_of r e hx
    rw [intsOf_use e2 h3] at h2
    cases em : ns.max? with
    | none =>
      rw [em] at h
      exact h.elim
    | some mx =>
      rw [em] at h
      obtain ⟨m1, m2⟩ := List.max?_eq_some_iff.mp em
      refine ⟨p, ns, rfl, SqL.of h2, List.length_pos_of_mem m1, fun y hy hle => ?_⟩
      have : y = mx := Int.le_antisymm (m2 y hy) (hle mx m1)
      rw [this]
      exact ok_use r h rfl
  | all =>
    obtain ⟨xs, e, h⟩ := some_L (show PostK T (match lstOf S dx with | some xs => (match blsOf xs with | some ns => .ok (.bl (ns.all id)) S | none => .stuck) | none => .stuck) m H σ W (KQ T Q) from h)
    obtain ⟨ns, e2, h⟩ := some_LB h
    obtain ⟨p, vs, rfl, h2, h3⟩ := lst_of r e hx
    rw [blsOf_use e2 h3] at h2
    exact ⟨p, ns, rfl, SqL.of h2, ok_use r h rfl⟩
  | any =>
    obtain ⟨xs, e, h⟩ := some_L (show PostK T (match lstOf S dx with | some xs => (match blsOf xs with | some ns => .ok (.bl (ns.any id)) S | none => .stuck) | none => .stuck) m H σ W (KQ T Q) from h)
    obtain ⟨ns, e2, h⟩ := some_LB h
    obtain ⟨p, vs, rfl, h2, h3⟩ := lst_of r e hx
    rw [blsOf_use e2 h3] at h2
    exact ⟨p, ns, rfl, SqL.of h2, ok_use r h rfl⟩
  | list =>
    have lists : PostK T (match lstOf S dx with | some xs => mkL new xs S | none => .stuck) m H σ W (KQ T Q) → rBf T.P T.w T.K .list [x] H Q := fun h => by
      obtain ⟨xs, e, h⟩ := some_L h
      obtain ⟨p, vs, rfl, h2, h3⟩ := lst_of r e hx
      exact .inl ⟨p, vs, rfl, .inl (SqL.of h2), (mkL_use r h h3).2⟩
    cases dx with
    | tup xs =>
      obtain ⟨p, vs, rfl, h2, h3⟩ := tup_of hx
      exact .inl ⟨p, vs, rfl, .inr h2, (mkL_use r (show PostK T (mkL new xs S) m H σ W (KQ T Q) from h) h3).2⟩
    | str z =>
      obtain rfl := rd_str hx
      have hh : PostK T (mkL new (z.cps.toList.map fun c => .str ⟨#[c]⟩) S) m H σ W (KQ T Q) := h
      have h3 : RDs T m H (z.cps.toList.map fun c => .str ⟨#[c]⟩) (z.cps.toList.map fun c => V.str ⟨#[c]⟩) := by
        generalize z.cps.toList = l
        induction l with
        | nil => rfl
        | cons a l ih => exact ⟨_, _, rfl, rfl, ih⟩
      obtain ⟨h4, h5⟩ := mkL_use r hh h3
      refine .inr ⟨z, rfl, ?_, h5⟩
      rw [List.length_map] at h4
      exact h4
    | _ => exact lists h
  | tuple =>
    have lists : PostK T (match lstOf S dx with | some xs => mkT xs S | none => .stuck) m H σ W (KQ T Q) → rBf T.P T.w T.K .tuple [x] H Q := fun h => by
      obtain ⟨xs, e, h⟩ := some_L h
      obtain ⟨p, vs, rfl, h2, h3⟩ := lst_of r e hx
      exact ⟨p, vs, rfl, .inl ⟨SqL.of h2, (mkT_use r h h3).2⟩⟩
    cases dx with
    | tup xs =>
      obtain ⟨p, vs, rfl, h2, h3⟩ := tup_of hx
      exact ⟨p, vs, rfl, .inr ⟨h2, ok_use r (show PostK T (.ok (.tup xs) S) m H σ W (KQ T Q) from h) ⟨p, vs, rfl, h2, h3⟩⟩⟩
    | _ => exact lists h
  | dict =>
    obtain ⟨xs, e, h⟩ := some_L (show PostK T (match lstOf S dx with | some xs => (match pairsT xs with | some l => .ok (mkTdc (foldT [] l)) S | none => .stuck) | none => .stuck) m H σ W (KQ T Q) from h)
    cases ep : pairsT xs with
    | none =>
      rw [ep] at h
      exact h.elim
    | some l =>
      rw [ep] at h
      obtain ⟨p, vs, rfl, h2, h3⟩ := lst_of r e hx
      exact dict_use r (SqL.of h2) h3 ep h
  | sorted =>
    have h : PostK T (match dttOf S dx with | some kvs => (if okSort (kvs.map fun q => D.tup (q.1.map keyD)) then mkL new ((kvs.map fun q => D.tup (q.1.map keyD)).mergeSort leD) S else .stuck) | none => (match lstOf S dx with | some xs => (if okSort xs then mkL new (xs.mergeSort leD) S else .stuck) | none => .stuck)) m H σ W (KQ T Q) := h
    cases e0 : dttOf S dx with
    | some kvs =>
      rw [e0] at h
      obtain ⟨c, h⟩ := ite_use h
      exact .inr (sortT_use r e0 hx c h)
    | none =>
      rw [e0] at h
      obtain ⟨xs, e, h⟩ := some_L h
      obtain ⟨c, h⟩ := ite_use h
      obtain ⟨p, vs, rfl, h2, h3⟩ := lst_of r e hx
      exact .inl (sort_use r (SqL.of h2) h3 c h)
  | str =>
    cases dx with
    | tup xs =>
      obtain ⟨c, h⟩ := ite_use (show PostK T (if okRepr (.tup xs) then .ok (.str (D.pd (.tup xs)).shown) S else .stuck) m H σ W (KQ T Q) from h)
      obtain ⟨c1, c2, c3, c4, c5⟩ := okRepr_use c
      obtain ⟨p, vs, e, _⟩ := id hx
      subst e
      exact ⟨p, _, rfl, RD.dp _ _ hx c1, c2, c3, c4, c5, ok_use r h rfl⟩
    | _ => exact h.elim
  | repr =>
    have go : ∀ {e : D} {p : Addr}, x = .ref p → RD T m H e x → PostK T (if okRepr e then .ok (.str e.pd.shown) S else .stuck) m H σ W (KQ T Q) → rBf T.P T.w T.K .repr [x] H Q := fun {e p} ex he h => by
      obtain ⟨c, h⟩ := ite_use h
      obtain ⟨c1, c2, c3, c4, c5⟩ := okRepr_use c
      subst ex
      exact .inl ⟨p, _, rfl, RD.dp _ _ he c1, c2, c3, c4, c5, ok_use r h rfl⟩
    cases dx with
    | tup xs =>
      obtain ⟨p, vs, e, _⟩ := id hx
      exact go e hx h
    | lst xs =>
      obtain ⟨p, vs, e, _⟩ := id hx
      exact go e hx h
    | ref l =>
      unfold bfV at h
      simp only [view] at h
      cases e : S[l]? with
      | none =>
        rw [e] at h
        exact h.elim
      | some ob =>
        rw [e] at h
        cases ob with
        | dct _ => exact h.elim
        | obj _ _ => exact h.elim
        | dtt _ => exact h.elim
        | dtl _ => exact h.elim
        | lst xs =>
          have h : PostK T (if okRepr (.lst xs) then .ok (.str (D.pd (.lst xs)).shown) S else .stuck) m H σ W (KQ T Q) := h
          obtain ⟨c, h⟩ := ite_use h
          obtain ⟨c1, c2, c3, c4, c5⟩ := okRepr_use c
          obtain ⟨p, q1, q2⟩ := id hx
          subst q2
          have hv := view_dp (T := T) r hx (show (view S (.ref l)).plain = true by simp only [view, e]; exact c1)
          simp only [view, e] at hv
          exact .inl ⟨p, _, rfl, hv, c2, c3, c4, c5, ok_use r h rfl⟩
    | non =>
      cases (show x = V.non from hx)
      exact .inr ⟨rfl, ok_use r (show PostK T (.ok (.str "None") S) m H σ W (KQ T Q) from h) rfl⟩
    | _ => exact absurd h (by simp [bfV, view, PostK])
def tyNm : Ty → Str
  | .bool => "bool"
  | .int => "int"
  | .str => "str"
  | .list => "list"
  | .tuple => "tuple"
  | .dict => "dict"
def tyId : Ty → String
  | .bool => "bool"
  | .int => "int"
  | .str => "str"
  | .list => "list"
  | .tuple => "tuple"
  | .dict => "dict"
theorem ty_boot (t : Ty) : bootBuiltins (tyNm t) = some (.type (tyId t)) := by
  cases t <;> decide +kernel
theorem lst_tyx {p : Addr} {vs : List V} (h : SqL T.K H p vs) : TyX T.K H (.ref p) (.type "list") := by
  rcases h with (h | ⟨o, h⟩) | h
  · exact .base (.lst h)
  · exact .base (.frz h)
  · obtain ⟨o, its, n, h1, h2, _⟩ := h
    exact .kList h1 h2
theorem tup_tyx {p : Addr} {vs : List V} (h : SqT T.K H p vs) : TyX T.K H (.ref p) (.type "tuple") := by
  rcases h with (h | ⟨o, h⟩) | h
  · exact .base (.tup h)
  · exact .fTuple h
  · obtain ⟨o, its, n, h1, h2, _⟩ := h
    exact .kTuple h1 h2
theorem isi_use {t : Ty} (r : RS T m H S) (hx : RD T m H dx x) (h : PostK T (ofB (isiD S t dx) S) m H σ W (KQ T Q)) : rIsi T.K [x, .ty (tyId t)] H Q := by
  obtain ⟨b, e, k⟩ := ofB_use r h
  have go : ∀ {u : Value}, TyX T.K H x u → PySem.W.kitOne T.K u (.type (tyId t)) = some b → rIsi T.K [x, .ty (tyId t)] H Q := fun tx kk => ⟨x, _, _, _, b, rfl, .ty _, tx, kk, k⟩
  cases dx with
  | non =>
    obtain rfl := rd_non hx
    refine go (.base .non) ?_
    cases t <;> cases e <;> rfl
  | bl y =>
    obtain rfl := rd_bl hx
    refine go (.base (.bl y)) ?_
    cases t <;> cases e <;> rfl
  | int y =>
    obtain rfl := rd_int hx
    refine go (.base (.int y)) ?_
    cases t <;> cases e <;> rfl
  | str y =>
    obtain rfl := rd_str hx
    refine go (.base (.str y)) ?_
    cases t <;> cases e <;> rfl
  | tup xs =>
    obtain ⟨p, vs, rfl, h2, h3⟩ := tup_of hx
    refine go (tup_tyx h2) ?_
    cases t <;> cases e <;> rfl
  | lst xs =>
    obtain ⟨p, vs, rfl, h2, h3⟩ := lst_of r rfl hx
    refine go (lst_tyx (SqL.of h2)) ?_
    cases t <;> cases e <;> rfl
  | scr ns =>
    obtain ⟨p, rfl, h2⟩ := scr_of hx
    refine go (lst_tyx h2) ?_
    cases t <;> cases e <;> rfl
  | fn _ => cases e
  | tdc _ _ => cases e
  | ref l =>
    unfold isiD at e
    simp only at e
    cases e2 : S[l]? with
    | none =>
      rw [e2] at e
      cases e
    | some ob =>
      cases ob with
      | lst xs =>
        rw [e2] at e
        obtain ⟨p, vs, rfl, h2, h3⟩ := lst_of (xs := xs) r (by simp only [lstOf, e2]) hx
        refine go (lst_tyx (SqL.of h2)) ?_
        cases t <;> cases e <;> rfl
      | dct kvs =>
        obtain ⟨p, q1, q2⟩ := hx
        obtain ⟨o, q4, ws, q3, _⟩ := r.at_ l _ p e2 q1
        subst q3
        subst q2
        rw [e2] at e
        refine go (.base (.dK q4)) ?_
        cases t <;> cases e <;> rfl
      | dtt kvs =>
        rw [e2] at e
        cases t <;> cases e
      | dtl kvs =>
        rw [e2] at e
        cases t <;> cases e
      | obj c fs =>
        rw [e2] at e
        cases t <;> cases e
end
end Ev
namespace Ev
open PySem PySem.Spec L2 PyProof.Rows
section
variable {T : Ad} {m : Mp} {H : Hp} {σ : L2.St} {W : WX} {S : Store} {Q : VK} {dx dy : D} {x y : V}
theorem RDs.dropLast : ∀ {ds : List D} {vs : List V}, RDs T m H ds vs → RDs T m H ds.dropLast vs.dropLast := fun {ds vs} h => by
  rw [List.dropLast_eq_take, List.dropLast_eq_take, h.length]
  exact h.take _
theorem RDs.eraseIdx : ∀ {ds : List D} {vs : List V} (k : Nat), RDs T m H ds vs → RDs T m H (ds.eraseIdx k) (vs.eraseIdx k)
  | [], vs, k, h => by
    cases (show vs = [] from h)
    exact rfl
  | d :: ds, vs, 0, h => by
    obtain ⟨v, r, rfl, h2, h3⟩ := h
    exact h3
  | d :: ds, vs, k + 1, h => by
    obtain ⟨v, r, rfl, h2, h3⟩ := h
    exact ⟨v, r.eraseIdx k, rfl, h2, RDs.eraseIdx k h3⟩
def mtNm : Mt → Str
  | .append => "append"
  | .extend => "extend"
  | .clear => "clear"
  | .join => "join"
  | .split => "split"
  | .sindex => "index"
  | .lindex => "index"
  | .upper => "upper"
  | .splitN => "split"
  | .pop => "pop"
  | .popAt => "pop"
  | .reverse => "reverse"
def mtId : Mt → String
  | .append => "list.append"
  | .extend => "list.extend"
  | .clear => "list.clear"
  | .join => "str.join"
  | .split => "str.split"
  | .sindex => "str.index"
  | .lindex => "list.index"
  | .upper => "str.upper"
  | .splitN => "str.split"
  | .pop => "list.pop"
  | .popAt => "list.pop"
  | .reverse => "list.reverse"
def mtTy : Mt → String
  | .append => "list"
  | .extend => "list"
  | .clear => "list"
  | .join => "str"
  | .split => "str"
  | .sindex => "str"
  | .lindex => "list"
  | .upper => "str"
  | .splitN => "str"
  | .pop => "list"
  | .popAt => "list"
  | .reverse => "list"
abbrev RM := V → List V → Hp → VK → Prop
def rM (K : PySem.W.Frag) : Mt → RM
  | .append => rAppend
  | .extend => rExtend
  | .clear => rClear
  | .join => fun x xs H Q => ∃ a p, ∃ ys : List Str, x = .str a ∧ xs = [.ref p] ∧ (SqL K H p (ys.map V.str) ∨ SqT K H p (ys.map V.str)) ∧ (ys.map (·.length)).sum + ys.length * a.length ≤ 16777216 ∧ Q (.str (Txt.join a ys)) H
  | .split => fun x xs H Q => ∃ a b, x = .str a ∧ xs = [.str b] ∧ (b.length == 0) = false ∧ a.length + 2 ≤ sizeLine ∧ rNewStrs (Txt.split a b) H Q
  | .sindex => fun x xs H Q => ∃ a b i rest, x = .str a ∧ xs = [.str b] ∧ Builtin.Str.occurrences a b 0 a.length 1 = i :: rest ∧ Q (.int (i : Nat)) H
  | .lindex => rIndex K
  | .pop => rPop
  | .popAt => rPopAt
  | .reverse => rReverse
  | .upper => fun x xs H Q => ∃ a, x = .str a ∧ xs = [] ∧ a.length ≤ 5592405 ∧ Q (.str (Txt.upper a)) H
  | .splitN => fun x xs H Q => ∃ a b, x = .str a ∧ xs = [.str b] ∧ (b.length == 0) = false ∧ a.length + 2 ≤ sizeLine ∧ rNewStrs (Txt.split a b) H Q
structure MtF (X : Cx) (m : Mt) : Prop where
  pa : PlainAttrs (mtTy m)
  slot : Slot (mtTy m) (mtNm m) (mtId m)
  hty : typeOf (.builtin (mtId m)) = pure (.type "method_descriptor")
  hm : MtR X (mtId m) (rM X.K m)
theorem mtF {X : Cx} : ∀ m : Mt, MtF X m
  | .append => ⟨PySem.F.plainAttrs_list, PySem.F.slot_list_append, PySem.F.type_list_append, mt_append⟩
  | .extend => ⟨PySem.F.plainAttrs_list, PySem.F.slot_list_extend, PySem.F.type_list_extend, mt_extend⟩
  | .clear => ⟨PySem.F.plainAttrs_list, PySem.F.slot_list_clear, PySem.F.type_list_clear, mt_clear⟩
  | .join => ⟨PySem.F.plainAttrs_str, PySem.F.slot_str_join, PySem.F.type_str_join, mt_join⟩
  | .split => ⟨PySem.F.plainAttrs_str, PySem.F.slot_str_split, PySem.F.type_str_split, mt_split⟩
  | .sindex => ⟨PySem.F.plainAttrs_str, PySem.F.slot_str_index, PySem.F.type_str_index, mt_sindex⟩
  | .lindex => ⟨PySem.F.plainAttrs_list, PySem.F.slot_list_index, PySem.F.type_list_index, mt_index⟩
  | .pop => ⟨PySem.F.plainAttrs_list, PySem.F.slot_list_pop, PySem.F.type_list_pop, mt_pop⟩
  | .popAt => ⟨PySem.F.plainAttrs_list, PySem.F.slot_list_pop, PySem.F.type_list_pop, mt_popAt⟩
  | .reverse => ⟨PySem.F.plainAttrs_list, PySem.F.slot_list_reverse, PySem.F.type_list_reverse, mt_reverse⟩
  | .upper => ⟨PySem.F.plainAttrs_str, PySem.F.slot_str_upper, PySem.F.type_str_upper, mt_upper⟩
  | .splitN => ⟨PySem.F.plainAttrs_str, PySem.F.slot_str_split, PySem.F.type_str_split, mt_split⟩
theorem isStr_of {o : D} (h : mtOk.isStr o = true) : ∃ a, o = .str a := by
  cases o <;> simp [mtOk.isStr] at h
  exact ⟨_, rfl⟩
theorem isCell_of {o : D} (h : mtOk.isCell o S = true) : ∃ l xs, o = .ref l ∧ S[l]? = some (.lst xs) := by
  cases o <;> simp [mtOk.isCell] at h
  rename_i l
  cases e : S[l]? with
  | none =>
    rw [e] at h
    cases h
  | some ob =>
    rw [e] at h
    cases ob with
    | lst xs => exact ⟨l, xs, rfl, e⟩
    | dct _ => cases h
    | obj _ _ => cases h
    | dtt _ => cases h
    | dtl _ => cases h
theorem mtOk_use {mt : Mt} (r : RS T m H S) (h : mtOk mt dx S = true) (hx : RD T m H dx x) : tyV T.K (mtTy mt) x H := by
  have st : mtOk.isStr dx = true → tyV T.K "str" x H := fun h => by
    obtain ⟨a, rfl⟩ := isStr_of h
    obtain rfl := rd_str hx
    rfl
  have ce : mtOk.isCell dx S = true → tyV T.K "list" x H := fun h => by
    obtain ⟨l, xs, rfl, e⟩ := isCell_of h
    obtain ⟨p, vs, rfl, h2, h3⟩ := lst_of r (show lstOf S (.ref l) = some xs by simp only [lstOf, e]) hx
    exact .inl ⟨rfl, vs, SqL.of h2⟩
  cases mt with
  | append => exact ce h
  | extend => exact ce h
  | clear => exact ce h
  | join => exact st h
  | split => exact st h
  | sindex => exact st h
  | lindex =>
    obtain ⟨ys, e⟩ := Option.isSome_iff_exists.mp (show (lstOf S dx).isSome = true from h)
    obtain ⟨p, vs, rfl, h2, h3⟩ := lst_of r e hx
    exact .inl ⟨rfl, vs, SqL.of h2⟩
  | pop => exact ce h
  | popAt => exact ce h
  | reverse => exact ce h
  | upper => exact st h
  | splitN => exact st h
theorem cell_set {l : Nat} {ys : List D} {p : Addr} {vs ws : List V} (r : RS T m H S) (hp : m.c[l]? = some p) (hw : H p = some (.lst vs)) (hy : RDs T m H ys ws) (h : PostK T (.ok .non (S.set l (.lst ys))) m H σ W (KQ T Q)) : Q .non (upd H p (.lst ws)) :=
  h m _ (Ext.upd r hp hw Mu.lst) (r.upd hp hw hy) .non rfl
theorem cell_of {l : Nat} {f : List D → R D} {k : D → Store → Mp → Hp → Prop} (h : PostK T (match S[l]? with | some (.lst xs) => f xs | _ => .stuck) m H σ W k) : ∃ xs, S[l]? = some (.lst xs) ∧ PostK T (f xs) m H σ W k := by
  cases e : S[l]? with
  | none =>
    rw [e] at h
    exact h.elim
  | some ob =>
    rw [e] at h
    cases ob with
    | lst xs => exact ⟨xs, rfl, h⟩
    | dct _ => exact h.elim
    | obj _ _ => exact h.elim
    | dtt _ => exact h.elim
    | dtl _ => exact h.elim
theorem RDs.strs : ∀ (ys : List Str), RDs T m H (ys.map D.str) (ys.map V.str)
  | [] => rfl
  | n :: ns => ⟨_, _, rfl, rfl, RDs.strs ns⟩
theorem some_LS {o : Option (List Str)} {f : List Str → R D} {k : D → Store → Mp → Hp → Prop} (h : PostK T (match o with | some a => f a | none => .stuck) m H σ W k) : ∃ a, o = some a ∧ PostK T (f a) m H σ W k := by
  cases o with
  | none => exact h.elim
  | some a => exact ⟨a, rfl, h⟩
theorem mth1_use {mt : Mt} (r : RS T m H S) (hx : RD T m H dx x) (hy : RD T m H dy y) (h : PostK T (mthV mt dx [dy] S) m H σ W (KQ T Q)) : rM T.K mt x [y] H Q := by
  cases mt with
  | append =>
    cases dx with
    | ref l =>
      obtain ⟨xs, e, h⟩ := cell_of (f := fun xs => if decide (xs.length < sizeLine) then .ok .non (S.set l (.lst (xs ++ [dy]))) else .stuck) h
      obtain ⟨c, h⟩ := ite_use h
      obtain ⟨p, vs, h1, h2, h3⟩ := r.lst e
      obtain ⟨p', q1, rfl⟩ := hx
      rw [h1] at q1
      cases q1
      exact ⟨p, vs, y, rfl, rfl, h2, by rw [h3.length]; exact of_decide_eq_true c, cell_set r h1 h2 (h3.append (RDs.one hy)) h⟩
    | _ => exact absurd h (by simp [mthV, PostK])
  | extend =>
    cases dx with
    | ref l =>
      unfold mthV at h
      simp only at h
      cases e : S[l]? with
      | none =>
        rw [e] at h
        exact h.elim
      | some ob =>
      cases ob with
      | dct _ =>
        rw [e] at h
        exact h.elim
      | obj _ _ =>
        rw [e] at h
        exact h.elim
      | dtt _ =>
        rw [e] at h
        exact h.elim
      | dtl _ =>
        rw [e] at h
        exact h.elim
      | lst xs =>
      rw [e] at h
      simp only at h
      cases dy with
      | lst ys =>
        obtain ⟨c, h⟩ := ite_use h
        obtain ⟨p, vs, h1, h2, h3⟩ := r.lst e
        obtain ⟨p', q1, rfl⟩ := hx
        rw [h1] at q1
        cases q1
        obtain ⟨b, ws, rfl, k2, k3⟩ := hy
        exact ⟨p, b, vs, ws, rfl, rfl, h2, k2.1, by rw [h3.length, k3.length]; exact isz_of c, cell_set r h1 h2 (h3.append k3) h⟩
      | _ => exact h.elim
    | _ => exact absurd h (by simp [mthV, PostK])
  | clear => exact absurd h (by simp [mthV, PostK])
  | join =>
    cases dx with
    | str a =>
      obtain rfl := rd_str hx
      have h : PostK T (match (match dy with | .tup xs => some xs | x => lstOf S x) with | some xs => (match strsOf xs with | some ys => if decide (joinLen a ys ≤ 16777216) then .ok (.str (Txt.join a ys)) S else .stuck | none => .stuck) | none => .stuck) m H σ W (KQ T Q) := h
      obtain ⟨xs, e, h⟩ := some_L h
      obtain ⟨ys, e2, h⟩ := some_LS h
      obtain ⟨c, h⟩ := ite_use h
      have go : ∃ p vs, y = .ref p ∧ (SqL T.K H p vs ∨ SqT T.K H p vs) ∧ RDs T m H xs vs := by
        cases dy with
        | tup zs =>
          cases e
          obtain ⟨p, vs, h1, h2, h3⟩ := tup_of hy
          exact ⟨p, vs, h1, .inr h2, h3⟩
        | _ =>
          obtain ⟨p, vs, h1, h2, h3⟩ := lst_of r e hy
          exact ⟨p, vs, h1, .inl (SqL.of h2), h3⟩
      obtain ⟨p, vs, h1, h2, h3⟩ := go
      have := strsOf_use e2 h3
      subst this
      exact ⟨a, p, ys, rfl, by rw [h1], h2, of_decide_eq_true c, ok_use r h rfl⟩
    | _ => exact absurd h (by simp [mthV, PostK])
  | split =>
    cases dx with
    | str a =>
      cases dy with
      | str b =>
        obtain rfl := rd_str hx
        obtain rfl := rd_str hy
        obtain ⟨c, h⟩ := ite_use (show PostK T (if !(b.length == 0) && isz (a.length + 2) then .ok (.lst ((Txt.split a b).map .str)) S else .stuck) m H σ W (KQ T Q) from h)
        rw [Bool.and_eq_true, Bool.not_eq_true'] at c
        refine ⟨a, b, rfl, rfl, c.1, isz_of c.2, fun p hp => ?_⟩
        exact h _ _ (Ext.new r hp) (r.new hp) _ ⟨p, _, rfl, ⟨upd_same, r.notin hp⟩, RDs.strs _⟩
      | _ => exact absurd h (by simp [mthV, PostK])
    | _ => exact absurd h (by simp [mthV, PostK])
  | sindex =>
    cases dx with
    | str a =>
      cases dy with
      | str b =>
        obtain rfl := rd_str hx
        obtain rfl := rd_str hy
        have h : PostK T (match Builtin.Str.occurrences a b 0 a.length 1 with | i :: _ => .ok (.int (i : Nat)) S | [] => .stuck) m H σ W (KQ T Q) := h
        cases e : Builtin.Str.occurrences a b 0 a.length 1 with
        | nil =>
          rw [e] at h
          exact h.elim
        | cons i rest =>
          rw [e] at h
          exact ⟨a, b, i, rest, rfl, rfl, e, ok_use r h rfl⟩
      | _ => exact absurd h (by simp [mthV, PostK])
    | _ => exact absurd h (by simp [mthV, PostK])
  | lindex =>
    have h : PostK T (match lstOf S dx with | some ys => (if flatD dy && ys.all flatD then (match ys.findIdx? (fun y => flatEq y dy) with | some j => .ok (.int (j : Nat)) S | none => .stuck) else .stuck) | none => .stuck) m H σ W (KQ T Q) := h
    obtain ⟨ys, e, h⟩ := some_L h
    obtain ⟨p, vs, rfl, h2, h3⟩ := lst_of r e hx
    obtain ⟨c, h⟩ := ite_use h
    rw [Bool.and_eq_true] at c
    cases e2 : ys.findIdx? (fun y => flatEq y dy) with
    | none =>
      rw [e2] at h
      exact h.elim
    | some j =>
      rw [e2] at h
      obtain ⟨hj, hj2, hj3⟩ := List.findIdx?_eq_some_iff_getElem.mp e2
      obtain ⟨z, g1, g2⟩ := h3.get (List.getElem?_eq_getElem hj)
      have fl : ∀ {d : D} {v : V}, d ∈ ys → RD T m H d v → flatV v = true ∧ eqV v y = flatEq d dy := fun {d v} hd hv => ⟨flat_use hv (List.all_eq_true.mp c.2 d hd), flatEq_use hv hy (List.all_eq_true.mp c.2 d hd) c.1⟩
      refine ⟨p, vs, y, j, z, rfl, rfl, SqL.of h2, flat_use hy c.1, ?_, g1, ?_, fun q w hq hw => ?_, ok_use r h rfl⟩
      · rw [List.all_eq_true]
        intro w hw
        obtain ⟨q, hq, eq⟩ := List.getElem_of_mem hw
        have hq2 : q < ys.length := by rw [← h3.length]; exact hq
        obtain ⟨w', k1, k2⟩ := h3.get (List.getElem?_eq_getElem hq2)
        rw [List.getElem?_eq_getElem hq, eq] at k1
        cases k1
        exact (fl (List.getElem_mem hq2) k2).1
      · rw [(fl (List.getElem_mem hj) g2).2]
        exact hj2
      · have hq2 : q < ys.length := by omega
        obtain ⟨w', k1, k2⟩ := h3.get (List.getElem?_eq_getElem hq2)
        rw [hw] at k1
        cases k1
        rw [(fl (List.getElem_mem hq2) k2).2]
        simpa using hj3 q hq
  | pop => exact absurd h (by simp [mthV, PostK])
  | reverse => exact absurd h (by simp [mthV, PostK])
  | popAt =>
    cases dx with
    | ref l =>
      cases dy with
      | int i =>
        obtain rfl := rd_int hy
        obtain ⟨xs, e, h⟩ := cell_of (f := fun xs => if decide (-(2 ^ 63) ≤ i ∧ i < 2 ^ 63) then (match seqIndex? i xs.length with | some k => (match xs[k]? with | some y => .ok y (S.set l (.lst (xs.eraseIdx k))) | none => .stuck) | none => .stuck) else .stuck) h
        obtain ⟨c, h⟩ := ite_use h
        have c := of_decide_eq_true c
        obtain ⟨p, vs, h1, h2, h3⟩ := r.lst e
        obtain ⟨p', q1, rfl⟩ := hx
        rw [h1] at q1
        cases q1
        cases e2 : seqIndex? i xs.length with
        | none =>
          rw [e2] at h
          exact h.elim
        | some k =>
          rw [e2] at h
          simp only at h
          cases e3 : xs[k]? with
          | none =>
            rw [e3] at h
            exact h.elim
          | some d =>
            rw [e3] at h
            obtain ⟨v, g1, g2⟩ := h3.get e3
            refine ⟨p, vs, i, k, v, rfl, rfl, h2, c.1, c.2, by rw [h3.length]; exact e2, g1, ?_⟩
            exact h m _ (Ext.upd r h1 h2 Mu.lst) (r.upd h1 h2 (h3.eraseIdx k)) v (RD.ext (Ext.upd r h1 h2 Mu.lst) _ _ g2)
      | _ => exact absurd h (by cases e : S[l]? with | none => simp [mthV, PostK, e] | some ob => cases ob <;> simp [mthV, PostK, e])
    | _ => exact absurd h (by simp [mthV, PostK])
  | upper => exact absurd h (by simp [mthV, PostK])
  | splitN =>
    cases dx with
    | str a =>
      cases dy with
      | str b =>
        obtain rfl := rd_str hx
        obtain rfl := rd_str hy
        obtain ⟨c, h⟩ := ite_use (show PostK T (if !(b.length == 0) && isz (a.length + 2) then mkL true ((Txt.split a b).map .str) S else .stuck) m H σ W (KQ T Q) from h)
        rw [Bool.and_eq_true, Bool.not_eq_true'] at c
        exact ⟨a, b, rfl, rfl, c.1, isz_of c.2, (mkL_use r h (RDs.strs _)).2⟩
      | _ => exact absurd h (by simp [mthV, PostK])
    | _ => exact absurd h (by simp [mthV, PostK])
theorem mth0_use {mt : Mt} (r : RS T m H S) (hx : RD T m H dx x) (h : PostK T (mthV mt dx [] S) m H σ W (KQ T Q)) : rM T.K mt x [] H Q := by
  cases mt with
  | clear =>
    cases dx with
    | ref l =>
      obtain ⟨xs, e, h⟩ := cell_of (f := fun xs => .ok .non (S.set l (.lst []))) h
      obtain ⟨p, vs, h1, h2, h3⟩ := r.lst e
      obtain ⟨p', q1, rfl⟩ := hx
      rw [h1] at q1
      cases q1
      exact ⟨p, vs, rfl, rfl, h2, cell_set r h1 h2 (ys := []) (ws := []) rfl h⟩
    | _ => exact absurd h (by simp [mthV, PostK])
  | pop =>
    cases dx with
    | ref l =>
      obtain ⟨xs, e, h⟩ := cell_of (f := fun xs => match xs[xs.length - 1]? with | some y => .ok y (S.set l (.lst xs.dropLast)) | none => .stuck) h
      obtain ⟨p, vs, h1, h2, h3⟩ := r.lst e
      obtain ⟨p', q1, rfl⟩ := hx
      rw [h1] at q1
      cases q1
      obtain ⟨d, e3, h⟩ := some_D h
      obtain ⟨v, g1, g2⟩ := h3.get e3
      refine ⟨p, vs, v, rfl, rfl, h2, by rw [h3.length]; exact g1, ?_⟩
      exact h m _ (Ext.upd r h1 h2 Mu.lst) (r.upd h1 h2 h3.dropLast) v (RD.ext (Ext.upd r h1 h2 Mu.lst) _ _ g2)
    | _ => exact absurd h (by simp [mthV, PostK])
  | reverse =>
    cases dx with
    | ref l =>
      obtain ⟨xs, e, h⟩ := cell_of (f := fun xs => .ok .non (S.set l (.lst xs.reverse))) h
      obtain ⟨p, vs, h1, h2, h3⟩ := r.lst e
      obtain ⟨p', q1, rfl⟩ := hx
      rw [h1] at q1
      cases q1
      exact ⟨p, vs, rfl, rfl, h2, cell_set r h1 h2 h3.reverse h⟩
    | _ => exact absurd h (by simp [mthV, PostK])
  | upper =>
    cases dx with
    | str a =>
      obtain rfl := rd_str hx
      obtain ⟨c, h⟩ := ite_use (show PostK T (if decide (a.length ≤ 5592405) then .ok (.str (Txt.upper a)) S else .stuck) m H σ W (KQ T Q) from h)
      exact ⟨a, rfl, rfl, of_decide_eq_true c, ok_use r h rfl⟩
    | _ => exact absurd h (by simp [mthV, PostK])
  | _ => exact absurd h (by simp [mthV, PostK])
theorem put_use0 {o i v : D} {xo xi xv : V} {S1 : Store} {Q : Hp → Prop} (r : RS T m H S) (ho : RD T m H o xo) (hi : RD T m H i xi) (hv : RD T m H v xv) (h : putV0 o i v S = some S1) (k : ∀ H', Ext m H m H' → RS T m H' S1 → Q H') : rSetL xo xi xv H Q := by
  cases o with
  | ref l =>
    cases i with
    | int j =>
      obtain rfl := rd_int hi
      obtain ⟨p, hp, rfl⟩ := ho
      have h : (match S[l]? with | some (.lst xs) => (match ixN xs.length j with | some j => some (S.set l (.lst (xs.set j v))) | none => none) | _ => none) = some S1 := h
      cases e : S[l]? with
      | none =>
        rw [e] at h
        cases h
      | some ob =>
        cases ob with
        | dct _ =>
          rw [e] at h
          cases h
        | obj _ _ =>
          rw [e] at h
          cases h
        | dtt _ =>
          rw [e] at h
          cases h
        | dtl _ =>
          rw [e] at h
          cases h
        | lst xs =>
          rw [e] at h
          simp only at h
          obtain ⟨p', vs, h1, h2, h3⟩ := r.lst e
          rw [hp] at h1
          cases h1
          cases e2 : ixN xs.length j with
          | none =>
            rw [e2] at h
            cases h
          | some n =>
            rw [e2] at h
            cases h
            exact ⟨p, vs, j, n, rfl, rfl, h2, by rw [h3.length]; exact e2, k _ (Ext.upd r hp h2 Mu.lst) (r.upd hp h2 (h3.set n hv))⟩
    | _ => simp [putV0] at h
  | _ => cases i <;> simp [putV0] at h
/-- one entry more, or put otherwise -/
theorem dtt_put {kvs : List (List Key × D)} {as : List Addr} {vs : List V} {kk : List Key} {b : Addr} {d : D} {v : V} (h3 : as.length = kvs.length) (h4 : vs.length = kvs.length) (h5 : ∀ q ∈ tvs (kvs.map (·.1)) as vs, SqT T.K H q.2.1 (q.1.map kV)) (h6 : RDs T m H (kvs.map (·.2)) vs)
    (hb : SqT T.K H b (kk.map kV)) (hv : RD T m H d v) : ∃ as' vs', setTV (tvs (kvs.map (·.1)) as vs) kk b v = tvs ((setT kvs kk d).map (·.1)) as' vs' ∧ as'.length = (setT kvs kk d).length ∧ (∀ q ∈ tvs ((setT kvs kk d).map (·.1)) as' vs', SqT T.K H q.2.1 (q.1.map kV)) ∧ RDs T m H ((setT kvs kk d).map (·.2)) vs' := by
  have any : ∀ (kvs : List (List Key × D)) (as : List Addr) (vs : List V), as.length = kvs.length → vs.length = kvs.length → ((tvs (kvs.map (·.1)) as vs).any fun q => decide (q.1 = kk)) = (kvs.any fun q => decide (q.1 = kk)) := fun kvs => by
    induction kvs with
    | nil => intro as vs _ _; rfl
    | cons a l ih =>
      intro as vs g1 g2
      cases as with
      | nil => simp at g1
      | cons a1 as =>
      cases vs with
      | nil => simp at g2
      | cons v1 vs =>
      have := ih as vs (by simpa using g1) (by simpa using g2)
      simp only [tvs, List.map_cons, List.zip_cons_cons, List.any_cons] at this ⊢
      rw [this]
  by_cases c : (kvs.any fun q => decide (q.1 = kk)) = true
  · have c2 := c
    rw [← any kvs as vs h3 h4] at c2
    unfold setTV setT
    rw [if_pos c, if_pos c2]
    have main : ∀ (kvs : List (List Key × D)) (as : List Addr) (vs : List V), as.length = kvs.length → vs.length = kvs.length → (∀ q ∈ tvs (kvs.map (·.1)) as vs, SqT T.K H q.2.1 (q.1.map kV)) → RDs T m H (kvs.map (·.2)) vs →
        ∃ vs', (tvs (kvs.map (·.1)) as vs).map (fun q => if q.1 = kk then (q.1, q.2.1, v) else q) = tvs ((kvs.map fun q => if q.1 = kk then (q.1, d) else q).map (·.1)) as vs' ∧ (∀ q ∈ tvs ((kvs.map fun q => if q.1 = kk then (q.1, d) else q).map (·.1)) as vs', SqT T.K H q.2.1 (q.1.map kV)) ∧
          RDs T m H ((kvs.map fun q => if q.1 = kk then (q.1, d) else q).map (·.2)) vs' := fun kvs => by
      induction kvs with
      | nil =>
        intro as vs _ _ _ g
        exact ⟨[], by simp [tvs], fun q hq => by simp [tvs] at hq, rfl⟩
      | cons a l ih =>
        intro as vs g1 g2 g3 g4
        cases as with
        | nil => simp at g1
        | cons a1 as =>
        obtain ⟨v1, vs1, rfl, g5, g6⟩ := g4
        obtain ⟨vs', i1, i2, i3⟩ := ih as vs1 (by simpa using g1) (by simpa using g2) (fun q hq => g3 q (List.mem_cons_of_mem _ hq)) g6
        have g7 : SqT T.K H a1 (a.1.map kV) := g3 (a.1, a1, v1) (List.mem_cons_self ..)
        by_cases ca : a.1 = kk
        · refine ⟨v :: vs', ?_, fun q hq => ?_, ?_⟩
          · simp only [tvs, List.map_cons, List.zip_cons_cons, if_pos ca] at i1 ⊢
            rw [i1]
          · simp only [tvs, List.map_cons, List.zip_cons_cons, if_pos ca] at hq
            rcases List.mem_cons.mp hq with rfl | hq
            · exact g7
            · exact i2 q hq
          · simp only [List.map_cons, if_pos ca]
            exact ⟨v, vs', rfl, hv, i3⟩
        · refine ⟨v1 :: vs', ?_, fun q hq => ?_, ?_⟩
          · simp only [tvs, List.map_cons, List.zip_cons_cons, if_neg ca] at i1 ⊢
            rw [i1]
          · simp only [tvs, List.map_cons, List.zip_cons_cons, if_neg ca] at hq
            rcases List.mem_cons.mp hq with rfl | hq
            · exact g7
            · exact i2 q hq
          · simp only [List.map_cons, if_neg ca]
            exact ⟨v1, vs', rfl, g5, i3⟩
    obtain ⟨vs', i1, i2, i3⟩ := main kvs as vs h3 h4 h5 h6
    exact ⟨as, vs', i1, by rw [List.length_map]; exact h3, i2, i3⟩
  · have c2 := c
    rw [← any kvs as vs h3 h4] at c2
    unfold setTV setT
    rw [if_neg c, if_neg c2]
    have e : tvs ((kvs ++ [(kk, d)]).map (·.1)) (as ++ [b]) (vs ++ [v]) = tvs (kvs.map (·.1)) as vs ++ [(kk, b, v)] := by
      unfold tvs
      rw [List.map_append, List.zip_append (by rw [h3, h4]), List.zip_append (by rw [List.length_map, List.length_zip, h3, h4]; simp), List.map_append]
      rfl
    refine ⟨as ++ [b], vs ++ [v], e.symm, by simp [h3], fun q hq => ?_, ?_⟩
    · rw [e] at hq
      rcases List.mem_append.mp hq with hq | hq
      · exact h5 q hq
      · have : q = (kk, b, v) := by simpa using hq
        subst this
        exact hb
    · rw [List.map_append]
      exact h6.append (RDs.one hv)
def rSetA (P : Program) (w : World) (K : PySem.W.Frag) : V → V → V → Hp → (Hp → Prop) → Prop := fun o i v H Q => rSetL o i v H Q ∨ rSetD o i v H Q ∨ rSetS P w K o i v H Q
theorem set_any {X : Cx} (hu : X.A.units + 1 < cLine) : PSet X (rSetA X.prog X.w X.K) := by
  intro pins s σ H o i v ov iv u Q I ro ri rv h
  rcases h with h | h | h
  · exact set_list pins s σ H o i v ov iv u Q I ro ri rv h
  · exact set_dict hu pins s σ H o i v ov iv u Q I ro ri rv h
  · exact set_dictS hu pins s σ H o i v ov iv u Q I ro ri rv h
theorem put_use {o i v : D} {xo xi xv : V} {S1 : Store} {Q : Hp → Prop} (r : RS T m H S) (ho : RD T m H o xo) (hi : RD T m H i xi) (hv : RD T m H v xv) (h : putV o i v S = some S1) (k : ∀ H', Ext m H m H' → RS T m H' S1 → Q H') : rSetA T.P T.w T.K xo xi xv H Q := by
  unfold putV at h
  cases e : dctOf S o with
  | none =>
    rw [e] at h
    cases e' : dttOf S o with
    | none =>
      rw [e'] at h
      exact .inl (put_use0 r ho hi hv h k)
    | some kvs =>
      rw [e'] at h
      obtain ⟨l, a, as, vs, rfl, e3, h1, rfl, _, h3, h4, h5, h6⟩ := dtt_at r e' ho
      cases ek : tkD i with
      | none =>
        rw [ek] at h
        cases h
      | some kk =>
        rw [ek] at h
        have h : (if decide (kvs.length < sizeLine ∧ S[l]? = some (.dtt kvs)) then some (S.set l (.dtt (setT kvs kk v))) else none) = some S1 := h
        split at h
        · rename_i c
          obtain ⟨c, c2⟩ := of_decide_eq_true c
          have h2 := e3 c2
          cases h
          obtain ⟨b, e4, e5⟩ := tkD_use ek hi
          refine .inr (.inr ⟨a, _, b, kk, rfl, e4, h2, h5, e5, ?_, ?_⟩)
          · have : (tvs (kvs.map (·.1)) as vs).length ≤ kvs.length := by simp [tvs]; omega
            omega
          · obtain ⟨as', vs', q1, q2, q3, q4⟩ := dtt_put (kk := kk) h3 h4 h5 h6 e5 hv
            rw [q1]
            refine k _ (Ext.upd r h1 h2 Mu.dS) (r.updO h1 h2 Mu.dS ⟨as', vs', rfl, q2, q3, q4⟩)
        · cases h
  | some kvs =>
    rw [e] at h
    obtain ⟨l, rfl, e2⟩ := dctOf_ref e
    obtain ⟨p, vs, h1, h2, h3⟩ := r.dct e2
    obtain ⟨p', h4, rfl⟩ := ho
    rw [h1] at h4
    cases h4
    cases ek : kD i with
    | none =>
      rw [ek] at h
      cases h
    | some kk =>
      rw [ek] at h
      have h : (if decide (kvs.length < sizeLine) then some (S.set l (.dct (dPut kvs i kk v))) else none) = some S1 := h
      split at h
      · rename_i c
        cases h
        refine .inr (.inl ⟨p, _, rfl, ?_, k _ (Ext.upd r h1 h2 Mu.dK) (r.updO h1 h2 Mu.dK ⟨_, rfl, h3.put ek hv⟩)⟩)
        rw [rd_key ek hi]
        exact DPut.k h2 (by rw [h3.length]; exact of_decide_eq_true c)
      · cases h
end
mutual
def gT (K : PySem.W.Frag) : T → TG
  | .nm i => gName i
  | .tp ts => fun v σ H Q => gTup K (Ts.len ts) (gTs K ts) v σ H Q ∨ gLst K (Ts.len ts) (gTs K ts) v σ H Q
def gTs (K : PySem.W.Frag) : Ts → TGs
  | .nil => gNil
  | .cons t ts => gCons (gT K t) (gTs K ts)
def Ts.len : Ts → Nat
  | .nil => 0
  | .cons _ ts => Ts.len ts + 1
end
section
variable {T : Ad} {m : Mp} {H : Hp} {σ : L2.St} {W : WX} {S : Store} {Q : VK} {dx dy : D} {x y : V}
/-- two states that differ only at some places -/
def Same (vs : List Nat) (σ σ' : L2.St) : Prop := σ'.length = σ.length ∧ ∀ i, i ∉ vs → σ'[i]? = σ[i]?
theorem Same.refl {vs : List Nat} : Same vs σ σ := ⟨rfl, fun _ _ => rfl⟩
theorem Same.trans {vs : List Nat} {σ1 σ2 σ3 : L2.St} (a : Same vs σ1 σ2) (b : Same vs σ2 σ3) : Same vs σ1 σ3 := ⟨b.1.trans a.1, fun i h => (b.2 i h).trans (a.2 i h)⟩
theorem Same.mono {vs ws : List Nat} {σ1 σ2 : L2.St} (a : Same vs σ1 σ2) (h : ∀ i ∈ vs, i ∈ ws) : Same ws σ1 σ2 := ⟨a.1, fun i q => a.2 i fun z => q (h i z)⟩
theorem Same.set {i : Nat} {v : Option V} : Same [i] σ (σ.set i v) := ⟨by rw [List.length_set], fun j h => by rw [List.getElem?_set_ne (by simpa using fun e => h (by simp [e]))]⟩
theorem wipe_at (σ : L2.St) : ∀ (vs : List Nat) (i : Nat), (L2.wipe σ vs)[i]? = if i ∈ vs ∧ i < σ.length then some none else σ[i]?
  | [], i => by simp [L2.wipe]
  | v :: vs, i => by
    rw [L2.wipe]
    by_cases hv : v = i
    · subst hv
      by_cases hl : v < σ.length
      · rw [List.getElem?_set_self (by rw [wipe_length]; exact hl)]
        simp [hl]
      · rw [List.getElem?_eq_none (by rw [List.length_set, wipe_length]; omega)]
        simp [hl]
    · rw [List.getElem?_set_ne hv, wipe_at σ vs i]
      have : (i ∈ v :: vs) ↔ i ∈ vs := by simp [Ne.symm hv]
      simp only [this]
theorem Same.wipe {vs : List Nat} {σ1 σ2 : L2.St} (a : Same vs (L2.wipe σ1 vs) σ2) : L2.wipe σ2 vs = L2.wipe σ1 vs := by
  have hl : σ2.length = σ1.length := by rw [a.1, wipe_length]
  refine List.ext_getElem? fun i => ?_
  rw [wipe_at, wipe_at, hl]
  by_cases h : i ∈ vs
  · by_cases h2 : i < σ1.length
    · rw [if_pos ⟨h, h2⟩, if_pos ⟨h, h2⟩]
    · rw [if_neg fun q => h2 q.2, if_neg fun q => h2 q.2, List.getElem?_eq_none (by omega), List.getElem?_eq_none (by omega)]
  · rw [if_neg fun q => h q.1, if_neg fun q => h q.1, a.2 i h, wipe_at, if_neg fun q => h q.1]
theorem REnv.set {env : Env} {i : Nat} (h : REnv T m H env σ) (hv : RD T m H dx x) : REnv T m H (env.set i (some dx)) (σ.set i (some x)) := by
  refine ⟨by rw [List.length_set, List.length_set]; exact h.len, fun j e q => ?_⟩
  by_cases hj : i = j
  · subst hj
    have hl : i < env.length := by
      have := (List.getElem?_eq_some_iff.mp q).1
      rwa [List.length_set] at this
    rw [List.getElem?_set_self hl] at q
    cases q
    exact ⟨x, by rw [List.getElem?_set_self (by rw [← h.len]; exact hl)], hv⟩
  · rw [List.getElem?_set_ne hj] at q
    obtain ⟨v, h1, h2⟩ := h.at_ j e q
    exact ⟨v, by rw [List.getElem?_set_ne hj]; exact h1, h2⟩
theorem REnv.wipe {env : Env} (h : REnv T m H env σ) : ∀ vs : List Nat, REnv T m H (wipeD env vs) (L2.wipe σ vs)
  | [] => h
  | v :: vs => by
    have ih := REnv.wipe h vs
    rw [wipeD, L2.wipe]
    refine ⟨by rw [List.length_set, List.length_set]; exact ih.len, fun j e q => ?_⟩
    by_cases hj : v = j
    · subst hj
      have hl : v < (wipeD env vs).length := by
        have := (List.getElem?_eq_some_iff.mp q).1
        rwa [List.length_set] at this
      rw [List.getElem?_set_self hl] at q
      cases q
    · rw [List.getElem?_set_ne hj] at q
      obtain ⟨w, h1, h2⟩ := ih.at_ j e q
      exact ⟨w, by rw [List.getElem?_set_ne hj]; exact h1, h2⟩
mutual
theorem T.use : ∀ (t : Ev.T) (d : D) (v : V) (env env1 : Env) (σ : L2.St) (Q : L2.St → Hp → Prop), Ev.T.asg t d env = some env1 → RD T m H d v → REnv T m H env σ → (∀ σ', REnv T m H env1 σ' → Same t.slots σ σ' → Q σ' H) → gT T.K t v σ H Q
  | .nm i, d, v, env, env1, σ, Q, h, hv, he, k => by
    cases h
    exact k _ (he.set hv) Same.set
  | .tp ts, d, v, env, env1, σ, Q, h, hv, he, k => by
    cases d with
    | tup xs =>
      obtain ⟨p, vs, h1, h2, h3⟩ := hv
      have h : Ts.asg ts xs env = some env1 := h
      refine .inl ⟨p, vs, h1, h2, ?_, Ts.use ts xs vs env env1 σ Q h h3 he k⟩
      rw [h3.length]
      exact Ts.asg_len ts xs env env1 h
    | lst xs =>
      obtain ⟨p, vs, h1, h2, h3⟩ := hv
      have h : Ts.asg ts xs env = some env1 := h
      refine .inr ⟨p, vs, h1, SqL.of h2.1, ?_, Ts.use ts xs vs env env1 σ Q h h3 he k⟩
      rw [h3.length]
      exact Ts.asg_len ts xs env env1 h
    | _ => simp [Ev.T.asg] at h
theorem Ts.use : ∀ (ts : Ts) (ds : List D) (vs : List V) (env env1 : Env) (σ : L2.St) (Q : L2.St → Hp → Prop), Ts.asg ts ds env = some env1 → RDs T m H ds vs → REnv T m H env σ → (∀ σ', REnv T m H env1 σ' → Same ts.slots σ σ' → Q σ' H) → gTs T.K ts vs σ H Q
  | .nil, [], vs, env, env1, σ, Q, h, hv, he, k => by
    cases h
    exact ⟨hv, k _ he Same.refl⟩
  | .cons t ts, d :: ds, vs, env, env1, σ, Q, h, hv, he, k => by
    obtain ⟨v, r, h1, h2, h3⟩ := hv
    rw [Ts.asg] at h
    cases e : Ev.T.asg t d env with
    | none =>
      rw [e] at h
      cases h
    | some env2 =>
      rw [e] at h
      refine ⟨v, r, h1, T.use t d v env env2 σ _ e h2 he fun σ1 he1 s1 => ?_⟩
      exact Ts.use ts ds r env2 env1 σ1 Q h h3 he1 fun σ2 he2 s2 => k σ2 he2 ((s1.mono fun i hi => List.mem_append_left _ hi).trans (s2.mono fun i hi => List.mem_append_right _ hi))
  | .nil, _ :: _, vs, env, env1, σ, Q, h, hv, he, k => by simp [Ts.asg] at h
  | .cons t ts, [], vs, env, env1, σ, Q, h, hv, he, k => by simp [Ts.asg] at h
theorem Ts.asg_len : ∀ (ts : Ts) (ds : List D) (env env1 : Env), Ts.asg ts ds env = some env1 → ds.length = Ts.len ts
  | .nil, [], _, _, _ => by rw [Ts.len]; rfl
  | .cons t ts, d :: ds, env, env1, h => by
    rw [Ts.asg] at h
    cases e : Ev.T.asg t d env with
    | none =>
      rw [e] at h
      cases h
    | some env2 =>
      rw [e] at h
      rw [Ts.len, List.length_cons, Ts.asg_len ts ds env2 env1 h]
  | .nil, _ :: _, _, _, h => by simp [Ts.asg] at h
  | .cons t ts, [], _, _, h => by simp [Ts.asg] at h
end
end
/-- turns over some items -/
structure Wk (T : Ad) (its : Items) (m : Mp) (H : Hp) (J : It) : Prop where
  ex : ∃ (G : Hp → Prop) (Y : Nat → Hp → V → Hp → Prop), Walk J its.xs.length G Y ∧ (∀ m' H' S', Ext0 m H m' H' → RS T m' H' S' → gOk its.g S' = true → G H') ∧
    ∀ i m' H' S' v H'', i < its.xs.length → Ext0 m H m' H' → RS T m' H' S' → gOk its.g S' = true → Y i H' v H'' → Ext m' H' m' H'' ∧ RS T m' H'' S' ∧ ∃ d, its.xs[i]? = some d ∧ RD T m' H'' d v
def tI (T : Ad) (W : WX) (f : Env → Store → R Items) : TI := fun σ H R => ∃ env m S, REnv T m H env σ ∧ RS T m H S ∧ PostK T (f env S) m H σ W fun its _ m' H' => ∀ J, Wk T its m' H' J → R J H'
section
variable {T : Ad} {m : Mp} {H : Hp} {σ : L2.St} {W : WX} {S : Store} {Q : VK} {dx dy : D} {x y : V}
theorem wk_at {xs : List D} {vs : List V} {J : It} {G : Hp → Prop} {g : Option (Nat × Ob)} (hr : RDs T m H xs vs) (w : Walk J vs.length G (YAt vs)) (hg : ∀ m' H' S', Ext0 m H m' H' → RS T m' H' S' → gOk g S' = true → G H') : Wk T ⟨xs, g⟩ m H J := by
  refine ⟨G, _, by rw [← hr.length]; exact w, hg, fun i m' H' S' v H'' hi e r _ y => ?_⟩
  obtain ⟨rfl, hv⟩ := y
  refine ⟨Ext.refl, r, xs[i], List.getElem?_eq_getElem hi, ?_⟩
  obtain ⟨w, h1, h2⟩ := hr.get (List.getElem?_eq_getElem hi)
  rw [hv] at h1
  cases h1
  exact RD.ext0 e _ _ h2
theorem Ext0.sql {m' : Mp} {H' : Hp} {p : Addr} {vs : List V} (e : Ext0 m H m' H') (h : LV m H p vs) {K : PySem.W.Frag} : SqL K H' p vs := SqL.of (e.lv h).1
theorem wk_tup {xs : List D} {p : Addr} {vs : List V} (h2 : SqT T.K H p vs) (h3 : RDs T m H xs vs) : Wk T ⟨xs, none⟩ m H (Itt T.K p) :=
  wk_at h3 walk_tup fun _ _ _ e _ _ => e.sqt h2
theorem wk_lst {xs : List D} {p : Addr} {vs : List V} (h2 : LV m H p vs) (h3 : RDs T m H xs vs) : Wk T ⟨xs, none⟩ m H (Itl T.K p) :=
  wk_at h3 walk_list fun _ _ _ e _ _ => e.sql h2
theorem wk_cell {xs : List D} {l : Nat} (r : RS T m H S) (h : S[l]? = some (.lst xs)) : ∃ p vs, m.c[l]? = some p ∧ H p = some (.lst vs) ∧ Wk T ⟨xs, some (l, .lst xs)⟩ m H (Itl T.K p) := by
  obtain ⟨p, vs, h1, h2, h3⟩ := r.lst h
  refine ⟨p, vs, h1, h2, ?_⟩
  have at_ : ∀ {m' H' S'}, Ext0 m H m' H' → RS T m' H' S' → gOk (some (l, .lst xs)) S' = true → ∃ ws, H' p = some (.lst ws) ∧ RDs T m' H' xs ws := fun {m' H' S'} e r' g => by
    obtain ⟨p', ws, k1, k2, k3⟩ := r'.lst (of_decide_eq_true (show decide (S'[l]? = some (.lst xs)) = true from g))
    rw [e.get h1] at k1
    cases k1
    exact ⟨ws, k2, k3⟩
  refine ⟨fun H' => ∃ ws, H' p = some (.lst ws) ∧ ws.length = xs.length, fun i H' v H'' => H'' = H' ∧ ∀ ws, H' p = some (.lst ws) → ws[i]? = some v, ?_, fun m' H' S' e r' g => ?_, fun i m' H' S' v H'' hi e r' g y => ?_⟩
  · refine ⟨fun i H' hi q => ?_, fun H' q => ?_, fun i H' v H'' hi q y => ?_⟩
    · obtain ⟨ws, q, q2⟩ := q
      exact ⟨ws, ws[i]'(by rw [q2]; exact hi), SqL.of q, by simp [q2, hi]⟩
    · obtain ⟨ws, q, q2⟩ := q
      exact ⟨ws, SqL.of q, by rw [q2]; exact Nat.le_refl _⟩
    · exact ⟨y.1, fun ws q => y.2 ws (SqL.of q)⟩
  · obtain ⟨ws, q, q2⟩ := at_ e r' g
    exact ⟨ws, q, q2.length⟩
  · obtain ⟨rfl, y⟩ := y
    obtain ⟨ws, q, q2⟩ := at_ e r' g
    refine ⟨Ext.refl, r', xs[i], List.getElem?_eq_getElem hi, ?_⟩
    obtain ⟨w, k1, k2⟩ := q2.get (List.getElem?_eq_getElem hi)
    rw [y ws q] at k1
    cases k1
    exact k2
end
end Ev
namespace Ev
open PySem PySem.Spec L2 PyProof.Rows
section
variable {X : Cx} {tg : Expr}
/-- a list, a tuple, a text -/
def iSeq (K : PySem.W.Frag) (te : TE) : TI := fun σ H R => te σ H fun x H1 => (∃ a xs, x = .ref a ∧ SqL K H1 a xs ∧ R (Itl K a) H1) ∨ (∃ a xs, x = .ref a ∧ SqT K H1 a xs ∧ R (Itt K a) H1) ∨ ∃ z, x = .str z ∧ R (Its z) H1
theorem pi_seqG {e : Expr} {te : TE} (he : PE X e te) : PI X tg e (iSeq X.K te) := by
  refine ⟨fun pins s σ H R I h => ?_⟩
  refine thn (he.run pins s σ H _ I h) fun v s1 ⟨x, H1, I1, r1, q1⟩ => ?_
  rcases q1 with ⟨a, xs, rfl, hq, q⟩ | ⟨a, xs, rfl, hq, q⟩ | ⟨z, rfl, q⟩
  · cases r1
    obtain ⟨its, rv, p, hz⟩ := I1.list hq
    exact wpAny_pyIter_list p.isList (pi_one (tk := s1.toks) I1 _ (turn_list a _) ⟨_, Heap.get?_push_size _ rfl, rfl, rfl⟩ q)
  · cases r1
    obtain ⟨its, rv, p, hz⟩ := I1.tuple hq
    exact wpAny_pyIter_tuple (show s1.heap.IsTuple a its.toArray from p) (pi_one (tk := s1.toks) I1 _ (turn_tuple a _) ⟨_, Heap.get?_push_size _ rfl, rfl, rfl⟩ q)
  · obtain ⟨t, rfl⟩ := r1
    cases ha : z.cps.all (· < 128)
    · exact wpAny_pyIter_wide ha (pi_one (tk := s1.toks) I1 _ (turn_str _ z t "str_iterator" (.inr rfl)) ⟨_, Heap.get?_push_size _ rfl, rfl, rfl⟩ q)
    · exact wpAny_pyIter_ascii ha (pi_one (tk := s1.toks) I1 _ (turn_str _ z t "str_ascii_iterator" (.inl rfl)) ⟨_, Heap.get?_push_size _ rfl, rfl, rfl⟩ q)
end
section
variable {T : Ad} {m : Mp} {H : Hp} {σ : L2.St} {W : WX} {S : Store} {Q : VK} {dx dy : D} {x y : V} {R : It → Hp → Prop}
theorem wk_str (z : Str) : Wk T ⟨z.cps.toList.map fun c => .str ⟨#[c]⟩, none⟩ m H (Its z) := by
  refine ⟨fun _ => True, fun i H v H' => H' = H ∧ ∃ c, z.cps[i]? = some c ∧ v = .str ⟨#[c]⟩, ?_, fun _ _ _ _ _ _ => True.intro, fun i m' H' S' v H'' hi e r _ y => ?_⟩
  · have := (walk_str (z := z))
    rw [show z.cps.size = (z.cps.toList.map fun c => D.str ⟨#[c]⟩).length by simp] at this
    exact this
  · obtain ⟨rfl, c, hc, rfl⟩ := y
    refine ⟨Ext.refl, r, .str ⟨#[c]⟩, ?_, rfl⟩
    rw [List.getElem?_map]
    rw [← Array.getElem?_toList] at hc
    rw [hc]
    rfl
theorem wk_scr {ns : List Int} {p : Addr} (h : SC T H p (ns.map V.int)) : Wk T ⟨ns.map .int, none⟩ m H (Itl T.K p) := by
  refine wk_at (vs := ns.map V.int) (RDs.ints ns) walk_list fun m' H' S' e _ _ => ?_
  rcases e.sc h with ⟨o, h⟩ | h
  · exact .inl (.inr ⟨o, h⟩)
  · exact .inr h
theorem seq_use {its : Items} (r : RS T m H S) (h : seqItems S dx = some its) (hx : RD T m H dx x) (k : ∀ J, Wk T its m H J → R J H) :
    (∃ a xs, x = .ref a ∧ SqL T.K H a xs ∧ R (Itl T.K a) H) ∨ (∃ a xs, x = .ref a ∧ SqT T.K H a xs ∧ R (Itt T.K a) H) ∨ ∃ z, x = .str z ∧ R (Its z) H := by
  cases dx with
  | tup xs =>
    cases h
    obtain ⟨p, vs, h1, h2, h3⟩ := hx
    exact .inr (.inl ⟨p, vs, h1, h2, k _ (wk_tup h2 h3)⟩)
  | lst xs =>
    cases h
    obtain ⟨p, vs, h1, h2, h3⟩ := hx
    exact .inl ⟨p, vs, h1, SqL.of h2.1, k _ (wk_lst h2 h3)⟩
  | str z =>
    cases h
    exact .inr (.inr ⟨z, hx, k _ (wk_str z)⟩)
  | ref l =>
    have h : (match S[l]? with | some (.lst xs) => some (Items.mk xs (some (l, .lst xs))) | _ => none) = some its := h
    cases e : S[l]? with
    | none =>
      rw [e] at h
      cases h
    | some ob =>
      rw [e] at h
      cases ob with
      | dct _ => cases h
      | obj _ _ => cases h
      | dtt _ => cases h
      | dtl _ => cases h
      | lst xs =>
        cases h
        obtain ⟨p, vs, h1, h2, w⟩ := wk_cell r e
        obtain ⟨p', q1, rfl⟩ := hx
        rw [h1] at q1
        cases q1
        exact .inl ⟨p, vs, rfl, SqL.of h2, k _ w⟩
  | scr ns =>
    cases h
    obtain ⟨p, h1, h2⟩ := id hx
    obtain ⟨p', h3, h4⟩ := scr_of hx
    rw [h1] at h3
    cases h3
    exact .inl ⟨p, _, h1, h4, k _ (wk_scr h2)⟩
  | _ => cases h
theorem wk_fn {n : Nat} {f : Nat → D} {g : Nat → V} {J : It} (w : Walk J n (fun _ => True) (YFn g)) (hf : ∀ i, RD T m H (f i) (g i)) (hf2 : ∀ i m' H', RD T m' H' (f i) (g i)) : Wk T ⟨(List.range n).map f, none⟩ m H J := by
  refine ⟨fun _ => True, YFn g, ?_, fun _ _ _ _ _ _ => True.intro, fun i m' H' S' v H'' hi e r _ y => ?_⟩
  · rw [show ((List.range n).map f).length = n by simp]
    exact w
  · obtain ⟨rfl, rfl⟩ := y
    have hi : i < n := by simpa using hi
    exact ⟨Ext.refl, r, f i, by simp [hi], hf2 i _ _⟩
theorem rngs_use {ds ys : List D} (h : rngs ds = some ys) :
    (∃ j : Int, ds = [.int j] ∧ -(2 ^ 62) ≤ j ∧ j < 2 ^ 62 ∧ ∀ m H, Wk T ⟨ys, none⟩ m H (Itr 0 j.toNat)) ∨
    (∃ i j : Int, ds = [.int i, .int j] ∧ (-(2 ^ 62) ≤ i ∧ i < 2 ^ 62 ∧ -(2 ^ 62) ≤ j ∧ j < 2 ^ 62) ∧ ∀ m H, Wk T ⟨ys, none⟩ m H (Itr i (j - i).toNat)) ∨
    ∃ i j c : Int, ∃ n : Nat, ds = [.int i, .int j, .int c] ∧ RgC i j c n ∧ ∀ m H, Wk T ⟨ys, none⟩ m H (Itc i c n) := by
  unfold rngs at h
  split at h
  · rename_i j
    split at h
    · rename_i c
      obtain ⟨c1, c2⟩ := of_decide_eq_true c
      cases h
      exact .inl ⟨j, rfl, c1, c2, fun m H => wk_fn walk_range (fun _ => rfl) fun _ _ _ => rfl⟩
    · cases h
  · rename_i i j
    split at h
    · rename_i c
      cases h
      exact .inr (.inl ⟨i, j, rfl, of_decide_eq_true c, fun m H => wk_fn walk_range (fun _ => rfl) fun _ _ _ => rfl⟩)
    · cases h
  · rename_i i j k
    split at h
    · rename_i c
      obtain ⟨rfl, c1, c2, c3, c4⟩ := of_decide_eq_true c
      cases h
      exact .inr (.inr ⟨i, j, -1, _, rfl, RgC.neg c1 c2 c3 c4, fun m H => wk_fn walk_rangeC (fun _ => rfl) fun _ _ _ => rfl⟩)
    · cases h
  · cases h
theorem wk_pairs {xs ys : List D} {vs ws : List V} {J : It} {G : Hp → Prop} (hx : RDs T m H xs vs) (hy : RDs T m H ys ws) (w : ∀ n, n = min vs.length ws.length → Walk J n G (YPair (fun i => vs[i]?) (fun i => ws[i]?))) (hg : ∀ m' H' S', Ext0 m H m' H' → RS T m' H' S' → G H') :
    Wk T ⟨(xs.zip ys).map fun p => .tup [p.1, p.2], none⟩ m H J := by
  refine ⟨G, _, w _ ?_, fun m' H' S' e r _ => hg m' H' S' e r, fun i m' H' S' v H'' hi e r _ y => ?_⟩
  · rw [List.length_map, List.length_zip, hx.length, hy.length]
  · obtain ⟨t, a, b, rfl, ht, rfl, ha, hb⟩ := y
    rw [List.length_map, List.length_zip] at hi
    have h1 : i < xs.length := by omega
    have h2 : i < ys.length := by omega
    obtain ⟨a', ka, ra⟩ := hx.get (List.getElem?_eq_getElem h1)
    obtain ⟨b', kb, rb⟩ := hy.get (List.getElem?_eq_getElem h2)
    have ha : vs[i]? = some a := ha
    have hb : ws[i]? = some b := hb
    rw [ha] at ka
    cases ka
    rw [hb] at kb
    cases kb
    have en := Ext.new (o := .tup [a, b]) r ht
    refine ⟨en, r.new ht, .tup [xs[i], ys[i]], ?_, ?_⟩
    · rw [List.getElem?_map, List.getElem?_eq_getElem (by rw [List.length_zip]; omega), List.getElem_zip]
      rfl
    · exact ⟨t, [a, b], rfl, .inl (.inl upd_same), a, [b], rfl, RD.ext en _ _ (RD.ext0 e _ _ ra), b, [], rfl, RD.ext en _ _ (RD.ext0 e _ _ rb), rfl⟩
end
structure Acc (T : Ad) (m0 : Mp) (H0 : Hp) (D : Addr) (ys : List Ev.D) (S : Store) (m : Mp) (H : Hp) : Prop where
  at_ : ∃ acc, H D = some (.lst acc) ∧ RDs T m H ys acc
  rs : RS T m H S
  e : Ext0 m0 H0 m H
  h : m.h = m0.h
  q : ∀ q ∈ m0.h, q ≠ D → H q = H0 q
section
variable {T : Ad} {m0 m m' : Mp} {H0 H H' : Hp} {D : Addr} {ys zs : List Ev.D} {S S' : Store}
theorem Acc.ext (a : Acc T m0 H0 D ys S m H) (hD : D ∈ m0.h) (e : Ext m H m' H') (r : RS T m' H' S') : Acc T m0 H0 D ys S' m' H' := by
  obtain ⟨acc, h1, h2⟩ := a.at_
  exact ⟨⟨acc, by rw [e.hid D (a.h ▸ hD)]; exact h1, RDs.ext e _ _ h2⟩, r, a.e.trans e.toExt0, e.eqh.trans a.h, fun q hq hn => (e.hid q (a.h ▸ hq)).trans (a.q q hq hn)⟩
theorem Acc.push {acc : List V} {y : Ev.D} {v : V} (a : Acc T m0 H0 D ys S m H) (hD : D ∈ m0.h) (h : H D = some (.lst acc)) (hv : RD T m H y v) : Acc T m0 H0 D (ys ++ [y]) S m (upd H D (.lst (acc ++ [v]))) := by
  obtain ⟨acc', h1, h2⟩ := a.at_
  rw [h] at h1
  cases h1
  have hm : D ∈ m.h := by rw [a.h]; exact hD
  have e : Ext0 m H m (upd H D (.lst (acc ++ [v]))) := Ext0.upd (.inr hm) h Mu.lst
  exact ⟨⟨_, upd_same, RDs.ext0 e _ _ (h2.append (RDs.one hv))⟩, a.rs.updh hm (fun _ => HO.noConfusion) e, a.e.trans e, a.h, fun q hq hn => by rw [upd_ne hn]; exact a.q q hq hn⟩
theorem Acc.start {p : Addr} (r : RS T m H S) (hp : H p = none) : Acc T (m.hide p) (upd H p (.lst [])) p [] S (m.hide p) (upd H p (.lst [])) :=
  ⟨⟨[], upd_same, rfl⟩, r.hide hp (fun _ => HO.noConfusion), Ext0.refl, rfl, fun _ _ _ => rfl⟩
/-- it is done: the list is anybody's -/
theorem Acc.fin {σ : L2.St} {W : WX} {Q : VK} {new : Bool} {S0 : Store} (r : RS T m0 H0 S0) (hD : H0 D = none) (a : Acc T (m0.hide D) (upd H0 D (.lst [])) D ys S m H) (h : PostK T (mkL new ys S) m0 H0 σ W (KQ T Q)) : Q (.ref D) H := by
  obtain ⟨acc, h1, h2⟩ := a.at_
  have eh : m.h = D :: m0.h := a.h
  have nD : D ∉ m.c := (a.rs.hid D (by rw [eh]; exact List.mem_cons_self)).1
  have nD2 : D ∉ m0.h := fun z => (r.hid D z).2 hD
  have e0 : Ext0 m0 H0 m H := (Ext0.hide hD).trans a.e
  have q0 : ∀ q ∈ m0.h, H q = H0 q := fun q hq => by
    have hn : q ≠ D := by rintro rfl; exact nD2 hq
    rw [a.q q (List.mem_cons_of_mem _ hq) hn, upd_ne hn]
  unfold mkL at h
  obtain ⟨_, h⟩ := ite_use h
  cases new with
  | false =>
    rw [if_neg Bool.false_ne_true] at h
    refine h ⟨m.c, m0.h, m.t⟩ H ⟨e0.trans (Ext0.show_ eh), rfl, q0⟩ (a.rs.show_ eh) _ ⟨D, acc, rfl, ⟨h1, ?_⟩, RDs.ext0 (Ext0.show_ eh) _ _ h2⟩
    rintro (z | z)
    · exact nD z
    · exact nD2 z
  | true =>
    rw [if_pos rfl] at h
    have es : Ext0 m H ⟨m.c ++ [D], m0.h, m.t⟩ H := ⟨⟨[D], rfl⟩, fun _ _ h => h, fun q vs hq n => ⟨hq, by
      rintro (z | z)
      · rcases List.mem_append.mp z with z | z
        · exact n (.inl z)
        · exact n (.inr (by rw [eh]; simp at z; simp [z]))
      · exact n (.inr (by rw [eh]; exact List.mem_cons_of_mem _ z))⟩, fun _ _ _ h => h, fun _ _ h _ => h, fun q P w u hq n => ⟨hq, by
      rintro (z | z)
      · rcases List.mem_append.mp z with z | z
        · exact n (.inl z)
        · exact n (.inr (by rw [eh]; simp at z; simp [z]))
      · exact n (.inr (by rw [eh]; exact List.mem_cons_of_mem _ z))⟩, rfl, fun h => h⟩
    refine h ⟨m.c ++ [D], m0.h, m.t⟩ H ⟨e0.trans es, rfl, q0⟩ ?_ _ ?_
    · refine ⟨by simp [a.rs.len], ?_, fun q hq => ⟨?_, (a.rs.hid q (by rw [eh]; exact List.mem_cons_of_mem _ hq)).2⟩, fun q hq => a.rs.hnt q (by rw [eh]; exact List.mem_cons_of_mem _ hq), a.rs.tt, a.rs.tab, fun l ob p k1 k2 => ?_⟩
      · rw [List.nodup_append]
        refine ⟨a.rs.nd, by simp, fun x hx b hb => ?_⟩
        have : b = D := by simpa using hb
        rintro rfl
        exact nD (this ▸ hx)
      · intro z
        rcases List.mem_append.mp z with z | z
        · exact (a.rs.hid q (by rw [eh]; exact List.mem_cons_of_mem _ hq)).1 z
        · have : q = D := by simpa using z
          exact nD2 (this ▸ hq)
      · have k2 : (m.c ++ [D])[l]? = some p := k2
        by_cases hl : l < m.c.length
        · rw [List.getElem?_append_left (by rw [a.rs.len]; exact hl)] at k1
          rw [List.getElem?_append_left hl] at k2
          obtain ⟨u, k3, k4⟩ := a.rs.at_ l ob p k1 k2
          exact ⟨u, k3, k4.ext0 es⟩
        · have hl2 : l < (m.c ++ [D]).length := (List.getElem?_eq_some_iff.mp k2).1
          rw [List.length_append, List.length_singleton] at hl2
          have el : l = m.c.length := by omega
          subst el
          rw [List.getElem?_append_right (Nat.le_refl _)] at k2
          have eq : p = D := by simpa using k2.symm
          subst eq
          rw [List.getElem?_append_right (Nat.le_of_eq a.rs.len), a.rs.len] at k1
          have eo : ob = .lst ys := by simpa using k1.symm
          subst eo
          exact ⟨_, h1, acc, rfl, RDs.ext0 es _ _ h2⟩
    · exact ⟨D, by show (m.c ++ [D])[S.length]? = some D; rw [a.rs.len, List.getElem?_append_right (Nat.le_refl _)]; simp, rfl⟩
end
section
variable {T : Ad} {m0 : Mp} {H0 : Hp} {D : Addr} {its : Items} {J : It} {t : Ev.T} {vs : List Nat} {env : Env} {σ : L2.St} {ev : Env → Store → R (List Ev.D)} {Nx : Hp → Prop}
theorem Wk.ext0 {m : Mp} {H : Hp} (w : Wk T its m H J) (e : Ext0 m H m0 H0) : Wk T its m0 H0 J := by
  obtain ⟨G, Y, w1, w2, w3⟩ := w.ex
  exact ⟨G, Y, w1, fun m' H' S' e' => w2 m' H' S' (e.trans e'), fun i m' H' S' v H'' hi e' => w3 i m' H' S' v H'' hi (e.trans e')⟩
theorem colGo_ok {g : Option (Nat × Ob)} {xs zs : List Ev.D} {S Sf : Store} (h : colGo t g ev env xs S = .ok zs Sf) : gOk g S = true ∧ ((xs = [] ∧ zs = [] ∧ Sf = S) ∨ ∃ x r env1 ys S2 ws, xs = x :: r ∧ t.asg x env = some env1 ∧ ev env1 S = .ok ys S2 ∧ colGo t g ev env r S2 = .ok ws Sf ∧ zs = ys ++ ws) := by
  cases xs with
  | nil =>
    rw [colGo] at h
    cases hg : gOk g S with
    | false =>
      rw [hg] at h
      cases h
    | true =>
      rw [hg] at h
      cases h
      exact ⟨rfl, .inl ⟨rfl, rfl, rfl⟩⟩
  | cons x r =>
    rw [colGo] at h
    cases hg : gOk g S with
    | false =>
      rw [hg] at h
      cases h
    | true =>
      rw [hg, if_pos rfl] at h
      refine ⟨rfl, .inr ?_⟩
      cases e1 : t.asg x env with
      | none =>
        rw [e1] at h
        cases h
      | some env1 =>
        rw [e1] at h
        simp only at h
        cases e2 : ev env1 S with
        | exc _ _ =>
          rw [e2] at h
          cases h
        | stuck =>
          rw [e2] at h
          cases h
        | ok ys S2 =>
          rw [e2] at h
          simp only at h
          cases e3 : colGo t g ev env r S2 with
          | exc _ _ =>
            rw [e3] at h
            cases h
          | stuck =>
            rw [e3] at h
            cases h
          | ok ws S3 =>
            rw [e3] at h
            cases h
            exact ⟨x, r, env1, ys, S2, ws, rfl, e1, e2, e3, rfl⟩
theorem colGo_noexc {g : Option (Nat × Ob)} {x : Ex} : ∀ {xs : List Ev.D} {S Sf : Store}, colGo t g ev env xs S = .exc x Sf → False
  | [], S, Sf, h => by
    rw [colGo] at h
    split at h <;> cases h
  | y :: ys, S, Sf, h => by
    rw [colGo] at h
    split at h
    · split at h
      · split at h
        · split at h <;> cases h
        · cases h
      · cases h
    · cases h
/-- the turns -/
theorem acc_loop {S0 Sf : Store} {zs : List Ev.D} {Hs : Hp} {ms : Mp} {ys0 : List Ev.D} {B : L2.St → Hp → (Hp → Prop) → Prop} (wk : Wk T its m0 H0 J) (hD : D ∈ m0.h) (he : REnv T m0 H0 (wipeD env vs) (wipe σ vs)) (hsl : ∀ i ∈ t.slots, i ∈ vs) (h : colGo t its.g ev (wipeD env vs) its.xs S0 = .ok zs Sf) (h0 : Acc T m0 H0 D ys0 S0 ms Hs)
    (hz : (ys0 ++ zs).length ≤ sizeLine)
    (body : ∀ env1 S1 S2 ys ws m1 H1 σ1 (N : Hp → Prop), ev env1 S1 = .ok ws S2 → Acc T m0 H0 D ys S1 m1 H1 → REnv T m1 H1 env1 σ1 → (ys ++ ws).length ≤ sizeLine → (∀ m2 H2, Acc T m0 H0 D (ys ++ ws) S2 m2 H2 → N H2) → B σ1 H1 N)
    (hd : ∀ m' H', Acc T m0 H0 D (ys0 ++ zs) Sf m' H' → Nx H') :
    ∃ W : Nat → Nat → Hp → Prop, (∃ k, W 0 k Hs) ∧ ∀ i k H, W i k H → (J.stop i H ∧ Nx H) ∨ (J.go i H ∧ ∃ N1 : Hp → Prop, (∀ H', N1 H' → ∃ k', k' < k ∧ W (i + 1) k' H') ∧
      ∀ x H', J.yld i H x H' → gT T.K t x (wipe σ vs) H' fun σ2 H2 => wipe σ2 vs = wipe σ vs ∧ B σ2 H2 N1) := by
  obtain ⟨G, Y, w1, w2, w3⟩ := wk.ex
  let Pv : Nat → Hp → Prop := fun i H => ∃ ys S1 m1 ws, Acc T m0 H0 D ys S1 m1 H ∧ colGo t its.g ev (wipeD env vs) (its.xs.drop i) S1 = .ok ws Sf ∧ ys ++ ws = ys0 ++ zs
  refine ⟨fun i k H => k = its.xs.length - i ∧ i ≤ its.xs.length ∧ Pv i H, ⟨its.xs.length, by simp, Nat.zero_le _, ys0, S0, ms, zs, h0, h, rfl⟩, ?_⟩
  rintro i k H ⟨rfl, hi, ys, S1, m1, ws, a, hgo, etot⟩
  obtain ⟨hg, hgo⟩ := colGo_ok hgo
  have hG := w2 m1 H S1 a.e a.rs hg
  by_cases hlt : i < its.xs.length
  · refine .inr ⟨w1.goes i H hlt hG, Pv (i + 1), fun H' p' => ⟨its.xs.length - (i + 1), by omega, rfl, hlt, p'⟩, fun x H' y => ?_⟩
    obtain ⟨ey, ry, d, hd1, hd2⟩ := w3 i m1 H S1 x H' hlt a.e a.rs hg (w1.yields i H x H' hlt hG y)
    rcases hgo with ⟨z, _, _⟩ | ⟨x0, r, env1, ys1, S2, ws1, e1, e2, e3, e4, e5⟩
    · exact absurd z (by simp; omega)
    · have e6 := List.drop_eq_getElem_cons hlt
      rw [e6] at e1
      injection e1 with e7 e8
      rw [List.getElem?_eq_getElem hlt] at hd1
      have e9 : d = x0 := by rw [← e7]; exact (Option.some.inj hd1).symm
      subst e9
      have a2 := a.ext hD ey ry
      refine Ev.T.use t d x _ env1 _ _ e2 hd2 (he.ext0 a2.e) fun σ2 he2 sm => ⟨Same.wipe (sm.mono hsl), ?_⟩
      refine body env1 S1 S2 ys ys1 m1 H' σ2 _ e3 a2 he2 ?_ fun m2 H2 a3 => ⟨ys ++ ys1, S2, m2, ws1, a3, by rw [e8]; exact e4, by rw [List.append_assoc, ← e5, etot]⟩
      have : (ys ++ ys1).length ≤ (ys0 ++ zs).length := by
        rw [← etot, e5]
        simp
      omega
  · have ei : i = its.xs.length := by omega
    subst ei
    rcases hgo with ⟨_, e1, e2⟩ | ⟨x0, r, _, _, _, _, e1, _⟩
    · refine .inl ⟨w1.stops H hG, hd m1 H ?_⟩
      rw [e2, ← etot, e1, List.append_nil]
      exact a
    · rw [List.drop_length] at e1
      cases e1
end
end Ev
namespace Ev
open PySem PySem.Spec L2 PyProof.Rows
section
variable {T : Ad} {m : Mp} {H : Hp} {σ : L2.St} {W W1 : WX} {S : Store} {Q : VK} {env : Env} {new : Bool} {fI : Env → Store → R Items} {t : Ev.T} {okf : Env → Store → R Bool} {evf : Env → Store → R D} {vs : List Nat}
theorem Acc.trans {m0 m1 m' : Mp} {H0 H1 H' : Hp} {L : Addr} {ys zs : List D} {S1 S' : Store} (a : Acc T m0 H0 L ys S1 m1 H1) (b : Acc T m1 H1 L zs S' m' H') : Acc T m0 H0 L zs S' m' H' :=
  ⟨b.at_, b.rs, a.e.trans b.e, b.h.trans a.h, fun q hq hn => (b.q q (a.h ▸ hq) hn).trans (a.q q hq hn)⟩
theorem step1_ok {env1 : Env} {S1 S2 : Store} {ws : List D} (h : step1 okf evf env1 S1 = .ok ws S2) : ∃ b Sa, okf env1 S1 = .ok b Sa ∧ if b = true then ∃ y, evf env1 Sa = .ok y S2 ∧ ws = [y] else ws = [] ∧ S2 = Sa := by
  unfold step1 at h
  cases e1 : okf env1 S1 with
  | exc _ _ =>
    rw [e1] at h
    cases h
  | stuck =>
    rw [e1] at h
    cases h
  | ok b Sa =>
    rw [e1] at h
    refine ⟨b, Sa, rfl, ?_⟩
    cases b with
    | false =>
      cases h
      exact ⟨rfl, rfl⟩
    | true =>
      simp only [if_true] at h ⊢
      cases e2 : evf env1 Sa with
      | exc _ _ =>
        rw [e2] at h
        cases h
      | stuck =>
        rw [e2] at h
        cases h
      | ok y Sb =>
        rw [e2] at h
        cases h
        exact ⟨y, rfl, rfl⟩
abbrev bodyB (T : Ad) (W1 : WX) (L : Addr) (okf : Env → Store → R Bool) (evf : Env → Store → R D) (σ2 : L2.St) (H2 : Hp) (N : Hp → Prop) : Prop :=
  tB T W1 okf σ2 H2 fun b H3 => if b = true then tE T W1 evf σ2 H3 fun y H4 => ∃ acc, H4 L = some (.lst acc) ∧ acc.length < sizeLine ∧ N (upd H4 L (.lst (acc ++ [y]))) else N H3
theorem body_ok {m0 : Mp} {H0 : Hp} {L : Addr} (hD : L ∈ m0.h) (env1 : Env) (S1 S2 : Store) (ys ws : List D) (m1 : Mp) (H1 : Hp) (σ1 : L2.St) (N : Hp → Prop) (h : step1 okf evf env1 S1 = .ok ws S2) (a : Acc T m0 H0 L ys S1 m1 H1) (he : REnv T m1 H1 env1 σ1) (hz : (ys ++ ws).length ≤ sizeLine)
    (k : ∀ m2 H2, Acc T m0 H0 L (ys ++ ws) S2 m2 H2 → N H2) : bodyB T W1 L okf evf σ1 H1 N := by
  obtain ⟨b, Sa, e1, h⟩ := step1_ok h
  refine ⟨env1, m1, S1, he, a.rs, ?_⟩
  rw [e1]
  intro m2 H2 x2 r2
  have a2 := a.ext hD x2 r2
  cases b with
  | false =>
    simp only [Bool.false_eq_true, if_false] at h ⊢
    obtain ⟨rfl, rfl⟩ := h
    exact k m2 H2 (by rw [List.append_nil]; exact a2)
  | true =>
    simp only [if_true] at h ⊢
    obtain ⟨y, e2, rfl⟩ := h
    refine ⟨env1, m2, Sa, he.ext x2, r2, ?_⟩
    rw [e2]
    intro m3 H3 x3 r3 v hv
    have a3 := a2.ext hD x3 r3
    obtain ⟨acc, h1, h2⟩ := a3.at_
    refine ⟨acc, h1, ?_, k m3 _ (a3.push hD h1 hv)⟩
    rw [h2.length]
    rw [List.length_append, List.length_singleton] at hz
    omega
theorem wkIn {its : Items} {J : It} {L : Addr} (w : Wk T its m H J) (hL : H L = none) : Wk T its (m.hide L) (upd H L (.lst [])) J := w.ext0 (Ext0.hide hL)
theorem isz_mkL {ys : List D} {k : D → Store → Mp → Hp → Prop} (h : PostK T (mkL new ys S) m H σ W k) : ys.length ≤ sizeLine := by
  unfold mkL at h
  exact isz_of (ite_use h).1
theorem lc_use (hsl : ∀ i ∈ t.slots, i ∈ vs) (he : REnv T m H env σ) (r : RS T m H S)
    (h : PostK T ((fI env S).bind fun its S => (compGo t its.g okf evf (wipeD env vs) its.xs S).bind fun ys S => mkL new ys S) m H σ W (KQ T Q)) :
    tLc (tI T W fI) (gT T.K t) (tB T W1 okf) (tE T W1 evf) vs σ H Q := by
  refine ⟨env, m, S, he, r, h.bind.imp fun its S1 m1 H1 _ x1 r1 h1 J wk L hL => ?_⟩
  cases e : compGo t its.g okf evf (wipeD env vs) its.xs S1 with
  | stuck =>
    rw [e] at h1
    exact h1.elim
  | exc _ _ => exact (colGo_noexc e).elim
  | ok ys Sf =>
    have h1 : PostK T (mkL new ys Sf) m1 H1 σ W (KQ T Q) := by
      rw [e] at h1
      exact h1
    exact acc_loop (B := bodyB T W1 L okf evf) (wkIn wk hL) List.mem_cons_self ((he.ext x1).wipe vs |>.ext0 (Ext0.hide hL)) hsl e (Acc.start r1 hL) (isz_mkL h1) (body_ok List.mem_cons_self) fun m' H' a => a.fin r1 hL h1
theorem lc2_use {fJ : Env → Store → R Items} {t2 : Ev.T} (hsl : ∀ i ∈ t.slots, i ∈ vs) (he : REnv T m H env σ) (r : RS T m H S)
    (h : PostK T ((fI env S).bind fun its S => (colGo t its.g (fun env S => (fJ env S).bind fun js S => compGo t2 js.g okf evf (wipeD env t2.slots) js.xs S) (wipeD env vs) its.xs S).bind fun ys S => mkL new ys S) m H σ W (KQ T Q)) :
    tLc2 (tI T W fI) (gT T.K t) tYes (tI T W1 fJ) (gT T.K t2) (tB T W1 okf) (tE T W1 evf) vs t2.slots σ H Q := by
  refine ⟨env, m, S, he, r, h.bind.imp fun its S1 m1 H1 _ x1 r1 h1 J wk L hL => ?_⟩
  cases e : colGo t its.g (fun env S => (fJ env S).bind fun js S => compGo t2 js.g okf evf (wipeD env t2.slots) js.xs S) (wipeD env vs) its.xs S1 with
  | stuck =>
    rw [e] at h1
    exact h1.elim
  | exc _ _ => exact (colGo_noexc e).elim
  | ok ys Sf =>
    have h1 : PostK T (mkL new ys Sf) m1 H1 σ W (KQ T Q) := by
      rw [e] at h1
      exact h1
    have hL1 : L ∈ (m1.hide L).h := List.mem_cons_self
    refine acc_loop (B := fun σ2 H2 Nx => tYes σ2 H2 fun b H3 => if b = true then tI T W1 fJ σ2 H3 fun J1 H4 => ∃ W1' : Nat → Nat → Hp → Prop, (∃ m, W1' 0 m H4) ∧ ∀ j k H, W1' j k H →
      (J1.stop j H ∧ Nx H) ∨ (J1.go j H ∧ ∃ Nx1 : Hp → Prop, (∀ H', Nx1 H' → ∃ k', k' < k ∧ W1' (j + 1) k' H') ∧ ∀ x H', J1.yld j H x H' → gT T.K t2 x (L2.wipe σ2 t2.slots) H' fun σ3 H5 => L2.wipe σ3 t2.slots = L2.wipe σ2 t2.slots ∧ bodyB T W1 L okf evf σ3 H5 Nx1) else Nx H3)
      (wkIn wk hL) hL1 ((he.ext x1).wipe vs |>.ext0 (Ext0.hide hL)) hsl e (Acc.start r1 hL) (isz_mkL h1) (fun env1 Sa Sb ys1 ws m2 H2 σ2 N hgo a he2 hz k => ?_) fun m' H' a => a.fin r1 hL h1
    show tI T W1 fJ σ2 H2 _
    refine ⟨env1, m2, Sa, he2, a.rs, ?_⟩
    cases e2 : fJ env1 Sa with
    | stuck =>
      rw [e2] at hgo
      cases hgo
    | exc _ _ =>
      rw [e2] at hgo
      cases hgo
    | ok js Sc =>
      rw [e2] at hgo
      have hgo : compGo t2 js.g okf evf (wipeD env1 t2.slots) js.xs Sc = .ok ws Sb := hgo
      intro m3 H3 x3 r3 J1 wk1
      have a3 := a.ext hL1 x3 r3
      have hL3 : L ∈ m3.h := by rw [a3.h]; exact hL1
      exact acc_loop (B := bodyB T W1 L okf evf) wk1 hL3 ((he2.ext x3).wipe t2.slots) (fun _ h => h) hgo ⟨a3.at_, a3.rs, Ext0.refl, rfl, fun _ _ _ => rfl⟩ hz (body_ok hL3) fun m' H' b => k m' H' (a3.trans b)
/-- a clause by what it does -/
structure CF where
  t : Ev.T
  fI : Env → Store → R Items
  okf : Env → Store → R Bool
  vs : List Nat
def goN (ev : Env → Store → R D) : List CF → Env → Store → R (List D)
  | [], env, S => (ev env S).bind fun y S => .ok [y] S
  | c :: cs, env, S => (c.fI env S).bind fun its S => colGo c.t its.g (fun env S => (c.okf env S).bind fun b S => if b then goN ev cs env S else .ok [] S) (wipeD env c.vs) its.xs S
def clOf (T : Ad) (W : WX) (c : CF) (g : Comprehension) : Cl := ⟨g.target, g.iter, g.ifs, tI T W c.fI, gT T.K c.t, tB T W c.okf, c.vs⟩
theorem bindOk {α β : Type} {r : R α} {f : α → Store → R β} {b : β} {S : Store} (h : r.bind f = .ok b S) : ∃ a S1, r = .ok a S1 ∧ f a S1 = .ok b S := by
  cases r with
  | ok a S1 => exact ⟨a, S1, rfl, h⟩
  | exc _ _ => cases h
  | stuck => cases h
theorem tin_use {L : Addr} : ∀ (cs : List CF) (gs : List Comprehension), gs.length = cs.length → (∀ c ∈ cs, ∀ i ∈ c.t.slots, i ∈ c.vs) →
    ∀ {m0 : Mp} {H0 : Hp}, L ∈ m0.h → ∀ (env1 : Env) (S1 S2 : Store) (ys ws : List D) (m1 : Mp) (H1 : Hp) (σ1 : L2.St) (N : Hp → Prop), goN evf cs env1 S1 = .ok ws S2 → Acc T m0 H0 L ys S1 m1 H1 → REnv T m1 H1 env1 σ1 → (ys ++ ws).length ≤ sizeLine →
    (∀ m2 H2, Acc T m0 H0 L (ys ++ ws) S2 m2 H2 → N H2) → tIn (tE T W1 evf) L (List.zipWith (clOf T W1) cs gs) σ1 H1 N
  | [], gs, hl, hs, m0, H0, hD, env1, S1, S2, ys, ws, m1, H1, σ1, N, h, a, he, hz, k => by
    obtain ⟨y, Sa, e2, h⟩ := bindOk h
    cases h
    show tE T W1 evf σ1 H1 _
    refine ⟨env1, m1, S1, he, a.rs, ?_⟩
    rw [e2]
    intro m3 H3 x3 r3 v hv
    have a3 := a.ext hD x3 r3
    obtain ⟨acc, h1, h2⟩ := a3.at_
    refine ⟨acc, h1, ?_, k m3 _ (a3.push hD h1 hv)⟩
    rw [h2.length]
    rw [List.length_append, List.length_singleton] at hz
    omega
  | c :: cs, [], hl, hs, m0, H0, hD, env1, S1, S2, ys, ws, m1, H1, σ1, N, h, a, he, hz, k => by cases hl
  | c :: cs, g :: gs, hl, hs, m0, H0, hD, env1, S1, S2, ys, ws, m1, H1, σ1, N, h, a, he, hz, k => by
    obtain ⟨js, Sc, e2, hgo⟩ := bindOk h
    show tI T W1 c.fI σ1 H1 _
    refine ⟨env1, m1, S1, he, a.rs, ?_⟩
    rw [e2]
    intro m3 H3 x3 r3 J1 wk1
    have a3 := a.ext hD x3 r3
    have hL3 : L ∈ m3.h := by rw [a3.h]; exact hD
    refine acc_loop (B := fun σ3 H5 N1 => tB T W1 c.okf σ3 H5 fun b H6 => if b = true then tIn (tE T W1 evf) L (List.zipWith (clOf T W1) cs gs) σ3 H6 N1 else N1 H6)
      wk1 hL3 ((he.ext x3).wipe c.vs) (hs c List.mem_cons_self) hgo ⟨a3.at_, a3.rs, Ext0.refl, rfl, fun _ _ _ => rfl⟩ hz (fun env2 Sa Sb ys1 ws1 m4 H4 σ4 N1 hgo1 a4 he4 hz4 k4 => ?_) fun m' H' b => k m' H' (a3.trans b)
    obtain ⟨b, Sd, e3, hgo1⟩ := bindOk hgo1
    refine ⟨env2, m4, Sa, he4, a4.rs, ?_⟩
    rw [e3]
    intro m5 H5 x5 r5
    have a5 := a4.ext hL3 x5 r5
    cases b with
    | false =>
      simp only [Bool.false_eq_true, if_false] at hgo1 ⊢
      cases hgo1
      rw [List.append_nil] at k4
      exact k4 m5 H5 a5
    | true =>
      simp only [if_true] at hgo1 ⊢
      exact tin_use cs gs (Nat.succ.inj hl) (fun c' h' => hs c' (List.mem_cons_of_mem _ h')) hL3 env2 Sd Sb ys1 ws1 m5 H5 σ4 N1 hgo1 a5 (he4.ext x5) hz4 k4
theorem lcN_use {cs : List CF} {gs : List Comprehension} (hl : gs.length = cs.length) (hs : ∀ c ∈ cs, ∀ i ∈ c.t.slots, i ∈ c.vs) (hsl : ∀ i ∈ t.slots, i ∈ vs) (he : REnv T m H env σ) (r : RS T m H S)
    (h : PostK T ((fI env S).bind fun its S => (colGo t its.g (fun env S => (okf env S).bind fun b S => if b then goN evf cs env S else .ok [] S) (wipeD env vs) its.xs S).bind fun ys S => mkL new ys S) m H σ W (KQ T Q)) :
    tLcN (tI T W fI) (gT T.K t) (tB T W1 okf) (List.zipWith (clOf T W1) cs gs) (tE T W1 evf) vs σ H Q := by
  refine ⟨env, m, S, he, r, h.bind.imp fun its S1 m1 H1 _ x1 r1 h1 J wk L hL => ?_⟩
  cases e : colGo t its.g (fun env S => (okf env S).bind fun b S => if b then goN evf cs env S else .ok [] S) (wipeD env vs) its.xs S1 with
  | stuck =>
    rw [e] at h1
    exact h1.elim
  | exc _ _ => exact (colGo_noexc e).elim
  | ok ys Sf =>
    have h1 : PostK T (mkL new ys Sf) m1 H1 σ W (KQ T Q) := by
      rw [e] at h1
      exact h1
    have hL1 : L ∈ (m1.hide L).h := List.mem_cons_self
    refine acc_loop (B := fun σ3 H5 N1 => tB T W1 okf σ3 H5 fun b H6 => if b = true then tIn (tE T W1 evf) L (List.zipWith (clOf T W1) cs gs) σ3 H6 N1 else N1 H6)
      (wkIn wk hL) hL1 ((he.ext x1).wipe vs |>.ext0 (Ext0.hide hL)) hsl e (Acc.start r1 hL) (isz_mkL h1) (fun env2 Sa Sb ys1 ws1 m4 H4 σ4 N1 hgo1 a4 he4 hz4 k4 => ?_) fun m' H' a => a.fin r1 hL h1
    obtain ⟨b, Sd, e3, hgo1⟩ := bindOk hgo1
    refine ⟨env2, m4, Sa, he4, a4.rs, ?_⟩
    rw [e3]
    intro m5 H5 x5 r5
    have a5 := a4.ext hL1 x5 r5
    cases b with
    | false =>
      simp only [Bool.false_eq_true, if_false] at hgo1 ⊢
      cases hgo1
      rw [List.append_nil] at k4
      exact k4 m5 H5 a5
    | true =>
      simp only [if_true] at hgo1 ⊢
      exact tin_use cs gs hl hs hL1 env2 Sd Sb ys1 ws1 m5 H5 σ4 N1 hgo1 a5 (he4.ext x5) hz4 k4
variable {body : Env → Store → SR} {E : Ends}
theorem for_use (he : REnv T m H env σ) (r : RS T m H S) (h : PostS T ((fI env S).st env fun its S => forGo t its.g body its.xs env S) m H W E) : tFor (tI T W fI) (gT T.K t) (tS T W body) E σ H := by
  refine ⟨env, m, S, he, r, (PostK.st he h).imp fun its S1 m1 H1 _ x1 r1 h1 J wk => ?_⟩
  obtain ⟨G, Y, w1, w2, w3⟩ := wk.ex
  let Pv : Nat → L2.St → Hp → Prop := fun i σ' H' => ∃ env' S' m', REnv T m' H' env' σ' ∧ RS T m' H' S' ∧ Ext0 m1 H1 m' H' ∧ PostS T (forGo t its.g body (its.xs.drop i) env' S') m' H' W E
  refine ⟨fun i k σ' H' => k = its.xs.length - i ∧ i ≤ its.xs.length ∧ Pv i σ' H', ⟨its.xs.length, by simp, Nat.zero_le _, env, S1, m1, he.ext x1, r1, Ext0.refl, h1⟩, ?_⟩
  rintro i k σ' H' ⟨rfl, hi, env', S', m', he', r', x', hp⟩
  have hg : gOk its.g S' = true := by
    cases hd : its.xs.drop i with
    | nil =>
      rw [hd, forGo] at hp
      split at hp
      · assumption
      · exact hp.elim
    | cons _ _ =>
      rw [hd, forGo] at hp
      split at hp
      · assumption
      · exact hp.elim
  have hG := w2 m' H' S' x' r' hg
  by_cases hlt : i < its.xs.length
  · refine .inr ⟨w1.goes i H' hlt hG, Pv (i + 1), fun σ2 H2 p' => ⟨its.xs.length - (i + 1), by omega, rfl, hlt, p'⟩, fun x H2 y => ?_⟩
    obtain ⟨ey, ry, d, hd1, hd2⟩ := w3 i m' H' S' x H2 hlt x' r' hg (w1.yields i H' x H2 hlt hG y)
    rw [List.getElem?_eq_getElem hlt] at hd1
    cases hd1
    rw [List.drop_eq_getElem_cons hlt, forGo, if_pos hg] at hp
    cases e1 : t.asg its.xs[i] env' with
    | none =>
      rw [e1] at hp
      exact hp.elim
    | some env1 =>
      rw [e1] at hp
      simp only at hp
      refine Ev.T.use t _ x env' env1 _ _ e1 hd2 (he'.ext ey) fun σ2 he2 _ => ⟨env1, m', S', he2, ry, ?_⟩
      have hp := PostS.ext hp ey
      cases e2 : body env1 S' with
      | nx e2' Sb =>
        rw [e2] at hp
        exact fun m3 H3 σ3 x3 r3 he3 => ⟨e2', Sb, m3, he3, r3, (x'.trans ey.toExt0).trans x3.toExt0, PostS.ext hp x3⟩
      | ct e2' Sb =>
        rw [e2] at hp
        exact fun m3 H3 σ3 x3 r3 he3 => ⟨e2', Sb, m3, he3, r3, (x'.trans ey.toExt0).trans x3.toExt0, PostS.ext hp x3⟩
      | bk e2' Sb =>
        rw [e2] at hp
        exact hp
      | rt d Sb =>
        rw [e2] at hp
        exact hp
      | exc x e2' Sb =>
        rw [e2] at hp
        exact hp
      | stuck =>
        rw [e2] at hp
        exact hp
  · have ei : i = its.xs.length := by omega
    subst ei
    rw [List.drop_length, forGo, if_pos hg] at hp
    exact .inl ⟨w1.stops H' hG, hp m' H' σ' Ext.refl r' he'⟩
theorem whl_use {test : Env → Store → R Bool} {n : Nat} (he : REnv T m H env σ) (r : RS T m H S) (h : PostS T (whlGo test body n env S) m H W E) : tWhile (tB T W test) (tS T W body) E σ H := by
  refine ⟨fun k σ' H' => ∃ env' S' m', REnv T m' H' env' σ' ∧ RS T m' H' S' ∧ PostS T (whlGo test body k env' S') m' H' W E, ⟨n, env, S, m, he, r, h⟩, ?_⟩
  rintro k σ' H' ⟨env', S', m', he', r', hp⟩
  cases k with
  | zero => exact hp.elim
  | succ k =>
    rw [whlGo] at hp
    refine ⟨env', m', S', he', r', (PostK.st he' hp).imp fun b S1 m1 H1 _ x1 r1 h1 => ?_⟩
    cases b with
    | false =>
      simp only [Bool.false_eq_true, if_false] at h1 ⊢
      exact h1 m1 H1 σ' Ext.refl r1 (he'.ext x1)
    | true =>
      simp only [if_true] at h1 ⊢
      refine ⟨fun σ2 H2 => ∃ env' S' m', REnv T m' H2 env' σ2 ∧ RS T m' H2 S' ∧ PostS T (whlGo test body k env' S') m' H2 W E, fun σ2 H2 p => ⟨k, Nat.lt_succ_self k, p⟩, env', m1, S1, he'.ext x1, r1, ?_⟩
      cases e2 : body env' S1 with
      | nx e2' Sb =>
        rw [e2] at h1
        exact fun m3 H3 σ3 x3 r3 he3 => ⟨e2', Sb, m3, he3, r3, PostS.ext h1 x3⟩
      | ct e2' Sb =>
        rw [e2] at h1
        exact fun m3 H3 σ3 x3 r3 he3 => ⟨e2', Sb, m3, he3, r3, PostS.ext h1 x3⟩
      | bk e2' Sb =>
        rw [e2] at h1
        exact h1
      | rt d Sb =>
        rw [e2] at h1
        exact h1
      | exc x e2' Sb =>
        rw [e2] at h1
        exact h1
      | stuck =>
        rw [e2] at h1
        exact h1
end
section
variable {X : Cx} {k : Nat} {f : Addr} {fd : FuncData} {ps : List Str} {sp : Sp} {E : L2.St → XK} {x : Str} {p pos : Pos} {e : Expr} {es : List Expr} {t : TA}
theorem run_fnG {pins : List (Addr × Obj)} {σ : L2.St} {H : Hp} {s : Shared} {Q : VK} {us : List Value} {vs : List V} (F : FnG X.prog X.w X.K X.mg X.base (L2N.CX X.prog X.w) k f fd ps sp) (hr : Rm k X.A) (hb : Binds X.K fd ps []) (hx : PassesAt (L2N.CX X.prog X.w) X σ (E σ))
    (I : Inv X pins σ H s) (r : Vals vs us) (h : sp vs H Q (E σ)) : wpAny (model X.prog X.w) X.A (call (.ref f) us) (EP X pins σ Q) X.xe s := by
  have hl : us.length = ps.length := by rw [← r.length]; exact F.len _ _ _ _ h
  have b := hb s us I.kIn (by rw [List.append_nil]; exact hl)
  rw [List.append_nil] at b
  refine wpAny_call (codeAny_mono (F.run X.A X.stack s H ⟨us, []⟩ us vs Q (E σ) hr I.env0 b r h) fun r s' hq => ?_)
  cases r with
  | error e => exact hx pins H s e s' I hq
  | ok fl =>
    cases fl with
    | ret u => exact I.after hq
    | next => exact False.elim hq
    | brk => exact False.elim hq
    | cont => exact False.elim hq
theorem pe_callG (F : FnG X.prog X.w X.K X.mg X.base (L2N.CX X.prog X.w) k f fd ps sp) (hr : Rm k X.A) (hg : Gl X x) (hm : X.mg x = some (.ref f)) (hk : PySem.W.keepIn X.K (.ref f) = true) (hb : Binds X.K fd ps []) (hx : ∀ σ, PassesAt (L2N.CX X.prog X.w) X σ (E σ))
    (ha : PA X (e :: es) t) (hdb : (x == ("__debug__" : Str)) = false) (he : starEach (e :: es) X.env = (false, eval e X.env) :: starEach es X.env) (hpl : (backTo pos (starEach es X.env)).any (·.1) = false) :
    PE X (.Call (.Name x p) (e :: es) [] pos) (tCallS sp E t) := by
  refine ⟨fun pins s σ H Q I h => ?_⟩
  refine wpAny_Call_Name_kw (ld_glob I hg hm ?_ hdb)
  refine PySem.W.callWith_K (h₀ := X.base) I.ok.mod.kin hk (thn (ha.run pos pins s σ H _ I h) fun us s1 ⟨vs, H1, I1, r, q⟩ => ⟨I1.kIn, ?_⟩) he hpl
  exact run_fnG F hr hb (hx σ) I1 r q
theorem pe_callG0 (F : FnG X.prog X.w X.K X.mg X.base (L2N.CX X.prog X.w) k f fd ps sp) (hr : Rm k X.A) (hg : Gl X x) (hm : X.mg x = some (.ref f)) (hk : PySem.W.keepIn X.K (.ref f) = true) (hb : Binds X.K fd ps []) (hx : ∀ σ, PassesAt (L2N.CX X.prog X.w) X σ (E σ))
    (hdb : (x == ("__debug__" : Str)) = false) : PE X (.Call (.Name x p) [] [] pos) (tCallS sp E tNil) := by
  refine ⟨fun pins s σ H Q I h => ?_⟩
  refine wpAny_Call_Name_kw (ld_glob I hg hm ?_ hdb)
  exact PySem.W.callWith_K0 I.kIn hk (run_fnG (us := []) F hr hb (hx σ) I .nil h)
end
section
variable {T : Ad} {m : Mp} {H : Hp} {σ : L2.St} {W : WX} {S : Store} {Q : VK} {ds : List D} {vs : List V}
theorem call_use {c : List D → Store → R D} {n : Nat} (r : RS T m H S) (hv : RDs T m H ds vs) (hl : c ds S ≠ .stuck → ds.length = n) (h : PostK T (c ds S) m H σ W (KQ T Q)) : spC T c n vs H Q (WE W σ) := by
  refine ⟨?_, m, ds, S, r, hv, ?_⟩
  · rw [hv.length]
    exact hl fun e => by rw [e] at h; exact h
  · cases e : c ds S with
    | ok d S1 =>
      rw [e] at h
      exact fun v m' H' x r1 hv => h m' H' x r1 v hv
    | exc x S1 =>
      rw [e] at h
      exact h
    | stuck =>
      rw [e] at h
      exact h
end
end Ev
namespace Ev
open PySem PySem.Spec L2 PyProof.Rows
theorem ownMeth_any {prog : Program} {w : World} {A : Around} {E : Value → Shared → Prop} {s : Shared} {env : PySem.Env} {o : Expr} {name : Str} {apos pos : Pos} {args : List Expr} {Q : Value → Shared → Prop}
    (hb : attributeBase o name env (eval o env) = eval o env)
    (hf : methodCallForm (args.length + ([] : List Keyword).length) (backTo pos (starEach args env)) (backToKw pos (keywordEach [] env)) = true)
    (hl : (apos.endLine == pos.line) = true)
    (h : wpAny (model prog w) A (eval o env) (fun ov s₁ => ∀ pl, wpAny (model prog w) A (getMethod ov name pl) (fun fx s₂ => wpAny (model prog w) A (callWith pos fx.1 fx.2 (backTo pos (starEach args env)) []) Q E s₂) E s₁) E s) :
    wpAny (model prog w) A (eval (.Call (.Attribute o name apos) args [] pos) env) Q E s := by
  rw [arm_eval_Call, hb]
  refine wpAny_bind (wpAny_mono h (fun ov s₁ h₁ => ?_) fun _ _ e => e)
  refine wpAny_bind (wpAny_standAt ?_)
  have hp : methodCallPos true o env apos pos = pure pos := by unfold methodCallPos; simp [hl]
  unfold methodCall
  rw [hf]
  refine wpAny_bind (wpAny_holding (wpAny_mono (h₁ _) (fun fx s₂ h₂ => ?_) fun _ _ e => e))
  exact wpAny_bind (wpAny_of_eq hp h₂)
section
variable {X : Cx} {CX : CXT} {k : Nat} {f C : Addr} {fd : FuncData} {ps : List Str} {sp : Sp} {E : L2.St → XK} {x m : Str} {p pos apos : Pos} {e o : Expr} {es : List Expr} {ta : TE} {t : TA}
/-- what is known of a class's method -/
structure MethG (X : Cx) (C : Addr) (m : Str) (R : List V → Hp → VK → L2.St → Prop) : Prop where
  ex : ∃ (k : Nat) (f : Addr) (fd : FuncData) (ps : List Str) (sp : Sp) (E : L2.St → XK), Meth X.K C m f ∧ FnG X.prog X.w X.K X.mg X.base (L2N.CX X.prog X.w) k f fd ps sp ∧ Rm k X.A ∧ Binds X.K fd ps [] ∧ (∀ σ, PassesAt (L2N.CX X.prog X.w) X σ (E σ)) ∧ ∀ vs H Q σ, R vs H Q σ → sp vs H Q (E σ)
/-- the reading of a method's call: the class found with the instance -/
def tMethI (X : Cx) (m : Str) (to : TE) (t : TA) : TE := fun σ H Q => to σ H fun x H1 => ∃ a C dx fs R, x = .ref a ∧ H1 a = some (.ins C dx fs) ∧ Cls X.K C ∧ MethG X C m R ∧ fs.lookup m = none ∧ t σ H1 fun vs H2 => R (x :: vs) H2 Q σ
theorem pe_methI (he : PE X o ta) (ha : PA X (e :: es) t) (hb : attributeBase o m X.env (eval o X.env) = eval o X.env)
    (hf : methodCallForm ((e :: es).length + ([] : List Keyword).length) (backTo pos (starEach (e :: es) X.env)) (backToKw pos (keywordEach [] X.env)) = true) (hl : (apos.endLine == pos.line) = true)
    (hst : starEach (e :: es) X.env = (false, eval e X.env) :: starEach es X.env) (hpl : (backTo pos (starEach es X.env)).any (·.1) = false) : PE X (.Call (.Attribute o m apos) (e :: es) [] pos) (tMethI X m ta t) := by
  refine ⟨fun pins s σ H Q I h => ?_⟩
  refine ownMeth_any hb hf hl (thn (he.run pins s σ H _ I h) fun u s1 ⟨x, H1, I1, rx, a, C, dx, fs, R, ex, ea, c, mg, l, q⟩ => fun pl => ?_)
  subst ex
  obtain rfl : u = Value.ref a := rx
  obtain ⟨k, f, fd, ps, sp, E, hm', F, hr, hb, hx, hsp⟩ := mg.ex
  refine getmeth_ok I1 ea c hm' l ?_
  refine PySem.W.callWith_K (first := [.ref a]) (h₀ := X.base) I.ok.mod.kin hm'.kp (thn (ha.run pos pins s1 σ H1 _ I1 q) fun us s2 ⟨vs, H2, I2, r, q2⟩ => ⟨I2.kIn, ?_⟩) hst hpl
  exact run_fnG (us := .ref a :: us) (vs := .ref a :: vs) F hr hb (hx σ) I2 (.cons rfl r) (hsp _ _ _ _ q2)
theorem pe_methI0 (he : PE X o ta) (hb : attributeBase o m X.env (eval o X.env) = eval o X.env) (hl : (apos.endLine == pos.line) = true) : PE X (.Call (.Attribute o m apos) [] [] pos) (tMethI X m ta tNil) := by
  refine ⟨fun pins s σ H Q I h => ?_⟩
  refine ownMeth_any hb rfl hl (thn (he.run pins s σ H _ I h) fun u s1 ⟨x, H1, I1, rx, a, C, dx, fs, R, ex, ea, c, mg, l, q⟩ => fun pl => ?_)
  subst ex
  obtain rfl : u = Value.ref a := rx
  obtain ⟨k, f, fd, ps, sp, E, hm', F, hr, hb, hx, hsp⟩ := mg.ex
  refine getmeth_ok I1 ea c hm' l ?_
  exact PySem.W.callWith_K0 (first := [.ref a]) I1.kIn hm'.kp (run_fnG (us := [.ref a]) (vs := [.ref a]) F hr hb (hx σ) I1 (.cons rfl .nil) (hsp _ _ _ _ q))
theorem Rm.make {k : Nat} {A : Around} (r : Rm (k + 1) A) (C : Addr) (us : List Value) : Rm k (A.under (.builtin "type.__call__" ⟨.ref C :: us, []⟩)) := ⟨r.room.make C us [], r.gd⟩
theorem run_makeG {pins : List (Addr × Obj)} {σ : L2.St} {H : Hp} {s : Shared} {Q : VK} {us : List Value} {vs : List V} (M : Mk X.K C f) (F : FnG X.prog X.w X.K X.mg X.base (L2N.CX X.prog X.w) k f fd ps sp) (hr : Rm (k + 1) X.A) (hb : Binds X.K fd ps [])
    (hx : PassesAt (L2N.CX X.prog X.w) X σ (E σ)) (I : Inv X pins σ H s) (r : Vals vs us)
    (h : ∀ x dx, H x = none → H dx = none → dx ≠ x → sp (.ref x :: vs) (upd (upd H dx (.own x)) x (.ins C dx [])) (fun v H2 => v = .non ∧ Q (.ref x) H2) (E σ)) :
    wpAny (model X.prog X.w) X.A (call (.ref C) us) (EP X pins σ Q) X.xe s := by
  have hq := h (s.heap.objs.size + 1) s.heap.objs.size (I.hok.fresh (Nat.le_succ _)) (I.hok.fresh (Nat.le_refl _)) (Nat.ne_of_lt (Nat.lt_succ_self _))
  have I2 := Inv.made (C := C) I
  have r2 : Vals (V.ref (s.heap.objs.size + 1) :: vs) (Value.ref (s.heap.objs.size + 1) :: us) := .cons rfl r
  have hl : (Value.ref (s.heap.objs.size + 1) :: us).length = ps.length := by
    have e := r2.length
    rw [F.len _ _ _ _ hq] at e
    exact e.symm
  have b := hb _ (Value.ref (s.heap.objs.size + 1) :: us) I2.kIn (by rw [List.append_nil]; exact hl)
  rw [List.append_nil] at b
  refine wpAny_call (make_map (f := f) I.kIn M.makes M.init (beq_iff_eq.mp M.fn) (codeAny_mono (F.run _ X.stack _ _ ⟨Value.ref (s.heap.objs.size + 1) :: us, []⟩ (Value.ref (s.heap.objs.size + 1) :: us) _ _ (E σ) (hr.make C us)
    (I2.env0.make C us []) b r2 hq) fun r s' hq' => ?_))
  cases r with
  | error e => exact hx pins _ _ e s' I2 hq'
  | ok fl =>
    cases fl with
    | ret u =>
      obtain ⟨v, H', I3, rv, ev, q3⟩ := I2.after hq'
      subst ev
      exact ⟨rv, ⟨V.ref (s.heap.objs.size + 1), H', I3, rfl, q3⟩⟩
    | next => exact False.elim hq'
    | brk => exact False.elim hq'
    | cont => exact False.elim hq'
def tMakeG (C : Addr) (sp : Sp) (E : L2.St → XK) (t : TA) : TE := fun σ H Q => t σ H fun vs H1 => ∀ x dx, H1 x = none → H1 dx = none → dx ≠ x → sp (.ref x :: vs) (upd (upd H1 dx (.own x)) x (.ins C dx [])) (fun v H2 => v = .non ∧ Q (.ref x) H2) (E σ)
theorem pe_makeG (M : Mk X.K C f) (F : FnG X.prog X.w X.K X.mg X.base (L2N.CX X.prog X.w) k f fd ps sp) (hr : Rm (k + 1) X.A) (hg : Gl X x) (hm : X.mg x = some (.ref C)) (hb : Binds X.K fd ps []) (hx : ∀ σ, PassesAt (L2N.CX X.prog X.w) X σ (E σ))
    (ha : PA X (e :: es) t) (hdb : (x == ("__debug__" : Str)) = false) (he : starEach (e :: es) X.env = (false, eval e X.env) :: starEach es X.env) (hpl : (backTo pos (starEach es X.env)).any (·.1) = false) :
    PE X (.Call (.Name x p) (e :: es) [] pos) (tMakeG C sp E t) := by
  refine ⟨fun pins s σ H Q I h => ?_⟩
  refine wpAny_Call_Name_kw (ld_glob I hg hm ?_ hdb)
  refine PySem.W.callWith_K (h₀ := X.base) I.ok.mod.kin M.kp (thn (ha.run pos pins s σ H _ I h) fun us s1 ⟨vs, H1, I1, r, q⟩ => ⟨I1.kIn, ?_⟩) he hpl
  exact run_makeG M F hr hb (hx σ) I1 r q
theorem pe_makeG0 (M : Mk X.K C f) (F : FnG X.prog X.w X.K X.mg X.base (L2N.CX X.prog X.w) k f fd ps sp) (hr : Rm (k + 1) X.A) (hg : Gl X x) (hm : X.mg x = some (.ref C)) (hb : Binds X.K fd ps []) (hx : ∀ σ, PassesAt (L2N.CX X.prog X.w) X σ (E σ))
    (hdb : (x == ("__debug__" : Str)) = false) : PE X (.Call (.Name x p) [] [] pos) (tMakeG C sp E tNil) := by
  refine ⟨fun pins s σ H Q I h => ?_⟩
  refine wpAny_Call_Name_kw (ld_glob I hg hm ?_ hdb)
  exact PySem.W.callWith_K0 I.kIn M.kp (run_makeG (us := []) M F hr hb (hx σ) I .nil h)
end
end Ev
namespace Ev
open PySem PySem.Spec L2 PyProof.Rows
section
variable {T : Ad} {m m' : Mp} {H H' : Hp} {σ : L2.St} {W : WX} {S : Store} {Q : VK} {dx : D} {x : V} {G : Cfg}
theorem RFs.look {f : Str} {d : D} : ∀ {fs : List (Str × D)} {vs : List (Str × V)}, RFs T m H fs vs → fs.lookup f = some d → ∃ v, vs.lookup f = some v ∧ RD T m H d v
  | [], vs, h, e => by cases e
  | (g, d') :: fs, vs, h, e => by
    obtain ⟨v, r, rfl, h3, h4⟩ := h
    cases hb : (f == g) with
    | true =>
      simp only [List.lookup, hb] at e ⊢
      cases e
      exact ⟨v, rfl, h3⟩
    | false =>
      simp only [List.lookup, hb] at e ⊢
      exact RFs.look h4 e
theorem RFs.none_ {f : Str} : ∀ {fs : List (Str × D)} {vs : List (Str × V)}, RFs T m H fs vs → fs.lookup f = none → vs.lookup f = none
  | [], vs, h, e => by
    cases (show vs = [] from h)
    rfl
  | (g, d') :: fs, vs, h, e => by
    obtain ⟨v, r, rfl, h3, h4⟩ := h
    cases hb : (f == g) with
    | true =>
      simp only [List.lookup, hb] at e
      cases e
    | false =>
      simp only [List.lookup, hb] at e ⊢
      exact RFs.none_ h4 e
theorem RFs.put {f : Str} {d : D} {v : V} (hv : RD T m H d v) : ∀ {fs : List (Str × D)} {vs : List (Str × V)}, RFs T m H fs vs → RFs T m H (putFD f d fs) (putF f v vs)
  | [], vs, h => by
    cases (show vs = [] from h)
    exact ⟨v, [], rfl, hv, rfl⟩
  | (g, d') :: fs, vs, h => by
    obtain ⟨w, r, rfl, h3, h4⟩ := h
    rw [show putFD f d ((g, d') :: fs) = (if g = f then (g, d) :: fs else (g, d') :: putFD f d fs) from rfl, show putF f v ((g, w) :: r) = (if g = f then (g, v) :: r else (g, w) :: putF f v r) from rfl]
    by_cases e : g = f
    · rw [if_pos e, if_pos e]
      exact ⟨v, r, rfl, hv, h4⟩
    · rw [if_neg e, if_neg e]
      exact ⟨w, _, rfl, h3, RFs.put hv h4⟩
theorem RFs.length : ∀ {fs : List (Str × D)} {vs : List (Str × V)}, RFs T m H fs vs → vs.length = fs.length
  | [], vs, h => by
    cases (show vs = [] from h)
    rfl
  | d :: fs, vs, h => by
    obtain ⟨w, r, rfl, h3, h4⟩ := h
    rw [List.length_cons, List.length_cons, h4.length]
theorem objOf_use {c : Nat} {fs : List (Str × D)} (r : RS T m H S) (h : objOf S dx = some (c, fs)) (hx : RD T m H dx x) : ∃ l p q vs, dx = .ref l ∧ x = .ref p ∧ m.c[l]? = some p ∧ S[l]? = some (.obj c fs) ∧ H p = some (.ins (T.ka c) q vs) ∧ RFs T m H fs vs := by
  cases dx with
  | ref l =>
    have h : (match S[l]? with | some (.obj c fs) => some (c, fs) | _ => none) = some (c, fs) := h
    cases e : S[l]? with
    | none =>
      rw [e] at h
      cases h
    | some ob =>
      rw [e] at h
      cases ob with
      | obj c' fs' =>
        cases h
        obtain ⟨p, o, h1, h2, q, vs, h3, h4⟩ := r.obj e
        subst h3
        obtain ⟨p', q1, rfl⟩ := hx
        rw [h1] at q1
        cases q1
        exact ⟨l, p, q, vs, rfl, rfl, h1, e, h2, h4⟩
      | lst _ => cases h
      | dct _ => cases h
      | dtt _ => cases h
      | dtl _ => cases h
  | _ => cases h
theorem Mu.ins {p C q : Addr} {fs : List (Str × V)} : Mu p (.ins C q fs) := ⟨fun _ h => (by cases h), fun _ _ h => (by cases h), fun _ h => (by cases h), fun _ h => (by cases h)⟩
theorem fset_use {f : Str} {v : D} {w : V} {S1 : Store} (r : RS T m H S) (h : fsetV G f dx v S = some S1) (hx : RD T m H dx x) (hv : RD T m H v w) : ∃ c fs p q vs, x = .ref p ∧ objOf S dx = some (c, fs) ∧ hasFl G c f = true ∧ H p = some (.ins (T.ka c) q vs) ∧ vs.length < 1000 ∧
    Ext m H m (L2.upd H p (.ins (T.ka c) q (putF f w vs))) ∧ RS T m (L2.upd H p (.ins (T.ka c) q (putF f w vs))) S1 := by
  unfold fsetV at h
  split at h
  · rename_i l c fs ho
    split at h
    · rename_i k
      rw [Bool.and_eq_true] at k
      cases h
      obtain ⟨l', p, q, vs, e1, e2, e3, e4, e5, e6⟩ := objOf_use r ho hx
      cases e1
      exact ⟨c, fs, p, q, vs, e2, ho, k.1, e5, by rw [e6.length]; exact of_decide_eq_true k.2, Ext.upd r e3 e5 Mu.ins, r.updO e3 e5 Mu.ins ⟨q, _, rfl, e6.put hv⟩⟩
    · cases h
  · cases h
/-- a new instance -/
theorem new_use {c : Nat} {p q : Addr} (r : RS T m H S) (hp : H p = none) (hq : H q = none) (hne : q ≠ p) :
    Ext m H (m.add p) (L2.upd (L2.upd H q (.own p)) p (.ins (T.ka c) q [])) ∧ RS T (m.add p) (L2.upd (L2.upd H q (.own p)) p (.ins (T.ka c) q [])) (S ++ [.obj c []]) := by
  have r1 := r.new (o := .own p) hq
  have x1 := Ext.new (o := .own p) r hq
  have hp1 : (L2.upd H q (.own p)) p = none := by rw [upd_ne (Ne.symm hne)]; exact hp
  exact ⟨x1.trans (Ext.cell r1 hp1), r1.cellO hp1 ⟨q, [], rfl, rfl⟩⟩
end
end Ev
namespace Ev
open PySem PySem.Spec L2 PyProof.Rows PySem.W
section
variable {prog : Program} {w : World} {A : Around} {E : Value → Shared → Prop} {s : Shared} {K : Frag} {x C L f : Addr} {h₀ : Heap} {m : Str → Option Value} {ox : Obj} {od : Option Obj} {b tb : Value}
/-- the class's own function is not asked second: how the right side's type stands to the left one's -/
theorem second_asked {M : Model} {α : Type} {go : Bool → Sem α} {Q : α → Shared → Prop} (kin : K.In s.heap) (hn : notFirst K C tb = true) (h : wpAny M A (go false) Q E s) :
    wpAny M A (if Value.ref C != tb then isSubtype tb (.ref C) >>= go else pure false >>= go) Q E s := by
  by_cases c : tb = .ref C
  · rw [if_neg (show ¬ ((Value.ref C != tb) = true) by rw [c]; simp)]
    exact wpAny_bind (wpAny_pure h)
  · have below : subIn K tb (.ref C) = some false := by
      have hn := hn
      unfold notFirst at hn
      rw [show (tb == Value.ref C) = false from beq_eq_false_iff_ne.mpr c, Bool.false_or] at hn
      exact beq_iff_eq.mp hn
    rw [if_pos (show (Value.ref C != tb) = true from bne_iff_ne.mpr fun e => c e.symm)]
    exact wpAny_bind ((looks_subIn kin below).here h)
/-- a method that is a builtin of object, bound and called -/
theorem bound_builtin {M : Model} {args : List Value} {name : Str} {id : String} {Q : Option Value → Shared → Prop} (kin : K.In s.heap) (inst : InstAt s.heap x ox C od) (at_ : findIn K (.ref C) name = some (some (.builtin id)))
    (bnd : ∀ self, bindSpecial (.builtin id) self = pure (.builtin id, [self])) (h : wpAny M A (call (.builtin id) (.ref x :: args)) (fun v => Q (some v)) E s) : wpAny M A (callSpecialIfBound? (.ref x) name args) Q E s := by
  have told : wpAny M A (call (.builtin id) ([.ref x] ++ args) >>= fun v => pure (some v)) Q E s := wpAny_bind (wpAny_mono h (fun _ _ q => wpAny_pure q) fun _ _ q => q)
  have looks : Looks M s.heap (bindSpecial (.builtin id) (.ref x)) (.builtin id, [.ref x]) := Looks.of_pure (bnd _)
  unfold callSpecialIfBound? bindSpecialIfBound?
  refine wpAny_holding (wpAny_bind (wpAny_bind (wpAny_bind (inst.type.here ((looks_findIn kin at_).here (wpAny_bind (wpAny_askSetting (wpAny_ite ?_))))))))
  split
  · exact wpAny_bind (looks.here (wpAny_pure (by exact told)))
  · exact wpAny_tryCatch (wpAny_bind (looks.here (wpAny_pure (by exact told))))
/-- object's own !=, over the class's == -/
theorem objNe_K {Q : Value → Shared → Prop} (room : A.in1.units < cLine) (kin : K.In s.heap) (inst : InstAt s.heap x ox C od) (top : mroIn K C (.type "object") = some true)
    (at_ : findIn K (.ref C) "__eq__" = some (some (.ref f))) (isf : isFn K (.ref f) = true)
    (h : wpAny (model prog w) A.in1 (call (.ref f) [.ref x, b]) (fun v s' => ∃ r, v = .bool r ∧ Q (.bool (!r)) s') E s) :
    wpAny (model prog w) A (call (.builtin "object.__ne__") [.ref x, b]) Q E s := by
  have isObj : Looks (model prog w) s.heap (isInstance (.ref x) (.type "object")) true := inst.type.andThen (looks_mroIn kin top)
  refine wpAny_call (codeAny_call_builtin PySem.F.cmp_object.ne.plain PySem.F.cmpEntry_ne (check_slot PySem.F.cmpKind_ne PySem.F.cmpSplit_ne isObj (PySem.F.cmpArgs_ne _ _) ?_))
  have asked : wpAny (model prog w) A.in1 (callSpecialIfBound? (.ref x) (Str.ofString "__eq__") [b]) (fun o s' => ∃ r, o = some (.bool r) ∧ Q (.bool (!r)) s') E s := by
    refine ifBound_K kin inst at_ isf (wpAny_mono h (fun v s' q => ?_) fun _ _ q => q)
    obtain ⟨r, e, q⟩ := q
    exact ⟨r, by rw [e], q⟩
  show wpAny _ A.in1 (slotArgs "__ne__" 1 ⟨[.ref x, b], []⟩ >>= _) _ _ s
  refine wpAny_bind (wpAny_pure ?_)
  show wpAny _ A.in1 (cRoomFor "comparison" [.ref x, b] >>= _) _ _ s
  refine wpAny_bind (wpAny_cRoomFor room (wpAny_bind (wpAny_mono asked (fun o s' q => ?_) fun _ _ q => q)))
  obtain ⟨r, rfl, q⟩ := q
  exact wpAny_bind (wpAny_truthy_bool (wpAny_pure q))
/-- !=, where the class has == alone -/
theorem ne_K {Q : Value → Shared → Prop} (room0 : A.units < cLine) (room : A.in1.units < cLine) (kin : K.In s.heap) (inst : InstAt s.heap x ox C od) (lk : Looks (model prog w) s.heap (typeOf b) tb) (hn : notFirst K C tb = true)
    (nat : findIn K (.ref C) "__ne__" = some (some (.builtin "object.__ne__"))) (top : mroIn K C (.type "object") = some true) (at_ : findIn K (.ref C) "__eq__" = some (some (.ref f))) (isf : isFn K (.ref f) = true)
    (h : wpAny (model prog w) A.in1 (call (.ref f) [.ref x, b]) (fun v s' => ∃ r, v = .bool r ∧ Q (.bool (!r)) s') E s) : wpAny (model prog w) A (richCompare .NotEq (.ref x) b) Q E s := by
  have tried : wpAny (model prog w) A (tryCompare (.ref x) (Str.ofString "__ne__") b) (fun o s' => ∃ r, o = some (.bool r) ∧ Q (.bool r) s') E s := by
    unfold tryCompare
    refine wpAny_bind (bound_builtin kin inst nat PySem.F.cmp_object.ne.bind (objNe_K room kin inst top at_ isf (wpAny_mono h (fun v s' q => ?_) fun _ _ q => q)))
    obtain ⟨r, e, q⟩ := q
    exact ⟨r, e, wpAny_pure ⟨_, rfl, q⟩⟩
  unfold richCompare
  rw [cmpInfo_NotEq]
  simp only [oneThing_ref]
  refine wpAny_holding (wpAny_bind (wpAny_cRoomFor room0 (wpAny_bind (inst.type.here (wpAny_bind (lk.here (second_asked kin hn ?_)))))))
  simp only [Bool.false_eq_true, if_false]
  refine wpAny_bind (wpAny_mono tried (fun o s' q => ?_) fun _ _ q => q)
  obtain ⟨r, rfl, q⟩ := q
  exact wpAny_pure q
end
end Ev
namespace Ev
open PySem PySem.Spec L2 PyProof.Rows
/-- neither starred, nor a set, a slice, a call of nothing -/
def okX : Expr → Bool
  | .Starred .. => false
  | .Set .. => false
  | .Slice .. => false
  | .Call (.Name id _) [] [] _ => !(id == "super")
  | _ => true
def noIf : Expr → Bool
  | .IfExp .. => false
  | _ => true
def isBo : Expr → Bool
  | .BoolOp .. => true
  | _ => false
/-- a test by its value's truth -/
def plX : Expr → Bool
  | .UnaryOp .Not _ _ => false
  | .BoolOp .. => false
  | .IfExp .. => false
  | .Compare .. => false
  | _ => true
theorem star_of {e : Expr} {es : List Expr} {env : PySem.Env} (h : okX e = true) : starEach (e :: es) env = (false, eval e env) :: starEach es env := by
  cases e <;> first | rfl | (cases h)
theorem each_of {e : Expr} {es : List Expr} {env : PySem.Env} (h : okX e = true) : (assignEach (e :: es) env).map (·.2) = assign e env :: (assignEach es env).map (·.2) := by
  cases e <;> first | rfl | (cases h)
theorem base_of {e : Expr} {x : Str} {env : PySem.Env} (h : okX e = true) : attributeBase e x env (eval e env) = eval e env := by
  unfold attributeBase
  split
  · rename_i id _ _
    have h : (!(id == "super")) = true := h
    rw [Bool.not_eq_true'] at h
    have h2 : (id != "super") = true := by rw [bne, h]; rfl
    rw [h2, Bool.true_or, Bool.true_or, Bool.true_or]
    rfl
  · rfl
theorem fold_of {e : Expr} (h : okX e = true) (env : PySem.Env) (x : Value) : foldedSetIterable e env x = pure x := by
  cases e <;> first | rfl | (cases h)
theorem ix_of {e : Expr} (h : okX e = true) : PlainIx e := fun o i => by
  cases e <;> first | rfl | (cases h)
theorem mark_of {op : CmpOp} {e : Expr} (h : okX e = true) : behindInMarks op e = false := by
  cases e <;> first | rfl | (cases h)
theorem pl_of {e : Expr} {env : PySem.Env} (h : plX e = true) (whole : Sem Value) : isTrue e env whole = (do let v ← whole; standAt e.pos; holding [v] (truthy v)) := by
  cases e <;> first | rfl | (cases h) | (rename_i op x p; cases op <;> first | rfl | cases h)
theorem back_any {pos : Pos} : ∀ l : List (Bool × Sem Value), (backTo pos l).any (·.1) = l.any (·.1)
  | [] => rfl
  | a :: l => by
    show (a.1 || (backTo pos l).any (·.1)) = _
    rw [back_any l]
    rfl
theorem stars_no {env : PySem.Env} : ∀ {es : List Expr}, es.all okX = true → (starEach es env).any (·.1) = false
  | [], _ => rfl
  | e :: es, h => by
    rw [List.all_cons, Bool.and_eq_true] at h
    rw [star_of h.1]
    show (false || (starEach es env).any (·.1)) = false
    rw [stars_no h.2]
    rfl
theorem stars_any {pos : Pos} {env : PySem.Env} {es : List Expr} (h : es.all okX = true) : (backTo pos (starEach es env)).any (·.1) = false := by
  rw [back_any, stars_no h]
theorem few_one {cpos : Pos} {env : PySem.Env} {e : Expr} (h : okX e = true) : ((backTo cpos (starEach [e] env)).all (fun x => !x.1) && (backToKw cpos (keywordEach [] env)).all (fun x => x.1.isSome)
      && decide ([e].length + ([] : List Keyword).length + (if ([] : List Keyword).isEmpty then 0 else 1) < 30)) = true := by
  rw [star_of h]
  rfl
def chkC : D → Const → Bool
  | .non, .none => true
  | .bl a, .bool b => a == b
  | .int i, .int j => decide (i = j)
  | .str a, .str b => decide (a = b)
  | _, _ => false
def chkB (op : Bop) (o : Operator) : Bool := decide (o = opB op)
def chkO (op : Cop) (o : CmpOp) : Bool := decide (o = opC op)
def stO (so : Scope) (x : Str) : Bool := decide (so.names.lookup x = some .local) || decide (so.names.lookup x = some .cell)
section
variable (nm : Names) (N : List Str)
mutual
def chkT (so : Scope) : Ev.T → Expr → Bool
  | .nm i, .Name x _ => decide (N[i]? = some x) && stO so x
  | .tp ts, .Tuple es _ _ => chkTs so ts es
  | _, _ => false
def chkTs (so : Scope) : Ts → List Expr → Bool
  | .nil, [] => true
  | .cons t ts, e :: es => okX e && chkT so t e && chkTs so ts es
  | _, _ => false
end
/-- a call of a name: the name, what is handed in, what by keywords -/
def callNm : Expr → Option (Str × List Expr × List (Str × Expr))
  | .Call (.Name x _) ys [] _ => some (x, ys, [])
  | .Call (.Name x _) ys [⟨some m, z, _⟩] _ => some (x, ys, [(m, z)])
  | _ => none
theorem callNm_0 {x : Expr} {v : Str} {ys : List Expr} (h : callNm x = some (v, ys, [])) : ∃ p pos, x = .Call (.Name v p) ys [] pos := by
  unfold callNm at h
  split at h
  · cases h
    exact ⟨_, _, rfl⟩
  · cases h
  · cases h
/-- o.f(..), without keywords -/
def attCall : Expr → Option (Expr × Str × Pos × List Expr × Pos)
  | .Call (.Attribute y f p1) xs [] p2 => some (y, f, p1, xs, p2)
  | _ => none
theorem attCall_eq {x y : Expr} {f : Str} {p1 p2 : Pos} {xs : List Expr} (h : attCall x = some (y, f, p1, xs, p2)) : x = .Call (.Attribute y f p1) xs [] p2 := by
  unfold attCall at h
  split at h
  · cases h
    rfl
  · cases h
def dictP : Expr → Option (List (Option Expr) × List Expr)
  | .Dict ks vs _ => some (ks, vs)
  | _ => none
theorem dictP_eq {x : Expr} {ks : List (Option Expr)} {vs : List Expr} (h : dictP x = some (ks, vs)) : ∃ p, x = .Dict ks vs p := by
  unfold dictP at h
  split at h
  · cases h
    exact ⟨_, rfl⟩
  · cases h
def strC : Expr → Option Str
  | .Constant (.str u) _ _ => some u
  | _ => none
theorem strC_eq {x : Expr} {u : Str} (h : strC x = some u) : ∃ j p, x = .Constant (.str u) j p := by
  unfold strC at h
  split at h
  · cases h
    exact ⟨_, _, rfl⟩
  · cases h
def cmpP1 : Expr → Option (Expr × CmpOp × Expr)
  | .Compare y [o] [z] _ => some (y, o, z)
  | _ => none
theorem cmpP1_eq {x y z : Expr} {o : CmpOp} (h : cmpP1 x = some (y, o, z)) : ∃ p, x = .Compare y [o] [z] p := by
  unfold cmpP1 at h
  split at h
  · cases h
    exact ⟨_, rfl⟩
  · cases h
def lamP : Expr → Option (Arguments × Expr × Scope)
  | .Lambda params body scope _ => some (params, body, scope)
  | _ => none
theorem lamP_eq {x b : Expr} {ps : Arguments} {sc : Scope} (h : lamP x = some (ps, b, sc)) : ∃ p, x = .Lambda ps b sc p := by
  unfold lamP at h
  split at h
  · cases h
    exact ⟨_, rfl⟩
  · cases h
def nmP : Expr → Option Str
  | .Name u _ => some u
  | _ => none
theorem nmP_eq {x : Expr} {u : Str} (h : nmP x = some u) : ∃ p, x = .Name u p := by
  unfold nmP at h
  split at h
  · cases h
    exact ⟨_, rfl⟩
  · cases h
def isTup : Expr → Bool
  | .Tuple .. => true
  | _ => false
/-- a name of a built-in -/
def bltN (sc : Scope) (x : Str) : Bool := isGl sc x && nm.blt.contains x && noDbg x
def ownP (own : List Nat) : List (Str × Nat) := own.map fun i => (N.getD i "", i)
def rngArgs : Expr → Option (Str × List Expr)
  | .Call (.Name y _) as [] _ => some (y, as)
  | _ => none
def gens1 : List Comprehension → Option (Expr × Expr × List Expr)
  | [⟨tg, iter, ifx, 0⟩] => some (tg, iter, ifx)
  | _ => none
theorem gens1_eq {gs : List Comprehension} {a b : Expr} {c : List Expr} (h : gens1 gs = some (a, b, c)) : gs = [⟨a, b, c, 0⟩] := by
  unfold gens1 at h
  split at h
  · cases h
    rfl
  · cases h
def gens2 : List Comprehension → Option (Expr × Expr × Expr × Expr)
  | [⟨tg, iter, [], 0⟩, ⟨tg2, iter2, [], 0⟩] => some (tg, iter, tg2, iter2)
  | _ => none
/-- one to three -/
def few : List Expr → Bool
  | [_] => true
  | [_, _] => true
  | [_, _, _] => true
  | _ => false
theorem rngArgs_eq {w : Expr} {y : Str} {as : List Expr} (h : rngArgs w = some (y, as)) : ∃ p q, w = .Call (.Name y p) as [] q := by
  unfold rngArgs at h
  split at h
  · cases h
    exact ⟨_, _, rfl⟩
  · cases h
theorem gens2_eq {gs : List Comprehension} {a b c d : Expr} (h : gens2 gs = some (a, b, c, d)) : gs = [⟨a, b, [], 0⟩, ⟨c, d, [], 0⟩] := by
  unfold gens2 at h
  split at h
  · cases h
    rfl
  · cases h
/-- no parameters -/
def noArgs : Arguments → Bool
  | ⟨[], [], none, [], [], none, []⟩ => true
  | _ => false
theorem noArgs_eq {a : Arguments} (h : noArgs a = true) : a = ⟨[], [], none, [], [], none, []⟩ := by
  unfold noArgs at h
  split at h
  · rfl
  · cases h
mutual
def chkE (nm : Names) (N : List Str) (sc so : Scope) : E → Expr → Bool
  | .var i, .Name x _ => decide (N[i]? = some x) && isVis sc x && noDbg x
  | .con d, .Constant c _ _ => chkC d c
  | .glb k, .Name x _ => decide (nm.gls[k]? = some x) && isGl sc x && noDbg x
  | .tup es, .Tuple xs _ _ => chkEs nm N sc so es xs
  | .lst _ es, .List xs _ => chkEs nm N sc so es xs
  | .dct0, .Dict [] [] _ => true
  | .dct2 a b c d, x => match dictP x with
    | some ([some k1, some k2], [v1, v2]) => decide (strC k1 = some a) && decide (strC v1 = some b) && decide (strC k2 = some c) && decide (strC v2 = some d)
    | _ => false
  | .told a, x => match callNm x with
    | some (v, [l], []) => (match lamP l with
      | some (params, body, scope) => nm.tld.contains N && decide (v = "_law_said") && isGl sc v && LamX.lamSB sc scope && noArgs params && chkE { nm with tld := [] } N scope scope a body
      | none => false)
    | _ => false
  | .bin _ op a b, .BinOp x o y _ => chkB op o && chkE nm N sc so a x && chkE nm N sc so b y
  | .neg a, .UnaryOp .USub x _ => chkE nm N sc so a x
  | .nt a, .UnaryOp .Not x _ => noIf x && chkE nm N sc so a x
  | .cmp op a b, .Compare x [o] [y] _ => okX y && chkO op o && chkE nm N sc so a x && chkE nm N sc so b y
  | .cmp2 o1 o2 a b c, .Compare x [p1, p2] [y, z] _ => okX y && okX z && chkO o1 p1 && chkO o2 p2 && chkE nm N sc so a x && chkE nm N sc so b y && chkE nm N sc so c z
  | .and a b, .BoolOp .And (x :: y :: r) p => noIf x && chkE nm N sc so a x && (match r with
    | [] => noIf y && chkE nm N sc so b y
    | z :: r' => chkE nm N sc so b (.BoolOp .And (y :: z :: r') p))
  | .or a b, .BoolOp .Or (x :: y :: r) p => noIf x && chkE nm N sc so a x && (match r with
    | [] => noIf y && chkE nm N sc so b y
    | z :: r' => chkE nm N sc so b (.BoolOp .Or (y :: z :: r') p))
  | .ife c a b, .IfExp x y z _ => noIf x && chkE nm N sc so c x && chkE nm N sc so a y && chkE nm N sc so b z
  | .ix a b, .Subscript x y _ => okX y && chkE nm N sc so a x && chkE nm N sc so b y
  | .cutA _ a lo, .Subscript x (.Slice (some y) none none _) _ => chkE nm N sc so a x && chkE nm N sc so lo y
  | .cutB _ a hi, .Subscript x (.Slice none (some y) none _) _ => chkE nm N sc so a x && chkE nm N sc so hi y
  | .cutC _ a lo hi, .Subscript x (.Slice (some y) (some z) none _) _ => chkE nm N sc so a x && chkE nm N sc so lo y && chkE nm N sc so hi z
  | .rev _ a, .Subscript x (.Slice none none (some (.UnaryOp .USub (.Constant (.int j) _ _) _)) _) _ => decide (j = 1) && chkE nm N sc so a x
  | .call k es, .Call (.Name x _) xs [] _ => (kwOf nm k).isNone && decide (nm.fns[k]? = some x) && !isM x && isGl sc x && noDbg x && chkEs nm N sc so es xs
  | .fnc k, .Name x _ => decide (nm.fns[k]? = some x) && !isM x && isGl sc x && noDbg x
  | .callV i es, x => match callNm x with
    | some (v, y :: ys, []) => decide (N[i]? = some v) && isVis sc v && noDbg v && chkEs nm N sc so es (y :: ys)
    | _ => false
  | .callD k es d, x => match callNm x with
    | some (v, y :: ys, []) => decide ((kwOf nm k).map (·.2) = some d) && decide (nm.fns[k]? = some v) && !isM v && isGl sc v && noDbg v && chkEs nm N sc so es (y :: ys)
    | _ => false
  | .fld o f, .Attribute x g _ => decide (f = g) && okX x && chkE nm N sc so o x
  | .mcall m _ o es, .Call (.Attribute x g p1) xs [] p2 => decide (m = g) && decide (p1.endLine = p2.line) && decide (xs.length < 30) && okX x && chkE nm N sc so o x && chkEs nm N sc so es xs
  | .get o k d, w => match attCall w with
    | some (x, f, p1, [y, z], p2) => decide (f = "get") && decide (p1.endLine = p2.line) && okX x && okX y && okX z && chkE nm N sc so o x && chkE nm N sc so k y && chkE nm N sc so d z
    | _ => false
  | .upd o a, w => match attCall w with
    | some (x, f, p1, [y], p2) => decide (f = "update") && decide (p1.endLine = p2.line) && okX x && okX y && chkE nm N sc so o x && chkE nm N sc so a y
    | _ => false
  | .dctT0, .Dict [] [] _ => true
  | .dtd1 k v, w => match dictP w with
    | some ([some x], [y]) => chkE nm N sc so k x && chkE nm N sc so v y
    | _ => false
  | .dtd2 k v k2 v2, w => match dictP w with
    | some ([some x, some x2], [y, y2]) => chkE nm N sc so k x && chkE nm N sc so v y && chkE nm N sc so k2 x2 && chkE nm N sc so v2 y2
    | _ => false
  | .dss2 k k2 a b, w => match dictP w with
    | some ([some k1, some k3], [x, y]) => decide (strC k1 = some k) && decide (strC k3 = some k2) && chkE nm N sc so a x && chkE nm N sc so b y
    | _ => false
  | .mx a b, w => match callNm w with
    | some (x, [y, z], []) => decide (x = "max") && bltN nm sc x && okX y && okX z && chkE nm N sc so a y && chkE nm N sc so b z
    | _ => false
  | .isiO a c, w => match callNm w with
    | some (x, [y, u], []) => (match nmP u with
      | some z => decide (x = "isinstance") && bltN nm sc x && decide (nm.kns[c]? = some z) && isGl sc z && noDbg z && okX y && chkE nm N sc so a y
      | none => false)
    | _ => false
  | .lenO a, w => match callNm w with
    | some (x, [y], []) => decide (x = "len") && bltN nm sc x && okX y && chkE nm N sc so a y
    | _ => false
  | .eqO ne a b, w => match cmpP1 w with
    | some (x, o, y) => okX y && chkO (if ne then .ne else .eq) o && chkE nm N sc so a x && chkE nm N sc so b y
    | none => false
  | .new c es, .Call (.Name x _) xs [] _ => decide (nm.kns[c]? = some x) && isGl sc x && noDbg x && chkEs nm N sc so es xs
  | .bf _ f a, .Call (.Name x _) [y] [] _ => decide (x = bfNm f) && bltN nm sc x && okX y && chkE nm N sc so a y
  | .isi a t, .Call (.Name x _) [y, .Name z _] [] _ => decide (x = "isinstance") && bltN nm sc x && decide (z = tyNm t) && bltN nm sc z && okX y && chkE nm N sc so a y
  | .lrng1 _ e, .Call (.Name x _) [w] [] _ => match rngArgs w with
    | some (y, [a]) => decide (x = "list") && bltN nm sc x && decide (y = "range") && bltN nm sc y && okX a && chkE nm N sc so e a
    | _ => false
  | .lrng2 _ e f, .Call (.Name x _) [w] [] _ => match rngArgs w with
    | some (y, [a, b]) => decide (x = "list") && bltN nm sc x && decide (y = "range") && bltN nm sc y && okX a && okX b && chkE nm N sc so e a && chkE nm N sc so f b
    | _ => false
  | .mth0 m o, .Call (.Attribute x f p1) [] [] p2 => decide (f = mtNm m) && decide (p1.endLine = p2.line) && okX x && chkE nm N sc so o x
  | .mth1 m o a, .Call (.Attribute x f p1) [y] [] p2 => decide (f = mtNm m) && decide (p1.endLine = p2.line) && okX x && okX y && chkE nm N sc so o x && chkE nm N sc so a y
  | .comp _ own elt t it ifs, .ListComp ex gens scope _ => match gens1 gens with
    | some (tg, iter, ifx) => blkC N sc scope (ownP N own) && okX iter && t.slots.all own.contains && chkT N scope t tg && chkI nm N sc so it tg iter && chkW nm N (relS scope sc) scope ifs ifx && chkE nm N (relS scope sc) scope elt ex
    | none => false
  | .comp2 _ own elt t1 i1 t2 i2, .ListComp ex gens scope _ => match gens2 gens with
    | some (tg, iter, tg2, iter2) => blkC N sc scope (ownP N own) && okX iter && okX iter2 && t1.slots.all own.contains && t2.slots.all own.contains && chkT N scope t1 tg && chkT N scope t2 tg2 && chkI nm N sc so i1 tg iter && chkI nm N (relS scope sc) scope i2 tg2 iter2 && chkE nm N (relS scope sc) scope elt ex
    | none => false
  | .compN _ own elt (.cons t it ifs cs), .ListComp ex (⟨tg, iter, ifx, k⟩ :: gs) scope _ => decide (k = 0) && blkC N sc scope (ownP N own) && okX iter && t.slots.all own.contains && cs.slots.all own.contains && chkT N scope t tg && chkI nm N sc so it tg iter && chkW nm N (relS scope sc) scope ifs ifx && chkCs nm N (relS scope sc) scope cs gs && chkE nm N (relS scope sc) scope elt ex
  | _, _ => false
def chkCs (nm : Names) (N : List Str) (sc so : Scope) : Cs → List Comprehension → Bool
  | .nil, [] => true
  | .cons t it ifs cs, ⟨tg, iter, ifx, k⟩ :: gs => decide (k = 0) && okX iter && chkT N so t tg && chkI nm N sc so it tg iter && chkW nm N sc so ifs ifx && chkCs nm N sc so cs gs
  | _, _ => false
def chkEs (nm : Names) (N : List Str) (sc so : Scope) : Es → List Expr → Bool
  | .nil, [] => true
  | .cons e es, x :: xs => okX x && chkE nm N sc so e x && chkEs nm N sc so es xs
  | _, _ => false
/-- the tests of a clause -/
def chkW (nm : Names) (N : List Str) (sc so : Scope) : Es → List Expr → Bool
  | .nil, [] => true
  | .cons e .nil, [x] => noIf x && chkE nm N sc so e x
  | _, _ => false
def chkI (nm : Names) (N : List Str) (sc so : Scope) : I → Expr → Expr → Bool
  | .seq e, _, x => chkE nm N sc so e x
  | .rng es, _, .Call (.Name x _) xs [] _ => decide (x = "range") && bltN nm sc x && few xs && chkEs nm N sc so es xs
  | .zip a b, tg, .Call (.Name x _) [y, z] [] _ => decide (x = "zip") && bltN nm sc x && isTup tg && okX y && okX z && chkE nm N sc so a y && chkE nm N sc so b z
  | .dk a, _, x => chkE nm N sc so a x
  | .di a, tg, w => match attCall w with
    | some (y, f, p1, [], p2) => decide (f = "items") && decide (p1.endLine = p2.line) && isTup tg && okX y && chkE nm N sc so a y
    | _ => false
  | .enum a, tg, w => match callNm w with
    | some (u, [y], []) => decide (u = "enumerate") && bltN nm sc u && isTup tg && okX y && chkE nm N sc so a y
    | _ => false
  | .enz a b, tg, w => match callNm w with
    | some (u, [v], []) => (match callNm v with
      | some (x, [y, z], []) => decide (u = "enumerate") && bltN nm sc u && decide (x = "zip") && bltN nm sc x && isTup tg && okX y && okX z && chkE nm N sc so a y && chkE nm N sc so b z
      | _ => false)
    | _ => false
  | _, _, _ => false
end
theorem enz_call_of {nm : Names} {N : List Str} {sc so : Scope} {a b : E} {tg x : Expr} (h : chkI nm N sc so (.enz a b) tg x = true) : ∃ u p1 v p2 y z p3 p4, x = .Call (.Name u p1) [.Call (.Name v p2) [y, z] [] p3] [] p4 ∧
    (decide (u = "enumerate") && bltN nm sc u && decide (v = "zip") && bltN nm sc v && isTup tg && okX y && okX z && chkE nm N sc so a y && chkE nm N sc so b z) = true := by
  have h : (match callNm x with
    | some (u, [v], []) => (match callNm v with
      | some (x, [y, z], []) => decide (u = "enumerate") && bltN nm sc u && decide (x = "zip") && bltN nm sc x && isTup tg && okX y && okX z && chkE nm N sc so a y && chkE nm N sc so b z
      | _ => false)
    | _ => false) = true := h
  split at h
  case h_2 => cases h
  rename_i u v e1
  split at h
  case h_2 => cases h
  rename_i w y z e2
  obtain ⟨p1, p2, rfl⟩ := callNm_0 e1
  obtain ⟨p3, p4, rfl⟩ := callNm_0 e2
  exact ⟨_, _, _, _, _, _, _, _, rfl, h⟩
end
end Ev
namespace Ev
open PySem PySem.Spec L2 PyProof.Rows
def tstOf (f : Env → Store → R D) (env : Env) (S : Store) : R Bool := (f env S).bind fun x S => match truth S x with
  | some b => .ok b S
  | none => .stuck
/-- an expression is served by a term's reading -/
structure Snd (X : Cx) (T : Ad) (W : WX) (x : Expr) (f : Env → Store → R D) : Prop where
  pe : PE X x (tE T W f)
  pt : noIf x = true → PT X x (tB T W (tstOf f))
  pw : isBo x = true → PW X x (tB T W (tstOf f))
section
variable {T : Ad} {m : Mp} {H : Hp} {σ : L2.St} {W : WX} {S : Store} {Q : VK} {env : Env} {dx dy : D} {x y : V}
theorem truth_use {b : Bool} (r : RS T m H S) (hx : RD T m H dx x) (h : truth S dx = some b) : TruV T.K x H b := by
  cases dx with
  | non =>
    obtain rfl := rd_non hx
    cases h
    rfl
  | bl c =>
    obtain rfl := rd_bl hx
    cases h
    rfl
  | int i =>
    obtain rfl := rd_int hx
    cases h
    rfl
  | str z =>
    obtain rfl := rd_str hx
    have h : (if isz z.length then some ((z.length : Int) != 0) else none) = some b := h
    split at h
    · rename_i c
      cases h
      exact ⟨isz_of c, rfl⟩
    · cases h
  | tup xs =>
    cases h
    obtain ⟨p, vs, rfl, h2, h3⟩ := tup_of hx
    refine .inr (.inl ⟨vs, h2, ?_⟩)
    cases xs <;> cases vs <;> first | rfl | simp [RDs] at h3
  | lst xs =>
    cases h
    obtain ⟨p, vs, rfl, h2, h3⟩ := lst_of r rfl hx
    refine .inl ⟨vs, SqL.of h2, ?_⟩
    cases xs <;> cases vs <;> first | rfl | simp [RDs] at h3
  | scr ns =>
    cases h
    obtain ⟨p, rfl, h2⟩ := scr_of hx
    refine .inl ⟨_, h2, ?_⟩
    cases ns <;> rfl
  | fn k => cases h
  | tdc _ _ => cases h
  | ref l =>
    have h : (match S[l]? with | some (.lst xs) => some (!xs.isEmpty) | _ => none) = some b := h
    cases e : S[l]? with
    | none =>
      rw [e] at h
      cases h
    | some ob =>
      rw [e] at h
      cases ob with
      | dct _ => cases h
      | obj _ _ => cases h
      | dtt _ => cases h
      | dtl _ => cases h
      | lst xs =>
        cases h
        obtain ⟨p, vs, rfl, h2, h3⟩ := lst_of (xs := xs) r (by simp only [lstOf, e]) hx
        refine .inl ⟨vs, SqL.of h2, ?_⟩
        cases xs <;> cases vs <;> first | rfl | simp [RDs] at h3
theorem some_B {o : Option Bool} {f : Bool → R D} {k : D → Store → Mp → Hp → Prop} (h : PostK T (match o with | some b => f b | none => .stuck) m H σ W k) : ∃ b, o = some b ∧ PostK T (f b) m H σ W k := by
  cases o with
  | none => exact h.elim
  | some b => exact ⟨b, rfl, h⟩
theorem some_Bt {o : Option Bool} {f : Bool → R Bool} {k : Bool → Store → Mp → Hp → Prop} (h : PostK T (match o with | some b => f b | none => .stuck) m H σ W k) : ∃ b, o = some b ∧ PostK T (f b) m H σ W k := by
  cases o with
  | none => exact h.elim
  | some b => exact ⟨b, rfl, h⟩
theorem tst_k {f : Env → Store → R D} {k : Bool → Store → Mp → Hp → Prop} (h : PostK T (tstOf f env S) m H σ W k) : PostK T (f env S) m H σ W fun d S1 m1 H1 => ∃ b, truth S1 d = some b ∧ k b S1 m1 H1 :=
  (PostK.bind h).imp fun d S1 m1 H1 _ x1 r1 h1 => by
    obtain ⟨b, e, h1⟩ := some_Bt h1
    exact ⟨b, e, h1 m1 H1 Ext.refl r1⟩
/-- one more expression -/
theorem seqE {f : Env → Store → R D} {k : D → Store → Mp → Hp → Prop} {Q' : VK} (he : REnv T m H env σ) (r : RS T m H S) (h : PostK T (f env S) m H σ W k) (next : ∀ dx S1 m1 H1, Ext m H m1 H1 → RS T m1 H1 S1 → k dx S1 m1 H1 → ∀ v, RD T m1 H1 dx v → Q' v H1) : tE T W f σ H Q' :=
  ⟨env, m, S, he, r, h.imp fun dx S1 m1 H1 _ x1 r1 h1 v hv => next dx S1 m1 H1 x1 r1 h1 v hv⟩
theorem seqA {f : Env → Store → R (List D)} {k : List D → Store → Mp → Hp → Prop} {Q' : List V → Hp → Prop} (he : REnv T m H env σ) (r : RS T m H S) (h : PostK T (f env S) m H σ W k) (next : ∀ ds S1 m1 H1, Ext m H m1 H1 → RS T m1 H1 S1 → k ds S1 m1 H1 → ∀ vs, RDs T m1 H1 ds vs → Q' vs H1) : tA T W f σ H Q' :=
  ⟨env, m, S, he, r, h.imp fun dx S1 m1 H1 _ x1 r1 h1 v hv => next dx S1 m1 H1 x1 r1 h1 v hv⟩
theorem seqB {f : Env → Store → R Bool} {k : Bool → Store → Mp → Hp → Prop} {Q' : Bool → Hp → Prop} (he : REnv T m H env σ) (r : RS T m H S) (h : PostK T (f env S) m H σ W k) (next : ∀ b S1 m1 H1, Ext m H m1 H1 → RS T m1 H1 S1 → k b S1 m1 H1 → Q' b H1) : tB T W f σ H Q' :=
  ⟨env, m, S, he, r, h.imp fun dx S1 m1 H1 _ x1 r1 h1 => next dx S1 m1 H1 x1 r1 h1⟩
/-- what was reached is as it stands -/
theorem PostK.now {α : Type} {a : α} {k : α → Store → Mp → Hp → Prop} (h : PostK T (.ok a S) m H σ W k) (r : RS T m H S) : k a S m H := h m H Ext.refl r
end
section
variable {T : Ad} {X : Cx} {W : WX} {x : Expr} {f : Env → Store → R D}
/-- a plain expression -/
theorem Snd.plain (hK : X.K = T.K) (h : plX x = true) (pe : PE X x (tE T W f)) : Snd X T W x f := by
  refine ⟨pe, fun _ => ?_, fun z => ?_⟩
  · refine ptImp (pt_truth pe (pl_of h)) fun σ H Q q => ?_
    obtain ⟨env, m, S, he, r, q⟩ := q
    refine ⟨env, m, S, he, r, (tst_k q).imp fun d S1 m1 H1 _ x1 r1 ⟨b, e, q⟩ v hv => ⟨b, ?_, q⟩⟩
    rw [hK]
    exact truth_use r1 hv e
  · cases x <;> first | (cases z; done) | (cases h)
end
theorem Good.blk {T : Tb} {n : Nat} {N : List Str} {sc so : Scope} {X : Cx} {W : WX} (g : Good T n N sc so X W) (s : Shared) (H : Hp) (scope : Scope) (C : Addr) (cl : List (Str × Addr)) (fp : List Addr) :
    Good T n N (relS scope sc) scope (X.blk s H scope (compEnvC scope cl C X.env) fp) (fun _ _ _ _ => False) where
  hK := g.hK
  hmg := g.hmg
  hP := g.hP
  hw := g.hw
  hb := g.hb
  hN := g.hN
  nd := g.nd
  scp := by
    rw [← g.scp]
    rfl
  calm := g.calm
  rm := g.rm
  rm1 := g.rm1
  tk := fun u s' h => by
    obtain ⟨_, _, _, _, _, _, _, _, _, _, _, _, _, _, _, _, z⟩ := h
    exact z
  po := PassesOwn.never
  lam := fun h => ⟨(g.lam h).rm, (g.lam h).cd⟩
  st := fun x h => by
    have keep : ∀ {k : NameKind}, k ≠ .free → scope.names.lookup x = some k → (relS scope X.env.scope).names.lookup x = some k := fun hk e => lookup_relS_keep hk e
    rcases h with h | h
    · have := keep (by decide) h
      exact ⟨.inl this, .inr this⟩
    · have := keep (by decide) h
      refine ⟨.inr this, .inl ?_⟩
      show (scope.names.lookup x == some NameKind.cell) = true
      rw [h]
      rfl
section
variable {T : Tb} {n : Nat} {N : List Str} {sc so : Scope} {X : Cx} {W : WX}
theorem Good.hu7 (g : Good T n N sc so X W) : X.A.units + 70 < cLine := by
  have := g.rm.room.un
  omega
theorem Good.hu (g : Good T n N sc so X W) : X.A.units + 65 < cLine := by
  have := g.rm.room.un
  omega
theorem stO_of {x : Str} (h : stO so x = true) : so.names.lookup x = some .local ∨ so.names.lookup x = some .cell := by
  unfold stO at h
  simpa using h
theorem pg_either {e : Expr} {t u : TG} (h1 : PG X e t) (h2 : PG X e u) : PG X e (fun v σ H Q => t v σ H Q ∨ u v σ H Q) :=
  ⟨fun pins s σ H v w Q I r h => h.elim (h1.run pins s σ H v w Q I r) (h2.run pins s σ H v w Q I r)⟩
mutual
theorem sndT (g : Good T n N sc so X W) : ∀ (t : Ev.T) (x : Expr), chkT N so t x = true → PG X x (gT T.K t)
  | .nm i, x, h => by
    cases x <;> first | (cases h; done) | skip
    rename_i x p
    simp only [chkT, Bool.and_eq_true, decide_eq_true_eq] at h
    obtain ⟨h1, h2⟩ := g.st x (stO_of h.2)
    exact pg_name g.nd (by rw [g.hN]; exact h.1) h1 h2
  | .tp ts, x, h => by
    cases x <;> first | (cases h; done) | skip
    rename_i es k p
    have h : chkTs N so ts es = true := h
    obtain ⟨h1, h2, h3⟩ := sndTs g ts es h
    rw [gT, ← g.hK]
    rw [← g.hK] at h1
    exact pg_either (pg_tup g.calm h1 h2 h3) (pg_lst g.calm h1 h2 h3)
theorem sndTs (g : Good T n N sc so X W) : ∀ (ts : Ts) (es : List Expr), chkTs N so ts es = true → PGs X es (gTs T.K ts) ∧ (assignEach es X.env).length = Ts.len ts ∧ (assignEach es X.env).findIdx? (·.1) = none
  | .nil, es, h => by
    cases es with
    | nil => exact ⟨pgs_nil, rfl, rfl⟩
    | cons _ _ => cases h
  | .cons t ts, es, h => by
    cases es with
    | nil => cases h
    | cons e es =>
      simp only [chkTs, Bool.and_eq_true] at h
      obtain ⟨h1, h2, h3⟩ := sndTs g ts es h.2
      have e0 : assignEach (e :: es) X.env = (false, assign e X.env) :: assignEach es X.env := by
        have := h.1.1
        cases e <;> first | rfl | (cases this)
      refine ⟨pgs_cons (sndT g t e h.1.2) h1 (each_of h.1.1), ?_, ?_⟩
      · rw [e0, List.length_cons, h2]
        rfl
      · rw [e0, List.findIdx?_cons, h3]
        rfl
end
end
end Ev
namespace Ev
open PySem PySem.Spec L2 PyProof.Rows
section
variable {T : Tb} {n : Nat} {N : List Str} {sc so : Scope} {X : Cx} {W : WX} {call : Call}
theorem blt_of {x : Str} (g : Good T n N sc so X W) (tb : TbOk T n call) (h : bltN T.nm sc x = true) : Gl X x ∧ X.mg x = none ∧ x ≠ ("__name__" : Str) ∧ (x == ("__debug__" : Str)) = false := by
  unfold bltN at h
  simp only [Bool.and_eq_true] at h
  refine ⟨gl_of g h.1.1, ?_, noDbg_3 h.2, noDbg_1 h.2⟩
  rw [g.hmg]
  exact tb.bl x (List.contains_iff_mem.mp h.1.2)
theorem PA.nil (g : Good T n N sc so X W) : PA X [] (tA T.toAd W fun _ S => .ok [] S) := paImp pa_nil fun σ H Q q => by
  obtain ⟨env, m, S, he, r, q⟩ := q
  exact q.now r [] rfl
/-- an argument list -/
theorem PA.cons {x : Expr} {xs : List Expr} {f : Env → Store → R D} {fs : Env → Store → R (List D)} (ha : PE X x (tE T.toAd W f)) (hr : PA X xs (tA T.toAd W fs)) (h : okX x = true) :
    PA X (x :: xs) (tA T.toAd W fun env S => (f env S).bind fun d S => (fs env S).bind fun ds S => .ok (d :: ds) S) := paImp (pa_cons ha hr (star_of h)) fun σ H Q q => by
  obtain ⟨env, m, S, he, r, q⟩ := q
  refine seqE he r q.bind fun dx S1 m1 H1 x1 r1 h1 v hv => seqA (he.ext x1) r1 h1.bind fun ds S2 m2 H2 x2 r2 h2 vs hvs => ?_
  exact h2.now r2 _ ⟨v, vs, rfl, RD.ext x2 _ _ hv, hvs⟩
theorem PA.one {x : Expr} {f : Env → Store → R D} (ha : PE X x (tE T.toAd W f)) (h : okX x = true) :
    PA X [x] (tA T.toAd W fun env S => (f env S).bind fun d S => .ok [d] S) := paImp (pa_cons ha pa_nil (star_of h)) fun σ H Q q => by
  obtain ⟨env, m, S, he, r, q⟩ := q
  exact seqE he r q.bind fun dx S1 m1 H1 x1 r1 h1 v hv => h1.now r1 _ ⟨v, [], rfl, hv, rfl⟩
theorem RDs.two {T : Ad} {m : Mp} {H : Hp} {a b : D} {vs : List V} (h : RDs T m H [a, b] vs) : ∃ v w, vs = [v, w] ∧ RD T m H a v ∧ RD T m H b w := by
  obtain ⟨v, r, h1, h2, w, r', h3, h4, h5⟩ := h
  cases (show r' = [] from h5)
  exact ⟨v, w, by rw [h1, h3], h2, h4⟩
theorem RDs.one' {T : Ad} {m : Mp} {H : Hp} {a : D} {vs : List V} (h : RDs T m H [a] vs) : ∃ v, vs = [v] ∧ RD T m H a v := by
  obtain ⟨v, r, h1, h2, h3⟩ := h
  cases (show r = [] from h3)
  exact ⟨v, h1, h2⟩
theorem RDs.three {T : Ad} {m : Mp} {H : Hp} {a b c : D} {vs : List V} (h : RDs T m H [a, b, c] vs) : ∃ v w u, vs = [v, w, u] ∧ RD T m H a v ∧ RD T m H b w ∧ RD T m H c u := by
  obtain ⟨v, r, h1, h2, w, r', h3, h4, u, r'', h5, h6, h7⟩ := h
  cases (show r'' = [] from h7)
  exact ⟨v, w, u, by rw [h1, h3, h5], h2, h4, h6⟩
abbrev sE (T : Tb) (call : Call) (e : E) : Env → Store → R D := fun env S => E.ev call T.G e env S
abbrev sEs (T : Tb) (call : Call) (e : Es) : Env → Store → R (List D) := fun env S => Es.ev call T.G e env S
abbrev sI (T : Tb) (call : Call) (e : I) : Env → Store → R Items := fun env S => I.ev call T.G e env S
theorem bind_ok {α β : Type} {r : R α} {f : α → Store → R β} {b : β} {S : Store} (h : r.bind f = .ok b S) : ∃ a S1, r = .ok a S1 ∧ f a S1 = .ok b S := by
  cases r with
  | ok a S1 => exact ⟨a, S1, rfl, h⟩
  | exc _ _ => cases h
  | stuck => cases h
theorem ofB_bl {o : Option Bool} {S S1 : Store} {d : D} (h : ofB o S = .ok d S1) : ∃ k, d = .bl k := by
  cases o with
  | none => cases h
  | some b =>
    cases h
    exact ⟨b, rfl⟩
theorem cmpV_bl {op : Cop} {dx dy d : D} {S S1 : Store} (h : cmpV op dx dy S = .ok d S1) : ∃ k, d = .bl k := by
  cases op with
  | eq =>
    have h : (if dicI S dx dy then R.ok (.bl false) S else ofB (eqD S dx dy) S) = .ok d S1 := h
    by_cases c : dicI S dx dy = true
    · rw [if_pos c] at h
      cases h
      exact ⟨_, rfl⟩
    · rw [if_neg c] at h
      exact ofB_bl h
  | ne => exact ofB_bl (show ofB ((eqD S dx dy).map (!·)) S = .ok d S1 from h)
  | lt => exact ofB_bl (show ofB (ltD dx dy) S = .ok d S1 from h)
  | isin => exact ofB_bl (show ofB (inDD S dx dy) S = .ok d S1 from h)
  | nin => exact ofB_bl (show ofB ((inDD S dx dy).map (!·)) S = .ok d S1 from h)
  | gt => unfold cmpV at h; simp only at h; split at h <;> cases h; exact ⟨_, rfl⟩
  | le => unfold cmpV at h; simp only at h; split at h <;> cases h; exact ⟨_, rfl⟩
  | ge => unfold cmpV at h; simp only at h; split at h <;> cases h; exact ⟨_, rfl⟩
  | is => unfold cmpV at h; simp only at h; split at h <;> cases h <;> exact ⟨_, rfl⟩
  | nis => unfold cmpV at h; simp only at h; split at h <;> cases h <;> exact ⟨_, rfl⟩
variable {a b c : E} {x y z : Expr} {pos : Pos}
theorem s_bin {new : Bool} {op : Bop} {o : Operator} (g : Good T n N sc so X W) (ho : chkB op o = true) (ha : PE X x (tE T.toAd W (sE T call a))) (hb : PE X y (tE T.toAd W (sE T call b))) : PE X (.BinOp x o y pos) (tE T.toAd W (sE T call (.bin new op a b))) := by
  cases of_decide_eq_true ho
  refine peImp (pe_op (opB_ok op) ha hb) fun σ H Q q => ?_
  obtain ⟨env, m, S, he, r, q⟩ := q
  rw [g.hK]
  exact seqE he r (PostK.bind q) fun dx S1 m1 H1 x1 r1 h1 v hv => seqE (he.ext x1) r1 h1.bind fun dy S2 m2 H2 x2 r2 h2 w hw => rB_ok r2 (RD.ext x2 _ _ hv) hw h2
theorem s_cmp {op : Cop} {o : CmpOp} (g : Good T n N sc so X W) (ho : chkO op o = true) (hy : okX y = true) (ha : PE X x (tE T.toAd W (sE T call a))) (hb : PE X y (tE T.toAd W (sE T call b))) : Snd X T.toAd W (.Compare x [o] [y] pos) (sE T call (.cmp op a b)) := by
  cases of_decide_eq_true ho
  have go : ∀ {σ H Q}, tE T.toAd W (sE T call (.cmp op a b)) σ H Q → tOp (rC X.prog X.w X.K op) (tE T.toAd W (sE T call a)) (tE T.toAd W (sE T call b)) σ H Q := fun {σ H Q} q => by
    obtain ⟨env, m, S, he, r, q⟩ := q
    rw [g.hK, g.hP, g.hw]
    exact seqE he r (PostK.bind q) fun dx S1 m1 H1 x1 r1 h1 v hv => seqE (he.ext x1) r1 h1.bind fun dy S2 m2 H2 x2 r2 h2 w hw => rC_ok r2 (RD.ext x2 _ _ hv) hw h2
  refine ⟨peImp (pe_cmpR (opC_ok g.hu op) ha hb (mark_of hy)) fun σ H Q q => go q, fun _ => ptImp (pt_cmpR (opC_ok g.hu op) ha hb (mark_of hy)) fun σ H Q q => go ?_, fun z => by cases z⟩
  obtain ⟨env, m, S, he, r, q⟩ := q
  refine ⟨env, m, S, he, r, (tst_k q).imp fun d S1 m1 H1 e1 x1 r1 ⟨k, e, q⟩ v hv => ?_⟩
  obtain ⟨_, _, _, e1⟩ := bind_ok e1
  obtain ⟨_, _, _, e1⟩ := bind_ok e1
  obtain ⟨k', rfl⟩ := cmpV_bl e1
  have e2 : k' = k := Option.some.inj e
  subst e2
  exact ⟨k', rd_bl hv, q⟩
theorem lm_of {o1 o2 : CmpOp} (hz : okX z = true) : lastMarks [o1, o2] [y, z] = false := mark_of hz
theorem s_cmp2 {p1 p2 : Cop} {o1 o2 : CmpOp} (g : Good T n N sc so X W) (h1 : chkO p1 o1 = true) (h2 : chkO p2 o2 = true) (hz : okX z = true) (ha : PE X x (tE T.toAd W (sE T call a))) (hb : PE X y (tE T.toAd W (sE T call b))) (hc : PE X z (tE T.toAd W (sE T call c))) :
    Snd X T.toAd W (.Compare x [o1, o2] [y, z] pos) (sE T call (.cmp2 p1 p2 a b c)) := by
  cases of_decide_eq_true h1
  cases of_decide_eq_true h2
  have go : ∀ {σ H Q}, tE T.toAd W (sE T call (.cmp2 p1 p2 a b c)) σ H Q → tChain (rC X.prog X.w X.K p1) (rC X.prog X.w X.K p2) (tE T.toAd W (sE T call a)) (tE T.toAd W (sE T call b)) (tE T.toAd W (sE T call c)) σ H Q := fun {σ H Q} q => by
    obtain ⟨env, m, S, he, r, q⟩ := q
    rw [g.hK, g.hP, g.hw]
    refine seqE he r (PostK.bind q) fun dx S1 m1 H1 x1 r1 q1 v hv => seqE (he.ext x1) r1 q1.bind fun dy S2 m2 H2 x2 r2 q2 w hw => ?_
    refine rC_ok (Q := fun z H3 => ∃ k, z = .bl k ∧ (if k = true then tE T.toAd W (sE T call c) σ H3 fun w' H4 => rC T.P T.w T.K p2 w w' H4 Q else Q (.bl false) H3)) r2 (RD.ext x2 _ _ hv) hw (q2.bind.imp fun dz S3 m3 H3 e3 x3 r3 q3 u hu => ?_)
    obtain ⟨k, rfl⟩ := cmpV_bl e3
    obtain rfl := rd_bl hu
    refine ⟨k, rfl, ?_⟩
    cases k with
    | true => exact seqE (((he.ext x1).ext x2).ext x3) r3 (PostK.bind q3) fun dw S4 m4 H4 x4 r4 q4 t ht => rC_ok r4 (RD.ext (x3.trans x4) _ _ hw) ht q4
    | false => exact ok_use r3 q3 rfl
  refine ⟨peImp (pe_chain (opC_ok g.hu p1) (opC_ok g.hu p2) ha hb hc (lm_of hz)) fun σ H Q q => go q, fun _ => ptImp (pt_chain (opC_ok g.hu p1) (opC_ok g.hu p2) ha hb hc (lm_of hz)) fun σ H Q q => go ?_, fun z => by cases z⟩
  obtain ⟨env, m, S, he, r, q⟩ := q
  refine ⟨env, m, S, he, r, (tst_k q).imp fun d S1 m1 H1 e1 x1 r1 ⟨k, e, q⟩ v hv => ?_⟩
  obtain ⟨_, _, _, e1⟩ := bind_ok e1
  obtain ⟨_, _, _, e1⟩ := bind_ok e1
  obtain ⟨z1, _, _, e1⟩ := bind_ok e1
  have : ∃ k', d = .bl k' := by
    cases z1 with
    | bl t =>
      cases t with
      | true =>
        obtain ⟨_, _, _, e1⟩ := bind_ok (show (R.bind _ _) = R.ok d S1 from e1)
        exact cmpV_bl e1
      | false =>
        cases e1
        exact ⟨_, rfl⟩
    | _ => cases e1
  obtain ⟨k', rfl⟩ := this
  have e2 : k' = k := Option.some.inj e
  subst e2
  exact ⟨k', rd_bl hv, q⟩
theorem tst_nt (env : Env) (S : Store) : tstOf (sE T call (.nt a)) env S = (tstOf (sE T call a) env S).bind fun b S => .ok (!b) S := by
  show ((E.ev call T.G a env S).bind fun x S => match truth S x with | some b => R.ok (D.bl (!b)) S | none => .stuck).bind (fun x S => match truth S x with | some b => R.ok b S | none => .stuck) = ((E.ev call T.G a env S).bind fun x S => match truth S x with | some b => R.ok b S | none => .stuck).bind fun b S => .ok (!b) S
  cases E.ev call T.G a env S with
  | ok d S1 =>
    simp only [R.bind]
    cases truth S1 d <;> rfl
  | exc _ _ => rfl
  | stuck => rfl
theorem tst_and (env : Env) (S : Store) : tstOf (sE T call (.and a b)) env S = (tstOf (sE T call a) env S).bind fun k S => if k = true then tstOf (sE T call b) env S else .ok false S := by
  show ((E.ev call T.G a env S).bind fun x S => match truth S x with | some true => E.ev call T.G b env S | some false => .ok x S | none => .stuck).bind (fun x S => match truth S x with | some b => R.ok b S | none => .stuck) = ((E.ev call T.G a env S).bind fun x S => match truth S x with | some b => R.ok b S | none => .stuck).bind fun k S => if k = true then tstOf (sE T call b) env S else .ok false S
  cases E.ev call T.G a env S with
  | ok d S1 =>
    simp only [R.bind]
    cases e : truth S1 d with
    | none => rfl
    | some k =>
      cases k with
      | true => rfl
      | false =>
        simp only [e]
        rfl
  | exc _ _ => rfl
  | stuck => rfl
theorem tst_or (env : Env) (S : Store) : tstOf (sE T call (.or a b)) env S = (tstOf (sE T call a) env S).bind fun k S => if k = true then .ok true S else tstOf (sE T call b) env S := by
  show ((E.ev call T.G a env S).bind fun x S => match truth S x with | some true => .ok x S | some false => E.ev call T.G b env S | none => .stuck).bind (fun x S => match truth S x with | some b => R.ok b S | none => .stuck) = ((E.ev call T.G a env S).bind fun x S => match truth S x with | some b => R.ok b S | none => .stuck).bind fun k S => if k = true then .ok true S else tstOf (sE T call b) env S
  cases E.ev call T.G a env S with
  | ok d S1 =>
    simp only [R.bind]
    cases e : truth S1 d with
    | none => rfl
    | some k =>
      cases k with
      | false => rfl
      | true =>
        simp only [e]
        rfl
  | exc _ _ => rfl
  | stuck => rfl
theorem s_nt (g : Good T n N sc so X W) (hx : noIf x = true) (ha : Snd X T.toAd W x (sE T call a)) : Snd X T.toAd W (.UnaryOp .Not x pos) (sE T call (.nt a)) := by
  refine ⟨peImp (pe_notT ha.pe) fun σ H Q q => ?_, fun _ => ptImp (pt_not (ha.pt hx)) fun σ H Q q => ?_, fun z => by cases z⟩
  · obtain ⟨env, m, S, he, r, q⟩ := q
    refine seqE he r (PostK.bind q) fun dx S1 m1 H1 x1 r1 q1 v hv => ?_
    obtain ⟨k, e, q1⟩ := some_B q1
    rw [g.hK]
    exact ⟨k, truth_use r1 hv e, ok_use (W := W) (σ := σ) r1 q1 rfl⟩
  · obtain ⟨env, m, S, he, r, q⟩ := q
    rw [tst_nt] at q
    exact seqB he r q.bind fun k S1 m1 H1 x1 r1 q1 => q1.now r1
theorem and_k {S1 : Store} {dx : D} {env : Env} {m1 : Mp} {H1 : Hp} {σ : L2.St} {k : D → Store → Mp → Hp → Prop} (q : PostK T.toAd (match truth S1 dx with | some true => E.ev call T.G b env S1 | some false => .ok dx S1 | none => .stuck) m1 H1 σ W k) :
    ∃ t, truth S1 dx = some t ∧ if t = true then PostK T.toAd (E.ev call T.G b env S1) m1 H1 σ W k else PostK T.toAd (.ok dx S1) m1 H1 σ W k := by
  cases e : truth S1 dx with
  | none =>
    rw [e] at q
    exact q.elim
  | some t =>
    rw [e] at q
    cases t <;> exact ⟨_, rfl, q⟩
theorem or_k {S1 : Store} {dx : D} {env : Env} {m1 : Mp} {H1 : Hp} {σ : L2.St} {k : D → Store → Mp → Hp → Prop} (q : PostK T.toAd (match truth S1 dx with | some true => .ok dx S1 | some false => E.ev call T.G b env S1 | none => .stuck) m1 H1 σ W k) :
    ∃ t, truth S1 dx = some t ∧ if t = true then PostK T.toAd (.ok dx S1) m1 H1 σ W k else PostK T.toAd (E.ev call T.G b env S1) m1 H1 σ W k := by
  cases e : truth S1 dx with
  | none =>
    rw [e] at q
    exact q.elim
  | some t =>
    rw [e] at q
    cases t <;> exact ⟨_, rfl, q⟩
theorem s_and {rest : List Expr} (g : Good T n N sc so X W) (hx : noIf x = true) (ha : Snd X T.toAd W x (sE T call a)) (hb : PE X (.BoolOp .And (y :: rest) pos) (tE T.toAd W (sE T call b))) (hw : PW X (.BoolOp .And (y :: rest) pos) (tB T.toAd W (tstOf (sE T call b)))) :
    Snd X T.toAd W (.BoolOp .And (x :: y :: rest) pos) (sE T call (.and a b)) := by
  have pw : PW X (.BoolOp .And (x :: y :: rest) pos) (tB T.toAd W (tstOf (sE T call (.and a b)))) := by
    refine ⟨fun wh pins s σ H Q I q => (pw_and (ha.pt hx) hw).run wh pins s σ H Q I ?_⟩
    obtain ⟨env, m, S, he, r, q⟩ := q
    rw [tst_and] at q
    refine seqB he r q.bind fun k S1 m1 H1 x1 r1 q1 => ?_
    cases k with
    | true => exact seqB (he.ext x1) r1 q1 fun k2 S2 m2 H2 x2 r2 q2 => q2
    | false => exact q1.now r1
  refine ⟨peImp (pe_andT ha.pe hb) fun σ H Q q => ?_, fun _ => pw.pt, fun _ => pw⟩
  obtain ⟨env, m, S, he, r, q⟩ := q
  refine seqE he r (PostK.bind q) fun dx S1 m1 H1 x1 r1 q1 v hv => ?_
  obtain ⟨t, e, q1⟩ := and_k q1
  rw [g.hK]
  refine ⟨t, truth_use r1 hv e, ?_⟩
  cases t with
  | true => exact seqE (he.ext x1) r1 q1 fun dy S2 m2 H2 x2 r2 q2 w hw => q2 w hw
  | false => exact ok_use (W := W) (σ := σ) r1 q1 hv
theorem s_or {rest : List Expr} (g : Good T n N sc so X W) (hx : noIf x = true) (ha : Snd X T.toAd W x (sE T call a)) (hb : PE X (.BoolOp .Or (y :: rest) pos) (tE T.toAd W (sE T call b))) (hw : PW X (.BoolOp .Or (y :: rest) pos) (tB T.toAd W (tstOf (sE T call b)))) :
    Snd X T.toAd W (.BoolOp .Or (x :: y :: rest) pos) (sE T call (.or a b)) := by
  have pw : PW X (.BoolOp .Or (x :: y :: rest) pos) (tB T.toAd W (tstOf (sE T call (.or a b)))) := by
    refine ⟨fun wh pins s σ H Q I q => (pw_or (ha.pt hx) hw).run wh pins s σ H Q I ?_⟩
    obtain ⟨env, m, S, he, r, q⟩ := q
    rw [tst_or] at q
    refine seqB he r q.bind fun k S1 m1 H1 x1 r1 q1 => ?_
    cases k with
    | false => exact seqB (he.ext x1) r1 q1 fun k2 S2 m2 H2 x2 r2 q2 => q2
    | true => exact q1.now r1
  refine ⟨peImp (pe_orT ha.pe hb) fun σ H Q q => ?_, fun _ => pw.pt, fun _ => pw⟩
  obtain ⟨env, m, S, he, r, q⟩ := q
  refine seqE he r (PostK.bind q) fun dx S1 m1 H1 x1 r1 q1 v hv => ?_
  obtain ⟨t, e, q1⟩ := or_k q1
  rw [g.hK]
  refine ⟨t, truth_use r1 hv e, ?_⟩
  cases t with
  | false => exact seqE (he.ext x1) r1 q1 fun dy S2 m2 H2 x2 r2 q2 w hw => q2 w hw
  | true => exact ok_use (W := W) (σ := σ) r1 q1 hv
theorem s_ife (g : Good T n N sc so X W) (hx : noIf x = true) (hc : Snd X T.toAd W x (sE T call c)) (ha : PE X y (tE T.toAd W (sE T call a))) (hb : PE X z (tE T.toAd W (sE T call b))) : PE X (.IfExp x y z pos) (tE T.toAd W (sE T call (.ife c a b))) := by
  refine peImp (pe_ifExp (hc.pt hx) ha hb) fun σ H Q q => ?_
  obtain ⟨env, m, S, he, r, q⟩ := q
  have e : E.ev call T.G (.ife c a b) env S = (tstOf (sE T call c) env S).bind fun k S => if k = true then E.ev call T.G a env S else E.ev call T.G b env S := by
    show ((E.ev call T.G c env S).bind fun x S => match truth S x with | some true => E.ev call T.G a env S | some false => E.ev call T.G b env S | none => .stuck) = ((E.ev call T.G c env S).bind fun x S => match truth S x with | some b => R.ok b S | none => .stuck).bind fun k S => if k = true then E.ev call T.G a env S else E.ev call T.G b env S
    cases E.ev call T.G c env S with
    | ok d S1 =>
      simp only [R.bind]
      cases truth S1 d with
      | none => rfl
      | some k => cases k <;> rfl
    | exc _ _ => rfl
    | stuck => rfl
  have q : PostK T.toAd (E.ev call T.G (.ife c a b) env S) m H σ W _ := q
  rw [e] at q
  refine seqB he r q.bind fun k S1 m1 H1 x1 r1 q1 => ?_
  cases k with
  | true => exact seqE (he.ext x1) r1 q1 fun dy S2 m2 H2 x2 r2 q2 w hw => q2 w hw
  | false => exact seqE (he.ext x1) r1 q1 fun dy S2 m2 H2 x2 r2 q2 w hw => q2 w hw
theorem s_dct0 : PE X (.Dict [] [] pos) (tE T.toAd W (sE T call .dct0)) := by
  refine peImp pe_dnewK fun σ H Q q => ?_
  obtain ⟨env, m, S, he, r, q⟩ := q
  intro p hp
  have q : PostK T.toAd (.ok (.ref S.length) (S ++ [.dct []])) m H σ W (fun d _ m' H' => ∀ v, RD T.toAd m' H' d v → Q v H') := q
  refine q _ _ (Ext.cell r hp) (r.cellO hp ⟨[], rfl, rfl⟩) _ ⟨p, ?_, rfl⟩
  show (m.c ++ [p])[S.length]? = some p
  rw [r.len, List.getElem?_append_right (Nat.le_refl _)]
  simp
theorem s_dct2 {a b c d : Str} {j1 j2 j3 j4 : Nat} {p1 p2 p3 p4 : Pos} : PE X (.Dict [some (.Constant (.str a) j1 p1), some (.Constant (.str c) j2 p2)] [.Constant (.str b) j3 p3, .Constant (.str d) j4 p4] pos) (tE T.toAd W (sE T call (.dct2 a b c d))) := by
  refine peImp (pe_disp (pps_cons pe_str pe_str (pps_cons pe_str pe_str pps_nil)) rfl rfl (by simp) (by simp)) fun σ H Q q => ?_
  obtain ⟨env, m, S, he, r, q⟩ := q
  intro p hp
  have q : PostK T.toAd (if decide (a = c) then .stuck else .ok (.ref S.length) (S ++ [.dct [(.str a, .str b), (.str c, .str d)]])) m H σ W (fun d _ m' H' => ∀ v, RD T.toAd m' H' d v → Q v H') := q
  by_cases hac : a = c
  · rw [if_pos (decide_eq_true hac)] at q
    exact q.elim
  · rw [if_neg (by rw [decide_eq_false hac]; decide)] at q
    show upd H p (.dK []) p = some (.dK []) ∧ _
    refine ⟨upd_same, [(.inr a, .str b), (.inr c, .str d)], rfl, by simp, ?_⟩
    rw [upd_upd]
    have hm : mergeK [] [((.inr a : Key), V.str b), (.inr c, V.str d)] = [(.inr a, V.str b), (.inr c, V.str d)] := by
      simp [mergeK, putK, hac]
    rw [hm]
    refine q _ _ (Ext.cell r hp) (r.cellO hp ⟨[(.inr a, V.str b), (.inr c, V.str d)], rfl, ⟨.inr a, _, _, rfl, rfl, rfl, ⟨.inr c, _, _, rfl, rfl, rfl, rfl⟩⟩⟩) _ ⟨p, ?_, rfl⟩
    show (m.c ++ [p])[S.length]? = some p
    rw [r.len, List.getElem?_append_right (Nat.le_refl _)]
    simp
theorem s_ix (g : Good T n N sc so X W) (hy : okX y = true) (ha : PE X x (tE T.toAd W (sE T call a))) (hb : PE X y (tE T.toAd W (sE T call b))) : PE X (.Subscript x y pos) (tE T.toAd W (sE T call (.ix a b))) := by
  refine peImp (pe_ix (ix_seq.or ((ix_dict (by have := g.rm.room.un; omega)).or (ix_dS (by have := g.rm.room.un; omega)))) ha hb (ix_of hy)) fun σ H Q q => ?_
  obtain ⟨env, m, S, he, r, q⟩ := q
  rw [g.hK, g.hP, g.hw]
  exact seqE he r (PostK.bind q) fun dx S1 m1 H1 x1 r1 h1 v hv => seqE (he.ext x1) r1 h1.bind fun dy S2 m2 H2 x2 r2 h2 w hw => ix_use r2 (RD.ext x2 _ _ hv) hw h2
theorem int_k {S : Store} {d : D} {f : Int → R D} {m : Mp} {H : Hp} {σ : L2.St} {k : D → Store → Mp → Hp → Prop} (h : PostK T.toAd (match d with | .int i => f i | _ => .stuck) m H σ W k) : ∃ i, d = .int i ∧ PostK T.toAd (f i) m H σ W k := by
  cases d with
  | int i => exact ⟨i, rfl, h⟩
  | _ => exact h.elim
variable {p2 : Pos} {new : Bool}
theorem s_cutA (g : Good T n N sc so X W) (ha : PE X x (tE T.toAd W (sE T call a))) (hb : PE X y (tE T.toAd W (sE T call b))) : PE X (.Subscript x (.Slice (some y) none none p2) pos) (tE T.toAd W (sE T call (.cutA new a b))) := by
  refine peImp (pe_slice sl_all ha (po_some hb) po_none) fun σ H Q q => ?_
  obtain ⟨env, m, S, he, r, q⟩ := q
  rw [g.hK]
  refine seqE he r (PostK.bind q) fun dx S1 m1 H1 x1 r1 h1 v hv => seqE (he.ext x1) r1 h1.bind fun dy S2 m2 H2 x2 r2 h2 w hw => ?_
  obtain ⟨i, rfl, h2⟩ := int_k (S := S2) h2
  exact ⟨i, rd_int hw, cut_use r2 (RD.ext x2 _ _ hv) h2⟩
theorem s_cutB (g : Good T n N sc so X W) (ha : PE X x (tE T.toAd W (sE T call a))) (hb : PE X y (tE T.toAd W (sE T call b))) : PE X (.Subscript x (.Slice none (some y) none p2) pos) (tE T.toAd W (sE T call (.cutB new a b))) := by
  refine peImp (pe_slice sl_all ha po_none (po_some hb)) fun σ H Q q => ?_
  obtain ⟨env, m, S, he, r, q⟩ := q
  rw [g.hK]
  refine seqE he r (PostK.bind q) fun dx S1 m1 H1 x1 r1 h1 v hv => ?_
  refine seqE (he.ext x1) r1 h1.bind fun dy S2 m2 H2 x2 r2 h2 w hw => ?_
  obtain ⟨i, rfl, h2⟩ := int_k (S := S2) h2
  exact ⟨i, rd_int hw, cut_use r2 (RD.ext x2 _ _ hv) h2⟩
theorem s_cutC (g : Good T n N sc so X W) (ha : PE X x (tE T.toAd W (sE T call a))) (hb : PE X y (tE T.toAd W (sE T call b))) (hc : PE X z (tE T.toAd W (sE T call c))) : PE X (.Subscript x (.Slice (some y) (some z) none p2) pos) (tE T.toAd W (sE T call (.cutC new a b c))) := by
  refine peImp (pe_slice sl_all ha (po_some hb) (po_some hc)) fun σ H Q q => ?_
  obtain ⟨env, m, S, he, r, q⟩ := q
  rw [g.hK]
  refine seqE he r (PostK.bind q) fun dx S1 m1 H1 x1 r1 h1 v hv => seqE (he.ext x1) r1 h1.bind fun dy S2 m2 H2 x2 r2 h2 w hw => ?_
  obtain ⟨i, rfl, h2⟩ := int_k (S := S2) h2
  refine ⟨i, rd_int hw, seqE ((he.ext x1).ext x2) r2 h2.bind fun dz S3 m3 H3 x3 r3 h3 u hu => ?_⟩
  obtain ⟨j, rfl, h3⟩ := int_k (S := S3) h3
  exact ⟨j, rd_int hu, cut_use r3 (RD.ext (x2.trans x3) _ _ hv) h3⟩
theorem s_rev {j : Nat} {q1 q2 q3 : Pos} (g : Good T n N sc so X W) (ha : PE X x (tE T.toAd W (sE T call a))) : PE X (.Subscript x (.Slice none none (some (.UnaryOp .USub (.Constant (.int 1) j q1) q2)) q3) pos) (tE T.toAd W (sE T call (.rev new a))) := by
  refine peImp (pe_revL ha) fun σ H Q q => ?_
  obtain ⟨env, m, S, he, r, q⟩ := q
  rw [g.hK]
  exact seqE he r (PostK.bind q) fun dx S1 m1 H1 x1 r1 h1 v hv => rev_use r1 hv h1
theorem s_neg (ha : PE X x (tE T.toAd W (sE T call a))) : PE X (.UnaryOp .USub x pos) (tE T.toAd W (sE T call (.neg a))) := by
  refine peImp (pe_un un_neg ha) fun σ H Q q => ?_
  obtain ⟨env, m, S, he, r, q⟩ := q
  refine seqE he r (PostK.bind q) fun dx S1 m1 H1 x1 r1 h1 v hv => ?_
  obtain ⟨i, rfl, h1⟩ := int_k (S := S1) h1
  exact ⟨i, rd_int hv, ok_use (W := W) (σ := σ) r1 h1 rfl⟩
theorem s_con {d : D} {k : Const} {j : Nat} (h : chkC d k = true) : PE X (.Constant k j pos) (tE T.toAd W (sE T call (.con d))) := by
  have go : ∀ {v : V}, PE X (.Constant k j pos) (tC v) → (∀ m H, RD T.toAd m H d v) → PE X (.Constant k j pos) (tE T.toAd W (sE T call (.con d))) := fun p hv => peImp p fun σ H Q q => by
    obtain ⟨env, m, S, he, r, q⟩ := q
    exact ok_use (W := W) (σ := σ) r q (hv _ _)
  cases d <;> cases k <;> first | (cases h; done) | skip
  · exact go pe_non fun _ _ => rfl
  · rename_i a b
    cases (beq_iff_eq.mp (show (a == b) = true from h))
    exact go pe_bl fun _ _ => rfl
  · rename_i a b
    cases (of_decide_eq_true (show decide (a = b) = true from h))
    exact go pe_int fun _ _ => rfl
  · rename_i a b
    cases (of_decide_eq_true (show decide (a = b) = true from h))
    exact go pe_str fun _ _ => rfl
theorem s_var {i : Nat} {v : Str} (g : Good T n N sc so X W) (h1 : N[i]? = some v) (h2 : isVis sc v = true) (h3 : noDbg v = true) : PE X (.Name v pos) (tE T.toAd W (sE T call (.var i))) := by
  refine peImp (pe_var (by rw [g.hN]; exact h1) (by rw [g.scp]; exact isVis_of h2) (noDbg_1 h3) (noDbg_2 h3)) fun σ H Q q => ?_
  obtain ⟨env, m, S, he, r, q⟩ := q
  have q : PostK T.toAd (match env[i]? with | some (some d) => .ok d S | _ => .stuck) m H σ W (KQ T.toAd Q) := q
  cases e : env[i]? with
  | none =>
    rw [e] at q
    exact q.elim
  | some o =>
    cases o with
    | none =>
      rw [e] at q
      exact q.elim
    | some d =>
      rw [e] at q
      obtain ⟨v, k1, k2⟩ := he.at_ i d e
      exact ⟨v, k1, ok_use r q k2⟩
theorem s_glb {k : Nat} {v : Str} (g : Good T n N sc so X W) (tb : TbOk T n call) (h1 : T.nm.gls[k]? = some v) (h2 : isGl sc v = true) (h3 : noDbg v = true) : PE X (.Name v pos) (tE T.toAd W (sE T call (.glb k))) := by
  cases e : T.G.glbs[k]? with
  | none =>
    refine ⟨fun pins s σ H Q I q => ?_⟩
    obtain ⟨env, m, S, he, r, q⟩ := q
    have q : PostK T.toAd (match T.G.glbs[k]? with | some d => .ok d S | none => .stuck) m H σ W (KQ T.toAd Q) := q
    rw [e] at q
    exact q.elim
  | some d =>
    obtain ⟨w, u, k1, k2, k3⟩ := tb.gl k v d h1 e
    refine peImp (pe_glob (v := w) (gl_of g h2) (by rw [g.hmg]; exact k1) k2 (noDbg_1 h3)) fun σ H Q q => ?_
    obtain ⟨env, m, S, he, r, q⟩ := q
    have q : PostK T.toAd (match T.G.glbs[k]? with | some d => .ok d S | none => .stuck) m H σ W (KQ T.toAd Q) := q
    rw [e] at q
    exact ok_use (W := W) (σ := σ) r q (k3 _ _)
variable {es : Es} {xs : List Expr}
theorem s_tup {j : Nat} (ha : PA X xs (tA T.toAd W (sEs T call es))) : PE X (.Tuple xs j pos) (tE T.toAd W (sE T call (.tup es))) := by
  refine peImp (pe_tup ha) fun σ H Q q => ?_
  obtain ⟨env, m, S, he, r, q⟩ := q
  exact seqA he r (PostK.bind q) fun ds S1 m1 H1 x1 r1 h1 vs hv => mkT_use r1 h1 hv
theorem s_lst (ha : PA X xs (tA T.toAd W (sEs T call es))) : PE X (.List xs pos) (tE T.toAd W (sE T call (.lst new es))) := by
  refine peImp (pe_lst ha) fun σ H Q q => ?_
  obtain ⟨env, m, S, he, r, q⟩ := q
  exact seqA he r (PostK.bind q) fun ds S1 m1 H1 x1 r1 h1 vs hv => mkL_use r1 h1 hv
theorem s_call {k : Nat} {v : Str} {p : Pos} (g : Good T n N sc so X W) (tb : TbOk T n call) (h1 : T.nm.fns[k]? = some v) (hM : isM v = false) (hK : kwOf T.nm k = none) (h2 : isGl sc v = true) (h3 : noDbg v = true) (hxs : xs.all okX = true) (h0 : xs = [] → es = .nil) (ha : PA X xs (tA T.toAd W (sEs T call es))) : PE X (.Call (.Name v p) xs [] pos) (tE T.toAd W (sE T call (.call k es))) := by
  obtain ⟨k1, k2, k3, k4, k5⟩ := tb.fn k v h1
  have F := k4
  have k1 := k1 hM
  have k3 := k3 hK
  rw [← g.hP, ← g.hw, ← g.hK, ← g.hmg, ← g.hb] at F
  rw [← g.hK] at k2 k3
  rw [← g.hmg] at k1
  have go : ∀ {σ H Q}, tE T.toAd W (sE T call (.call k es)) σ H Q → tCallS (spC T.toAd (call k) (T.ps k).length) (WE W) (tA T.toAd W (sEs T call es)) σ H Q := fun {σ H Q} q => by
    obtain ⟨env, m, S, he, r, q⟩ := q
    exact seqA he r (PostK.bind q) fun ds S1 m1 H1 x1 r1 h1 vs hv => call_use r1 hv (k5 ds S1) h1
  cases xs with
  | nil =>
    refine peImp (pe_callG0 F g.rm (gl_of g h2) k1 k2 k3 (L2N.passAt g.tk) (noDbg_1 h3)) fun σ H Q q => ?_
    cases h0 rfl
    obtain ⟨env, m, S, he, r, q⟩ := go q
    exact q.now r [] rfl
  | cons e xs =>
    rw [List.all_cons, Bool.and_eq_true] at hxs
    exact peImp (pe_callG F g.rm (gl_of g h2) k1 k2 k3 (L2N.passAt g.tk) ha (noDbg_1 h3) (star_of hxs.1) (stars_any hxs.2)) fun σ H Q q => go q
theorem s_bf {f : Bfn} {v : Str} {p : Pos} (g : Good T n N sc so X W) (tb : TbOk T n call) (h1 : v = bfNm f) (h2 : bltN T.nm sc v = true) (hx : okX x = true) (ha : PE X x (tE T.toAd W (sE T call a))) : PE X (.Call (.Name v p) [x] [] pos) (tE T.toAd W (sE T call (.bf new f a))) := by
  obtain ⟨k1, k2, k3, k4⟩ := blt_of g tb h2
  have R := bf_rule (X := X) g.calm g.rm.gd g.hu7 f
  have hb := bf_boot f
  rw [← h1] at hb
  have go : ∀ {σ H Q}, tE T.toAd W (sE T call (.bf new f a)) σ H Q → tCB (rBf X.prog X.w X.K f) (tCons (tE T.toAd W (sE T call a)) tNil) σ H Q := fun {σ H Q} q => by
    obtain ⟨env, m, S, he, r, q⟩ := q
    rw [g.hK, g.hP, g.hw]
    exact seqE he r (PostK.bind q) fun dx S1 m1 H1 x1 r1 h1 v hv => bf_use r1 hv h1
  unfold bfVal at R hb
  cases ht : bfTy f with
  | true =>
    rw [ht, if_pos rfl] at R hb
    exact peImp (pe_callTy R k1 k2 hb (pa_cons ha pa_nil (star_of hx)) k3 k4 (star_of hx) (stars_any rfl)) fun σ H Q q => go q
  | false =>
    rw [ht, if_neg Bool.false_ne_true] at R hb
    exact peImp (pe_callB R k1 k2 hb (pa_cons ha pa_nil (star_of hx)) k3 k4 (star_of hx) (stars_any rfl)) fun σ H Q q => go q
theorem boot_isi : bootBuiltins "isinstance" = some (.builtin "isinstance") := by decide +kernel
theorem s_isi {t : Ty} {v u : Str} {p p' : Pos} (g : Good T n N sc so X W) (tb : TbOk T n call) (h1 : v = "isinstance") (h2 : bltN T.nm sc v = true) (h3 : u = tyNm t) (h4 : bltN T.nm sc u = true) (hx : okX x = true) (ha : PE X x (tE T.toAd W (sE T call a))) :
    PE X (.Call (.Name v p) [x, .Name u p'] [] pos) (tE T.toAd W (sE T call (.isi a t))) := by
  obtain ⟨k1, k2, k3, k4⟩ := blt_of g tb h2
  obtain ⟨j1, j2, j3, j4⟩ := blt_of g tb h4
  have hb := boot_isi
  rw [← h1] at hb
  have hu := ty_boot t
  rw [← h3] at hu
  have hn : okX (.Name u p') = true := rfl
  refine peImp (pe_callB (call_isi (X := X)) k1 k2 hb (pa_cons ha (pa_cons (pe_bltn (v := .ty (tyId t)) j1 j2 hu rfl j3 j4) pa_nil (star_of hn)) (star_of hx)) k3 k4 (star_of hx) (stars_any rfl)) fun σ H Q q => ?_
  obtain ⟨env, m, S, he, r, q⟩ := q
  rw [g.hK]
  exact seqE he r (PostK.bind q) fun dx S1 m1 H1 x1 r1 h1 v hv => isi_use r1 hv h1
theorem s_mth0 {mt : Mt} {f : Str} {p1 : Pos} (g : Good T n N sc so X W) (h1 : f = mtNm mt) (h2 : p1.endLine = pos.line) (hx : okX x = true) (ha : PE X x (tE T.toAd W (sE T call a))) : PE X (.Call (.Attribute x f p1) [] [] pos) (tE T.toAd W (sE T call (.mth0 mt a))) := by
  subst h1
  have F := mtF (X := X) mt
  refine peImp (pe_bm0 F.pa F.slot F.hty F.hm ha (base_of hx) (by rw [h2]; exact beq_self_eq_true _)) fun σ H Q q => ?_
  obtain ⟨env, m, S, he, r, q⟩ := q
  rw [g.hK]
  refine seqE he r (PostK.bind q) fun dx S1 m1 H1 x1 r1 h1 v hv => ?_
  obtain ⟨c, h1⟩ := ite_use h1
  exact ⟨mtOk_use r1 c hv, mth0_use r1 hv h1⟩
theorem s_mth1 {mt : Mt} {f : Str} {p1 : Pos} (g : Good T n N sc so X W) (h1 : f = mtNm mt) (h2 : p1.endLine = pos.line) (hx : okX x = true) (hy : okX y = true) (ha : PE X x (tE T.toAd W (sE T call a))) (hb : PE X y (tE T.toAd W (sE T call b))) : PE X (.Call (.Attribute x f p1) [y] [] pos) (tE T.toAd W (sE T call (.mth1 mt a b))) := by
  subst h1
  have F := mtF (X := X) mt
  refine peImp (pe_bm F.pa F.slot F.hty F.hm ha (pa_cons hb pa_nil (star_of hy)) (base_of hx) (few_one hy) (by rw [h2]; exact beq_self_eq_true _) (star_of hy) (stars_any rfl)) fun σ H Q q => ?_
  obtain ⟨env, m, S, he, r, q⟩ := q
  rw [g.hK]
  refine seqE he r (PostK.bind q) fun dx S1 m1 H1 x1 r1 h1 v hv => ?_
  obtain ⟨c, h1⟩ := ite_use h1
  exact ⟨mtOk_use r1 c hv, seqE (he.ext x1) r1 h1.bind fun dy S2 m2 H2 x2 r2 h2 w hw => mth1_use r2 (RD.ext x2 _ _ hv) hw h2⟩
theorem pi_imp {tg : Expr} {t t' : TI} (p : PI X tg x t) (h : ∀ σ H R, t' σ H R → t σ H R) : PI X tg x t' := ⟨fun pins s σ H R I q => p.run pins s σ H R I (h σ H R q)⟩
theorem i_seq {tg : Expr} (g : Good T n N sc so X W) (ha : PE X x (tE T.toAd W (sE T call a))) : PI X tg x (tI T.toAd W (sI T call (.seq a))) := by
  refine pi_imp (pi_seqG ha) fun σ H R q => ?_
  obtain ⟨env, m, S, he, r, q⟩ := q
  rw [g.hK]
  refine seqE he r (PostK.bind q) fun dx S1 m1 H1 x1 r1 h1 v hv => ?_
  cases e : seqItems S1 dx with
  | none =>
    rw [e] at h1
    exact h1.elim
  | some its =>
    rw [e] at h1
    exact seq_use r1 e hv (h1.now r1)
theorem rng_k {S : Store} {ds : List D} {m : Mp} {H : Hp} {σ : L2.St} {k : Items → Store → Mp → Hp → Prop} (h : PostK T.toAd (match rngs ds with | some ys => .ok ⟨ys, none⟩ S | none => .stuck) m H σ W k) (r : RS T.toAd m H S) : ∃ ys, rngs ds = some ys ∧ k ⟨ys, none⟩ S m H := by
  cases e : rngs ds with
  | none =>
    rw [e] at h
    exact h.elim
  | some ys =>
    rw [e] at h
    exact ⟨ys, rfl, h.now r⟩
theorem one_ints {m : Mp} {H : Hp} {i : Int} {vs : List V} (h : RDs T.toAd m H [.int i] vs) : vs = [.int i] := by
  obtain ⟨v, rfl, h1⟩ := h.one'
  rw [rd_int h1]
theorem two_ints' {m : Mp} {H : Hp} {i j : Int} {vs : List V} (h : RDs T.toAd m H [.int i, .int j] vs) : vs = [.int i, .int j] := by
  obtain ⟨v, w, rfl, h1, h2⟩ := h.two
  rw [rd_int h1, rd_int h2]
theorem three_ints {m : Mp} {H : Hp} {i j k : Int} {vs : List V} (h : RDs T.toAd m H [.int i, .int j, .int k] vs) : vs = [.int i, .int j, .int k] := by
  obtain ⟨v, w, u, rfl, h1, h2, h3⟩ := h.three
  rw [rd_int h1, rd_int h2, rd_int h3]
theorem Es.len_ev {call : Call} {G : Cfg} : ∀ {es : Es} {env : Env} {S S1 : Store} {ds : List D}, Es.ev call G es env S = .ok ds S1 → ds.length = es.len'
  | .nil, env, S, S1, ds, h => by
    cases h
    rfl
  | .cons e es, env, S, S1, ds, h => by
    obtain ⟨d, S2, _, h⟩ := bind_ok (show (R.bind _ _) = R.ok ds S1 from h)
    obtain ⟨r, S3, h3, h⟩ := bind_ok h
    cases h
    show r.length + 1 = _
    rw [Es.len_ev h3]
    rfl
end
end Ev
namespace Ev
open PySem PySem.Spec L2 PyProof.Rows
section
variable {T : Tb} {n : Nat} {N : List Str} {sc so : Scope} {X : Cx} {W : WX} {call : Call} {a b c : E} {x y z : Expr} {pos : Pos} {new : Bool} {es : Es} {xs : List Expr}
theorem i_rng1 {tg : Expr} {p : Pos} {v : Str} (g : Good T n N sc so X W) (tb : TbOk T n call) (h1 : v = "range") (h2 : bltN T.nm sc v = true) (hx : okX x = true) (hl : es.len' = 1) (ha : PA X [x] (tA T.toAd W (sEs T call es))) :
    PI X tg (.Call (.Name v p) [x] [] pos) (tI T.toAd W (sI T call (.rng es))) := by
  subst h1
  obtain ⟨k1, k2, k3, k4⟩ := blt_of g tb h2
  refine pi_imp (pi_range1 k1 k2 ha (star_of hx)) fun σ H R q => ?_
  obtain ⟨env, m, S, he, r, q⟩ := q
  refine ⟨env, m, S, he, r, (PostK.bind q).imp fun ds S1 m1 H1 e1 x1 r1 q1 vs hv => ?_⟩
  have hn := Es.len_ev e1
  rw [hl] at hn
  obtain ⟨ys, e, q3⟩ := rng_k q1 r1
  rcases rngs_use e with ⟨j, rfl, c1, c2, w⟩ | ⟨i, j, rfl, _⟩ | ⟨i, j, c, k, rfl, _⟩
  · exact ⟨j, one_ints hv, c1, c2, q3 _ (w _ _)⟩
  · cases hn
  · cases hn
theorem i_rng2 {tg : Expr} {p : Pos} {v : Str} (g : Good T n N sc so X W) (tb : TbOk T n call) (h1 : v = "range") (h2 : bltN T.nm sc v = true) (hx : okX x = true) (hy : okX y = true) (hl : es.len' = 2) (ha : PA X [x, y] (tA T.toAd W (sEs T call es))) :
    PI X tg (.Call (.Name v p) [x, y] [] pos) (tI T.toAd W (sI T call (.rng es))) := by
  subst h1
  obtain ⟨k1, k2, k3, k4⟩ := blt_of g tb h2
  refine pi_imp (pi_range2 k1 k2 ha (by rw [star_of hx, star_of hy]; rfl) (star_of hy)) fun σ H R q => ?_
  obtain ⟨env, m, S, he, r, q⟩ := q
  refine ⟨env, m, S, he, r, (PostK.bind q).imp fun ds S1 m1 H1 e1 x1 r1 q1 vs hv => ?_⟩
  have hn := Es.len_ev e1
  rw [hl] at hn
  obtain ⟨ys, e, q3⟩ := rng_k q1 r1
  rcases rngs_use e with ⟨j, rfl, _⟩ | ⟨i, j, rfl, c, w⟩ | ⟨i, j, c, k, rfl, _⟩
  · cases hn
  · exact ⟨i, j, two_ints' hv, c, q3 _ (w _ _)⟩
  · cases hn
theorem i_rng3 {tg : Expr} {p : Pos} {v : Str} (g : Good T n N sc so X W) (tb : TbOk T n call) (h1 : v = "range") (h2 : bltN T.nm sc v = true) (hx : okX x = true) (hy : okX y = true) (hz : okX z = true) (hl : es.len' = 3) (ha : PA X [x, y, z] (tA T.toAd W (sEs T call es))) :
    PI X tg (.Call (.Name v p) [x, y, z] [] pos) (tI T.toAd W (sI T call (.rng es))) := by
  subst h1
  obtain ⟨k1, k2, k3, k4⟩ := blt_of g tb h2
  refine pi_imp (pi_range3 k1 k2 ha (star_of hx) (stars_any (by simp [hy, hz]))) fun σ H R q => ?_
  obtain ⟨env, m, S, he, r, q⟩ := q
  refine ⟨env, m, S, he, r, (PostK.bind q).imp fun ds S1 m1 H1 e1 x1 r1 q1 vs hv => ?_⟩
  have hn := Es.len_ev e1
  rw [hl] at hn
  obtain ⟨ys, e, q3⟩ := rng_k q1 r1
  rcases rngs_use e with ⟨j, rfl, _⟩ | ⟨i, j, rfl, _⟩ | ⟨i, j, c, k, rfl, w1, w⟩
  · cases hn
  · cases hn
  · exact ⟨i, j, c, k, three_ints hv, w1, q3 _ (w _ _)⟩
theorem srcD_use {T : Ad} {m : Mp} {H : Hp} {d : D} {xs : List D} {v : V} (h : srcD d = some xs) (hv : RD T m H d v) : ∃ c vs, Sc.is c v ∧ RDs T m H xs vs ∧ ∀ m' H', Ext0 m H m' H' → c.has T.K H' vs := by
  cases d with
  | lst ds =>
    cases h
    obtain ⟨p, vs, rfl, h1, h2⟩ := hv
    exact ⟨.l p, vs, rfl, h2, fun m' H' e => e.sql h1⟩
  | tup ds =>
    cases h
    obtain ⟨p, vs, rfl, h1, h2⟩ := hv
    exact ⟨.t p, vs, rfl, h2, fun m' H' e => e.sqt h1⟩
  | str z =>
    cases h
    refine ⟨.s z, z.cps.toList.map fun c => V.str ⟨#[c]⟩, hv, ?_, fun m' H' e => rfl⟩
    generalize z.cps.toList = l
    induction l with
    | nil => rfl
    | cons a l ih => exact ⟨_, _, rfl, rfl, ih⟩
  | scr ns =>
    cases h
    obtain ⟨p, rfl, h1⟩ := hv
    refine ⟨.l p, ns.map V.int, rfl, RDs.ints _, fun m' H' e => ?_⟩
    rcases e.sc h1 with ⟨o, h⟩ | h
    · exact .inl (.inr ⟨o, h⟩)
    · exact .inr h
  | _ => cases h
theorem zip_k {m : Mp} {H : Hp} {σ : L2.St} {T : Ad} {W : WX} {o o2 : Option (List D)} {f : List D → List D → R Items} {k : Items → Store → Mp → Hp → Prop} (h : PostK T (match o, o2 with | some a, some b => f a b | _, _ => .stuck) m H σ W k) : ∃ a b, o = some a ∧ o2 = some b ∧ PostK T (f a b) m H σ W k := by
  cases o with
  | none => exact h.elim
  | some a =>
    cases o2 with
    | none => exact h.elim
    | some b => exact ⟨a, b, rfl, rfl, h⟩
theorem i_zip {elts : List Expr} {kk : Nat} {tpos p : Pos} {v : Str} (g : Good T n N sc so X W) (tb : TbOk T n call) (h1 : v = "zip") (h2 : bltN T.nm sc v = true) (hx : okX x = true) (hy : okX y = true) (ha : PE X x (tE T.toAd W (sE T call a))) (hb : PE X y (tE T.toAd W (sE T call b))) :
    PI X (.Tuple elts kk tpos) (.Call (.Name v p) [x, y] [] pos) (tI T.toAd W (sI T call (.zip a b))) := by
  subst h1
  obtain ⟨k1, k2, k3, k4⟩ := blt_of g tb h2
  refine pi_imp (pi_zipG k1 k2 (pa_cons ha (pa_cons hb pa_nil (star_of hy)) (star_of hx)) (star_of hx) (stars_any (by simp [hy]))) fun σ H R q => ?_
  obtain ⟨env, m, S, he, r, q⟩ := q
  rw [g.hK]
  refine seqE he r (PostK.bind q) fun dx S1 m1 H1 x1 r1 q1 v hv => seqE (he.ext x1) r1 q1.bind fun dy S2 m2 H2 x2 r2 q2 w hw => ?_
  obtain ⟨as, bs, e1, e2, q3⟩ := zip_k q2
  obtain ⟨c1, vs, i1, d1, g1⟩ := srcD_use e1 (RD.ext x2 _ _ hv)
  obtain ⟨c2, ws, i2, d2, g2⟩ := srcD_use e2 hw
  exact ⟨c1, c2, v, w, vs, ws, rfl, i1, i2, g1 _ _ Ext0.refl, g2 _ _ Ext0.refl, (q3.now r2) _ (wk_pairs d1 d2 (fun n hn => walk_zipG hn) fun m' H' S' e _ => ⟨g1 _ _ e, g2 _ _ e⟩)⟩
theorem wk_enz {T : Ad} {m : Mp} {H : Hp} {xs ys : List D} {vs ws : List V} {J : It} {G : Hp → Prop} (hx : RDs T m H xs vs) (hy : RDs T m H ys ws) (w : ∀ n, n = min vs.length ws.length → Walk J n G (YEnZ vs ws)) (hg : ∀ m' H' S', Ext0 m H m' H' → RS T m' H' S' → G H') :
    Wk T ⟨(xs.zip ys).zipIdx.map fun p => .tup [.int (p.2 : Nat), .tup [p.1.1, p.1.2]], none⟩ m H J := by
  refine ⟨G, _, w _ ?_, fun m' H' S' e r _ => hg m' H' S' e r, fun i m' H' S' v H'' hi e r _ y => ?_⟩
  · rw [List.length_map, List.length_zipIdx, List.length_zip, hx.length, hy.length]
  · obtain ⟨t, tp, a, b, rfl, hp, ht, np, rfl, ha, hb⟩ := y
    rw [List.length_map, List.length_zipIdx, List.length_zip] at hi
    have h1 : i < xs.length := by omega
    have h2 : i < ys.length := by omega
    obtain ⟨a', ka, ra⟩ := hx.get (List.getElem?_eq_getElem h1)
    obtain ⟨b', kb, rb⟩ := hy.get (List.getElem?_eq_getElem h2)
    rw [ha] at ka
    cases ka
    rw [hb] at kb
    cases kb
    have e1 := Ext.new (o := .tup [a, b]) r hp
    have r1 := r.new (o := .tup [a, b]) hp
    have ht1 : (upd H' tp (.tup [a, b])) t = none := by rw [upd_ne (Ne.symm np)]; exact ht
    have e2 := Ext.new (o := .tup [.int (i : Nat), .ref tp]) r1 ht1
    refine ⟨e1.trans e2, r1.new ht1, .tup [.int (i : Nat), .tup [xs[i], ys[i]]], ?_, ?_⟩
    · rw [List.getElem?_map, List.getElem?_zipIdx, List.getElem?_eq_getElem (by rw [List.length_zip]; omega), List.getElem_zip]
      simp
    · exact ⟨t, [.int (i : Nat), .ref tp], rfl, .inl (.inl upd_same), .int (i : Nat), [.ref tp], rfl, rfl, .ref tp, [], rfl, ⟨tp, [a, b], rfl, e2.sqt (.inl (.inl upd_same)), a, [b], rfl, RD.ext e2 _ _ (RD.ext e1 _ _ (RD.ext0 e _ _ ra)), b, [], rfl, RD.ext e2 _ _ (RD.ext e1 _ _ (RD.ext0 e _ _ rb)), rfl⟩, rfl⟩
theorem i_enz {elts : List Expr} {kk : Nat} {tpos p p2 pos2 : Pos} {u v : Str} (g : Good T n N sc so X W) (tb : TbOk T n call) (h0 : u = "enumerate") (h3 : bltN T.nm sc u = true) (h1 : v = "zip") (h2 : bltN T.nm sc v = true) (hx : okX x = true) (hy : okX y = true) (ha : PE X x (tE T.toAd W (sE T call a))) (hb : PE X y (tE T.toAd W (sE T call b))) :
    PI X (.Tuple elts kk tpos) (.Call (.Name u p2) [.Call (.Name v p) [x, y] [] pos] [] pos2) (tI T.toAd W (sI T call (.enz a b))) := by
  subst h1
  subst h0
  obtain ⟨k1, k2, k3, k4⟩ := blt_of g tb h2
  obtain ⟨l1, l2, l3, l4⟩ := blt_of g tb h3
  refine pi_imp (pi_enZ k1 k2 l1 l2 (pa_cons ha (pa_cons hb pa_nil (star_of hy)) (star_of hx)) (star_of hx) (stars_any (by simp [hy]))) fun σ H R q => ?_
  obtain ⟨env, m, S, he, r, q⟩ := q
  rw [g.hK]
  refine seqE he r (PostK.bind q) fun dx S1 m1 H1 x1 r1 q1 v hv => seqE (he.ext x1) r1 q1.bind fun dy S2 m2 H2 x2 r2 q2 w hw => ?_
  obtain ⟨as, bs, e1, e2, q3⟩ := zip_k q2
  obtain ⟨c1, vs, i1, d1, g1⟩ := srcD_use e1 (RD.ext x2 _ _ hv)
  obtain ⟨c2, ws, i2, d2, g2⟩ := srcD_use e2 hw
  exact ⟨c1, c2, v, w, vs, ws, rfl, i1, i2, g1 _ _ Ext0.refl, g2 _ _ Ext0.refl, (q3.now r2) _ (wk_enz d1 d2 (fun n hn => walk_enZ hn) fun m' H' S' e _ => ⟨g1 _ _ e, g2 _ _ e⟩)⟩
theorem own_eq (own : List Nat) : (ownP N own).map (·.2) = own := by
  unfold ownP
  rw [List.map_map]
  exact (List.map_congr_left fun _ _ => rfl).trans (List.map_id own)
theorem slots_of {t : Ev.T} {own : List Nat} (h : t.slots.all own.contains = true) : ∀ i ∈ t.slots, i ∈ own := fun i hi => List.contains_iff_mem.mp (List.all_eq_true.mp h i hi)
theorem ptsImp {X : Cx} {ifs : List Expr} {t t' : TT} (p : PTs X ifs t) (h : ∀ σ H Q, t' σ H Q → t σ H Q) : PTs X ifs t' := ⟨fun pins s σ H Q I q => p.run pins s σ H Q I (h σ H Q q)⟩
theorem pts_ok {X : Cx} {T : Ad} {W : WX} : PTs X [] (tB T W fun _ S => .ok true S) := ptsImp pts_nil fun σ H Q q => by
  obtain ⟨env, m, S, he, r, q⟩ := q
  exact q.now r
variable {t t2 : Ev.T} {it i2 : I} {ifs : Es} {own : List Nat} {scope : Scope} {tg tg2 iter iter2 : Expr} {ifx : List Expr}
/-- a context within a comprehension -/
abbrev BlkC (X : Cx) (scope : Scope) (s : Shared) (H : Hp) (C : Addr) (cl : List (Str × Addr)) (fp : List Addr) : Cx := X.blk s H scope (compEnvC scope cl C X.env) fp
abbrev W0 : WX := fun _ _ _ _ => False
theorem s_comp (g : Good T n N sc so X W) (hb : blkC N sc scope (ownP N own) = true) (hi : okX iter = true) (hs : t.slots.all own.contains = true) (ht : chkT N scope t tg = true) (hI : PI X tg iter (tI T.toAd W (sI T call it)))
    (hw : ∀ s H C cl fp, PTs (BlkC X scope s H C cl fp) ifx (tB T.toAd W0 fun env S => Es.tst call T.G ifs env S)) (he : ∀ s H C cl fp, PE (BlkC X scope s H C cl fp) x (tE T.toAd W0 (sE T call a))) :
    PE X (.ListComp x [⟨tg, iter, ifx, 0⟩] scope pos) (tE T.toAd W (sE T call (.comp new own a t it ifs))) := by
  have ok : BlkOk X.N X.env.scope scope (ownP N own) := by
    rw [g.hN, g.scp]
    exact blkOk_by hb
  refine peImp (pe_lc g.calm g.nd hI ok (fun s H C cl fp => sndT (g.blk s H scope C cl fp) t tg ht) hw he (fold_of hi X.env)) fun σ H Q q => ?_
  obtain ⟨env, m, S, he, r, q⟩ := q
  rw [own_eq]
  exact lc_use (slots_of hs) he r q
theorem s_comp2 (g : Good T n N sc so X W) (hb : blkC N sc scope (ownP N own) = true) (hi : okX iter = true) (hi2 : okX iter2 = true) (hs : t.slots.all own.contains = true) (hs2 : t2.slots.all own.contains = true) (ht : chkT N scope t tg = true) (ht2 : chkT N scope t2 tg2 = true) (hI : PI X tg iter (tI T.toAd W (sI T call it)))
    (hI2 : ∀ s H C cl fp, PI (BlkC X scope s H C cl fp) tg2 iter2 (tI T.toAd W0 (sI T call i2))) (he : ∀ s H C cl fp, PE (BlkC X scope s H C cl fp) x (tE T.toAd W0 (sE T call a))) :
    PE X (.ListComp x [⟨tg, iter, [], 0⟩, ⟨tg2, iter2, [], 0⟩] scope pos) (tE T.toAd W (sE T call (.comp2 new own a t it t2 i2))) := by
  have ok : BlkOk X.N X.env.scope scope (ownP N own) := by
    rw [g.hN, g.scp]
    exact blkOk_by hb
  refine peImp (pe_lc2 (vs1 := t2.slots) g.calm g.nd hI ok (fun i hi => by rw [own_eq]; exact slots_of hs2 i hi) (fun s H C cl fp => sndT (g.blk s H scope C cl fp) t tg ht) (fun s H C cl fp => pts_nil) hI2 (fun s H C cl fp => sndT (g.blk s H scope C cl fp) t2 tg2 ht2) (fun s H C cl fp => pts_ok (T := T.toAd) (W := W0)) he (fold_of hi X.env) (fold_of hi2)) fun σ H Q q => ?_
  obtain ⟨env, m, S, he, r, q⟩ := q
  rw [own_eq]
  exact lc2_use (slots_of hs) he r q
def cfOf (T : Tb) (call : Call) : Cs → List CF
  | .nil => []
  | .cons t it ifs cs => ⟨t, sI T call it, fun env S => Es.tst call T.G ifs env S, t.slots ++ cs.slots⟩ :: cfOf T call cs
theorem go_cf (f : Env → Store → R D) : ∀ (cs : Cs) (env : Env) (S : Store), Cs.ev call T.G cs f env S = goN f (cfOf T call cs) env S
  | .nil, env, S => rfl
  | .cons t it ifs cs, env, S => by
    show R.bind _ _ = R.bind _ _
    congr 1
    funext its S1
    have : (fun (env : Env) (S : Store) => (Es.tst call T.G ifs env S).bind fun b S => if b then Cs.ev call T.G cs f env S else .ok [] S) = fun env S => (Es.tst call T.G ifs env S).bind fun b S => if b then goN f (cfOf T call cs) env S else .ok [] S := by
      funext env S
      congr 1
      funext b S
      rw [go_cf f cs env S]
    simp only [this]
theorem cf_len : ∀ cs : Cs, ∀ gs : List Comprehension, chkCs T.nm N sc so cs gs = true → gs.length = (cfOf T call cs).length
  | .nil, [], _ => rfl
  | .nil, _ :: _, h => by cases h
  | .cons t it ifs cs, [], h => by cases h
  | .cons t it ifs cs, ⟨tg, iter, ifx, k⟩ :: gs, h => by
    have h : (decide (k = 0) && okX iter && chkT N so t tg && chkI T.nm N sc so it tg iter && chkW T.nm N sc so ifs ifx && chkCs T.nm N sc so cs gs) = true := h
    rw [Bool.and_eq_true] at h
    show gs.length + 1 = (cfOf T call cs).length + 1
    rw [cf_len cs gs h.2]
theorem cf_slots : ∀ cs : Cs, ∀ c ∈ cfOf T call cs, ∀ i ∈ c.t.slots, i ∈ c.vs
  | .nil, c, h, _, _ => by cases h
  | .cons t it ifs cs, c, h, i, hi => by
    rcases List.mem_cons.mp h with rfl | h
    · exact List.mem_append_left _ hi
    · exact cf_slots cs c h i hi
theorem cf_c {W : WX} : ∀ cs : Cs, ∀ gs : List Comprehension, chkCs T.nm N sc so cs gs = true → (List.zipWith (clOf T.toAd W) (cfOf T call cs) gs).map Cl.c = gs
  | .nil, [], _ => rfl
  | .nil, _ :: _, h => by cases h
  | .cons t it ifs cs, [], h => by cases h
  | .cons t it ifs cs, ⟨tg, iter, ifx, k⟩ :: gs, h => by
    have h : (decide (k = 0) && okX iter && chkT N so t tg && chkI T.nm N sc so it tg iter && chkW T.nm N sc so ifs ifx && chkCs T.nm N sc so cs gs) = true := h
    simp only [Bool.and_eq_true, decide_eq_true_eq] at h
    obtain ⟨⟨⟨⟨⟨rfl, _⟩, _⟩, _⟩, _⟩, h6⟩ := h
    show Cl.c _ :: _ = _
    rw [cf_c cs gs h6]
    rfl
theorem cf_nested {W : WX} : ∀ (cs : Cs) (gs : List Comprehension) (vs : List Nat), (∀ i ∈ cs.slots, i ∈ vs) → nested vs (List.zipWith (clOf T.toAd W) (cfOf T call cs) gs)
  | .nil, gs, vs, _ => True.intro
  | .cons t it ifs cs, [], vs, _ => True.intro
  | .cons t it ifs cs, g :: gs, vs, h => ⟨fun i hi => h i hi, cf_nested cs gs _ fun i hi => List.mem_append_right _ hi⟩
theorem s_compN_use {cs : Cs} {gs : List Comprehension} {own : List Nat} {t : Ev.T} {it : I} {ifs : Es} {σ : L2.St} {H : Hp} {m : Mp} {env : Env} {S : Store} {Q : VK} (hl : gs.length = (cfOf T call cs).length) (hs : t.slots.all own.contains = true) (he : REnv T.toAd m H env σ) (r : RS T.toAd m H S)
    (h : PostK T.toAd (sE T call (.compN new own a (.cons t it ifs cs)) env S) m H σ W (KQ T.toAd Q)) :
    tLcN (tI T.toAd W (sI T call it)) (gT T.toAd.K t) (tB T.toAd W0 fun env S => Es.tst call T.G ifs env S) (List.zipWith (clOf T.toAd W0) (cfOf T call cs) gs) (tE T.toAd W0 (sE T call a)) own σ H Q := by
  refine lcN_use (new := new) hl (cf_slots cs) (slots_of hs) he r ?_
  have e : (fun (env : Env) (S : Store) => (Es.tst call T.G ifs env S).bind fun b S => if b then goN (sE T call a) (cfOf T call cs) env S else .ok [] S) = fun env S => (Es.tst call T.G ifs env S).bind fun b S => if b then Cs.ev call T.G cs (fun env S => E.ev call T.G a env S) env S else .ok [] S := by
    funext env S
    congr 1
    funext b S
    rw [go_cf]
  rw [e]
  exact h
theorem s_compN {cs : Cs} {gs : List Comprehension} (g : Good T n N sc so X W) (hb : blkC N sc scope (ownP N own) = true) (hi : okX iter = true) (hs : t.slots.all own.contains = true) (hs2 : cs.slots.all own.contains = true) (ht : chkT N scope t tg = true) (hk : chkCs T.nm N (relS scope sc) scope cs gs = true) (hI : PI X tg iter (tI T.toAd W (sI T call it)))
    (hw : ∀ s H C cl fp, PTs (BlkC X scope s H C cl fp) ifx (tB T.toAd W0 fun env S => Es.tst call T.G ifs env S)) (hcl : ∀ c ∈ List.zipWith (clOf T.toAd W0) (cfOf T call cs) gs, ∀ s H C cl fp, ClOk (BlkC X scope s H C cl fp) c) (he : ∀ s H C cl fp, PE (BlkC X scope s H C cl fp) x (tE T.toAd W0 (sE T call a))) :
    PE X (.ListComp x (⟨tg, iter, ifx, 0⟩ :: gs) scope pos) (tE T.toAd W (sE T call (.compN new own a (.cons t it ifs cs)))) := by
  have ok : BlkOk X.N X.env.scope scope (ownP N own) := by
    rw [g.hN, g.scp]
    exact blkOk_by hb
  have p := pe_lcN (pos := pos) (cls := List.zipWith (clOf T.toAd W0) (cfOf T call cs) gs) g.calm g.nd hI ok (by rw [own_eq]; exact cf_nested cs gs own fun i hi => List.contains_iff_mem.mp (List.all_eq_true.mp hs2 i hi)) (fun s H C cl fp => sndT (g.blk s H scope C cl fp) t tg ht) hw hcl he (fold_of hi X.env)
  rw [cf_c cs gs hk] at p
  refine peImp p fun σ H Q q => ?_
  obtain ⟨env, m, S, he, r, q⟩ := q
  rw [own_eq]
  exact s_compN_use (cf_len cs gs hk) hs he r q
theorem rds_range {T : Ad} {m : Mp} {H : Hp} (i : Int) : ∀ (l : List Nat), RDs T m H (l.map fun (k : Nat) => D.int (i + (k : Nat))) (l.map fun (k : Nat) => V.int (i + (k : Nat)))
  | [] => rfl
  | a :: l => ⟨_, _, rfl, rfl, rds_range i l⟩
theorem rg_ok {i j : Int} (h : -(2 ^ 62) ≤ i ∧ i < 2 ^ 62 ∧ -(2 ^ 62) ≤ j ∧ j < 2 ^ 62) (hz : (j - i).toNat ≤ sizeLine) : RgOk i j := by
  rw [sizeLine_eq] at hz
  exact ⟨h.1, h.2.1, h.2.2.1, h.2.2.2, by omega⟩
theorem lr_k {S : Store} {o : Option (List D)} {m : Mp} {H : Hp} {σ : L2.St} {k : D → Store → Mp → Hp → Prop} (h : PostK T.toAd (match o with | some ys => mkL new ys S | none => .stuck) m H σ W k) : ∃ ys, o = some ys ∧ PostK T.toAd (mkL new ys S) m H σ W k := by
  cases o with
  | none => exact h.elim
  | some ys => exact ⟨ys, rfl, h⟩
theorem s_lrng1 {v u : Str} {p p' p2 : Pos} (g : Good T n N sc so X W) (tb : TbOk T n call) (h1 : v = "list") (h2 : bltN T.nm sc v = true) (h3 : u = "range") (h4 : bltN T.nm sc u = true) (hx : okX x = true) (ha : PE X x (tE T.toAd W (sE T call a))) :
    PE X (.Call (.Name v p) [.Call (.Name u p') [x] [] p2] [] pos) (tE T.toAd W (sE T call (.lrng1 new a))) := by
  subst h1
  subst h3
  obtain ⟨k1, k2, _, _⟩ := blt_of g tb h2
  obtain ⟨j1, j2, _, _⟩ := blt_of g tb h4
  refine peImp (pe_listRg g.calm k1 k2 (prg_1 j1 j2 ha (star_of hx)) (star_of rfl)) fun σ H Q q => ?_
  obtain ⟨env, m, S, he, r, q⟩ := q
  refine seqE he r (PostK.bind q) fun dx S1 m1 H1 x1 r1 q1 v hv => ?_
  obtain ⟨ys, e, q1⟩ := lr_k q1
  unfold rngs at e
  split at e
  · rename_i j hj
    cases hj
    split at e
    · rename_i c
      cases e
      have c := of_decide_eq_true c
      have hz := isz_mkL q1
      rw [List.length_map, List.length_range] at hz
      have hv2 : RDs T.toAd m1 H1 ((List.range j.toNat).map fun (i : Nat) => D.int ((0 : Int) + (i : Nat))) (rgV 0 j) := by
        unfold rgV
        rw [Int.sub_zero]
        exact rds_range 0 _
      exact ⟨j, rd_int hv, rg_ok ⟨by omega, by omega, c.1, c.2⟩ (by rw [Int.sub_zero]; exact hz), (mkL_use r1 q1 hv2).2⟩
    · cases e
  · rename_i h
    cases h
  · rename_i h
    cases h
  · cases e
theorem s_lrng2 {v u : Str} {p p' p2 : Pos} (g : Good T n N sc so X W) (tb : TbOk T n call) (h1 : v = "list") (h2 : bltN T.nm sc v = true) (h3 : u = "range") (h4 : bltN T.nm sc u = true) (hx : okX x = true) (hy : okX y = true) (ha : PE X x (tE T.toAd W (sE T call a))) (hb : PE X y (tE T.toAd W (sE T call b))) :
    PE X (.Call (.Name v p) [.Call (.Name u p') [x, y] [] p2] [] pos) (tE T.toAd W (sE T call (.lrng2 new a b))) := by
  subst h1
  subst h3
  obtain ⟨k1, k2, _, _⟩ := blt_of g tb h2
  obtain ⟨j1, j2, _, _⟩ := blt_of g tb h4
  refine peImp (pe_listRg g.calm k1 k2 (prg_2 j1 j2 ha hb (star_of hx) (star_of hy) (stars_any (by simp [hy]))) (star_of rfl)) fun σ H Q q => ?_
  obtain ⟨env, m, S, he, r, q⟩ := q
  refine seqE he r (PostK.bind q) fun dx S1 m1 H1 x1 r1 q1 v hv => seqE (he.ext x1) r1 (PostK.bind q1) fun dy S2 m2 H2 x2 r2 q2 w hw => ?_
  have hv := RD.ext x2 _ _ hv
  obtain ⟨ys, e, q1⟩ := lr_k q2
  unfold rngs at e
  split at e
  · rename_i h
    cases h
  · rename_i i j hj
    cases hj
    split at e
    · rename_i c
      cases e
      have c := of_decide_eq_true c
      have hz := isz_mkL q1
      rw [List.length_map, List.length_range] at hz
      exact ⟨i, j, rd_int hv, rd_int hw, rg_ok c hz, (mkL_use r2 q1 (rds_range i _)).2⟩
    · cases e
  · rename_i h
    cases h
  · cases e
end
end Ev
namespace Ev
open PySem PySem.Spec L2 PyProof.Rows
section
variable {T : Tb} {n : Nat} {N : List Str} {sc so : Scope} {X : Cx} {W : WX} {call : Call} {a : E} {x : Expr} {pos : Pos} {es : Es} {xs : List Expr}
theorem hasFl_of {tb : TbOk T n call} {c : Nat} {f : Str} (h : hasFl T.G c f = true) : Cls T.K (T.ka c) ∧ NoAttr T.K (T.ka c) f := by
  unfold hasFl at h
  cases e : T.G.kls[c]? with
  | none =>
    rw [e] at h
    cases h
  | some kl =>
    rw [e] at h
    obtain ⟨h1, h2, _⟩ := tb.kl c kl e
    exact ⟨h1, h2 f (List.contains_iff_mem.mp h)⟩
theorem s_fld {f : Str} (g : Good T n N sc so X W) (tb : TbOk T n call) (hx : okX x = true) (ha : PE X x (tE T.toAd W (sE T call a))) : PE X (.Attribute x f pos) (tE T.toAd W (sE T call (.fld a f))) := by
  refine peImp (pe_fld ha (base_of hx)) fun σ H Q q => ?_
  obtain ⟨env, m, S, he, r, q⟩ := q
  rw [g.hK]
  refine seqE he r (PostK.bind q) fun d S1 m1 H1 x1 r1 h1 v hv => ?_
  have h1 : PostK T.toAd (fldV T.G f d S1) m1 H1 σ W (KQ T.toAd Q) := h1
  unfold fldV at h1
  cases e : objOf S1 d with
  | none =>
    rw [e] at h1
    exact h1.elim
  | some w =>
    obtain ⟨c, fs⟩ := w
    rw [e] at h1
    obtain ⟨k, h1⟩ := ite_use h1
    cases e2 : fs.lookup f with
    | none =>
      rw [e2] at h1
      exact h1.elim
    | some d' =>
      rw [e2] at h1
      obtain ⟨l, p, q', vs, _, rfl, _, _, e5, e6⟩ := objOf_use r1 e hv
      obtain ⟨v', l1, l2⟩ := e6.look e2
      obtain ⟨k1, k2⟩ := hasFl_of (tb := tb) k
      exact ⟨p, _, q', vs, v', rfl, e5, k1, k2, l1, ok_use r1 h1 l2⟩
theorem msOf_of {c k : Nat} {w : Bool} {f : Str} (tb : TbOk T n call) (g : Good T n N sc so X W) (h : msOf T.G c w f = some k) : Cls X.K (T.ka c) ∧ MethG X (T.ka c) f (fun vs H Q σ => spC T.toAd (call k) (T.ps k).length vs H Q (WE W σ)) ∧ ∀ ds S, call k ds S ≠ .stuck → ds.length = (T.ps k).length := by
  unfold msOf at h
  cases e : T.G.kls[c]? with
  | none =>
    rw [e] at h
    cases h
  | some kl =>
    rw [e] at h
    obtain ⟨h1, _, h3⟩ := tb.kl c kl e
    obtain ⟨k1, k2, k3, k4⟩ := h3 w f k h
    rw [g.hK]
    refine ⟨h1, ⟨n, T.fa k, T.fd k, T.ps k, _, WE W, ?_, ?_, g.rm, ?_, L2N.passAt g.tk, fun _ _ _ _ h => h⟩, k4⟩
    · rw [g.hK]
      exact k1
    · rw [g.hP, g.hw, g.hK, g.hmg, g.hb]
      exact k3
    · rw [g.hK]
      exact k2
theorem few_all {cpos : Pos} {env : PySem.Env} (h : xs.all okX = true) (hl : xs.length < 30) : methodCallForm (xs.length + ([] : List Keyword).length) (backTo cpos (starEach xs env)) (backToKw cpos (keywordEach [] env)) = true := by
  have e := stars_any (pos := cpos) (env := env) h
  show ((backTo cpos (starEach xs env)).all (fun x => !x.1) && (backToKw cpos (keywordEach [] env)).all (fun x => x.1.isSome) && decide (xs.length + 0 + 0 < 30)) = true
  rw [Bool.and_eq_true, Bool.and_eq_true]
  refine ⟨⟨?_, rfl⟩, decide_eq_true (by omega)⟩
  rw [List.all_eq_true]
  intro y hy
  have := List.any_eq_false.mp e y hy
  simpa using this
theorem s_mcall {f : Str} {w : Bool} {p1 p2 : Pos} (g : Good T n N sc so X W) (tb : TbOk T n call) (hl : p1.endLine = p2.line) (h30 : xs.length < 30) (hx : okX x = true) (hxs : xs.all okX = true) (h0 : xs = [] → es = .nil) (ha : PE X x (tE T.toAd W (sE T call a))) (hs : PA X xs (tA T.toAd W (sEs T call es))) :
    PE X (.Call (.Attribute x f p1) xs [] p2) (tE T.toAd W (sE T call (.mcall f w a es))) := by
  have go : ∀ {σ H Q}, tE T.toAd W (sE T call (.mcall f w a es)) σ H Q → tMethI X f (tE T.toAd W (sE T call a)) (tA T.toAd W (sEs T call es)) σ H Q := fun {σ H Q} q => by
    obtain ⟨env, m, S, he, r, q⟩ := q
    refine seqE he r (PostK.bind q) fun d S1 m1 H1 x1 r1 h1 v hv => ?_
    cases e : methV T.G f w d S1 with
    | none =>
      rw [e] at h1
      exact h1.elim
    | some k =>
      rw [e] at h1
      unfold methV at e
      cases e2 : objOf S1 d with
      | none =>
        rw [e2] at e
        cases e
      | some ob =>
        obtain ⟨c, fs⟩ := ob
        rw [e2] at e
        have e : (if (fs.lookup f).isNone then msOf T.G c w f else none) = some k := e
        by_cases e3 : (fs.lookup f).isNone = true
        · rw [if_pos e3] at e
          obtain ⟨l, p, q', vs, _, rfl, _, _, e5, e6⟩ := objOf_use r1 e2 hv
          obtain ⟨k1, k2, k3⟩ := msOf_of tb g e
          refine ⟨p, _, q', vs, _, rfl, e5, k1, k2, e6.none_ (Option.isNone_iff_eq_none.mp e3), ?_⟩
          exact seqA (he.ext x1) r1 (PostK.bind h1) fun ds S2 m2 H2 x2 r2 h2 ws hw => call_use (ds := d :: ds) (vs := .ref p :: ws) r2 ⟨.ref p, ws, rfl, RD.ext x2 _ _ hv, hw⟩ (k3 (d :: ds) S2) h2
        · rw [if_neg e3] at e
          cases e
  cases xs with
  | nil =>
    refine peImp (pe_methI0 ha (base_of hx) (by rw [hl]; exact beq_self_eq_true _)) fun σ H Q q => ?_
    cases h0 rfl
    obtain ⟨env, m, S, he, r, q⟩ := go q
    exact ⟨env, m, S, he, r, q.imp fun d S1 m1 H1 _ x1 r1 h1 v hv => by
      obtain ⟨a', C, dx, fs, R, e1, e2, e3, e4, e5, e6⟩ := h1 v hv
      obtain ⟨_, m2, S2, he2, r2, q2⟩ := e6
      exact ⟨a', C, dx, fs, R, e1, e2, e3, e4, e5, q2.now r2 [] rfl⟩⟩
  | cons e xs =>
    have hxs' := hxs
    rw [List.all_cons, Bool.and_eq_true] at hxs
    exact peImp (pe_methI ha hs (base_of hx) (few_all hxs' h30) (by rw [hl]; exact beq_self_eq_true _) (star_of hxs.1) (stars_any hxs.2)) fun σ H Q q => go q
theorem s_new {c : Nat} {v : Str} {p : Pos} (g : Good T n N sc so X W) (tb : TbOk T n call) (h1 : T.nm.kns[c]? = some v) (h2 : isGl sc v = true) (h3 : noDbg v = true) (hxs : xs.all okX = true) (h0 : xs = [] → es = .nil) (hs : PA X xs (tA T.toAd W (sEs T call es))) :
    PE X (.Call (.Name v p) xs [] pos) (tE T.toAd W (sE T call (.new c es))) := by
  cases ei : msOf T.G c false "__init__" with
  | none =>
    refine ⟨fun pins s σ H Q I q => ?_⟩
    obtain ⟨env, m, S, he, r, q⟩ := q
    have q : PostK T.toAd (match msOf T.G c false "__init__" with | some k => (Es.ev call T.G es env S).bind fun xs S => (call k (.ref S.length :: xs) (S ++ [.obj c []])).bind fun d S' => if isNon d then .ok (.ref S.length) S' else .stuck | none => .stuck) m H σ W (KQ T.toAd Q) := q
    rw [ei] at q
    exact q.elim
  | some k =>
    obtain ⟨kmg, kmk⟩ := tb.kn c v h1
    have ek : ∃ kl, T.G.kls[c]? = some kl ∧ kl.ms.lookup ("__init__" : Str) = some k := by
      unfold msOf at ei
      cases e : T.G.kls[c]? with
      | none =>
        rw [e] at ei
        cases ei
      | some kl =>
        rw [e] at ei
        exact ⟨kl, rfl, ei⟩
    obtain ⟨kl, e1, e2⟩ := ek
    have M := kmk kl k e1 e2
    obtain ⟨_, _, h5⟩ := tb.kl c kl e1
    obtain ⟨k1, k2, k3, k4⟩ := h5 false _ k e2
    rw [← g.hK] at M k2
    rw [← g.hmg] at kmg
    rw [← g.hP, ← g.hw, ← g.hK, ← g.hmg, ← g.hb] at k3
    have go : ∀ {σ H Q}, tE T.toAd W (sE T call (.new c es)) σ H Q → tMakeG (T.ka c) (spC T.toAd (call k) (T.ps k).length) (WE W) (tA T.toAd W (sEs T call es)) σ H Q := fun {σ H Q} q => by
      obtain ⟨env, m, S, he, r, q⟩ := q
      have q : PostK T.toAd (match msOf T.G c false "__init__" with | some k => (Es.ev call T.G es env S).bind fun xs S => (call k (.ref S.length :: xs) (S ++ [.obj c []])).bind fun d S' => if isNon d then .ok (.ref S.length) S' else .stuck | none => .stuck) m H σ W (KQ T.toAd Q) := q
      rw [ei] at q
      refine seqA he r (PostK.bind q) fun ds S1 m1 H1 x1 r1 h1 vs hv => fun pp qq hp hq hne => ?_
      obtain ⟨xn, rn⟩ := new_use (c := c) r1 hp hq hne
      have h1 : PostK T.toAd ((call k (.ref S1.length :: ds) (S1 ++ [.obj c []])).bind fun d S' => if isNon d then .ok (.ref S1.length) S' else .stuck) m1 H1 σ W (KQ T.toAd Q) := h1
      refine call_use (ds := .ref S1.length :: ds) (vs := .ref pp :: vs) (σ := σ) (W := W) (m := m1.add pp) rn ⟨.ref pp, vs, rfl, ref_len r1, RDs.ext xn _ _ hv⟩ (k4 _ _) ?_
      generalize call k (.ref S1.length :: ds) (S1 ++ [.obj c []]) = R0 at h1 ⊢
      cases R0 with
      | stuck => exact h1
      | exc ex S2 => exact fun m' H' x r => h1 m' H' (xn.trans x) r
      | ok d S2 =>
        have h1 : PostK T.toAd (if isNon d then .ok (.ref S1.length) S2 else .stuck) m1 H1 σ W (KQ T.toAd Q) := h1
        obtain ⟨k0, h1⟩ := ite_use h1
        have hd : d = .non := by
          cases d <;> first | rfl | cases k0
        subst hd
        intro m2 H2 x2 r2 w hw
        have hr := ref_len (H' := H2) r1 (p := pp)
        obtain ⟨p', g1, g2⟩ := hr
        cases g2
        exact ⟨rd_non hw, h1 m2 H2 (xn.trans x2) r2 _ ⟨pp, x2.toExt0.get g1, rfl⟩⟩
    cases xs with
    | nil =>
      refine peImp (pe_makeG0 M k3 g.rm1 (gl_of g h2) kmg k2 (L2N.passAt g.tk) (noDbg_1 h3)) fun σ H Q q => ?_
      cases h0 rfl
      obtain ⟨env, m, S, he, r, q⟩ := go q
      exact q.now r [] rfl
    | cons e xs =>
      rw [List.all_cons, Bool.and_eq_true] at hxs
      exact peImp (pe_makeG M k3 g.rm1 (gl_of g h2) kmg k2 (L2N.passAt g.tk) hs (noDbg_1 h3) (star_of hxs.1) (stars_any hxs.2)) fun σ H Q q => go q
end
end Ev
namespace Ev
open PySem PySem.Spec L2 PyProof.Rows
section
variable {X : Cx} {pins : List (Addr × Obj)} {σ : L2.St} {H : Hp} {s : Shared} {Q : VK} {C : Addr} {a b : Expr} {ta tb : TE} {k : Nat} {pos : Pos}
theorem Rm.in1 {k : Nat} {A : Around} (r : Rm (k + 1) A) : Rm k A.in1 := ⟨r.room.in1, r.gd⟩
/-- what is known of a class's method, with room for one builtin more -/
structure MethO (X : Cx) (C : Addr) (m : Str) (R : List V → Hp → VK → L2.St → Prop) : Prop where
  ex : ∃ (k : Nat) (f : Addr) (fd : FuncData) (ps : List Str) (sp : Sp) (E : L2.St → XK), Meth X.K C m f ∧ FnG X.prog X.w X.K X.mg X.base (L2N.CX X.prog X.w) k f fd ps sp ∧ Rm (k + 1) X.A ∧ Binds X.K fd ps [] ∧ (∀ σ, PassesAt (L2N.CX X.prog X.w) X σ (E σ)) ∧ ∀ vs H Q σ, R vs H Q σ → sp vs H Q (E σ)
theorem run_fnG1 {k : Nat} {f : Addr} {fd : FuncData} {ps : List Str} {sp : Sp} {E : L2.St → XK} {us : List Value} {vs : List V} (F : FnG X.prog X.w X.K X.mg X.base (L2N.CX X.prog X.w) k f fd ps sp) (hr : Rm (k + 1) X.A) (hb : Binds X.K fd ps []) (hx : PassesAt (L2N.CX X.prog X.w) X σ (E σ))
    (I : Inv X pins σ H s) (r : Vals vs us) (h : sp vs H Q (E σ)) : wpAny (model X.prog X.w) X.A.in1 (call (.ref f) us) (EP X pins σ Q) X.xe s := by
  have hl : us.length = ps.length := by rw [← r.length]; exact F.len _ _ _ _ h
  have b := hb s us I.kIn (by rw [List.append_nil]; exact hl)
  rw [List.append_nil] at b
  refine wpAny_call (codeAny_mono (F.run X.A.in1 X.stack s H ⟨us, []⟩ us vs Q (E σ) hr.in1 I.env0.in1 b r h) fun r s' hq => ?_)
  cases r with
  | error e => exact hx pins H s e s' I hq
  | ok fl =>
    cases fl with
    | ret u => exact I.after hq
    | next => exact False.elim hq
    | brk => exact False.elim hq
    | cont => exact False.elim hq
/-- what an instance of the class at C is compared with -/
def TyE (K : PySem.W.Frag) (C : Addr) (H : Hp) (y : V) : Prop := (∃ t, TyX K H y (.type t) ∧ PySem.W.subIn K (.type t) (.ref C) = some false) ∨ ∃ b dx fs, y = .ref b ∧ H b = some (.ins C dx fs)
def rEqO (X : Cx) (ne : Bool) (σ : L2.St) : R2 := fun x y H Q => ∃ a C dx fs R, x = .ref a ∧ H a = some (.ins C dx fs) ∧ OwnX X.K C ∧ MethO X C "__eq__" R ∧ TyE X.K C H y ∧ R [x, y] H (fun z H' => ∃ r, z = .bl r ∧ Q (.bl (if ne then !r else r)) H') σ
theorem rel_bl {r : Bool} {u : Value} (h : RelV (.bl r) u) : u = .bool r := h
theorem eqO_ok {ne : Bool} {x y : V} {v u : Value} (I : Inv X pins σ H s) (rx : RelV x v) (ry : RelV y u) (q : rEqO X ne σ x y H Q) :
    wpAny (model X.prog X.w) X.A (compareOp (if ne then .NotEq else .Eq) v u) (EP X pins σ Q) X.xe s := by
  obtain ⟨a, C, dx, fs, R, rfl, ea, ox, mg, ty, q⟩ := q
  obtain rfl : v = Value.ref a := rx
  obtain ⟨k', f, fd, ps, sp, E, hm', F, hr', hb, hx, hsp⟩ := mg.ex
  obtain ⟨mA, O, _⟩ := ins_get I.hok ea
  obtain ⟨od, J, _⟩ := O.look
  obtain ⟨m, hF⟩ := I.fr
  obtain ⟨tv, lk, hn⟩ : ∃ tv, PySem.W.Looks (model X.prog X.w) s.heap (typeOf u) tv ∧ PySem.W.notFirst X.K C tv = true := by
    rcases ty with ⟨t, tx, sb⟩ | ⟨b, dx', fs', rfl, eb⟩
    · obtain ⟨P, Z, p, _⟩ := kit_of I ry tx
      exact ⟨_, Z.ty _ _ I.kIn p, by simp [PySem.W.notFirst, sb]⟩
    · obtain rfl : u = Value.ref b := ry
      obtain ⟨mB, O', _⟩ := ins_get I.hok eb
      obtain ⟨od', J', _⟩ := O'.look
      exact ⟨_, J'.type, by simp [PySem.W.notFirst]⟩
  have sq := hsp _ _ _ _ q
  cases ne with
  | false =>
    refine PySem.W.cmp_K (op := .Eq) hr'.room.units0 hF I.ok.mod.kin J lk hn hm'.at_ hm'.fn ?_
    refine wpAny_mono (run_fnG (us := [.ref a, u]) (vs := [.ref a, y]) F (hr'.mono (Nat.le_succ _)) hb (hx σ) I (.cons rfl (.cons ry .nil)) sq) (fun w s' z => ?_) fun _ _ x => x
    obtain ⟨z, H', I', rz, r, rfl, qz⟩ := z
    obtain rfl := rel_bl rz
    exact ⟨.bl r, H', I', rfl, qz⟩
  | true =>
    refine ne_K hr'.room.units0 hr'.in1.room.units0 I.kIn J lk hn ox.ne ox.mo hm'.at_ hm'.fn ?_
    refine wpAny_mono (run_fnG1 (us := [.ref a, u]) (vs := [.ref a, y]) F hr' hb (hx σ) I (.cons rfl (.cons ry .nil)) sq) (fun w s' z => ?_) fun _ _ x => x
    obtain ⟨z, H', I', rz, r, rfl, qz⟩ := z
    obtain rfl := rel_bl rz
    exact ⟨r, rfl, .bl (!r), H', I', rfl, qz⟩
def tEqO (X : Cx) (ne : Bool) (ta tb : TE) : TE := fun σ H Q => ta σ H fun x H1 => tb σ H1 fun y H2 => rEqO X ne σ x y H2 Q
theorem pe_eqO {ne : Bool} (ha : PE X a ta) (hb : PE X b tb) (hm : behindInMarks (if ne then .NotEq else .Eq) b = false) : PE X (.Compare a [if ne then .NotEq else .Eq] [b] pos) (tEqO X ne ta tb) := by
  refine ⟨fun pins s σ H Q I h => ?_⟩
  exact wpAny_Compare1 (binT (R := fun x y H2 => rEqO X ne σ x y H2 Q) ha hb I h fun v u s2 x y H2 I2 rx ry q => eqO_ok I2 rx ry q) hm
theorem pt_eqO {ne : Bool} (ha : PE X a ta) (hb : PE X b tb) (hm : behindInMarks (if ne then .NotEq else .Eq) b = false) : PT X (.Compare a [if ne then .NotEq else .Eq] [b] pos) (tTest (tEqO X ne ta tb)) := by
  refine ⟨fun pins s σ H Q I h => ?_⟩
  refine wpAny_isTrue_Compare1 (thn (ha.run pins s σ H _ I h) fun v s1 ⟨x, H1, I1, r1, q1⟩ => thn (hb.run pins s1 σ H1 _ I1 q1) fun u s2 ⟨y, H2, I2, r2, q2⟩ =>
    thn (eqO_ok I2 r1 r2 q2) fun c s3 ⟨z, H3, I3, r3, k, e, q3⟩ => ?_) hm
  subst e
  cases r3
  exact wpAny_truthy_bool ⟨H3, I3, q3⟩
/-- len(x), x an instance -/
def rLenO (X : Cx) (σ : L2.St) (x : V) (H : Hp) (Q : VK) : Prop := ∃ a C dx fs R, x = .ref a ∧ H a = some (.ins C dx fs) ∧ MethO X C "__len__" R ∧ R [x] H (fun z H' => ∃ i : Int, z = .int i ∧ (0 ≤ i ∧ i < 2 ^ 62) ∧ Q (.int i) H') σ
theorem lenO_ok {x : V} {u : Value} (I : Inv X pins σ H s) (rx : RelV x u) (q : rLenO X σ x H Q) : wpAny (model X.prog X.w) X.A (call (.builtin "len") [u]) (EP X pins σ Q) X.xe s := by
  obtain ⟨a, C, dx, fs, R, rfl, ea, mg, q⟩ := q
  obtain rfl : u = Value.ref a := rx
  obtain ⟨k', f, fd, ps, sp, E, hm', F, hr', hb, hx, hsp⟩ := mg.ex
  obtain ⟨mA, O, _⟩ := ins_get I.hok ea
  obtain ⟨od, J, _⟩ := O.look
  obtain ⟨m, hF⟩ := I.fr
  have sq := hsp _ _ _ _ q
  refine PySem.W.len_K hF I.ok.mod.kin J hm'.at_ hm'.fn ?_
  refine wpAny_mono (run_fnG1 (us := [.ref a]) (vs := [.ref a]) F hr' hb (hx σ) I (.cons rfl .nil) sq) (fun w s' z => ?_) fun _ _ x => x
  obtain ⟨z, H', I', rz, i, rfl, ⟨h1, h2⟩, qz⟩ := z
  obtain ⟨t, rfl⟩ := (show ∃ t, w = Value.int i t from rz)
  exact ⟨⟨h1, by omega⟩, .int i, H', I'.tok _, ⟨_, rfl⟩, qz⟩
def tLenO (X : Cx) (ta : TE) : TE := fun σ H Q => tCons ta tNil σ H fun vs H1 => ∃ x, vs = [x] ∧ rLenO X σ x H1 Q
theorem pe_lenO {x : Str} {p : Pos} (hg : Gl X x) (hm : X.mg x = none) (hv : bootBuiltins x = some (.builtin "len")) (ha : PE X a ta) (hn : x ≠ "__name__") (hdb : (x == ("__debug__" : Str)) = false) (hs : starEach [a] X.env = (false, eval a X.env) :: starEach [] X.env) :
    PE X (.Call (.Name x p) [a] [] pos) (tLenO X ta) := by
  refine ⟨fun pins s σ H Q I h => ?_⟩
  refine wpAny_Call_Name_kw (ld_blt I hg hm hv ?_ hn hdb)
  refine PyProof.Rows.callWith_builtin1 (thn ((pa_cons ha pa_nil hs).run pos pins s σ H _ I h) fun us s1 ⟨vs, H1, I1, r1, y, hy, q1⟩ => ?_) hs rfl
  subst hy
  obtain ⟨u, hu, ru⟩ := r1.one
  subst hu
  exact lenO_ok I1 ru q1
end
section
variable {T : Tb} {n : Nat} {N : List Str} {sc so : Scope} {X : Cx} {W : WX} {call : Call} {a b : E} {x y : Expr} {pos : Pos}
theorem msO_of {c k : Nat} {f : Str} (tb : TbOk T n call) (g : Good T n N sc so X W) (h : msOf T.G c false f = some k) : MethO X (T.ka c) f (fun vs H Q σ => spC T.toAd (call k) (T.ps k).length vs H Q (WE W σ)) ∧ ∀ ds S, call k ds S ≠ .stuck → ds.length = (T.ps k).length := by
  unfold msOf at h
  cases e : T.G.kls[c]? with
  | none =>
    rw [e] at h
    cases h
  | some kl =>
    rw [e] at h
    obtain ⟨h1, _, h3⟩ := tb.kl c kl e
    obtain ⟨k1, k2, k3, k4⟩ := h3 false f k h
    refine ⟨⟨n, T.fa k, T.fd k, T.ps k, _, WE W, ?_, ?_, g.rm1, ?_, L2N.passAt g.tk, fun _ _ _ _ h => h⟩, k4⟩
    · rw [g.hK]
      exact k1
    · rw [g.hP, g.hw, g.hK, g.hmg, g.hb]
      exact k3
    · rw [g.hK]
      exact k2
theorem s_lenO {v : Str} {p : Pos} (g : Good T n N sc so X W) (tb : TbOk T n call) (h1 : v = "len") (h2 : bltN T.nm sc v = true) (hx : okX x = true) (ha : PE X x (tE T.toAd W (sE T call a))) :
    PE X (.Call (.Name v p) [x] [] pos) (tE T.toAd W (sE T call (.lenO a))) := by
  subst h1
  obtain ⟨k1, k2, k3, k4⟩ := blt_of g tb h2
  refine peImp (pe_lenO k1 k2 (by decide +kernel) ha k3 k4 (star_of hx)) fun σ H Q q => ?_
  obtain ⟨env, m, S, he, r, q⟩ := q
  refine seqE he r (PostK.bind q) fun dx S1 m1 H1 x1 r1 q1 w hw => ?_
  refine ⟨w, rfl, ?_⟩
  cases e : methV T.G "__len__" false dx S1 with
  | none =>
    rw [e] at q1
    exact q1.elim
  | some k =>
    rw [e] at q1
    unfold methV at e
    cases e2 : objOf S1 dx with
    | none =>
      rw [e2] at e
      cases e
    | some ob =>
      obtain ⟨c, fs⟩ := ob
      rw [e2] at e
      have e : (if (fs.lookup ("__len__" : Str)).isNone then msOf T.G c false "__len__" else none) = some k := e
      by_cases e3 : (fs.lookup ("__len__" : Str)).isNone = true
      · rw [if_pos e3] at e
        obtain ⟨l, p, q', vs, _, rfl, _, _, e5, e6⟩ := objOf_use r1 e2 hw
        obtain ⟨k2, k3⟩ := msO_of tb g e
        refine ⟨p, _, q', vs, _, rfl, e5, k2, ?_⟩
        refine call_use (ds := [dx]) (vs := [.ref p]) r1 ⟨.ref p, [], rfl, hw, rfl⟩ (k3 [dx] S1) ((PostK.bind q1).imp fun d S2 m2 H2 _ x2 r2 q2 z hz => ?_)
        unfold lenOK at q2
        cases d with
        | int i =>
          obtain ⟨c1, q2⟩ := ite_use q2
          obtain rfl := rd_int hz
          exact ⟨i, rfl, of_decide_eq_true c1, ok_use r2 q2 rfl⟩
        | _ => exact q2.elim
      · rw [if_neg e3] at e
        cases e
theorem tyE_of {c k : Nat} {dx dy : D} {S : Store} {m : Mp} {H : Hp} {v : V} {fs : List (Str × D)} (tb : TbOk T n call) (r : RS T.toAd m H S) (hv : RD T.toAd m H dy v) (hc : T.G.xos.contains c = true) (h : eqKind S c dy = true) : TyE T.K (T.ka c) H v := by
  have ox := (tb.xo c (by simpa using hc)).1
  cases dy with
  | int i =>
    obtain rfl := rd_int hv
    exact .inl ⟨_, .base (.int i), ox.si⟩
  | str i =>
    obtain rfl := rd_str hv
    exact .inl ⟨_, .base (.str i), ox.ss⟩
  | lst xs =>
    obtain ⟨p, vs, rfl, h2, h3⟩ := lst_of r rfl hv
    exact .inl ⟨_, lst_tyx (SqL.of h2), ox.sl⟩
  | ref l =>
    unfold eqKind at h
    simp only at h
    cases e2 : S[l]? with
    | none =>
      rw [e2] at h
      cases h
    | some ob =>
      rw [e2] at h
      cases ob with
      | lst xs =>
        obtain ⟨p, vs, rfl, h2, h3⟩ := lst_of (xs := xs) r (by simp only [lstOf, e2]) hv
        exact .inl ⟨_, lst_tyx (SqL.of h2), ox.sl⟩
      | obj k fs =>
        obtain rfl : k = c := of_decide_eq_true h
        obtain ⟨l', p, q, vs, e1, rfl, _, _, e5, _⟩ := objOf_use (c := k) (fs := fs) r (by simp only [objOf, e2]) hv
        exact .inr ⟨p, q, vs, rfl, e5⟩
      | _ => cases h
  | _ => cases h
theorem s_eqO {ne : Bool} {o : CmpOp} (g : Good T n N sc so X W) (tb : TbOk T n call) (ho : chkO (if ne then .ne else .eq) o = true) (hy : okX y = true) (ha : PE X x (tE T.toAd W (sE T call a))) (hb : PE X y (tE T.toAd W (sE T call b))) : Snd X T.toAd W (.Compare x [o] [y] pos) (sE T call (.eqO ne a b)) := by
  have ho' : o = if ne then .NotEq else .Eq := by
    have e := of_decide_eq_true ho
    cases ne with
    | false =>
      have e : o = opC .eq := by simpa using e
      subst e
      rfl
    | true =>
      have e : o = opC .ne := by simpa using e
      subst e
      rfl
  subst ho'
  have go : ∀ {σ H Q}, tE T.toAd W (sE T call (.eqO ne a b)) σ H Q → tEqO X ne (tE T.toAd W (sE T call a)) (tE T.toAd W (sE T call b)) σ H Q := fun {σ H Q} q => by
    obtain ⟨env, m, S, he, r, q⟩ := q
    refine seqE he r (PostK.bind q) fun dx S1 m1 H1 x1 r1 h1 v hv => seqE (he.ext x1) r1 h1.bind fun dy S2 m2 H2 x2 r2 h2 w hw => ?_
    have hv := RD.ext x2 _ _ hv
    cases e : eqOM T.G dx dy S2 with
    | none =>
      rw [e] at h2
      exact h2.elim
    | some k =>
      rw [e] at h2
      unfold eqOM at e
      cases e2 : objOf S2 dx with
      | none =>
        rw [e2] at e
        cases e
      | some ob =>
        obtain ⟨c, fs⟩ := ob
        rw [e2] at e
        have e : (if T.G.xos.contains c && eqKind S2 c dy then msOf T.G c false "__eq__" else none) = some k := e
        by_cases e3 : (T.G.xos.contains c && eqKind S2 c dy) = true
        · rw [if_pos e3] at e
          obtain ⟨c1, c2⟩ := Bool.and_eq_true_iff.mp e3
          obtain ⟨l, p, q', vs, _, rfl, _, _, e5, e6⟩ := objOf_use r2 e2 hv
          obtain ⟨k2, k3⟩ := msO_of tb g e
          have ox := (tb.xo c (by simpa using c1)).1
          rw [← g.hK] at ox
          have ty := tyE_of (k := k) (dx := dx) (fs := fs) tb r2 hw c1 c2
          rw [← g.hK] at ty
          refine ⟨p, _, q', vs, _, rfl, e5, ox, k2, ty, ?_⟩
          refine call_use (ds := [dx, dy]) (vs := [.ref p, w]) r2 ⟨.ref p, [w], rfl, hv, w, [], rfl, hw, rfl⟩ (k3 [dx, dy] S2) ((PostK.bind h2).imp fun d S3 m3 H3 _ x3 r3 q3 z hz => ?_)
          unfold eqOK at q3
          cases d with
          | bl i =>
            obtain rfl := rd_bl hz
            exact ⟨i, rfl, ok_use r3 q3 rfl⟩
          | _ => exact q3.elim
        · rw [if_neg e3] at e
          cases e
  refine ⟨peImp (pe_eqO ha hb (mark_of hy)) fun σ H Q q => go q, fun _ => ptImp (pt_eqO ha hb (mark_of hy)) fun σ H Q q => go ?_, fun z => by cases z⟩
  obtain ⟨env, m, S, he, r, q⟩ := q
  refine ⟨env, m, S, he, r, (tst_k q).imp fun d S1 m1 H1 e1 x1 r1 ⟨k, e, q⟩ v hv => ?_⟩
  obtain ⟨_, _, _, e1⟩ := bind_ok e1
  obtain ⟨_, _, _, e1⟩ := bind_ok e1
  have hd : ∃ k', d = .bl k' := by
    revert e1
    split
    · intro e1
      obtain ⟨d2, _, _, e1⟩ := bind_ok e1
      unfold eqOK at e1
      cases d2 with
      | bl i =>
        cases e1
        exact ⟨_, rfl⟩
      | _ => cases e1
    · intro e1
      cases e1
  obtain ⟨k', rfl⟩ := hd
  have e2 : k' = k := Option.some.inj e
  subst e2
  exact ⟨k', rd_bl hv, q⟩
theorem isiO_use {c : Nat} {dx : D} {v : V} {S : Store} {m : Mp} {H : Hp} {σ : L2.St} {Q : VK} (tb : TbOk T n call) (r : RS T.toAd m H S) (hx : RD T.toAd m H dx v) (h : PostK T.toAd (ofB (if T.G.xos.contains c then isiOD S c dx else none) S) m H σ W (KQ T.toAd Q)) : rIsi T.K [v, .ref (T.ka c)] H Q := by
  obtain ⟨b, e, k⟩ := ofB_use r h
  by_cases hc : T.G.xos.contains c = true
  · rw [if_pos hc] at e
    obtain ⟨ox, kl, hkl⟩ := tb.xo c (by simpa using hc)
    have go : ∀ {u : Value}, TyX T.K H v u → PySem.W.kitOne T.K u (.ref (T.ka c)) = some b → rIsi T.K [v, .ref (T.ka c)] H Q := fun tx kk => ⟨v, _, _, _, b, rfl, .own _, tx, kk, k⟩
    cases dx with
    | non =>
      obtain rfl := rd_non hx
      cases e
      exact go (.base .non) ox.kn
    | bl y =>
      obtain rfl := rd_bl hx
      cases e
      exact go (.base (.bl y)) ox.kb
    | int y =>
      obtain rfl := rd_int hx
      cases e
      exact go (.base (.int y)) ox.ki
    | str y =>
      obtain rfl := rd_str hx
      cases e
      exact go (.base (.str y)) ox.ks
    | tup xs =>
      obtain ⟨p, vs, rfl, h2, h3⟩ := tup_of hx
      cases e
      exact go (tup_tyx h2) ox.kt
    | lst xs =>
      obtain ⟨p, vs, rfl, h2, h3⟩ := lst_of r rfl hx
      cases e
      exact go (lst_tyx (SqL.of h2)) ox.kl
    | ref l =>
      unfold isiOD at e
      simp only at e
      cases e2 : S[l]? with
      | none =>
        rw [e2] at e
        cases e
      | some ob =>
        rw [e2] at e
        cases ob with
        | lst xs =>
          obtain ⟨p, vs, rfl, h2, h3⟩ := lst_of (xs := xs) r (by simp only [lstOf, e2]) hx
          cases e
          exact go (lst_tyx (SqL.of h2)) ox.kl
        | obj k' fs =>
          have e : (if k' = c then some true else none) = some b := e
          by_cases hk : k' = c
          · rw [if_pos hk] at e
            cases e
            subst hk
            obtain ⟨l', p, q, vs, e1, rfl, _, _, e5, _⟩ := objOf_use (c := k') (fs := fs) r (by simp only [objOf, e2]) hx
            exact go (.base (.ins e5 (tb.kl _ _ hkl).1 ox.ca ox.cn ox.ct ox.mo)) ox.ko
          · rw [if_neg hk] at e
            cases e
        | _ => cases e
    | _ => cases e
  · rw [if_neg hc] at e
    cases e
theorem s_isiO {c : Nat} {v u : Str} {p p' : Pos} (g : Good T n N sc so X W) (tb : TbOk T n call) (h1 : v = "isinstance") (h2 : bltN T.nm sc v = true) (h3 : T.nm.kns[c]? = some u) (h4 : isGl sc u = true) (h5 : noDbg u = true) (hx : okX x = true) (ha : PE X x (tE T.toAd W (sE T call a))) :
    PE X (.Call (.Name v p) [x, .Name u p'] [] pos) (tE T.toAd W (sE T call (.isiO a c))) := by
  obtain ⟨k1, k2, k3, k4⟩ := blt_of g tb h2
  obtain ⟨kmg, _⟩ := tb.kn c u h3
  have hb := boot_isi
  rw [← h1] at hb
  have hn : okX (.Name u p') = true := rfl
  refine peImp (pe_callB (call_isi (X := X)) k1 k2 hb (pa_cons ha (pa_cons (pe_glob (v := .ref (T.ka c)) (gl_of g h4) (by rw [g.hmg]; exact kmg) rfl (noDbg_1 h5)) pa_nil (star_of hn)) (star_of hx)) k3 k4 (star_of hx) (stars_any rfl)) fun σ H Q q => ?_
  obtain ⟨env, m, S, he, r, q⟩ := q
  rw [g.hK]
  exact seqE he r (PostK.bind q) fun dx S1 m1 H1 x1 r1 h1 v hv => isiO_use tb r1 hv h1
end
end Ev
namespace Ev
open PySem PySem.Spec L2 PyProof.Rows
section
variable {X : Cx} {k : Nat} {f : Addr} {fd : FuncData} {ps : List Str} {sp : Sp} {E : L2.St → XK} {x n : Str} {p pos kpos : Pos} {e z : Expr} {es : List Expr} {t : TA} {te : TE}
theorem run_fnGA {pins : List (Addr × Obj)} {σ : L2.St} {H : Hp} {s : Shared} {Q : VK} {us ws : List Value} {kv : List (Str × Value)} {zs : List V} (F : FnG X.prog X.w X.K X.mg X.base (L2N.CX X.prog X.w) k f fd ps sp) (hr : Rm k X.A) (hx : PassesAt (L2N.CX X.prog X.w) X σ (E σ))
    (I : Inv X pins σ H s) (b : BindsTo s fd ⟨us, kv⟩ (ps.zip ws)) (r : Vals zs ws) (h : sp zs H Q (E σ)) : wpAny (model X.prog X.w) X.A (call (.ref f) us kv) (EP X pins σ Q) X.xe s := by
  refine wpAny_call (codeAny_mono (F.run X.A X.stack s H ⟨us, kv⟩ ws zs Q (E σ) hr I.env0 b r h) fun r s' hq => ?_)
  cases r with
  | error e => exact hx pins H s e s' I hq
  | ok fl =>
    cases fl with
    | ret u => exact I.after hq
    | next => exact False.elim hq
    | brk => exact False.elim hq
    | cont => exact False.elim hq
def tCallGD (sp : Sp) (v : V) (E : L2.St → XK) (t : TA) : TE := fun σ H Q => t σ H fun vs H1 => sp (vs ++ [v]) H1 Q (E σ)
theorem pe_callGD {u : Value} {v : V} (F : FnG X.prog X.w X.K X.mg X.base (L2N.CX X.prog X.w) k f fd ps sp) (hr : Rm k X.A) (hg : Gl X x) (hm : X.mg x = some (.ref f)) (hk : PySem.W.keepIn X.K (.ref f) = true) (hb : Binds X.K fd ps [u]) (rv : RelV v u) (hx : ∀ σ, PassesAt (L2N.CX X.prog X.w) X σ (E σ))
    (ha : PA X (e :: es) t) (hdb : (x == ("__debug__" : Str)) = false) (he : starEach (e :: es) X.env = (false, eval e X.env) :: starEach es X.env) (hpl : (backTo pos (starEach es X.env)).any (·.1) = false) :
    PE X (.Call (.Name x p) (e :: es) [] pos) (tCallGD sp v E t) := by
  refine ⟨fun pins s σ H Q I h => ?_⟩
  refine wpAny_Call_Name_kw (ld_glob I hg hm ?_ hdb)
  refine PySem.W.callWith_K (h₀ := X.base) I.ok.mod.kin hk (thn (ha.run pos pins s σ H _ I h) fun us s1 ⟨vs, H1, I1, r, q⟩ => ⟨I1.kIn, ?_⟩) he hpl
  have r2 : Vals (vs ++ [v]) (us ++ [u]) := r.append (.cons rv .nil)
  exact run_fnGA F hr (hx σ) I1 (hb s1 us I1.kIn (by rw [← r2.length]; exact F.len _ _ _ _ q)) r2 q
end
section
variable {T : Tb} {n : Nat} {N : List Str} {sc so : Scope} {X : Cx} {W : WX} {call : Call} {e : E} {es : Es} {y z : Expr} {ys : List Expr} {pos kpos : Pos}
theorem s_callD {k : Nat} {v : Str} {p : Pos} {d : D} (g : Good T n N sc so X W) (tb : TbOk T n call) (h0 : (kwOf T.nm k).map (·.2) = some d) (h1 : T.nm.fns[k]? = some v) (hM : isM v = false) (h2 : isGl sc v = true) (h3 : noDbg v = true) (hy : okX y = true) (hys : ys.all okX = true) (ha : PA X (y :: ys) (tA T.toAd W (sEs T call es))) :
    PE X (.Call (.Name v p) (y :: ys) [] pos) (tE T.toAd W (sE T call (.callD k es d))) := by
  obtain ⟨q, hq, rfl⟩ := Option.map_eq_some_iff.mp h0
  obtain ⟨k1, k2, _, k4, k5⟩ := tb.fn k v h1
  obtain ⟨w, u, kb, rw', rd⟩ := tb.kw k q hq
  have F := k4
  have k1 := k1 hM
  rw [← g.hP, ← g.hw, ← g.hK, ← g.hmg, ← g.hb] at F
  rw [← g.hmg] at k1
  rw [← g.hK] at k2 kb
  refine peImp (pe_callGD F g.rm (gl_of g h2) k1 k2 kb rw' (L2N.passAt g.tk) ha (noDbg_1 h3) (star_of hy) (stars_any hys)) fun σ H Q h => ?_
  obtain ⟨env, m, S, he, r, h⟩ := h
  refine seqA he r (PostK.bind h) fun ds S1 m1 H1 x1 r1 h1 vs hv => ?_
  exact call_use r1 (hv.append (RDs.one (rd m1 H1))) (k5 (ds ++ [q.2]) S1) h1
/-- a def as a value -/
theorem s_fnc {k : Nat} {v : Str} {p : Pos} (g : Good T n N sc so X W) (tb : TbOk T n call) (h1 : T.nm.fns[k]? = some v) (hM : isM v = false) (h2 : isGl sc v = true) (h3 : noDbg v = true) : PE X (.Name v p) (tE T.toAd W (sE T call (.fnc k))) := by
  obtain ⟨k1, _⟩ := tb.fn k v h1
  have k1 := k1 hM
  rw [← g.hmg] at k1
  refine peImp (pe_glob (v := .ref (T.fa k)) (gl_of g h2) k1 rfl (noDbg_1 h3)) fun σ H Q q => ?_
  obtain ⟨env, m, S, he, r, q⟩ := q
  have q : PostK T.toAd (if T.G.vfn.contains k then .ok (.fn k) S else .stuck) m H σ W (KQ T.toAd Q) := q
  by_cases c : T.G.vfn.contains k = true
  · rw [if_pos c] at q
    exact ok_use (W := W) (σ := σ) r q rfl
  · rw [if_neg c] at q
    exact q.elim
/-- a call of a name that holds a def -/
def tCallGV (i : Nat) (S : Addr → Sp → Prop) (E : L2.St → XK) (t : TA) : TE := fun σ H Q => ∃ f sp, σ[i]? = some (some (.ref f)) ∧ S f sp ∧ t σ H fun vs H1 => sp vs H1 Q (E σ)
theorem pe_callGV {i : Nat} {x : Str} {S : Addr → Sp → Prop} {E : L2.St → XK} {p pos : Pos} {e : Expr} {es : List Expr} {t : TA} (A : ∀ f sp, S f sp → ∃ (fd : FuncData) (ps : List Str), FnG X.prog X.w X.K X.mg X.base (L2N.CX X.prog X.w) n f fd ps sp ∧ PySem.W.keepIn X.K (.ref f) = true ∧ Binds X.K fd ps [])
    (hr : Rm n X.A) (hN : X.N[i]? = some x) (hv : Vis X.env.scope x) (hx : ∀ σ, PassesAt (L2N.CX X.prog X.w) X σ (E σ)) (ha : PA X (e :: es) t) (hdb : (x == ("__debug__" : Str)) = false) (hcd : (x == ("__classdict__" : Str)) = false)
    (he : starEach (e :: es) X.env = (false, eval e X.env) :: starEach es X.env) (hpl : (backTo pos (starEach es X.env)).any (·.1) = false) : PE X (.Call (.Name x p) (e :: es) [] pos) (tCallGV i S E t) := by
  refine ⟨fun pins s σ H Q I h => ?_⟩
  obtain ⟨f, sp, hs, hS, ht⟩ := h
  obtain ⟨fd, ps, F, hk, hb⟩ := A f sp hS
  refine wpAny_Call_Name_kw (thn ((pe_var (pos := p) hN hv hdb hcd).run pins s σ H (fun v H1 => v = .ref f ∧ H1 = H) I ⟨.ref f, hs, rfl, rfl⟩) fun u s1 ⟨v, H1, I1, r1, q1⟩ => ?_)
  obtain ⟨rfl, rfl⟩ := q1
  cases r1
  refine PySem.W.callWith_K (h₀ := X.base) I.ok.mod.kin hk (thn (ha.run pos pins s1 σ _ _ I1 ht) fun us s2 ⟨vs, H2, I2, r, q⟩ => ⟨I2.kIn, ?_⟩) he hpl
  have hb2 := hb s2 us I2.kIn (by rw [List.append_nil, ← r.length]; exact F.len _ _ _ _ q)
  rw [List.append_nil] at hb2
  exact run_fnGA F hr (hx σ) I2 hb2 r q
theorem s_callV {i : Nat} {v : Str} {p : Pos} (g : Good T n N sc so X W) (tb : TbOk T n call) (h1 : N[i]? = some v) (h2 : isVis sc v = true) (h3 : noDbg v = true) (hy : okX y = true) (hys : ys.all okX = true) (ha : PA X (y :: ys) (tA T.toAd W (sEs T call es))) :
    PE X (.Call (.Name v p) (y :: ys) [] pos) (tE T.toAd W (sE T call (.callV i es))) := by
  refine peImp (pe_callGV (n := n) (S := fun f sp => ∃ k ∈ T.G.vfn, f = T.fa k ∧ sp = spC T.toAd (call k) (T.ps k).length) (fun f sp hS => ?_) g.rm (by rw [g.hN]; exact h1) (by rw [g.scp]; exact isVis_of h2) (L2N.passAt g.tk) ha (noDbg_1 h3) (noDbg_2 h3) (star_of hy) (stars_any hys)) fun σ H Q h => ?_
  · obtain ⟨k, hk, rfl, rfl⟩ := hS
    obtain ⟨x, hx, hn, _⟩ := tb.vf k hk
    obtain ⟨_, k2, k3, k4, _⟩ := tb.fn k x hx
    have F := k4
    have k3 := k3 hn
    rw [← g.hP, ← g.hw, ← g.hK, ← g.hmg, ← g.hb] at F
    rw [← g.hK] at k2 k3
    exact ⟨_, _, F, k2, k3⟩
  · obtain ⟨env, m, S, he, r, h⟩ := h
    have h : PostK T.toAd (match env[i]? with
      | some (some (.fn k)) => if T.G.vfn.contains k then (Es.ev call T.G es env S).bind fun xs S => call k xs S else .stuck
      | _ => .stuck) m H σ W (KQ T.toAd Q) := h
    cases e1 : env[i]? with
    | none =>
      rw [e1] at h
      exact h.elim
    | some o =>
      rw [e1] at h
      cases o with
      | none => exact h.elim
      | some d =>
        cases d with
        | fn k =>
          simp only at h
          by_cases c : T.G.vfn.contains k = true
          · rw [if_pos c] at h
            obtain ⟨w, hw, rw⟩ := he.at_ i _ e1
            have rw : w = .ref (T.fa k) := rw
            subst rw
            have hk := List.contains_iff_mem.mp c
            obtain ⟨x, hx, _⟩ := tb.vf k hk
            obtain ⟨_, _, _, _, k5⟩ := tb.fn k x hx
            refine ⟨_, _, hw, ⟨k, hk, rfl, rfl⟩, ?_⟩
            exact seqA he r (PostK.bind h) fun ds S1 m1 H1 x1 r1 h1 vs hv => call_use r1 hv (k5 ds S1) h1
          · rw [if_neg c] at h
            exact h.elim
        | _ => exact h.elim
end
end Ev
namespace Ev
open PySem PySem.Spec L2 PyProof.Rows
section
variable {T : Tb} {n : Nat} {N : List Str} {sc so : Scope} {X : Cx} {W : WX} {call : Call} {a b c a2 b2 : E} {x y z x2 y2 : Expr} {pos p1 p2 : Pos} {es : Es} {xs : List Expr}
theorem isDic_use {A : Ad} {m : Mp} {H : Hp} {S : Store} {d : D} {v : V} (r : RS A m H S) (h : isDic d S = true) (hv : RD A m H d v) : ∃ p, v = .ref p ∧ IsDA A.P A.w A.K H p := by
  unfold isDic at h
  rw [Bool.or_eq_true] at h
  rcases h with h | h
  · obtain ⟨kvs, e⟩ := Option.isSome_iff_exists.mp h
    obtain ⟨l, rfl, e2⟩ := dctOf_ref e
    obtain ⟨p, vs, h1, h2, h3⟩ := r.dct e2
    obtain ⟨p', h4, rfl⟩ := hv
    rw [h1] at h4
    cases h4
    exact ⟨p, rfl, .inl (.inl ⟨vs, .inl h2⟩)⟩
  · obtain ⟨kvs, e⟩ := Option.isSome_iff_exists.mp h
    obtain ⟨l, p, as, vs, _, _, _, h1, h2, _⟩ := dtt_at r e hv
    exact ⟨p, h1, .inr ⟨_, h2⟩⟩
theorem m2_of {o e f : Expr} {m : Str} (h1 : p1.endLine = p2.line) (ho : okX o = true) (he : okX e = true) (hf : okX f = true) : M2 X o m p1 e f p2 := by
  refine ⟨base_of ho, ?_, by rw [h1]; exact beq_self_eq_true _, ?_⟩
  · rw [star_of he, star_of hf]
    rfl
  · rw [star_of he, star_of hf]
    rfl
theorem m1_of {o e : Expr} {m : Str} (h1 : p1.endLine = p2.line) (ho : okX o = true) (he : okX e = true) : M1 X o m p1 e p2 := by
  refine ⟨base_of ho, few_one he, by rw [h1]; exact beq_self_eq_true _, ?_⟩
  rw [star_of he]
  rfl
theorem s_get {f : Str} (g : Good T n N sc so X W) (hf : f = "get") (hl : p1.endLine = p2.line) (hx : okX x = true) (hy : okX y = true) (hz : okX z = true) (ha : PE X x (tE T.toAd W (sE T call a))) (hb : PE X y (tE T.toAd W (sE T call b))) (hc : PE X z (tE T.toAd W (sE T call c))) :
    PE X (.Call (.Attribute x f p1) [y, z] [] p2) (tE T.toAd W (sE T call (.get a b c))) := by
  subst hf
  refine peImp (pe_getA (by have := g.rm.room.un; omega) ha hb hc (m2_of hl hx hy hz)) fun σ H Q q => ?_
  obtain ⟨env, m, S, he, r, q⟩ := q
  rw [g.hP, g.hw, g.hK]
  refine seqE he r (PostK.bind q) fun dx S1 m1 H1 e1 r1 q1 v hv => ?_
  obtain ⟨k, q1⟩ := ite_use q1
  obtain ⟨p, rfl, hd⟩ := isDic_use r1 k hv
  refine ⟨p, rfl, hd, seqE (he.ext e1) r1 (PostK.bind q1) fun dy S2 m2 H2 e2 r2 q2 w hw => seqE ((he.ext e1).ext e2) r2 (PostK.bind q2) fun dz S3 m3 H3 e3 r3 q3 u hu => ?_⟩
  have hv := RD.ext (e2.trans e3) _ _ hv
  have hw := RD.ext e3 _ _ hw
  have q3 : PostK T.toAd (getV dx dy dz S3) m3 H3 σ W (KQ T.toAd Q) := q3
  unfold getV at q3
  cases e : dctOf S3 dx with
  | some kvs =>
    rw [e] at q3
    cases ek : kD dy with
    | none =>
      rw [ek] at q3
      exact q3.elim
    | some kk =>
      rw [ek] at q3
      have q3 : PostK T.toAd (.ok ((dAt kvs kk).getD dz) S3) m3 H3 σ W (KQ T.toAd Q) := q3
      obtain ⟨a', o, h1, h2, h3⟩ := dct_ask r3 e hv ek hw
      cases h1
      refine ⟨o, .inl h2, ?_⟩
      rcases h3 with ⟨h3, rfl⟩ | ⟨d, w', h3, rfl, h4⟩
      · rw [h3] at q3
        exact ok_use r3 q3 hu
      · rw [h3] at q3
        exact ok_use r3 q3 h4
  | none =>
    rw [e] at q3
    cases e' : dttOf S3 dx with
    | none =>
      rw [e'] at q3
      exact q3.elim
    | some kvs =>
      rw [e'] at q3
      cases ek : tkD dy with
      | none =>
        rw [ek] at q3
        exact q3.elim
      | some kk =>
        rw [ek] at q3
        have q3 : PostK T.toAd (.ok ((ttAt kvs kk).getD dz) S3) m3 H3 σ W (KQ T.toAd Q) := q3
        obtain ⟨a', o, h1, h2, h3⟩ := dtt_ask r3 e' hv ek hw
        cases h1
        refine ⟨o, .inr h2, ?_⟩
        rcases h3 with ⟨h3, rfl⟩ | ⟨d, w', h3, rfl, h4⟩
        · rw [h3] at q3
          exact ok_use r3 q3 hu
        · rw [h3] at q3
          exact ok_use r3 q3 h4
/-- several entries, put one after another -/
theorem dtt_fold {A : Ad} {m : Mp} {H : Hp} : ∀ {more kvs : List (List Key × D)} {as bs : List Addr} {vs ws : List V}, as.length = kvs.length → vs.length = kvs.length → (∀ q ∈ tvs (kvs.map (·.1)) as vs, SqT A.K H q.2.1 (q.1.map kV)) → RDs A m H (kvs.map (·.2)) vs →
    bs.length = more.length → ws.length = more.length → (∀ q ∈ tvs (more.map (·.1)) bs ws, SqT A.K H q.2.1 (q.1.map kV)) → RDs A m H (more.map (·.2)) ws →
    ∃ as' vs', foldV (tvs (kvs.map (·.1)) as vs) (tvs (more.map (·.1)) bs ws) = tvs ((foldT kvs more).map (·.1)) as' vs' ∧ as'.length = (foldT kvs more).length ∧ (∀ q ∈ tvs ((foldT kvs more).map (·.1)) as' vs', SqT A.K H q.2.1 (q.1.map kV)) ∧ RDs A m H ((foldT kvs more).map (·.2)) vs'
  | [], kvs, as, bs, vs, ws, h1, h2, h3, h4, _, _, _, _ => ⟨as, vs, rfl, h1, h3, h4⟩
  | (k, d) :: more, kvs, as, [], vs, ws, _, _, _, _, g1, _, _, _ => by simp at g1
  | (k, d) :: more, kvs, as, b :: bs, vs, ws, h1, h2, h3, h4, g1, g2, g3, g4 => by
    obtain ⟨w, ws', rfl, g5, g6⟩ := g4
    have hb : SqT A.K H b (k.map kV) := g3 (k, b, w) (List.mem_cons_self ..)
    obtain ⟨as1, vs1, q1, q2, q3, q4⟩ := dtt_put (kk := k) h1 h2 h3 h4 hb g5
    obtain ⟨as2, vs2, t1, t2, t3, t4⟩ := dtt_fold (more := more) (kvs := setT kvs k d) (as := as1) (vs := vs1) (bs := bs) (ws := ws') q2 (by rw [q4.length, List.length_map]) q3 q4 (by simpa using g1) (by simpa using g2) (fun q hq => g3 q (List.mem_cons_of_mem _ hq)) g6
    refine ⟨as2, vs2, ?_, t2, t3, t4⟩
    have e0 : foldV (tvs (kvs.map (·.1)) as vs) (tvs (((k, d) :: more).map (·.1)) (b :: bs) (w :: ws')) = foldV (setTV (tvs (kvs.map (·.1)) as vs) k b w) (tvs (more.map (·.1)) bs ws') := rfl
    rw [e0, q1]
    exact t1
theorem s_upd {f : Str} (g : Good T n N sc so X W) (hf : f = "update") (hl : p1.endLine = p2.line) (hx : okX x = true) (hy : okX y = true) (ha : PE X x (tE T.toAd W (sE T call a))) (hb : PE X y (tE T.toAd W (sE T call b))) :
    PE X (.Call (.Attribute x f p1) [y] [] p2) (tE T.toAd W (sE T call (.upd a b))) := by
  subst hf
  refine peImp (pe_updS (by have := g.rm.room.un; omega) ha hb (m1_of hl hx hy)) fun σ H Q q => ?_
  obtain ⟨env, m, S, he, r, q⟩ := q
  rw [g.hP, g.hw, g.hK]
  refine seqE he r (PostK.bind q) fun dx S1 m1 H1 e1 r1 q1 v hv => ?_
  obtain ⟨k, q1⟩ := ite_use q1
  obtain ⟨p, rfl, hd⟩ := isDic_use r1 k hv
  refine ⟨p, rfl, hd, seqE (he.ext e1) r1 (PostK.bind q1) fun dy S2 m2 H2 e2 r2 q2 w hw => ?_⟩
  have hv := RD.ext e2 _ _ hv
  have q2 : PostK T.toAd (updV dx dy S2) m2 H2 σ W (KQ T.toAd Q) := q2
  cases dx with
  | ref l =>
    cases dy with
    | ref k2 =>
      have q2 : PostK T.toAd (match S2[l]?, S2[k2]? with | some (.dtt a), some (.dtt b) => if decide (l ≠ k2 ∧ (a ≠ [] ∨ b.length ≤ 1) ∧ a.length + b.length ≤ sizeLine) then .ok .non (S2.set l (.dtt (foldT a b))) else .stuck | _, _ => .stuck) m2 H2 σ W (KQ T.toAd Q) := q2
      cases e3 : S2[l]? with
      | none =>
        rw [e3] at q2
        exact q2.elim
      | some o1 =>
        cases e4 : S2[k2]? with
        | none =>
          rw [e3, e4] at q2
          cases o1 <;> exact q2.elim
        | some o2 =>
          rw [e3, e4] at q2
          cases o1 with
          | dtt t1 =>
            cases o2 with
            | dtt t2 =>
              obtain ⟨c, q2⟩ := ite_use q2
              obtain ⟨c1, c2, c3⟩ := of_decide_eq_true c
              obtain ⟨l', pa, as, vs, f1, f50, f3, f4, _, f6, f7, f8, f9⟩ := dtt_at r2 (show dttOf S2 (.ref l) = some t1 by simp only [dttOf, e3]) hv
              cases f1
              have f5 := f50 e3
              obtain ⟨l', pb, bs, ws, g1, g50, g3, g4, _, g6, g7, g8, g9⟩ := dtt_at r2 (show dttOf S2 (.ref k2) = some t2 by simp only [dttOf, e4]) hw
              cases g1
              have g5 := g50 e4
              cases f4
              have hne : p ≠ pb := fun z => c1 (by
                rw [z] at f3
                obtain ⟨i1, j1⟩ := List.getElem?_eq_some_iff.mp f3
                obtain ⟨i2, j2⟩ := List.getElem?_eq_some_iff.mp g3
                exact (List.getElem_inj r2.nd).mp (j1.trans j2.symm))
              obtain ⟨as', vs', t1e, t2e, t3e, t4e⟩ := dtt_fold f6 f7 f8 f9 g6 g7 g8 g9
              have la : (tvs (t1.map (·.1)) as vs).length = t1.length := by simp [tvs, f6, f7]
              have lb : (tvs (t2.map (·.1)) bs ws).length = t2.length := by simp [tvs, g6, g7]
              refine ⟨pb, _, _, g4, hne, f5, g5, f8, g8, ?_, by rw [la, lb]; exact c3, ?_⟩
              · rcases c2 with c2 | c2
                · refine .inl fun z => c2 ?_
                  rw [z] at la
                  exact List.length_eq_zero_iff.mp la.symm
                · exact .inr (by rw [lb]; exact c2)
              · rw [t1e]
                exact q2 m2 _ (Ext.upd r2 f3 f5 Mu.dS) (r2.updO f3 f5 Mu.dS ⟨as', vs', rfl, t2e, t3e, t4e⟩) .non rfl
            | _ => exact q2.elim
          | _ => exact q2.elim
    | _ => exact q2.elim
  | _ => exact q2.elim
theorem s_dctT0 (g : Good T n N sc so X W) : PE X (.Dict [] [] pos) (tE T.toAd W (sE T call .dctT0)) := by
  refine peImp pe_newS fun σ H Q q => ?_
  obtain ⟨env, m, S, he, r, q⟩ := q
  rw [g.hP, g.hw]
  intro p hp
  exact q _ _ (Ext.cell r hp) (r.cellO hp ⟨[], [], rfl, rfl, fun q hq => (by simp [tvs] at hq), rfl⟩) _ (ref_len r)
theorem hid_show {A : Ad} {m m3 : Mp} {H H3 : Hp} {S : Store} {p : Addr} (hp : ¬ m.has p) (e : Ext ⟨m.c, p :: m.h, m.t⟩ H m3 H3) (r : RS A m3 H3 S) : Ext m H ⟨m3.c, m.h, m3.t⟩ H3 ∧ RS A ⟨m3.c, m.h, m3.t⟩ H3 S ∧ H3 p = H p ∧ ¬ (⟨m3.c, m.h, m3.t⟩ : Mp).has p ∧ m3 = ⟨m3.c, p :: m.h, m3.t⟩ := by
  have eh : m3.h = p :: m.h := e.eqh
  have em : m3 = ⟨m3.c, p :: m.h, m3.t⟩ := by
    rw [← eh]
  have hp3 : H3 p = H p := e.hid p (List.mem_cons_self ..)
  have np : ¬ (⟨m3.c, m.h, m3.t⟩ : Mp).has p := by
    rintro (z | z)
    · exact (r.hid p (by rw [eh]; exact List.mem_cons_self ..)).1 z
    · exact hp (.inr z)
  have sub : ∀ q, ¬ m3.has q → ¬ (⟨m3.c, m.h, m3.t⟩ : Mp).has q := fun q n => by
    rintro (z | z)
    · exact n (.inl z)
    · exact n (.inr (by rw [eh]; exact List.mem_cons_of_mem _ z))
  have out : ∀ q, q ≠ p → ¬ m.has q → ¬ (⟨m.c, p :: m.h, m.t⟩ : Mp).has q := fun q hq n => by
    rintro (z | z)
    · exact n (.inl z)
    · rcases List.mem_cons.mp z with z | z
      · exact hq z
      · exact n (.inr z)
  refine ⟨⟨⟨e.pre, e.tup, fun q vs h n => ?_, e.frz, e.ext, fun q P w t h n => ?_, e.tt, e.tab⟩, rfl, fun q hq => e.hid q (List.mem_cons_of_mem _ hq)⟩, r.show_ eh, hp3, np, em⟩
  · by_cases c : q = p
    · subst c
      exact ⟨by rw [hp3]; exact h, np⟩
    · exact ⟨(e.lst q vs h (out q c n)).1, sub q (e.lst q vs h (out q c n)).2⟩
  · by_cases c : q = p
    · subst c
      exact ⟨by rw [hp3]; exact h, np⟩
    · exact ⟨(e.dic q P w t h (out q c n)).1, sub q (e.dic q P w t h (out q c n)).2⟩
theorem PostK.hid {A : Ad} {α : Type} {W : WX} {σ : L2.St} {q : R α} {m : Mp} {H : Hp} {p : Addr} {k k2 : α → Store → Mp → Hp → Prop} (hp : ¬ m.has p) (h : PostK A q m H σ W k)
    (next : ∀ a S1 m1 H1, Ext m H m1 H1 → Ext ⟨m.c, p :: m.h, m.t⟩ H ⟨m1.c, p :: m1.h, m1.t⟩ H1 → RS A ⟨m1.c, p :: m1.h, m1.t⟩ H1 S1 → RS A m1 H1 S1 → H1 p = H p → ¬ m1.has p → k a S1 m1 H1 → k2 a S1 ⟨m1.c, p :: m1.h, m1.t⟩ H1) : PostK A q ⟨m.c, p :: m.h, m.t⟩ H σ W k2 := by
  cases q with
  | ok a S =>
    intro m3 H3 e r
    obtain ⟨x, r2, h3, n3, em⟩ := hid_show hp e r
    have := next a S _ _ x (by rw [em] at e; exact e) (by rw [em] at r; exact r) r2 h3 n3 (h _ _ x r2)
    rw [em]
    exact this
  | exc x S =>
    intro m3 H3 e r
    obtain ⟨y, r2, _⟩ := hid_show hp e r
    exact XP.sub (fun d v hv => RD.ext0 (Ext0.show_ e.eqh) d v hv) (h _ _ y r2)
  | stuck => exact h
theorem hid_start {A : Ad} {m : Mp} {H : Hp} {S : Store} {p : Addr} {o : HO} (r : RS A m H S) (hp : H p = none) (ho : ∀ ps, o ≠ .tbl ps) : Ext0 m H ⟨m.c, p :: m.h, m.t⟩ (L2.upd H p o) ∧ RS A ⟨m.c, p :: m.h, m.t⟩ (L2.upd H p o) S ∧ Ext m H m (L2.upd H p o) ∧ ¬ m.has p :=
  ⟨Ext0.hide hp, r.hide hp ho, Ext.new r hp, r.notin hp⟩
/-- a thing that was nobody's becomes a cell -/
theorem Ext.adopt {A : Ad} {m : Mp} {H : Hp} {S : Store} {p : Addr} {vs : List (Key × V)} {o : HO} {ob : Ob} (r : RS A m H S) (hw : H p = some (.dK vs)) (hn : ¬ m.has p) (h : RO A m H p ob o) : Ext m H (m.add p) (L2.upd H p o) ∧ RS A (m.add p) (L2.upd H p o) (S ++ [ob]) := by
  have ne : ∀ {q : Addr} {u : HO}, H q = some u → (∀ vs, u ≠ .dK vs) → q ≠ p := fun {q u} e n z => by
    subst z
    rw [hw] at e
    cases e
    exact n _ rfl
  have na : ∀ q, q ≠ p → ¬ m.has q → ¬ (m.add p).has q := fun q hq n => by
    rintro (z | z)
    · rcases List.mem_append.mp z with z | z
      · exact n (.inl z)
      · exact hq (by simpa using z)
    · exact n (.inr z)
  have tb : ∀ {l : List (Addr × Str)}, LamX.Tabs l H → LamX.Tabs l (L2.upd H p o) := fun t => tabs_keep t (fun q ps e => by rw [upd_ne (ne e fun _ z => nomatch z)]; exact e) fun q φ e _ => by rw [upd_ne (ne e fun _ z => nomatch z)]; exact e
  have hh : ∀ q ∈ m.h, q ≠ p := fun q hq z => hn (.inr (z ▸ hq))
  have e : Ext m H (m.add p) (L2.upd H p o) := by
    refine ⟨⟨⟨[p], rfl⟩, fun q vs h => rdupd h ?_, fun q vs h n => ?_, fun q o u h => ?_, fun q φ h _ => ?_, fun q P w t h n => ?_, rfl, tb⟩, rfl, fun q hq => upd_ne (hh q hq)⟩
    · rcases h with h | ⟨_, h⟩ <;> exact ne h fun _ z => nomatch z
    · have c := ne h fun _ z => nomatch z
      exact ⟨by rw [upd_ne c]; exact h, na q c n⟩
    · rw [upd_ne (ne h fun _ z => nomatch z)]; exact h
    · rw [upd_ne (ne h fun _ z => nomatch z)]; exact h
    · have c : q ≠ p := by
        unfold DictS at h
        exact ne h fun _ z => nomatch z
      exact ⟨by rw [upd_ne c]; exact h, na q c n⟩
  refine ⟨e, by simp [r.len, Mp.add], ?_, fun q hq => ⟨?_, by rw [upd_ne (hh q hq)]; exact (r.hid q hq).2⟩, fun q hq => by rw [upd_ne (hh q hq)]; exact r.hnt q hq, r.tt, tb r.tab, fun l ob' q h1 h2 => ?_⟩
  · show (m.c ++ [p]).Nodup
    rw [List.nodup_append]
    refine ⟨r.nd, by simp, fun a ha b hb => ?_⟩
    have : b = p := by simpa using hb
    rintro rfl
    exact hn (.inl (this ▸ ha))
  · intro z
    rcases List.mem_append.mp z with z | z
    · exact (r.hid q hq).1 z
    · exact hh q hq (by simpa using z)
  · replace h2 : (m.c ++ [p])[l]? = some q := h2
    by_cases hl : l < m.c.length
    · rw [List.getElem?_append_left (by rw [r.len]; exact hl)] at h1
      rw [List.getElem?_append_left hl] at h2
      obtain ⟨u, h3, h4⟩ := r.at_ l ob' q h1 h2
      refine ⟨u, ?_, h4.ext e⟩
      rw [upd_ne (by
        intro z
        rw [z] at h2
        exact hn (.inl (List.mem_of_getElem? h2)))]
      exact h3
    · have hl2 : l < (m.c ++ [p]).length := (List.getElem?_eq_some_iff.mp h2).1
      rw [List.length_append, List.length_singleton] at hl2
      have el : l = m.c.length := by omega
      subst el
      rw [List.getElem?_append_right (Nat.le_refl _)] at h2
      have eq : q = p := by simpa using h2.symm
      subst eq
      rw [List.getElem?_append_right (Nat.le_of_eq r.len), r.len] at h1
      have eo : ob' = ob := by simpa using h1.symm
      subst eo
      exact ⟨_, upd_same, h.ext e⟩
theorem ref_add {A : Ad} {m : Mp} {H H' : Hp} {S : Store} {p : Addr} (r : RS A m H S) : RD A (m.add p) H' (.ref S.length) (.ref p) := ⟨p, by show (m.c ++ [p])[S.length]? = _; rw [List.getElem?_append_right (Nat.le_of_eq r.len.symm), r.len]; simp, rfl⟩
/-- the end of a display: entries as they were evaluated -/
theorem disp_end {A : Ad} {W : WX} {σ : L2.St} {m : Mp} {H : Hp} {S : Store} {Q : VK} {p : Addr} {more : List (List Key × D)} {bs : List Addr} {ws : List V} (r : RS A m H S) (hw : H p = some (.dK [])) (hn : ¬ m.has p)
    (g1 : bs.length = more.length) (g2 : ws.length = more.length) (g3 : ∀ q ∈ tvs (more.map (·.1)) bs ws, SqT A.K H q.2.1 (q.1.map kV)) (g4 : RDs A m H (more.map (·.2)) ws)
    (h : PostK A (.ok (.ref S.length) (S ++ [.dtt (foldT [] more)])) m H σ W (KQ A Q)) : Q (.ref p) (L2.upd H p (DictS A.P A.w p (foldV [] (tvs (more.map (·.1)) bs ws)))) := by
  obtain ⟨as', vs', t1, t2, t3, t4⟩ := dtt_fold (kvs := []) (as := []) (vs := []) rfl rfl (fun q hq => by simp [tvs] at hq) (show RDs A m H [] [] from rfl) g1 g2 g3 g4
  have t1 : foldV [] (tvs (more.map (·.1)) bs ws) = _ := t1
  rw [t1]
  obtain ⟨e, r2⟩ := Ext.adopt (o := DictS A.P A.w p (tvs ((foldT [] more).map (·.1)) as' vs')) (ob := .dtt (foldT [] more)) r hw hn ⟨as', vs', rfl, t2, t3, t4⟩
  exact h _ _ e r2 _ (ref_add r)
theorem hid_rd {m : Mp} {H : Hp} {p : Addr} (hn : ∀ q : Addr, ¬ (⟨m.c, p :: m.h, m.t⟩ : Mp).has q → ¬ m.has q := by
    rintro q n (z | z)
    · exact n (.inl z)
    · exact n (.inr (List.mem_cons_of_mem _ z))) : Ext0 ⟨m.c, p :: m.h, m.t⟩ H m H :=
  ⟨⟨[], by simp⟩, fun _ _ h => h, fun q vs h n => ⟨h, hn q n⟩, fun _ _ _ h => h, fun _ _ h _ => h, fun q P w t h n => ⟨h, hn q n⟩, rfl, fun h => h⟩
theorem s_dtd1 (g : Good T n N sc so X W) (ha : PE X x (tE T.toAd W (sE T call a))) (hb : PE X y (tE T.toAd W (sE T call b))) : PE X (.Dict [some x] [y] pos) (tE T.toAd W (sE T call (.dtd1 a b))) := by
  refine peImp (pe_dispS (by have := g.rm.room.un; omega) (pps_cons ha hb pps_nil) rfl rfl (by simp) (by simp)) fun σ H Q q => ?_
  obtain ⟨env, m, S, he, r, q⟩ := q
  rw [g.hP, g.hw, g.hK]
  intro p hp
  obtain ⟨e0, r0, x0, n0⟩ := hid_start (o := .dK []) r hp (fun _ => HO.noConfusion)
  refine ⟨env, _, S, he.ext0 e0, r0, (PostK.bind (q.ext x0)).hid n0 fun dx S1 m1 H1 xa xb r1 _ hp1 n1 q1 v hv => ⟨env, _, S1, (he.ext0 e0).ext xb, r1, (PostK.bind q1).hid n1 fun dy S2 m2 H2 xc xd r2 r2' hp2 n2 q2 w hw => ?_⟩⟩
  have pk : H2 p = some (.dK []) := by rw [hp2, hp1, upd_same]
  refine ⟨pk, ?_⟩
  cases ek : tkD dx with
  | none =>
    rw [ek] at q2
    exact q2.elim
  | some ks =>
    rw [ek] at q2
    have hv2 : RD T.toAd m2 H2 dx v := RD.ext0 hid_rd _ _ (RD.ext xd _ _ hv)
    have hw2 : RD T.toAd m2 H2 dy w := RD.ext0 hid_rd _ _ hw
    obtain ⟨b', rfl, hb'⟩ := tkD_use ek hv2
    have g3 : ∀ q ∈ tvs ([(ks, dy)].map (·.1)) [b'] [w], SqT T.toAd.K H2 q.2.1 (q.1.map kV) := fun q hq => by
      have : q = (ks, b', w) := by simpa [tvs] using hq
      subst this
      exact hb'
    exact ⟨tvs ([(ks, dy)].map (·.1)) [b'] [w], rfl, g3, by simp [tvs], disp_end (more := [(ks, dy)]) r2' pk n2 rfl rfl g3 ⟨w, [], rfl, hw2, rfl⟩ q2⟩
theorem s_dtd2 (g : Good T n N sc so X W) (ha : PE X x (tE T.toAd W (sE T call a))) (hb : PE X y (tE T.toAd W (sE T call b))) (ha2 : PE X x2 (tE T.toAd W (sE T call a2))) (hb2 : PE X y2 (tE T.toAd W (sE T call b2))) :
    PE X (.Dict [some x, some x2] [y, y2] pos) (tE T.toAd W (sE T call (.dtd2 a b a2 b2))) := by
  refine peImp (pe_dispS (by have := g.rm.room.un; omega) (pps_cons ha hb (pps_cons ha2 hb2 pps_nil)) rfl rfl (by simp) (by simp)) fun σ H Q q => ?_
  obtain ⟨env, m, S, he, r, q⟩ := q
  rw [g.hP, g.hw, g.hK]
  intro p hp
  obtain ⟨e0, r0, x0, n0⟩ := hid_start (o := .dK []) r hp (fun _ => HO.noConfusion)
  refine ⟨env, _, S, he.ext0 e0, r0, (PostK.bind (q.ext x0)).hid n0 fun dx S1 m1 H1 xa xb r1 _ hp1 n1 q1 v hv => ⟨env, _, S1, (he.ext0 e0).ext xb, r1, (PostK.bind q1).hid n1 fun dy S2 m2 H2 xc xd r2 _ hp2 n2 q2 w hw =>
    ⟨env, _, S2, ((he.ext0 e0).ext xb).ext xd, r2, (PostK.bind q2).hid n2 fun dx2 S3 m3 H3 xe xf r3 _ hp3 n3 q3 v2 hv2 => ⟨env, _, S3, (((he.ext0 e0).ext xb).ext xd).ext xf, r3, (PostK.bind q3).hid n3 fun dy2 S4 m4 H4 xg xh r4 r4' hp4 n4 q4 w2 hw2 => ?_⟩⟩⟩⟩
  have pk : H4 p = some (.dK []) := by rw [hp4, hp3, hp2, hp1, upd_same]
  refine ⟨pk, ?_⟩
  cases ek : tkD dx with
  | none =>
    rw [ek] at q4
    cases tkD dx2 <;> exact q4.elim
  | some ks =>
    cases ek2 : tkD dx2 with
    | none =>
      rw [ek, ek2] at q4
      exact q4.elim
    | some ks2 =>
      rw [ek, ek2] at q4
      have fv : RD T.toAd m4 H4 dx v := RD.ext0 hid_rd _ _ (RD.ext ((xd.trans xf).trans xh) _ _ hv)
      have fw : RD T.toAd m4 H4 dy w := RD.ext0 hid_rd _ _ (RD.ext (xf.trans xh) _ _ hw)
      have fv2 : RD T.toAd m4 H4 dx2 v2 := RD.ext0 hid_rd _ _ (RD.ext xh _ _ hv2)
      have fw2 : RD T.toAd m4 H4 dy2 w2 := RD.ext0 hid_rd _ _ hw2
      obtain ⟨b1, rfl, k1⟩ := tkD_use ek fv
      obtain ⟨b2', rfl, k2⟩ := tkD_use ek2 fv2
      have g3 : ∀ q ∈ tvs ([(ks, dy), (ks2, dy2)].map (·.1)) [b1, b2'] [w, w2], SqT T.toAd.K H4 q.2.1 (q.1.map kV) := fun q hq => by
        have : q = (ks, b1, w) ∨ q = (ks2, b2', w2) := by simpa [tvs] using hq
        rcases this with rfl | rfl
        · exact k1
        · exact k2
      exact ⟨tvs ([(ks, dy), (ks2, dy2)].map (·.1)) [b1, b2'] [w, w2], rfl, g3, by simp [tvs], disp_end (more := [(ks, dy), (ks2, dy2)]) r4' pk n4 rfl rfl g3 ⟨w, [w2], rfl, fw, w2, [], rfl, fw2, rfl⟩ q4⟩
theorem s_dss2 {k k2 : Str} {j1 j2 : Nat} {q1' q2' : Pos} (g : Good T n N sc so X W) (ha : PE X x (tE T.toAd W (sE T call a))) (hb : PE X y (tE T.toAd W (sE T call b))) :
    PE X (.Dict [some (.Constant (.str k) j1 q1'), some (.Constant (.str k2) j2 q2')] [x, y] pos) (tE T.toAd W (sE T call (.dss2 k k2 a b))) := by
  refine peImp (pe_disp (pps_cons pe_str ha (pps_cons pe_str hb pps_nil)) rfl rfl (by simp) (by simp)) fun σ H Q q => ?_
  obtain ⟨env, m, S, he, r, q⟩ := q
  intro p hp
  obtain ⟨e0, r0, x0, n0⟩ := hid_start (o := .dK []) r hp (fun _ => HO.noConfusion)
  refine ⟨env, _, S, he.ext0 e0, r0, (PostK.bind (q.ext x0)).hid n0 fun dx S1 m1 H1 xa xb r1 _ hp1 n1 q1 v hv => ⟨env, _, S1, (he.ext0 e0).ext xb, r1, (PostK.bind q1).hid n1 fun dy S2 m2 H2 xc xd r2 r2' hp2 n2 q2 w hw => ?_⟩⟩
  have pk : H2 p = some (.dK []) := by rw [hp2, hp1, upd_same]
  have hv2 : RD T.toAd m2 H2 dx v := RD.ext0 hid_rd _ _ (RD.ext xd _ _ hv)
  have hw2 : RD T.toAd m2 H2 dy w := RD.ext0 hid_rd _ _ hw
  by_cases hac : k = k2
  · rw [if_pos (decide_eq_true hac)] at q2
    exact q2.elim
  · rw [if_neg (by rw [decide_eq_false hac]; decide)] at q2
    refine ⟨pk, [(.inr k, v), (.inr k2, w)], rfl, by simp, ?_⟩
    have hm : mergeK [] [((.inr k : Key), v), (.inr k2, w)] = [(.inr k, v), (.inr k2, w)] := by
      simp [mergeK, putK, hac]
    rw [hm]
    obtain ⟨e, r3⟩ := Ext.adopt (o := .dK [(.inr k, v), (.inr k2, w)]) (ob := .dct [(.str k, dx), (.str k2, dy)]) r2' pk n2 ⟨_, rfl, .inr k, v, _, rfl, rfl, hv2, .inr k2, w, _, rfl, rfl, hw2, rfl⟩
    exact q2 _ _ e r3 _ (ref_add r2')
theorem s_mx {v : Str} {p : Pos} (g : Good T n N sc so X W) (tb : TbOk T n call) (h1 : v = "max") (h2 : bltN T.nm sc v = true) (hx : okX x = true) (hy : okX y = true) (ha : PE X x (tE T.toAd W (sE T call a))) (hb : PE X y (tE T.toAd W (sE T call b))) :
    PE X (.Call (.Name v p) [x, y] [] pos) (tE T.toAd W (sE T call (.mx a b))) := by
  subst h1
  obtain ⟨k1, k2, k3, k4⟩ := blt_of g tb h2
  refine peImp (pe_callB (call_max2 g.calm) k1 k2 (by decide +kernel) (pa_cons ha (pa_cons hb pa_nil (star_of hy)) (star_of hx)) k3 k4 (star_of hx) (stars_any (by simp [hy]))) fun σ H Q q => ?_
  obtain ⟨env, m, S, he, r, q⟩ := q
  refine seqE he r (PostK.bind q) fun dx S1 m1 H1 e1 r1 q1 v hv => seqE (he.ext e1) r1 (PostK.bind q1) fun dy S2 m2 H2 e2 r2 q2 w hw => ?_
  have hv := RD.ext e2 _ _ hv
  cases dx with
  | int i =>
    cases dy with
    | int j =>
      obtain rfl := rd_int hv
      obtain rfl := rd_int hw
      exact ⟨i, j, rfl, ok_use r2 q2 rfl⟩
    | _ => exact q2.elim
  | _ => exact q2.elim
theorem enumD_len (l : List D) : (enumD l).length = l.length := by
  unfold enumD
  rw [List.length_map, List.length_zipIdx]
theorem enumD_at (l : List D) (i : Nat) (h : i < l.length) : (enumD l)[i]? = some (.tup [.int (i : Nat), l[i]]) := by
  unfold enumD
  rw [List.getElem?_map, List.getElem?_zipIdx, List.getElem?_eq_getElem h]
  simp
theorem wk_enum {A : Ad} {m : Mp} {H : Hp} {l : List D} {p : Addr} {gd : Option (Nat × Ob)} (hg : ∀ m' H' S', Ext0 m H m' H' → RS A m' H' S' → gOk gd S' = true → ∃ ws, SqL A.K H' p ws ∧ RDs A m' H' l ws) : Wk A ⟨enumD l, gd⟩ m H (Ite A.K p) := by
  refine ⟨fun H' => ∃ ws, SqL A.K H' p ws ∧ ws.length = l.length, fun i H' v H'' => ∃ t y, v = .ref t ∧ H' t = none ∧ H'' = upd H' t (.tup [.int (i : Nat), y]) ∧ ∀ ws, SqL A.K H' p ws → ws[i]? = some y, ⟨fun i H' hi q => ?_, fun H' q => ?_, fun i H' v H'' hi q y => y⟩, fun m' H' S' e r g => ?_, fun i m' H' S' v H'' hi e r g y => ?_⟩
  · obtain ⟨ws, q1, q2⟩ := q
    rw [enumD_len] at hi
    exact ⟨ws, ws[i]'(by rw [q2]; exact hi), q1, by simp [q2, hi]⟩
  · obtain ⟨ws, q1, q2⟩ := q
    exact ⟨ws, q1, by rw [enumD_len, q2]; exact Nat.le_refl _⟩
  · obtain ⟨ws, q1, q2⟩ := hg m' H' S' e r g
    exact ⟨ws, q1, q2.length⟩
  · obtain ⟨t, y, rfl, ht, rfl, hy⟩ := y
    obtain ⟨ws, q1, q2⟩ := hg m' H' S' e r g
    have hi : i < l.length := by rw [enumD_len] at hi; exact hi
    obtain ⟨w, k1, k2⟩ := q2.get (List.getElem?_eq_getElem hi)
    rw [hy ws q1] at k1
    cases k1
    have x1 := Ext.new (o := .tup [.int (i : Nat), y]) r ht
    refine ⟨x1, r.new ht, _, enumD_at l i hi, t, [.int (i : Nat), y], rfl, .inl (.inl upd_same), .int (i : Nat), [y], rfl, rfl, y, [], rfl, RD.ext x1 _ _ k2, rfl⟩
theorem i_enum {elts : List Expr} {kk : Nat} {tpos p2' pos2 : Pos} {u : Str} (g : Good T n N sc so X W) (tb : TbOk T n call) (h0 : u = "enumerate") (h3 : bltN T.nm sc u = true) (hx : okX x = true) (ha : PE X x (tE T.toAd W (sE T call a))) :
    PI X (.Tuple elts kk tpos) (.Call (.Name u p2') [x] [] pos2) (tI T.toAd W (sI T call (.enum a))) := by
  subst h0
  obtain ⟨l1, l2, l3, l4⟩ := blt_of g tb h3
  refine pi_imp (pi_enum l1 l2 (pa_cons ha pa_nil (star_of hx)) (star_of hx)) fun σ H R q => ?_
  obtain ⟨env, m, S, he, r, q⟩ := q
  rw [g.hK]
  refine seqE he r (PostK.bind q) fun dx S1 m1 H1 x1 r1 q1 v hv => ?_
  have q1 : PostK T.toAd (match enumItems S1 dx with | some its => .ok its S1 | none => .stuck) m1 H1 σ W _ := q1
  cases dx with
  | lst l =>
    obtain ⟨p, vs, rfl, h2, h3⟩ := hv
    exact ⟨p, vs, rfl, SqL.of h2.1, (q1.now r1) _ (wk_enum fun m' H' S' e r' _ => ⟨vs, e.sql h2, RDs.ext0 e _ _ h3⟩)⟩
  | ref l =>
    cases e : S1[l]? with
    | none =>
      rw [show enumItems S1 (.ref l) = none by simp only [enumItems, e]] at q1
      exact q1.elim
    | some ob =>
      cases ob with
      | lst zs =>
        rw [show enumItems S1 (.ref l) = some ⟨enumD zs, some (l, .lst zs)⟩ by simp only [enumItems, e]] at q1
        obtain ⟨p, vs, h1, h2, h3⟩ := r1.lst e
        obtain ⟨p', h4, rfl⟩ := hv
        rw [h1] at h4
        cases h4
        refine ⟨p, vs, rfl, SqL.of h2, (q1.now r1) _ (wk_enum fun m' H' S' e' r' gk => ?_)⟩
        obtain ⟨p', ws, k1, k2, k3⟩ := r'.lst (of_decide_eq_true (show decide (S'[l]? = some (.lst zs)) = true from gk))
        rw [e'.get h1] at k1
        cases k1
        exact ⟨ws, SqL.of k2, k3⟩
      | _ =>
        rw [show enumItems S1 (.ref l) = none by simp only [enumItems, e]] at q1
        exact q1.elim
  | _ => exact q1.elim
end
end Ev
namespace Ev
open PySem PySem.Spec L2 PyProof.Rows
theorem YAt_ref {t : TVs} {i : Nat} {v : V} {q : List L2.Key × Addr × V} (h : t[i]? = some q) (e : v = .ref q.2.1) : (t.map fun q => V.ref q.2.1)[i]? = some v := by
  rw [List.getElem?_map, h, e]
  rfl
section
variable {A : Ad} {m : Mp} {H : Hp} {kvs : List (List Key × D)} {p : Addr} {od : Obj} {as : List Addr} {vs : List V}
/-- what is told of a locked dict -/
def Lk (A : Ad) (m : Mp) (H : Hp) (kvs : List (List Key × D)) (p : Addr) (od : Obj) (as : List Addr) (vs : List V) : Prop :=
  H p = some (.frz od (DictS A.P A.w p (tvs (kvs.map (·.1)) as vs))) ∧ as.length = kvs.length ∧ (∀ q ∈ tvs (kvs.map (·.1)) as vs, SqT A.K H q.2.1 (q.1.map kV)) ∧ RDs A m H (kvs.map (·.2)) vs
theorem Lk.vl (h : Lk A m H kvs p od as vs) : vs.length = kvs.length := by
  have := h.2.2.2.length
  rw [List.length_map] at this
  exact this
theorem Lk.ks (h : Lk A m H kvs p od as vs) : (tvs (kvs.map (·.1)) as vs).map (·.1) = kvs.map (·.1) := tvs_keys (by rw [List.length_map]; exact h.2.1) (by rw [List.length_map]; exact h.vl)
theorem Lk.len (h : Lk A m H kvs p od as vs) : (tvs (kvs.map (·.1)) as vs).length = kvs.length := by
  have := congrArg List.length h.ks
  rwa [List.length_map, List.length_map] at this
theorem wk_dk (h : Lk A m H kvs p od as vs) : Wk A ⟨keysD kvs, none⟩ m H (Itks A.P A.w p od (tvs (kvs.map (·.1)) as vs)) := by
  refine wk_at (vs := (tvs (kvs.map (·.1)) as vs).map fun q => V.ref q.2.1) (G := fun H' => H' p = some (.frz od (DictS A.P A.w p (tvs (kvs.map (·.1)) as vs)))) (keysD_rd h.ks h.2.2.1) ⟨fun i H' hi q => ⟨q, by rw [List.length_map] at hi; exact hi⟩, fun H' q => ⟨q, by rw [List.length_map]; exact Nat.le_refl _⟩, fun i H' v H'' hi q y => ?_⟩ fun m' H' S' e r' _ => e.frz _ _ _ h.1
  obtain ⟨rfl, q, h1, h2⟩ := y
  exact ⟨rfl, YAt_ref h1 h2⟩
theorem tvs_at : ∀ {ks : List (List Key)} {as : List Addr} {vs : List V} {i : Nat} {q : List Key × Addr × V}, (tvs ks as vs)[i]? = some q → ks[i]? = some q.1 ∧ vs[i]? = some q.2.2
  | ks, as, vs, i, q, h => by
    unfold tvs at h
    rw [List.getElem?_map] at h
    obtain ⟨z, h1, h2⟩ := Option.map_eq_some_iff.mp h
    obtain ⟨a1, a2⟩ := List.getElem?_zip_eq_some.mp h1
    obtain ⟨a3, a4⟩ := List.getElem?_zip_eq_some.mp a2
    cases h2
    exact ⟨a1, a4⟩
theorem wk_di (h : Lk A m H kvs p od as vs) : Wk A ⟨pairsD kvs, none⟩ m H (Itps A.P A.w p od (tvs (kvs.map (·.1)) as vs)) := by
  have hl : (pairsD kvs).length = kvs.length := by rw [pairsD, List.length_map]
  refine ⟨fun H' => H' p = some (.frz od (DictS A.P A.w p (tvs (kvs.map (·.1)) as vs))), fun i H' v H'' => ∃ t q, (tvs (kvs.map (·.1)) as vs)[i]? = some q ∧ v = .ref t ∧ H' t = none ∧ H'' = upd H' t (.tup [.ref q.2.1, q.2.2]), ⟨fun i H' hi q => ⟨q, ?_⟩, fun H' q => ⟨q, ?_⟩, fun i H' v H'' hi q y => y⟩, fun m' H' S' e r g => e.frz _ _ _ h.1, fun i m' H' S' v H'' hi e r g y => ?_⟩
  · rw [h.len, ← hl]
    exact hi
  · rw [h.len]
    exact Nat.le_of_eq hl.symm
  · obtain ⟨t, q, h1, rfl, ht, rfl⟩ := y
    obtain ⟨k1, k2⟩ := tvs_at h1
    rw [List.getElem?_map] at k1
    obtain ⟨z, k3, k4⟩ := Option.map_eq_some_iff.mp k1
    obtain ⟨w, k5, k6⟩ := h.2.2.2.get (show (kvs.map (·.2))[i]? = some z.2 by rw [List.getElem?_map, k3]; rfl)
    rw [k2] at k5
    cases k5
    have x1 := Ext.new (o := .tup [.ref q.2.1, q.2.2]) r ht
    have e2 : Ext0 m H m' _ := e.trans x1.toExt0
    refine ⟨x1, r.new ht, .tup [.tup (z.1.map keyD), z.2], by rw [pairsD, List.getElem?_map, k3]; rfl, t, [.ref q.2.1, q.2.2], rfl, .inl (.inl upd_same), .ref q.2.1, [q.2.2], rfl, ⟨q.2.1, _, rfl, ?_, rds_keys _⟩, q.2.2, [], rfl, RD.ext0 e2 _ _ k6, rfl⟩
    rw [k4]
    exact e2.sqt (h.2.2.1 q (List.mem_of_getElem? h1))
theorem dw_use {f : List (List Key × D) → List D} {J : Addr → Obj → TVs → It} {S : Store} {σ : L2.St} {W : WX} {dx : D} {v : V} {R : It → Hp → Prop}
    (hw : ∀ (m : Mp) (H : Hp) (kvs : List (List Key × D)) (p : Addr) (od : Obj) (as : List Addr) (vs : List V), Lk A m H kvs p od as vs → Wk A ⟨f kvs, none⟩ m H (J p od (tvs (kvs.map (·.1)) as vs)))
    (r : RS A m H S) (h : PostK A (walkD f dx S) m H σ W fun its _ m' H' => ∀ J, Wk A its m' H' J → R J H') (hv : RD A m H dx v) : rDW A.P A.w J v H R := by
  cases dx with
  | ref l =>
    have h : PostK A (match S[l]? with | some (.dtt kvs) => (Ev.R.ok (Items.mk (f kvs) none) (S.set l (.dtl kvs)) : Ev.R Items) | some (.dtl kvs) => .ok (Items.mk (f kvs) none) S | _ => .stuck) m H σ W (fun its _ m' H' => ∀ J, Wk A its m' H' J → R J H') := h
    obtain ⟨p, hp, rfl⟩ := hv
    cases e : S[l]? with
    | none =>
      rw [e] at h
      exact h.elim
    | some ob =>
      rw [e] at h
      cases ob with
      | dtt kvs =>
        obtain ⟨p', as, vs, h1, h2, h3⟩ := r.dtt e
        rw [hp] at h1
        cases h1
        refine ⟨p, _, rfl, .inl ⟨h2, fun od => ?_⟩⟩
        have x1 := Ext.upd (o := .frz od (DictS A.P A.w p (tvs (kvs.map (·.1)) as vs))) r hp h2 Mu.dS
        have r1 := r.updO (o := .frz od (DictS A.P A.w p (tvs (kvs.map (·.1)) as vs))) (ob := .dtl kvs) hp h2 Mu.dS ⟨od, as, vs, rfl, h3⟩
        refine h m _ x1 r1 _ (hw _ _ _ _ _ _ _ ⟨upd_same, h3.1, fun q hq => x1.toExt0.sqt (h3.2.1 q hq), RDs.ext0 x1.toExt0 _ _ h3.2.2⟩)
      | dtl kvs =>
        obtain ⟨p', od, as, vs, h1, h2, h3⟩ := r.dtl e
        rw [hp] at h1
        cases h1
        exact ⟨p, _, rfl, .inr ⟨od, h2, (h.now r) _ (hw _ _ _ _ _ _ _ ⟨h2, h3⟩)⟩⟩
      | _ => exact h.elim
  | _ => exact h.elim
end
section
variable {T : Tb} {n : Nat} {N : List Str} {sc so : Scope} {X : Cx} {W : WX} {call : Call} {a : E} {x : Expr} {p1 p2 : Pos}
theorem i_dk {tg : Expr} (g : Good T n N sc so X W) (ha : PE X x (tE T.toAd W (sE T call a))) : PI X tg x (tI T.toAd W (sI T call (.dk a))) := by
  refine pi_imp (pi_keysS ha) fun σ H R q => ?_
  obtain ⟨env, m, S, he, r, q⟩ := q
  rw [g.hP, g.hw]
  exact seqE he r (PostK.bind q) fun dx S1 m1 H1 x1 r1 q1 v hv => dw_use (fun _ _ _ _ _ _ _ z => wk_dk z) r1 q1 hv
theorem i_di {elts : List Expr} {kk : Nat} {tpos : Pos} {f : Str} (g : Good T n N sc so X W) (hf : f = "items") (hl : p1.endLine = p2.line) (hx : okX x = true) (ha : PE X x (tE T.toAd W (sE T call a))) : PI X (.Tuple elts kk tpos) (.Call (.Attribute x f p1) [] [] p2) (tI T.toAd W (sI T call (.di a))) := by
  subst hf
  refine pi_imp (pi_itemsS ha (base_of hx) (by rw [hl]; exact beq_self_eq_true _)) fun σ H R q => ?_
  obtain ⟨env, m, S, he, r, q⟩ := q
  rw [g.hP, g.hw]
  exact seqE he r (PostK.bind q) fun dx S1 m1 H1 x1 r1 q1 v hv => dw_use (fun _ _ _ _ _ _ _ z => wk_di z) r1 q1 hv
end
end Ev
namespace Ev
open PySem PySem.Spec L2 PyProof.Rows LamX
theorem XP.use {A : Ad} {m : Mp} {H : Hp} {fs : List (Str × D)} {k : Option Addr → Prop} (h : ∀ od, XR A m H fs od → k od) (ok : fs.length ≤ 1) : XP A m H fs k := by
  match fs, ok with
  | [], _ => exact h none rfl
  | [(f, d)], _ => exact fun dd v e hv => h (some dd) ⟨dd, v, rfl, e, hv⟩
section
variable {T : Tb} {n : Nat} {N : List Str} {sc so : Scope} {X : Cx} {W : WX} {call : Call} {m : Mp} {H H1 : Hp} {S : Store}
/-- the lambdas' tables are written: all else stays -/
theorem ext_tab {A : Ad} (r : RS A m H S) (e : ExtN H H1) (t : Tabs A.tb H1) : Ext m H m H1 ∧ RS A m H1 S := by
  have kp : ∀ {p u}, H p = some u → (∀ ps, u ≠ .tbl ps) → H1 p = some u := fun {p u} h n => e p u h n
  have x : Ext m H m H1 := ⟨⟨⟨[], by simp⟩, fun p vs h => h.elim (fun h => .inl (kp h fun _ => HO.noConfusion)) fun ⟨o, h⟩ => .inr ⟨o, kp h fun _ => HO.noConfusion⟩, fun p vs h n => ⟨kp h fun _ => HO.noConfusion, n⟩, fun p o u h => kp h fun _ => HO.noConfusion, fun p φ h _ => kp h fun _ => HO.noConfusion, fun p P w u h n => ⟨kp h fun _ => (by unfold DictS; exact HO.noConfusion), n⟩, rfl, fun _ => r.tt ▸ t⟩, rfl, fun p hp => by
    cases q : H p with
    | none => exact absurd q (r.hid p hp).2
    | some u => exact kp q fun ps z => r.hnt p hp ps (by rw [q, z])⟩
  refine ⟨x, r.len, r.nd, fun p hp => ⟨(r.hid p hp).1, by rw [x.hid p hp]; exact (r.hid p hp).2⟩, fun p hp => (by rw [x.hid p hp]; exact r.hnt p hp), r.tt, r.tt ▸ t, fun l ob p h1 h2 => ?_⟩
  obtain ⟨o, h3, h4⟩ := r.at_ l ob p h1 h2
  refine ⟨o, kp h3 fun ps z => ?_, h4.ext x⟩
  subst z
  cases ob with
  | lst xs => obtain ⟨vs, z, _⟩ := h4; cases z
  | dct xs => obtain ⟨vs, z, _⟩ := h4; cases z
  | obj c fs => obtain ⟨dx, vs, z, _⟩ := h4; cases z
  | dtt xs => obtain ⟨as, vs, z, _⟩ := h4; unfold DictS at z; cases z
  | dtl xs => obtain ⟨od, as, vs, z, _⟩ := h4; cases z
/-- the lambda's own context -/
theorem Good.lamCx (g : Good T n N sc so X W) {A : Around} {outer : List PySem.Env} {s : Shared} {H : Hp} {E : XK} {scope : Scope} {f c' : Addr} (L : LamS X.env.scope scope) (hr : Rm (n + 1) (A.deeper (lamEnv X scope s.heap.objs.size f c'))) :
    Good { T with nm := { T.nm with tld := [] } } n N scope scope (lamCxN X A outer s H E scope f c') (fun cls d _ H => E cls d H) where
  hK := g.hK
  hmg := g.hmg
  hP := g.hP
  hw := g.hw
  hb := g.hb
  hN := g.hN
  nd := g.nd
  scp := rfl
  calm := rfl
  rm := hr.mono (Nat.le_succ _)
  rm1 := hr
  tk := L2N.takes_of rfl rfl rfl rfl
  po := passes_of rfl
  lam := fun h => nomatch h
  st := fun x h => by
    rcases h with h | h
    · exact absurd rfl (L.own _ (PySem.mem_of_lookup h)).1
    · exact absurd rfl (L.own _ (PySem.mem_of_lookup h)).2
theorem TbOk.quiet (tb : TbOk T n call) : TbOk { T with nm := { T.nm with tld := [] } } n call := ⟨tb.fn, tb.kw, tb.bl, tb.gl, tb.cl, tb.xk, tb.xf, tb.xi, fun h => absurd rfl h, tb.vf, tb.kl, tb.ex, tb.xo, tb.kn⟩
theorem s_told {v : Str} {e : E} {params : Arguments} {body : Expr} {scope : Scope} {p lpos pos : Pos} (g : Good T n N sc so X W) (tb : TbOk T n call) (h1 : N ∈ T.nm.tld) (h2 : v = "_law_said") (h3 : isGl sc v = true) (h4 : lamSB sc scope = true) (h5 : noArgs params = true)
    (hb : ∀ (X' : Cx) (W' : WX), Good { T with nm := { T.nm with tld := [] } } n N scope scope X' W' → PE X' body (tE T.toAd W' (sE T call e))) : PE X (.Call (.Name v p) [.Lambda params body scope lpos] [] pos) (tE T.toAd W (sE T call (.told e))) := by
  subst h2
  have h5 := noArgs_eq h5
  subst h5
  obtain ⟨hr, c, P, hcode, TB, hmT, hu⟩ := g.lam h1
  obtain ⟨hs, ds, nv, gg, oc, od, pg, bg, sg, dV, kV, doc, pm, an, cdv, ct, osl, Ng, e0, t1, t2, t3, t4, t5, t6, t7, t8, t9⟩ := tb.td (fun z => by rw [z] at h1; cases h1)
  have L : LamS X.env.scope scope := by rw [g.scp]; exact lamS_by h4
  have hG := t9 X (X.env.qual ++ "<lambda>") g.hK g.hmg g.hP g.hw g.hb
  rw [← g.hmg] at t1
  rw [← g.hK] at t2 t3 t4 t5
  have pe := lamcallM (T := T.tb) (TT := TTm T hs ds nv) (a := "_law_ask") (sg := sg) (Ng := Ng) (p := p) (lpos := lpos) (pos := pos) (k := n + 1) (t := fun E => tE T.toAd (fun cls d _ H => E cls d H) (sE T call e)) (body := body) (scope := scope) (params := ⟨[], [], none, [], [], none, []⟩)
    (gl_of g h3) t1 t2 t3 t4 t5 t6 t7 t8 (fun f c' s H Q tl hr => hG f c' s H Q tl (hr.mono (Nat.succ_le_succ (Nat.succ_le_succ (Nat.zero_le _))))) TB hcode hmT hu hr L rfl (fun _ _ _ _ _ => rfl) (fun A outer s H E f c' hr' => hb _ _ (g.lamCx L hr')) rfl rfl rfl
  refine peImp pe fun σ H Q qq => ?_
  obtain ⟨env, m, S, he, r, h⟩ := qq
  refine ⟨r.tt ▸ r.tab, fun H1 eN tN => ?_⟩
  obtain ⟨x1, r1⟩ := ext_tab r eN tN
  refine ⟨env, m, S, he.ext x1, r1, ?_⟩
  have h : PostK T.toAd (toldM T.G (e.ev call T.G env S)) m H σ W (KQ T.toAd Q) := h
  show PostK T.toAd (e.ev call T.G env S) m H1 σ _ _
  generalize e.ev call T.G env S = R0 at h ⊢
  cases R0 with
  | stuck => exact h
  | ok d S1 =>
    unfold toldM at h
    rw [e0] at h
    intro m2 H2 x2 r2 v hv
    exact ⟨m2, S1, r2, fun w m3 H3 x3 r3 hw => h m3 H3 ((x1.trans x2).trans x3) r3 w hw⟩
  | exc ex S1 =>
    unfold toldM at h
    rw [e0] at h
    simp only at h
    by_cases hl : ex.fs.length ≤ 1 ∧ (hs.all fun h => slotOk nv h.nm) = true
    · rw [if_pos hl] at h
      cases e1 : hdlM T.G ex hs with
      | none =>
        rw [e1] at h
        exact h.elim
      | some o =>
        cases o with
        | none =>
          rw [e1] at h
          exact h.elim
        | some d =>
          rw [e1] at h
          intro m2 H2 x2 r2
          refine XP.use (fun od hx => ?_) hl.1
          exact ⟨ex, m2, S1, d, rfl, r2, hx, hl.1, hl.2, e1, fun v m3 H3 x3 r3 hv => h m3 H3 ((x1.trans x2).trans x3) r3 v hv⟩
    · rw [if_neg hl] at h
      exact h.elim
end
end Ev
namespace Ev
open PySem PySem.Spec L2 PyProof.Rows
section
variable {T : Tb} {n : Nat} {N : List Str} {call : Call}
theorem band {a b : Bool} (h : (a && b) = true) : a = true ∧ b = true := by
  rw [Bool.and_eq_true] at h
  exact h
theorem dec {p : Prop} [Decidable p] (h : decide p = true) : p := of_decide_eq_true h
theorem chkEs_len {nm : Names} {sc so : Scope} : ∀ {es : Es} {xs : List Expr}, chkEs nm N sc so es xs = true → es.len' = xs.length
  | .nil, [], _ => rfl
  | .cons e es, x :: xs, h => by
    have h : (okX x && chkE nm N sc so e x && chkEs nm N sc so es xs) = true := h
    show es.len' + 1 = xs.length + 1
    rw [chkEs_len (band h).2]
  | .nil, _ :: _, h => by cases h
  | .cons _ _, [], h => by cases h
theorem dct2_of {nm : Names} {sc so : Scope} {a b c d : Str} {x : Expr} (h : chkE nm N sc so (.dct2 a b c d) x = true) :
    ∃ j1 j2 j3 j4 p1 p2 p3 p4 p, x = .Dict [some (.Constant (.str a) j1 p1), some (.Constant (.str c) j2 p2)] [.Constant (.str b) j3 p3, .Constant (.str d) j4 p4] p := by
  have h : (match dictP x with
    | some ([some k1, some k2], [v1, v2]) => decide (strC k1 = some a) && decide (strC v1 = some b) && decide (strC k2 = some c) && decide (strC v2 = some d)
    | _ => false) = true := h
  split at h
  case h_2 => cases h
  rename_i k1 k2 v1 v2 e
  obtain ⟨p, rfl⟩ := dictP_eq e
  obtain ⟨h, h4⟩ := band h
  obtain ⟨h, h3⟩ := band h
  obtain ⟨_, _, rfl⟩ := strC_eq (dec (band h).1)
  obtain ⟨_, _, rfl⟩ := strC_eq (dec (band h).2)
  obtain ⟨_, _, rfl⟩ := strC_eq (dec h3)
  obtain ⟨_, _, rfl⟩ := strC_eq (dec h4)
  exact ⟨_, _, _, _, _, _, _, _, _, rfl⟩
theorem get_of {nm : Names} {sc so : Scope} {a b c : E} {x : Expr} (h : chkE nm N sc so (.get a b c) x = true) : ∃ y f p1 z u p2, x = .Call (.Attribute y f p1) [z, u] [] p2 ∧
    (decide (f = "get") && decide (p1.endLine = p2.line) && okX y && okX z && okX u && chkE nm N sc so a y && chkE nm N sc so b z && chkE nm N sc so c u) = true := by
  have h : (match attCall x with
    | some (x, f, p1, [y, z], p2) => decide (f = "get") && decide (p1.endLine = p2.line) && okX x && okX y && okX z && chkE nm N sc so a x && chkE nm N sc so b y && chkE nm N sc so c z
    | _ => false) = true := h
  split at h
  case h_2 => cases h
  rename_i e
  exact ⟨_, _, _, _, _, _, attCall_eq e, h⟩
theorem upd_of {nm : Names} {sc so : Scope} {a b : E} {x : Expr} (h : chkE nm N sc so (.upd a b) x = true) : ∃ y f p1 z p2, x = .Call (.Attribute y f p1) [z] [] p2 ∧
    (decide (f = "update") && decide (p1.endLine = p2.line) && okX y && okX z && chkE nm N sc so a y && chkE nm N sc so b z) = true := by
  have h : (match attCall x with
    | some (x, f, p1, [y], p2) => decide (f = "update") && decide (p1.endLine = p2.line) && okX x && okX y && chkE nm N sc so a x && chkE nm N sc so b y
    | _ => false) = true := h
  split at h
  case h_2 => cases h
  rename_i e
  exact ⟨_, _, _, _, _, attCall_eq e, h⟩
theorem dtd1_of {nm : Names} {sc so : Scope} {a b : E} {x : Expr} (h : chkE nm N sc so (.dtd1 a b) x = true) : ∃ y z p, x = .Dict [some y] [z] p ∧ (chkE nm N sc so a y && chkE nm N sc so b z) = true := by
  have h : (match dictP x with
    | some ([some x], [y]) => chkE nm N sc so a x && chkE nm N sc so b y
    | _ => false) = true := h
  split at h
  case h_2 => cases h
  rename_i e
  obtain ⟨p, rfl⟩ := dictP_eq e
  exact ⟨_, _, _, rfl, h⟩
theorem dtd2_of {nm : Names} {sc so : Scope} {a b a2 b2 : E} {x : Expr} (h : chkE nm N sc so (.dtd2 a b a2 b2) x = true) : ∃ y z y2 z2 p, x = .Dict [some y, some y2] [z, z2] p ∧ (chkE nm N sc so a y && chkE nm N sc so b z && chkE nm N sc so a2 y2 && chkE nm N sc so b2 z2) = true := by
  have h : (match dictP x with
    | some ([some x, some x2], [y, y2]) => chkE nm N sc so a x && chkE nm N sc so b y && chkE nm N sc so a2 x2 && chkE nm N sc so b2 y2
    | _ => false) = true := h
  split at h
  case h_2 => cases h
  rename_i e
  obtain ⟨p, rfl⟩ := dictP_eq e
  exact ⟨_, _, _, _, _, rfl, h⟩
theorem dss2_of {nm : Names} {sc so : Scope} {k k2 : Str} {a b : E} {x : Expr} (h : chkE nm N sc so (.dss2 k k2 a b) x = true) : ∃ u j1 q1 w j2 q2 y z p, x = .Dict [some (.Constant (.str u) j1 q1), some (.Constant (.str w) j2 q2)] [y, z] p ∧ (decide (k = u) && decide (k2 = w) && chkE nm N sc so a y && chkE nm N sc so b z) = true := by
  have h : (match dictP x with
    | some ([some k1, some k3], [x, y]) => decide (strC k1 = some k) && decide (strC k3 = some k2) && chkE nm N sc so a x && chkE nm N sc so b y
    | _ => false) = true := h
  split at h
  case h_2 => cases h
  rename_i e
  obtain ⟨p, rfl⟩ := dictP_eq e
  obtain ⟨h, h4⟩ := band h
  obtain ⟨h, h3⟩ := band h
  obtain ⟨_, _, rfl⟩ := strC_eq (dec (band h).1)
  obtain ⟨_, _, rfl⟩ := strC_eq (dec (band h).2)
  exact ⟨_, _, _, _, _, _, _, _, _, rfl, by rw [h3, h4]; simp⟩
theorem mx_of {nm : Names} {sc so : Scope} {a b : E} {x : Expr} (h : chkE nm N sc so (.mx a b) x = true) : ∃ v p y z p2, x = .Call (.Name v p) [y, z] [] p2 ∧ (decide (v = "max") && bltN nm sc v && okX y && okX z && chkE nm N sc so a y && chkE nm N sc so b z) = true := by
  have h : (match callNm x with
    | some (x, [y, z], []) => decide (x = "max") && bltN nm sc x && okX y && okX z && chkE nm N sc so a y && chkE nm N sc so b z
    | _ => false) = true := h
  split at h
  case h_2 => cases h
  rename_i e
  obtain ⟨p, p2, rfl⟩ := callNm_0 e
  exact ⟨_, _, _, _, _, rfl, h⟩
theorem isiO_of {nm : Names} {sc so : Scope} {a : E} {c : Nat} {x : Expr} (h : chkE nm N sc so (.isiO a c) x = true) : ∃ v p y u p' p2, x = .Call (.Name v p) [y, .Name u p'] [] p2 ∧ (decide (v = "isinstance") && bltN nm sc v && decide (nm.kns[c]? = some u) && isGl sc u && noDbg u && okX y && chkE nm N sc so a y) = true := by
  have h : (match callNm x with
    | some (x, [y, u], []) => (match nmP u with
      | some z => decide (x = "isinstance") && bltN nm sc x && decide (nm.kns[c]? = some z) && isGl sc z && noDbg z && okX y && chkE nm N sc so a y
      | none => false)
    | _ => false) = true := h
  split at h
  case h_2 => cases h
  rename_i e
  split at h
  case h_2 => cases h
  rename_i e2
  obtain ⟨p, p2, rfl⟩ := callNm_0 e
  obtain ⟨p3, rfl⟩ := nmP_eq e2
  exact ⟨_, _, _, _, _, _, rfl, h⟩
theorem lenO_of {nm : Names} {sc so : Scope} {a : E} {x : Expr} (h : chkE nm N sc so (.lenO a) x = true) : ∃ v p y p2, x = .Call (.Name v p) [y] [] p2 ∧ (decide (v = "len") && bltN nm sc v && okX y && chkE nm N sc so a y) = true := by
  have h : (match callNm x with
    | some (x, [y], []) => decide (x = "len") && bltN nm sc x && okX y && chkE nm N sc so a y
    | _ => false) = true := h
  split at h
  case h_2 => cases h
  rename_i e
  obtain ⟨p, p2, rfl⟩ := callNm_0 e
  exact ⟨_, _, _, _, rfl, h⟩
theorem eqO_of {nm : Names} {sc so : Scope} {ne : Bool} {a b : E} {x : Expr} (h : chkE nm N sc so (.eqO ne a b) x = true) : ∃ y o z p, x = .Compare y [o] [z] p ∧ (okX z && chkO (if ne then .ne else .eq) o && chkE nm N sc so a y && chkE nm N sc so b z) = true := by
  have h : (match cmpP1 x with
    | some (x, o, y) => okX y && chkO (if ne then .ne else .eq) o && chkE nm N sc so a x && chkE nm N sc so b y
    | none => false) = true := h
  split at h
  case h_2 => cases h
  rename_i e
  obtain ⟨p, rfl⟩ := cmpP1_eq e
  exact ⟨_, _, _, _, rfl, h⟩
theorem enum_of {nm : Names} {sc so : Scope} {a : E} {tg x : Expr} (h : chkI nm N sc so (.enum a) tg x = true) : ∃ u p y p2, x = .Call (.Name u p) [y] [] p2 ∧ (decide (u = "enumerate") && bltN nm sc u && isTup tg && okX y && chkE nm N sc so a y) = true := by
  have h : (match callNm x with
    | some (u, [y], []) => decide (u = "enumerate") && bltN nm sc u && isTup tg && okX y && chkE nm N sc so a y
    | _ => false) = true := h
  split at h
  case h_2 => cases h
  rename_i e
  obtain ⟨p, p2, rfl⟩ := callNm_0 e
  exact ⟨_, _, _, _, rfl, h⟩
theorem di_of {nm : Names} {sc so : Scope} {a : E} {tg x : Expr} (h : chkI nm N sc so (.di a) tg x = true) : ∃ y f p1 p2, x = .Call (.Attribute y f p1) [] [] p2 ∧ (decide (f = "items") && decide (p1.endLine = p2.line) && isTup tg && okX y && chkE nm N sc so a y) = true := by
  have h : (match attCall x with
    | some (y, f, p1, [], p2) => decide (f = "items") && decide (p1.endLine = p2.line) && isTup tg && okX y && chkE nm N sc so a y
    | _ => false) = true := h
  split at h
  case h_2 => cases h
  rename_i e
  exact ⟨_, _, _, _, attCall_eq e, h⟩
theorem told_of {nm : Names} {sc so : Scope} {a : E} {x : Expr} (h : chkE nm N sc so (.told a) x = true) :
    ∃ v p params body scope lpos pos, x = .Call (.Name v p) [.Lambda params body scope lpos] [] pos ∧ (nm.tld.contains N && decide (v = "_law_said") && isGl sc v && LamX.lamSB sc scope && noArgs params && chkE { nm with tld := [] } N scope scope a body) = true := by
  have h : (match callNm x with
    | some (v, [l], []) => (match lamP l with
      | some (params, body, scope) => nm.tld.contains N && decide (v = "_law_said") && isGl sc v && LamX.lamSB sc scope && noArgs params && chkE { nm with tld := [] } N scope scope a body
      | none => false)
    | _ => false) = true := h
  split at h
  case h_2 => cases h
  rename_i e
  split at h
  case h_2 => cases h
  rename_i e2
  obtain ⟨p, p2, rfl⟩ := callNm_0 e
  obtain ⟨p3, rfl⟩ := lamP_eq e2
  exact ⟨_, _, _, _, _, _, _, rfl, h⟩
mutual
theorem sndE {T : Tb} (tb : TbOk T n call) : ∀ (e : E) (sc so : Scope) (X : Cx) (W : WX) (g : Good T n N sc so X W) (x : Expr), chkE T.nm N sc so e x = true → Snd X T.toAd W x (sE T call e)
  | .var i, sc, so, X, W, g, x, h => by
    cases x <;> first | (cases h; done) | skip
    rename_i v p
    have h : (decide (N[i]? = some v) && isVis sc v && noDbg v) = true := h
    exact Snd.plain g.hK rfl (s_var g (dec (band (band h).1).1) (band (band h).1).2 (band h).2)
  | .con d, sc, so, X, W, g, x, h => by
    cases x <;> first | (cases h; done) | skip
    exact Snd.plain g.hK rfl (s_con h)
  | .glb k, sc, so, X, W, g, x, h => by
    cases x <;> first | (cases h; done) | skip
    rename_i v p
    have h : (decide (T.nm.gls[k]? = some v) && isGl sc v && noDbg v) = true := h
    exact Snd.plain g.hK rfl (s_glb g tb (dec (band (band h).1).1) (band (band h).1).2 (band h).2)
  | .tup es, sc, so, X, W, g, x, h => by
    cases x <;> first | (cases h; done) | skip
    rename_i xs j p
    exact Snd.plain g.hK rfl (s_tup (sndEs tb es sc so X W g xs h).1)
  | .lst new es, sc, so, X, W, g, x, h => by
    cases x <;> first | (cases h; done) | skip
    rename_i xs p
    exact Snd.plain g.hK rfl (s_lst (sndEs tb es sc so X W g xs h).1)
  | .dct0, sc, so, X, W, g, x, h => by
    cases x <;> first | (cases h; done) | skip
    rename_i ks vs p
    cases ks <;> cases vs <;> first | (cases h; done) | skip
    exact Snd.plain g.hK rfl s_dct0
  | .dct2 a b c d, sc, so, X, W, g, x, h => by
    obtain ⟨j1, j2, j3, j4, p1, p2, p3, p4, p, rfl⟩ := dct2_of h
    exact Snd.plain g.hK rfl s_dct2
  | .told a, sc, so, X, W, g, x, h => by
    obtain ⟨v, p, params, body, scope, lpos, pos, rfl, h⟩ := told_of h
    exact Snd.plain g.hK rfl (s_told g tb (List.contains_iff_mem.mp (band (band (band (band (band h).1).1).1).1).1) (dec (band (band (band (band (band h).1).1).1).1).2) (band (band (band (band h).1).1).1).2 (band (band (band h).1).1).2 (band (band h).1).2 fun X' W' g' => (sndE tb.quiet a scope scope X' W' g' body (band h).2).pe)
  | .bin new op a b, sc, so, X, W, g, x, h => by
    cases x <;> first | (cases h; done) | skip
    rename_i x o y p
    have h : (chkB op o && chkE T.nm N sc so a x && chkE T.nm N sc so b y) = true := h
    exact Snd.plain g.hK rfl (s_bin g (band (band h).1).1 (sndE tb a sc so X W g x (band (band h).1).2).pe (sndE tb b sc so X W g y (band h).2).pe)
  | .neg a, sc, so, X, W, g, x, h => by
    cases x <;> first | (cases h; done) | skip
    rename_i o x p
    cases o <;> first | (cases h; done) | skip
    exact Snd.plain g.hK rfl (s_neg (sndE tb a sc so X W g x h).pe)
  | .nt a, sc, so, X, W, g, x, h => by
    cases x <;> first | (cases h; done) | skip
    rename_i o x p
    cases o <;> first | (cases h; done) | skip
    have h : (noIf x && chkE T.nm N sc so a x) = true := h
    exact s_nt g (band h).1 (sndE tb a sc so X W g x (band h).2)
  | .cmp op a b, sc, so, X, W, g, x, h => by
    cases x <;> first | (cases h; done) | skip
    rename_i x os ys p
    match os, ys, h with
    | [o], [y], h =>
      have h : (okX y && chkO op o && chkE T.nm N sc so a x && chkE T.nm N sc so b y) = true := h
      obtain ⟨h, h4⟩ := band h
      obtain ⟨h, h3⟩ := band h
      exact s_cmp g (band h).2 (band h).1 (sndE tb a sc so X W g x h3).pe (sndE tb b sc so X W g y h4).pe
    | [], _, h => cases h
    | [_], [], h => cases h
    | [_], _ :: _ :: _, h => cases h
    | _ :: _ :: _, _, h => cases h
  | .cmp2 o1 o2 a b c, sc, so, X, W, g, x, h => by
    cases x <;> first | (cases h; done) | skip
    rename_i x os ys p
    match os, ys, h with
    | [p1, p2], [y, z], h =>
      have h : (okX y && okX z && chkO o1 p1 && chkO o2 p2 && chkE T.nm N sc so a x && chkE T.nm N sc so b y && chkE T.nm N sc so c z) = true := h
      obtain ⟨h, h7⟩ := band h
      obtain ⟨h, h6⟩ := band h
      obtain ⟨h, h5⟩ := band h
      obtain ⟨h, h4⟩ := band h
      obtain ⟨h, h3⟩ := band h
      exact s_cmp2 g h3 h4 (band h).2 (sndE tb a sc so X W g x h5).pe (sndE tb b sc so X W g y h6).pe (sndE tb c sc so X W g z h7).pe
    | [], _, h => cases h
    | [_], _, h => cases h
    | [_, _], [], h => cases h
    | [_, _], [_], h => cases h
    | [_, _], _ :: _ :: _ :: _, h => cases h
    | _ :: _ :: _ :: _, _, h => cases h
  | .and a b, sc, so, X, W, g, x, h => by
    cases x <;> first | (cases h; done) | skip
    rename_i o xs p
    match o, xs, h with
    | .And, [x, y], h =>
      have h : (noIf x && chkE T.nm N sc so a x && (noIf y && chkE T.nm N sc so b y)) = true := h
      have hb := sndE tb b sc so X W g y (band (band h).2).2
      exact s_and g (band (band h).1).1 (sndE tb a sc so X W g x (band (band h).1).2) (pe_one hb.pe) (pw_and1 (hb.pt (band (band h).2).1))
    | .And, x :: y :: z :: r, h =>
      have h : (noIf x && chkE T.nm N sc so a x && chkE T.nm N sc so b (.BoolOp .And (y :: z :: r) p)) = true := h
      have hb := sndE tb b sc so X W g (.BoolOp .And (y :: z :: r) p) (band h).2
      exact s_and g (band (band h).1).1 (sndE tb a sc so X W g x (band (band h).1).2) hb.pe (hb.pw rfl)
    | .And, [], h => cases h
    | .And, [_], h => cases h
    | .Or, _, h => cases h
  | .or a b, sc, so, X, W, g, x, h => by
    cases x <;> first | (cases h; done) | skip
    rename_i o xs p
    match o, xs, h with
    | .Or, [x, y], h =>
      have h : (noIf x && chkE T.nm N sc so a x && (noIf y && chkE T.nm N sc so b y)) = true := h
      have hb := sndE tb b sc so X W g y (band (band h).2).2
      exact s_or g (band (band h).1).1 (sndE tb a sc so X W g x (band (band h).1).2) (pe_one hb.pe) (pw_or1 (hb.pt (band (band h).2).1))
    | .Or, x :: y :: z :: r, h =>
      have h : (noIf x && chkE T.nm N sc so a x && chkE T.nm N sc so b (.BoolOp .Or (y :: z :: r) p)) = true := h
      have hb := sndE tb b sc so X W g (.BoolOp .Or (y :: z :: r) p) (band h).2
      exact s_or g (band (band h).1).1 (sndE tb a sc so X W g x (band (band h).1).2) hb.pe (hb.pw rfl)
    | .Or, [], h => cases h
    | .Or, [_], h => cases h
    | .And, _, h => cases h
  | .ife c a b, sc, so, X, W, g, x, h => by
    cases x <;> first | (cases h; done) | skip
    rename_i x y z p
    have h : (noIf x && chkE T.nm N sc so c x && chkE T.nm N sc so a y && chkE T.nm N sc so b z) = true := h
    obtain ⟨h, h4⟩ := band h
    obtain ⟨h, h3⟩ := band h
    exact ⟨s_ife g (band h).1 (sndE tb c sc so X W g x (band h).2) (sndE tb a sc so X W g y h3).pe (sndE tb b sc so X W g z h4).pe, fun z => (by cases z), fun z => (by cases z)⟩
  | .ix a b, sc, so, X, W, g, x, h => by
    cases x <;> first | (cases h; done) | skip
    rename_i x y p
    have h : (okX y && chkE T.nm N sc so a x && chkE T.nm N sc so b y) = true := h
    exact Snd.plain g.hK rfl (s_ix g (band (band h).1).1 (sndE tb a sc so X W g x (band (band h).1).2).pe (sndE tb b sc so X W g y (band h).2).pe)
  | .cutA new a lo, sc, so, X, W, g, x, h => by
    cases x <;> first | (cases h; done) | skip
    rename_i x y p
    cases y <;> first | (cases h; done) | skip
    rename_i lo' hi' st q
    match lo', hi', st, h with
    | some y, none, none, h =>
      have h : (chkE T.nm N sc so a x && chkE T.nm N sc so lo y) = true := h
      exact Snd.plain g.hK rfl (s_cutA g (sndE tb a sc so X W g x (band h).1).pe (sndE tb lo sc so X W g y (band h).2).pe)
    | none, _, _, h => cases h
    | some _, some _, _, h => cases h
    | some _, none, some _, h => cases h
  | .cutB new a hi, sc, so, X, W, g, x, h => by
    cases x <;> first | (cases h; done) | skip
    rename_i x y p
    cases y <;> first | (cases h; done) | skip
    rename_i lo' hi' st q
    match lo', hi', st, h with
    | none, some y, none, h =>
      have h : (chkE T.nm N sc so a x && chkE T.nm N sc so hi y) = true := h
      exact Snd.plain g.hK rfl (s_cutB g (sndE tb a sc so X W g x (band h).1).pe (sndE tb hi sc so X W g y (band h).2).pe)
    | some _, _, _, h => cases h
    | none, none, _, h => cases h
    | none, some _, some _, h => cases h
  | .cutC new a lo hi, sc, so, X, W, g, x, h => by
    cases x <;> first | (cases h; done) | skip
    rename_i x y p
    cases y <;> first | (cases h; done) | skip
    rename_i lo' hi' st q
    match lo', hi', st, h with
    | some y, some z, none, h =>
      have h : (chkE T.nm N sc so a x && chkE T.nm N sc so lo y && chkE T.nm N sc so hi z) = true := h
      exact Snd.plain g.hK rfl (s_cutC g (sndE tb a sc so X W g x (band (band h).1).1).pe (sndE tb lo sc so X W g y (band (band h).1).2).pe (sndE tb hi sc so X W g z (band h).2).pe)
    | none, _, _, h => cases h
    | some _, none, _, h => cases h
    | some _, some _, some _, h => cases h
  | .rev new a, sc, so, X, W, g, x, h => by
    cases x <;> first | (cases h; done) | skip
    rename_i x y p
    cases y <;> first | (cases h; done) | skip
    rename_i lo' hi' st q
    match lo', hi', st, h with
    | none, none, some (.UnaryOp .USub (.Constant (.int j) _ _) _), h =>
      have h : (decide (j = 1) && chkE T.nm N sc so a x) = true := h
      cases dec (band h).1
      exact Snd.plain g.hK rfl (s_rev g (sndE tb a sc so X W g x (band h).2).pe)
    | some _, _, _, h => cases h
    | none, some _, _, h => cases h
    | none, none, none, h => cases h
    | none, none, some z, h =>
      cases z <;> first | (cases h; done) | skip
      rename_i o w q
      cases o <;> first | (cases h; done) | skip
      cases w <;> first | (cases h; done) | skip
      rename_i c k q2
      cases c <;> first | (cases h; done) | skip
      rename_i j
      have h : (decide (j = 1) && chkE T.nm N sc so a x) = true := h
      cases dec (band h).1
      exact Snd.plain g.hK rfl (s_rev g (sndE tb a sc so X W g x (band h).2).pe)
  | .call k es, sc, so, X, W, g, x, h => by
    cases x <;> first | (cases h; done) | skip
    rename_i f xs ks p
    cases f <;> first | (cases h; done) | skip
    rename_i v p'
    cases ks with
    | cons _ _ => cases h
    | nil =>
    have h : ((kwOf T.nm k).isNone && decide (T.nm.fns[k]? = some v) && !isM v && isGl sc v && noDbg v && chkEs T.nm N sc so es xs) = true := h
    obtain ⟨h, h4⟩ := band h
    obtain ⟨h, h3⟩ := band h
    obtain ⟨h, h2⟩ := band h
    obtain ⟨h, h1⟩ := band h
    obtain ⟨h, h0⟩ := band h
    obtain ⟨r1, r2, r3⟩ := sndEs tb es sc so X W g xs h4
    exact Snd.plain g.hK rfl (s_call g tb (dec h0) (by simpa using h1) (Option.isNone_iff_eq_none.mp h) h2 h3 r2 r3 r1)
  | .fnc k, sc, so, X, W, g, x, h => by
    cases x <;> first | (cases h; done) | skip
    rename_i v p
    have h : (decide (T.nm.fns[k]? = some v) && !isM v && isGl sc v && noDbg v) = true := h
    obtain ⟨h, h4⟩ := band h
    obtain ⟨h, h3⟩ := band h
    exact Snd.plain g.hK rfl (s_fnc g tb (dec (band h).1) (by simpa using (band h).2) h3 h4)
  | .callV i es, sc, so, X, W, g, x, h => by
    have h : (match callNm x with
      | some (v, y :: ys, []) => decide (N[i]? = some v) && isVis sc v && noDbg v && chkEs T.nm N sc so es (y :: ys)
      | _ => false) = true := h
    split at h
    case h_2 => cases h
    rename_i v y ys hx
    obtain ⟨p, pos, rfl⟩ := callNm_0 hx
    have h1 := h
    obtain ⟨h1, h7⟩ := band h1
    obtain ⟨h1, h6⟩ := band h1
    have h0 := dec (band h1).1
    have h3 := (band h1).2
    clear h h1
    obtain ⟨r1, r2, r3⟩ := sndEs tb es sc so X W g (y :: ys) h7
    rw [List.all_cons, Bool.and_eq_true] at r2
    exact Snd.plain g.hK rfl (s_callV g tb h0 h3 h6 r2.1 r2.2 r1)
  | .callD k es d, sc, so, X, W, g, x, h => by
    have h : (match callNm x with
      | some (v, y :: ys, []) => decide ((kwOf T.nm k).map (·.2) = some d) && decide (T.nm.fns[k]? = some v) && !isM v && isGl sc v && noDbg v && chkEs T.nm N sc so es (y :: ys)
      | _ => false) = true := h
    split at h
    case h_2 => cases h
    rename_i v y ys hx
    obtain ⟨p, pos, rfl⟩ := callNm_0 hx
    have h1 := h
    obtain ⟨h1, h7⟩ := band h1
    obtain ⟨h1, h6⟩ := band h1
    obtain ⟨h1, h5⟩ := band h1
    obtain ⟨h1, h4⟩ := band h1
    have h0 := dec (band h1).1
    have h3 := dec (band h1).2
    clear h h1
    obtain ⟨r1, r2, r3⟩ := sndEs tb es sc so X W g (y :: ys) h7
    rw [List.all_cons, Bool.and_eq_true] at r2
    exact Snd.plain g.hK rfl (s_callD g tb h0 h3 (by simpa using h4) h5 h6 r2.1 r2.2 r1)
  | .fld o f, sc, so, X, W, g, x, h => by
    cases x <;> first | (cases h; done) | skip
    rename_i y f' p
    have h : (decide (f = f') && okX y && chkE T.nm N sc so o y) = true := h
    obtain ⟨h, h3⟩ := band h
    cases dec (band h).1
    exact Snd.plain g.hK rfl (s_fld g tb (band h).2 (sndE tb o sc so X W g y h3).pe)
  | .mcall mt w o es, sc, so, X, W, g, x, h => by
    cases x <;> first | (cases h; done) | skip
    rename_i f xs ks p
    cases f <;> first | (cases h; done) | skip
    rename_i y f' p'
    cases ks with
    | cons _ _ => cases h
    | nil =>
    have h : (decide (mt = f') && decide (p'.endLine = p.line) && decide (xs.length < 30) && okX y && chkE T.nm N sc so o y && chkEs T.nm N sc so es xs) = true := h
    obtain ⟨h, h6⟩ := band h
    obtain ⟨h, h5⟩ := band h
    obtain ⟨h, h4⟩ := band h
    obtain ⟨h, h3⟩ := band h
    obtain ⟨h1, h2⟩ := band h
    cases dec h1
    obtain ⟨r1, r2, r3⟩ := sndEs tb es sc so X W g xs h6
    exact Snd.plain g.hK rfl (s_mcall g tb (dec h2) (dec h3) h4 r2 r3 (sndE tb o sc so X W g y h5).pe r1)
  | .get a b c, sc, so, X, W, g, x, h => by
    obtain ⟨y, f, p1, z, u, p2, rfl, h⟩ := get_of h
    obtain ⟨h, h8⟩ := band h
    obtain ⟨h, h7⟩ := band h
    obtain ⟨h, h6⟩ := band h
    obtain ⟨h, h5⟩ := band h
    obtain ⟨h, h4⟩ := band h
    obtain ⟨h, h3⟩ := band h
    exact Snd.plain g.hK rfl (s_get g (dec (band h).1) (dec (band h).2) h3 h4 h5 (sndE tb a sc so X W g y h6).pe (sndE tb b sc so X W g z h7).pe (sndE tb c sc so X W g u h8).pe)
  | .upd a b, sc, so, X, W, g, x, h => by
    obtain ⟨y, f, p1, z, p2, rfl, h⟩ := upd_of h
    obtain ⟨h, h6⟩ := band h
    obtain ⟨h, h5⟩ := band h
    obtain ⟨h, h4⟩ := band h
    obtain ⟨h, h3⟩ := band h
    exact Snd.plain g.hK rfl (s_upd g (dec (band h).1) (dec (band h).2) h3 h4 (sndE tb a sc so X W g y h5).pe (sndE tb b sc so X W g z h6).pe)
  | .dctT0, sc, so, X, W, g, x, h => by
    cases x <;> first | (cases h; done) | skip
    rename_i ks vs p
    cases ks <;> cases vs <;> first | (cases h; done) | skip
    exact Snd.plain g.hK rfl (s_dctT0 g)
  | .dtd1 a b, sc, so, X, W, g, x, h => by
    obtain ⟨y, z, p, rfl, h⟩ := dtd1_of h
    exact Snd.plain g.hK rfl (s_dtd1 g (sndE tb a sc so X W g y (band h).1).pe (sndE tb b sc so X W g z (band h).2).pe)
  | .dtd2 a b a2 b2, sc, so, X, W, g, x, h => by
    obtain ⟨y, z, y2, z2, p, rfl, h⟩ := dtd2_of h
    obtain ⟨h, h4⟩ := band h
    obtain ⟨h, h3⟩ := band h
    exact Snd.plain g.hK rfl (s_dtd2 g (sndE tb a sc so X W g y (band h).1).pe (sndE tb b sc so X W g z (band h).2).pe (sndE tb a2 sc so X W g y2 h3).pe (sndE tb b2 sc so X W g z2 h4).pe)
  | .dss2 k k2 a b, sc, so, X, W, g, x, h => by
    obtain ⟨u, j1, q1, w, j2, q2, y, z, p, rfl, h⟩ := dss2_of h
    obtain ⟨h, h4⟩ := band h
    obtain ⟨h, h3⟩ := band h
    cases dec (band h).1
    cases dec (band h).2
    exact Snd.plain g.hK rfl (s_dss2 g (sndE tb a sc so X W g y h3).pe (sndE tb b sc so X W g z h4).pe)
  | .isiO a c, sc, so, X, W, g, x, h => by
    obtain ⟨v, p, y, u, p', p2, rfl, h⟩ := isiO_of h
    obtain ⟨h, h7⟩ := band h
    obtain ⟨h, h6⟩ := band h
    obtain ⟨h, h5⟩ := band h
    obtain ⟨h, h4⟩ := band h
    obtain ⟨h, h3⟩ := band h
    exact Snd.plain g.hK rfl (s_isiO g tb (dec (band h).1) (band h).2 (dec h3) h4 h5 h6 (sndE tb a sc so X W g y h7).pe)
  | .lenO a, sc, so, X, W, g, x, h => by
    obtain ⟨v, p, y, p2, rfl, h⟩ := lenO_of h
    obtain ⟨h, h4⟩ := band h
    obtain ⟨h, h3⟩ := band h
    exact Snd.plain g.hK rfl (s_lenO g tb (dec (band h).1) (band h).2 h3 (sndE tb a sc so X W g y h4).pe)
  | .eqO ne a b, sc, so, X, W, g, x, h => by
    obtain ⟨y, o, z, p, rfl, h⟩ := eqO_of h
    obtain ⟨h, h4⟩ := band h
    obtain ⟨h, h3⟩ := band h
    exact s_eqO g tb (band h).2 (band h).1 (sndE tb a sc so X W g y h3).pe (sndE tb b sc so X W g z h4).pe
  | .mx a b, sc, so, X, W, g, x, h => by
    obtain ⟨v, p, y, z, p2, rfl, h⟩ := mx_of h
    obtain ⟨h, h6⟩ := band h
    obtain ⟨h, h5⟩ := band h
    obtain ⟨h, h4⟩ := band h
    obtain ⟨h, h3⟩ := band h
    exact Snd.plain g.hK rfl (s_mx g tb (dec (band h).1) (band h).2 h3 h4 (sndE tb a sc so X W g y h5).pe (sndE tb b sc so X W g z h6).pe)
  | .new c es, sc, so, X, W, g, x, h => by
    cases x <;> first | (cases h; done) | skip
    rename_i f xs ks p
    cases f <;> first | (cases h; done) | skip
    rename_i v p'
    cases ks with
    | cons _ _ => cases h
    | nil =>
    have h : (decide (T.nm.kns[c]? = some v) && isGl sc v && noDbg v && chkEs T.nm N sc so es xs) = true := h
    obtain ⟨h, h4⟩ := band h
    obtain ⟨h, h3⟩ := band h
    obtain ⟨r1, r2, r3⟩ := sndEs tb es sc so X W g xs h4
    exact Snd.plain g.hK rfl (s_new g tb (dec (band h).1) (band h).2 h3 r2 r3 r1)
  | .bf new f a, sc, so, X, W, g, x, h => by
    cases x <;> first | (cases h; done) | skip
    rename_i f' xs ks p
    cases f' <;> first | (cases h; done) | skip
    rename_i v p'
    match xs, ks, h with
    | [y], [], h =>
      have h : (decide (v = bfNm f) && bltN T.nm sc v && okX y && chkE T.nm N sc so a y) = true := h
      obtain ⟨h, h4⟩ := band h
      obtain ⟨h, h3⟩ := band h
      exact Snd.plain g.hK rfl (s_bf g tb (dec (band h).1) (band h).2 h3 (sndE tb a sc so X W g y h4).pe)
    | [], _, h => cases h
    | [_], _ :: _, h => cases h
    | _ :: _ :: _, _, h => cases h
  | .isi a t, sc, so, X, W, g, x, h => by
    cases x <;> first | (cases h; done) | skip
    rename_i f xs ks p
    cases f <;> first | (cases h; done) | skip
    rename_i v p'
    match xs, ks, h with
    | [y, z], [], h =>
      cases z <;> first | (cases h; done) | skip
      rename_i u q
      have h : (decide (v = "isinstance") && bltN T.nm sc v && decide (u = tyNm t) && bltN T.nm sc u && okX y && chkE T.nm N sc so a y) = true := h
      obtain ⟨h, h6⟩ := band h
      obtain ⟨h, h5⟩ := band h
      obtain ⟨h, h4⟩ := band h
      obtain ⟨h, h3⟩ := band h
      exact Snd.plain g.hK rfl (s_isi g tb (dec (band h).1) (band h).2 (dec h3) h4 h5 (sndE tb a sc so X W g y h6).pe)
    | [], _, h => cases h
    | [_], _, h => cases h
    | [_, z], _ :: _, h => cases z <;> cases h
    | _ :: z :: _ :: _, ks, h => cases z <;> first | (cases h; done) | (cases ks <;> cases h)
  | .lrng1 new e, sc, so, X, W, g, x, h => by
    cases x <;> first | (cases h; done) | skip
    rename_i f xs ks p
    cases f <;> first | (cases h; done) | skip
    rename_i v p'
    match xs, ks, h with
    | [w], [], h =>
      have h : (match rngArgs w with
        | some (u, [y]) => decide (v = "list") && bltN T.nm sc v && decide (u = "range") && bltN T.nm sc u && okX y && chkE T.nm N sc so e y
        | _ => false) = true := h
      split at h
      · rename_i u y hr
        obtain ⟨p2, q2, rfl⟩ := rngArgs_eq hr
        obtain ⟨h, h6⟩ := band h
        obtain ⟨h, h5⟩ := band h
        obtain ⟨h, h4⟩ := band h
        obtain ⟨h, h3⟩ := band h
        exact Snd.plain g.hK rfl (s_lrng1 g tb (dec (band h).1) (band h).2 (dec h3) h4 h5 (sndE tb e sc so X W g y h6).pe)
      · cases h
    | [], _, h => cases h
    | [_], _ :: _, h => cases h
    | _ :: _ :: _, _, h => cases h
  | .lrng2 new e f, sc, so, X, W, g, x, h => by
    cases x <;> first | (cases h; done) | skip
    rename_i f' xs ks p
    cases f' <;> first | (cases h; done) | skip
    rename_i v p'
    match xs, ks, h with
    | [w], [], h =>
      have h : (match rngArgs w with
        | some (u, [y, z]) => decide (v = "list") && bltN T.nm sc v && decide (u = "range") && bltN T.nm sc u && okX y && okX z && chkE T.nm N sc so e y && chkE T.nm N sc so f z
        | _ => false) = true := h
      split at h
      · rename_i u y z hr
        obtain ⟨p2, q2, rfl⟩ := rngArgs_eq hr
        obtain ⟨h, h8⟩ := band h
        obtain ⟨h, h7⟩ := band h
        obtain ⟨h, h6⟩ := band h
        obtain ⟨h, h5⟩ := band h
        obtain ⟨h, h4⟩ := band h
        obtain ⟨h, h3⟩ := band h
        exact Snd.plain g.hK rfl (s_lrng2 g tb (dec (band h).1) (band h).2 (dec h3) h4 h5 h6 (sndE tb e sc so X W g y h7).pe (sndE tb f sc so X W g z h8).pe)
      · cases h
    | [], _, h => cases h
    | [_], _ :: _, h => cases h
    | _ :: _ :: _, _, h => cases h
  | .mth0 mt o, sc, so, X, W, g, x, h => by
    cases x <;> first | (cases h; done) | skip
    rename_i f xs ks p
    cases f <;> first | (cases h; done) | skip
    rename_i y v p'
    match xs, ks, h with
    | [], [], h =>
      have h : (decide (v = mtNm mt) && decide (p'.endLine = p.line) && okX y && chkE T.nm N sc so o y) = true := h
      obtain ⟨h, h4⟩ := band h
      obtain ⟨h, h3⟩ := band h
      exact Snd.plain g.hK rfl (s_mth0 g (dec (band h).1) (dec (band h).2) h3 (sndE tb o sc so X W g y h4).pe)
    | _ :: _, _, h => cases h
    | [], _ :: _, h => cases h
  | .mth1 mt o a, sc, so, X, W, g, x, h => by
    cases x <;> first | (cases h; done) | skip
    rename_i f xs ks p
    cases f <;> first | (cases h; done) | skip
    rename_i y v p'
    match xs, ks, h with
    | [z], [], h =>
      have h : (decide (v = mtNm mt) && decide (p'.endLine = p.line) && okX y && okX z && chkE T.nm N sc so o y && chkE T.nm N sc so a z) = true := h
      obtain ⟨h, h6⟩ := band h
      obtain ⟨h, h5⟩ := band h
      obtain ⟨h, h4⟩ := band h
      obtain ⟨h, h3⟩ := band h
      exact Snd.plain g.hK rfl (s_mth1 g (dec (band h).1) (dec (band h).2) h3 h4 (sndE tb o sc so X W g y h5).pe (sndE tb a sc so X W g z h6).pe)
    | [], _, h => cases h
    | [_], _ :: _, h => cases h
    | _ :: _ :: _, _, h => cases h
  | .comp new own elt t it ifs, sc, so, X, W, g, x, h => by
    cases x <;> first | (cases h; done) | skip
    rename_i ex gens scope p
    have h : (match gens1 gens with
      | some (tg, iter, ifx) => blkC N sc scope (ownP N own) && okX iter && t.slots.all own.contains && chkT N scope t tg && chkI T.nm N sc so it tg iter && chkW T.nm N (relS scope sc) scope ifs ifx && chkE T.nm N (relS scope sc) scope elt ex
      | none => false) = true := h
    split at h
    · rename_i tg iter ifx hg
      cases gens1_eq hg
      obtain ⟨h, h7⟩ := band h
      obtain ⟨h, h6⟩ := band h
      obtain ⟨h, h5⟩ := band h
      obtain ⟨h, h4⟩ := band h
      obtain ⟨h, h3⟩ := band h
      exact Snd.plain g.hK rfl (s_comp g (band h).1 (band h).2 h3 h4 (sndI tb it sc so X W g tg iter h5) (fun s H C cl fp => sndW tb ifs _ _ _ _ (g.blk s H scope C cl fp) ifx h6) (fun s H C cl fp => (sndE tb elt _ _ _ _ (g.blk s H scope C cl fp) ex h7).pe))
    · cases h
  | .comp2 new own elt t1 i1 t2 i2, sc, so, X, W, g, x, h => by
    cases x <;> first | (cases h; done) | skip
    rename_i ex gens scope p
    have h : (match gens2 gens with
      | some (tg, iter, tg2, iter2) => blkC N sc scope (ownP N own) && okX iter && okX iter2 && t1.slots.all own.contains && t2.slots.all own.contains && chkT N scope t1 tg && chkT N scope t2 tg2 && chkI T.nm N sc so i1 tg iter && chkI T.nm N (relS scope sc) scope i2 tg2 iter2 && chkE T.nm N (relS scope sc) scope elt ex
      | none => false) = true := h
    split at h
    · rename_i tg iter tg2 iter2 hg
      cases gens2_eq hg
      obtain ⟨h, h10⟩ := band h
      obtain ⟨h, h9⟩ := band h
      obtain ⟨h, h8⟩ := band h
      obtain ⟨h, h7⟩ := band h
      obtain ⟨h, h6⟩ := band h
      obtain ⟨h, h5⟩ := band h
      obtain ⟨h, h4⟩ := band h
      obtain ⟨h, h3⟩ := band h
      exact Snd.plain g.hK rfl (s_comp2 g (band h).1 (band h).2 h3 h4 h5 h6 h7 (sndI tb i1 sc so X W g tg iter h8) (fun s H C cl fp => sndI tb i2 _ _ _ _ (g.blk s H scope C cl fp) tg2 iter2 h9) (fun s H C cl fp => (sndE tb elt _ _ _ _ (g.blk s H scope C cl fp) ex h10).pe))
    · cases h
  | .compN new own elt .nil, sc, so, X, W, g, x, h => by
    cases x <;> cases h
  | .compN new own elt (.cons t it ifs cs), sc, so, X, W, g, x, h => by
    cases x <;> first | (cases h; done) | skip
    rename_i ex gens scope p
    match gens, h with
    | [], h => cases h
    | ⟨tg, iter, ifx, k⟩ :: gs, h =>
      have h : (decide (k = 0) && blkC N sc scope (ownP N own) && okX iter && t.slots.all own.contains && cs.slots.all own.contains && chkT N scope t tg && chkI T.nm N sc so it tg iter && chkW T.nm N (relS scope sc) scope ifs ifx && chkCs T.nm N (relS scope sc) scope cs gs && chkE T.nm N (relS scope sc) scope elt ex) = true := h
      obtain ⟨h, h10⟩ := band h
      obtain ⟨h, h9⟩ := band h
      obtain ⟨h, h8⟩ := band h
      obtain ⟨h, h7⟩ := band h
      obtain ⟨h, h6⟩ := band h
      obtain ⟨h, h5⟩ := band h
      obtain ⟨h, h4⟩ := band h
      obtain ⟨h, h3⟩ := band h
      cases dec (band h).1
      exact Snd.plain g.hK rfl (s_compN g (band h).2 h3 h4 h5 h6 h9 (sndI tb it sc so X W g tg iter h7) (fun s H C cl fp => sndW tb ifs _ _ _ _ (g.blk s H scope C cl fp) ifx h8) (fun c hc s H C cl fp => sndCs tb cs _ _ _ (g.blk s H scope C cl fp) gs h9 c hc) (fun s H C cl fp => (sndE tb elt _ _ _ _ (g.blk s H scope C cl fp) ex h10).pe))
theorem sndCs {T : Tb} (tb : TbOk T n call) : ∀ (cs : Cs) (sc so : Scope) (X : Cx) (g : Good T n N sc so X W0) (gs : List Comprehension), chkCs T.nm N sc so cs gs = true → ∀ c ∈ List.zipWith (clOf T.toAd W0) (cfOf T call cs) gs, ClOk X c
  | .nil, sc, so, X, g, gs, h, c, hc => by cases hc
  | .cons t it ifs cs, sc, so, X, g, gs, h, c, hc => by
    match gs, h, hc with
    | [], h, hc => cases h
    | ⟨tg, iter, ifx, k⟩ :: gs, h, hc =>
      have h : (decide (k = 0) && okX iter && chkT N so t tg && chkI T.nm N sc so it tg iter && chkW T.nm N sc so ifs ifx && chkCs T.nm N sc so cs gs) = true := h
      obtain ⟨h, h6⟩ := band h
      obtain ⟨h, h5⟩ := band h
      obtain ⟨h, h4⟩ := band h
      obtain ⟨h, h3⟩ := band h
      rcases List.mem_cons.mp hc with hc | hc
      · subst hc
        exact ⟨sndI tb it sc so X W0 g tg iter h4, sndT g t tg h3, sndW tb ifs sc so X W0 g ifx h5, fun env x => fold_of (band h).2 env x⟩
      · exact sndCs tb cs sc so X g gs h6 c hc
theorem sndEs {T : Tb} (tb : TbOk T n call) : ∀ (es : Es) (sc so : Scope) (X : Cx) (W : WX) (g : Good T n N sc so X W) (xs : List Expr), chkEs T.nm N sc so es xs = true → PA X xs (tA T.toAd W (sEs T call es)) ∧ xs.all okX = true ∧ (xs = [] → es = .nil)
  | .nil, sc, so, X, W, g, xs, h => by
    cases xs with
    | nil => exact ⟨PA.nil g, rfl, fun _ => rfl⟩
    | cons _ _ => cases h
  | .cons e es, sc, so, X, W, g, xs, h => by
    cases xs with
    | nil => cases h
    | cons x xs =>
      have h : (okX x && chkE T.nm N sc so e x && chkEs T.nm N sc so es xs) = true := h
      obtain ⟨h, h3⟩ := band h
      obtain ⟨r1, r2, _⟩ := sndEs tb es sc so X W g xs h3
      exact ⟨PA.cons (sndE tb e sc so X W g x (band h).2).pe r1 (band h).1, by rw [List.all_cons, (band h).1, r2]; rfl, fun z => (by cases z)⟩
theorem sndW {T : Tb} (tb : TbOk T n call) : ∀ (es : Es) (sc so : Scope) (X : Cx) (W : WX) (g : Good T n N sc so X W) (xs : List Expr), chkW T.nm N sc so es xs = true → PTs X xs (tB T.toAd W fun env S => Es.tst call T.G es env S)
  | .nil, sc, so, X, W, g, xs, h => by
    cases xs with
    | nil => exact pts_ok
    | cons _ _ => cases h
  | .cons e es, sc, so, X, W, g, xs, h => by
    match es, xs, h with
    | .nil, [x], h =>
      have h : (noIf x && chkE T.nm N sc so e x) = true := h
      exact pts_one ((sndE tb e sc so X W g x (band h).2).pt (band h).1)
    | .nil, [], h => cases h
    | .nil, _ :: _ :: _, h => cases h
    | .cons _ _, _, h => cases h
theorem sndI {T : Tb} (tb : TbOk T n call) : ∀ (i : I) (sc so : Scope) (X : Cx) (W : WX) (g : Good T n N sc so X W) (tg x : Expr), chkI T.nm N sc so i tg x = true → PI X tg x (tI T.toAd W (sI T call i))
  | .seq e, sc, so, X, W, g, tg, x, h => i_seq g (sndE tb e sc so X W g x h).pe
  | .rng es, sc, so, X, W, g, tg, x, h => by
    cases x <;> first | (cases h; done) | skip
    rename_i f xs ks p
    cases f <;> first | (cases h; done) | skip
    rename_i v p'
    cases ks with
    | cons _ _ => cases h
    | nil =>
    have h : (decide (v = "range") && bltN T.nm sc v && few xs && chkEs T.nm N sc so es xs) = true := h
    obtain ⟨h5, h4⟩ := band h
    obtain ⟨h6, h3⟩ := band h5
    obtain ⟨r1, r2, _⟩ := sndEs tb es sc so X W g xs h4
    clear h h5
    have h7 := dec (band h6).1
    have h8 := (band h6).2
    match xs, h3 with
    | [a], _ => exact i_rng1 g tb h7 h8 (by simpa using r2) (chkEs_len h4) r1
    | [a, b], _ =>
      have r2 : okX a = true ∧ okX b = true := by simpa using r2
      exact i_rng2 g tb h7 h8 r2.1 r2.2 (chkEs_len h4) r1
    | [a, b, c], _ =>
      have r2 : okX a = true ∧ okX b = true ∧ okX c = true := by simpa using r2
      exact i_rng3 g tb h7 h8 r2.1 r2.2.1 r2.2.2 (chkEs_len h4) r1
    | [], h => cases h
    | _ :: _ :: _ :: _ :: _, h => cases h
  | .dk a, sc, so, X, W, g, tg, x, h => i_dk g (sndE tb a sc so X W g x h).pe
  | .di a, sc, so, X, W, g, tg, x, h => by
    obtain ⟨y, f, p1, p2, rfl, h1⟩ := di_of h
    obtain ⟨h1, h5⟩ := band h1
    obtain ⟨h1, h4⟩ := band h1
    obtain ⟨h1, h3⟩ := band h1
    have ha := dec (band h1).1
    have hb := dec (band h1).2
    clear h h1
    cases tg <;> first | (cases h3; done) | skip
    exact i_di g ha hb h4 (sndE tb a sc so X W g y h5).pe
  | .enum a, sc, so, X, W, g, tg, x, h => by
    obtain ⟨u, p, y, p2, rfl, h1⟩ := enum_of h
    obtain ⟨h1, h5⟩ := band h1
    obtain ⟨h1, h4⟩ := band h1
    obtain ⟨h1, h3⟩ := band h1
    have ha := dec (band h1).1
    have hb := (band h1).2
    clear h h1
    cases tg <;> first | (cases h3; done) | skip
    exact i_enum g tb ha hb h4 (sndE tb a sc so X W g y h5).pe
  | .enz a b, sc, so, X, W, g, tg, x, h => by
    obtain ⟨u, p1, v, p2, y, z, p3, p4, rfl, h1⟩ := enz_call_of h
    obtain ⟨h1, h7⟩ := band h1
    obtain ⟨h1, h6⟩ := band h1
    obtain ⟨h1, h5⟩ := band h1
    obtain ⟨h1, h4⟩ := band h1
    obtain ⟨h1, h3⟩ := band h1
    obtain ⟨h1, h9⟩ := band h1
    obtain ⟨h1, h8⟩ := band h1
    have ha := dec (band h1).1
    have hb := (band h1).2
    clear h h1
    cases tg <;> first | (cases h3; done) | skip
    exact i_enz g tb ha hb (dec h8) h9 h4 h5 (sndE tb a sc so X W g y h6).pe (sndE tb b sc so X W g z h7).pe
  | .zip a b, sc, so, X, W, g, tg, x, h => by
    cases x <;> first | (cases h; done) | skip
    rename_i f xs ks p
    cases f <;> first | (cases h; done) | skip
    rename_i v p'
    match xs, ks, h with
    | [y, z], [], h =>
      have h1 : (decide (v = "zip") && bltN T.nm sc v && isTup tg && okX y && okX z && chkE T.nm N sc so a y && chkE T.nm N sc so b z) = true := h
      obtain ⟨h1, h7⟩ := band h1
      obtain ⟨h1, h6⟩ := band h1
      obtain ⟨h1, h5⟩ := band h1
      obtain ⟨h1, h4⟩ := band h1
      obtain ⟨h1, h3⟩ := band h1
      have h8 := dec (band h1).1
      have h9 := (band h1).2
      clear h h1
      cases tg <;> first | (cases h3; done) | skip
      exact i_zip g tb h8 h9 h4 h5 (sndE tb a sc so X W g y h6).pe (sndE tb b sc so X W g z h7).pe
    | [], _, h => cases h
    | [_], _, h => cases h
    | [_, _], _ :: _, h => cases h
    | _ :: _ :: _ :: _, _, h => cases h
end
end
end Ev
namespace Ev
open PySem PySem.Spec L2 PyProof.Rows
abbrev Sut := Addr → Value → Option Addr → TS
/-- behind a suite its name is gone -/
def shut (i : Nat) (D : Ends) : Ends := { nx := fun σ1 H1 => D.nx (σ1.set i none) H1, rt := D.rt, bk := fun σ1 H1 => D.bk (σ1.set i none) H1, ct := fun σ1 H1 => D.ct (σ1.set i none) H1 }
def inSut (o : Option Nat) (ts : Sut) (D : Ends) (a : Addr) (cls : Value) (d : Option Addr) (σ : L2.St) (H : Hp) : Prop := match o with
  | none => ts a cls d D σ H
  | some i => ts a cls d (shut i D) (σ.set i (some (.ref a))) H
def wMix (K : PySem.W.Frag) (Wo : WX) (D : Ends) : List (Value × Option Nat × Sut) → WX
  | [] => Wo
  | (c, o, ts) :: r => fun cls d σ H => ∃ b, PySem.W.exmOne K cls c = some b ∧ (b = true → ∀ a, H a = none → inSut o ts D a cls d σ H) ∧ (b = false → wMix K Wo D r cls d σ H)
/-- a handler's name -/
inductive HNm (X : Cx) : Option Str → Option Nat → Prop
  | non : HNm X none none
  | som {i : Nat} {n : Str} (hi : X.N[i]? = some n) (hl : X.env.kindOf n = some .local) : HNm X (some n) (some i)
inductive HdMix (X : Cx) : List ExceptHandler → List (Value × Option Nat × Sut) → Prop
  | nil : HdMix X [] []
  | cons {x : Str} {n : Option Str} {o : Option Nat} {c : Value} {ts : Sut} {b0 : Stmt} {bs : List Stmt} {p1 p2 : Pos} {hs : List ExceptHandler} {l : List (Value × Option Nat × Sut)} (nm : L2.Names X x c) (hn : HNm X n o)
      (su : ∀ (a : Addr) (ob : Obj) (cls : Value) (d : Option Addr) (pn : List (Addr × Obj)), L2N.Zn cls d ob → (∃ vs, ob.data = .fields vs) → PSs (X.suite a ((a, ob) :: pn)) (b0 :: bs) (ts a cls d)) (r : HdMix X hs l) :
      HdMix X (.ExceptHandler (some (.Name x p1)) n (b0 :: bs) p2 :: hs) ((c, o, ts) :: l)
section
variable {X : Cx} {body : List Stmt} {h0 : ExceptHandler} {hs : List ExceptHandler} {l : List (Value × Option Nat × Sut)} {pos : Pos} {tb : WX → TS} {Wo : WX}
theorem ps_try_mix (es : X.stack = X.env :: X.outer) (ef : X.env.frame = some X.env.locals) (nd : X.N.Nodup) (tk : L2N.Takes X Wo)
    (pb : ∀ (W : WX) (pn : List (Addr × Obj)) (xe : Value → Shared → Prop), L2N.Takes (X.tr pn xe) W → PassesOwn (model X.prog X.w) X.A X.env xe → PSs (X.tr pn xe) body (tb W))
    (ph : HdMix X (h0 :: hs) l) : PS X (.Try body (h0 :: hs) [] [] pos) (fun D σ H => tb (wMix X.K Wo D l) D σ H) := by
  refine ⟨fun pins sh σ H D I hq => ?_⟩
  have io := I.ok
  have fr : X.A.frames = some (X.env :: X.outer) := by rw [io.frames, es]
  refine wpAny_Try_except ?_
  refine wpAny_mono ((pb (wMix X.K Wo D l) (X.pn ++ pins) (fun e q => wpAny (model X.prog X.w) X.A (noteFrame e X.env) (fun _ q2 => wpAny (model X.prog X.w) X.A (setFlight e none) (fun _ q3 =>
    wpAny (model X.prog X.w) X.A (handleBy e X.env (h0 :: hs)) (SP X pins D) X.xe q3) X.xe q2) X.xe q) (fun u t air => ?_) PassesOwn.looking).run [] sh σ H D (I.toTry _) hq) (fun f t sp => ?_) (fun e t z => z)
  · obtain ⟨a, B, s0, pins2, σ2, H2, cls, d, rfl, Jt, nb, ups, sky, na, os, ag, w⟩ := air
    have J : Inv X pins σ2 H2 s0 := Jt.ofTry io
    have sky2 : Sky B (X.env :: X.outer) a (L2N.Zn cls d) X.env.locals t.heap := by rw [← es]; exact sky
    show wpAny (model X.prog X.w) X.A (noteFrame (.ref a) X.env) _ _ _
    refine L2N.Sky.land L2N.Zn.steady fr ef sky2 fun g3 fl3 up3 => ?_
    have J3 : Inv X pins σ2 H2 { t with heap := g3 } := J.landed nb fl3.1 (ups.trans up3) os ag
    obtain ⟨o3, v3, at3, z3, d3⟩ := fl3.there
    have noFr : ∀ {g : Heap} {o : Obj} {vs : Array Value}, g.FunFrames B (X.env :: X.outer) → g.get? a = some o → o.data = .fields vs → a ∉ frs (X.env :: X.outer) := fun {g o vs} ff e dd hm => by
      obtain ⟨_, o', e', nf⟩ := ff.mem hm
      rw [e] at e'
      cases e'
      exact nf _ dd
    have nfr := noFr fl3.2.2.1 at3 d3
    have nLoc : a ≠ X.env.locals := fun z => nfr (List.mem_filterMap.mpr ⟨X.env, List.mem_cons_self, by rw [ef, z]⟩)
    have nFs : a ∉ X.fs := fun hm => by
      obtain ⟨e, he, q⟩ := List.mem_filterMap.mp hm
      exact nfr (List.mem_filterMap.mpr ⟨e, List.mem_cons_of_mem _ he, q⟩)
    have U3 := J3.suite at3 d3 na nLoc nFs
    have go : ∀ {ks : List ExceptHandler} {l2 : List (Value × Option Nat × Sut)}, HdMix X ks l2 → wMix X.K Wo D l2 cls d σ2 H2 →
        wpAny (model X.prog X.w) X.A (handleBy (.ref a) X.env ks) (SP X pins D) X.xe { t with heap := g3 } := by
      intro ks l2 hk
      induction hk with
      | nil =>
        intro w
        refine wpAny_handleBy_nil ?_
        obtain ⟨k1, k2, k3, oe, vs, T0, oT, tt, he, hz, hd, h1, hr⟩ := id fl3
        unfold PySem.passOn
        refine wpAny_bind (wpAny_field he hd h1 ?_)
        rw [if_neg (show ¬ ((Value.ref T0 == Value.none) = true) from by simp)]
        have last : wpAny (model X.prog X.w) X.A (setFlight (.ref a) X.env.frame) (fun _ q4 => wpAny (model X.prog X.w) X.A (throw (.ref a) : Sem Flow) (SP X pins D) X.xe q4) X.xe { t with heap := g3 } := by
          rw [ef]
          refine HandSPX.setFlight_upZ fl3 fun g4 hh4 up4 => wpAny_throw (tk _ _ ?_)
          exact ⟨a, B, s0, pins, σ2, H2, cls, d, rfl, J, nb, (ups.trans up3).trans up4, .inr (.inr (by rw [es]; exact hh4)), na, os, ag, w⟩
        first
          | exact wpAny_bind (wpAny_pure (wpAny_bind last))
          | exact wpAny_bind last
      | @cons x n o c ts b0 bs p1 p2 ks2 l3 nm hn su r ih =>
        intro w
        obtain ⟨b, hb1, yes, non⟩ := w
        refine wpAny_handleBy_cons (codeAny_handlers_test ?_) (by intro q; cases q)
        have LT : PySem.W.Looks (model X.prog X.w) g3 (typeOf (.ref a)) cls := fun A Q E s k q => wpAny_typeOf_ref (k _ _ at3) (by rw [z3.1]; exact q)
        have LM := PySem.W.exm_one (M := model X.prog X.w) (J3.kIn) LT hb1
        have tst : ∀ {Q : Value → Shared → Prop} {E : Value → Shared → Prop}, Q c { t with heap := g3 } → wpAny (model X.prog X.w) (X.A.mark (some (.ref a))) (eval (.Name x p1) X.env) Q E { t with heap := g3 } := fun {Q E} q => by
          obtain ⟨hg, db, hm | ⟨hm, hv, hnn⟩⟩ := nm
          · exact ld_glob (X := X.suite a ((a, o3) :: (X.pn ++ pins))) U3 hg hm q db
          · exact ld_blt (X := X.suite a ((a, o3) :: (X.pn ++ pins))) U3 hg hm hv q hnn db
        refine tst (LM.here ?_)
        cases b with
        | false =>
          show wpAny _ X.A (handleBy (.ref a) X.env ks2) _ _ _
          exact ih (non rfl)
        | true =>
          have q := yes rfl a na
          cases hn with
          | non =>
            refine codeAny_handlers_suite ?_
            refine HandSPX.lands_againZ fl3 fun g4 fl4 up4 => ?_
            have J4 : Inv X pins σ2 H2 { t with heap := g4 } := J.landed nb fl4.1 ((ups.trans up3).trans up4) os ag
            obtain ⟨o4, v4, at4, z4, d4⟩ := fl4.there
            have U4 := J4.suite at4 d4 na nLoc nFs
            refine wpAny_mono ((su a o4 cls d (X.pn ++ pins) z4 ⟨_, d4⟩).run [] _ _ H2 _ U4 q) (fun f t6 sp => ?_) (fun _ _ z => False.elim z)
            cases f with
            | next => exact let ⟨σ6, H6, S6, q6⟩ := sp; ⟨_, _, S6.unsuite io, q6⟩
            | brk => exact let ⟨σ6, H6, S6, q6⟩ := sp; ⟨_, _, S6.unsuite io, q6⟩
            | cont => exact let ⟨σ6, H6, S6, q6⟩ := sp; ⟨_, _, S6.unsuite io, q6⟩
            | ret u => exact let ⟨v6, σ6, H6, S6, r6, q6⟩ := sp; ⟨_, _, _, S6.unsuite io, r6, q6⟩
          | @som i n hi hl =>
            refine codeAny_handlers_suite_as ?_
            refine HandSPX.lands_againZ fl3 fun g4 fl4 up4 => ?_
            have J4 : Inv X pins σ2 H2 { t with heap := g4 } := J.landed nb fl4.1 ((ups.trans up3).trans up4) os ag
            obtain ⟨o4, v4, at4, z4, d4⟩ := fl4.there
            have U4 := J4.suite at4 d4 na nLoc nFs
            refine store_ok (X := X.suite a ((a, o4) :: (X.pn ++ pins))) (v := .ref a) U4 nd hi (.inl hl) rfl (fun t5 S5 => ?_) (.inr hl)
            refine wpAny_mono ((su a o4 cls d (X.pn ++ pins) z4 ⟨_, d4⟩).run [] t5 _ H2 _ S5 q) (fun f t6 sp => ?_) (fun _ _ z => False.elim z)
            have off : ∀ {σ6 : L2.St} {H6 : Hp} {Q : Shared → Prop}, Inv (X.suite a ((a, o4) :: (X.pn ++ pins))) [] σ6 H6 t6 → (∀ t7, Inv X pins (σ6.set i none) H6 t7 → Q t7) →
                wpAny (model X.prog X.w) X.A (do bindName X.env n .none; unbindBehindTheSuite X.env n p2) (fun _ t7 => Q t7) X.xe t6 := fun {σ6 H6 Q} S6 hq => gone_ok (S6.unsuite io) nd hi hl hq
            cases f with
            | next => exact let ⟨σ6, H6, S6, q6⟩ := sp; off S6 fun t7 J7 => ⟨_, _, J7, q6⟩
            | brk => exact let ⟨σ6, H6, S6, q6⟩ := sp; off S6 fun t7 J7 => ⟨_, _, J7, q6⟩
            | cont => exact let ⟨σ6, H6, S6, q6⟩ := sp; off S6 fun t7 J7 => ⟨_, _, J7, q6⟩
            | ret u => exact let ⟨v6, σ6, H6, S6, r6, q6⟩ := sp; off S6 fun t7 J7 => ⟨_, _, _, J7, r6, q6⟩
    exact go ph w
  · cases f with
    | next => exact let ⟨σ1, H1, J, q⟩ := sp; wpAny_execs_nil ⟨σ1, H1, J.ofTry io, q⟩
    | brk => exact let ⟨σ1, H1, J, q⟩ := sp; ⟨σ1, H1, J.ofTry io, q⟩
    | cont => exact let ⟨σ1, H1, J, q⟩ := sp; ⟨σ1, H1, J.ofTry io, q⟩
    | ret u => exact let ⟨v, σ1, H1, J, r, q⟩ := sp; ⟨v, σ1, H1, J.ofTry io, r, q⟩
end
end Ev
namespace Ev
open PySem PySem.Spec L2 PyProof.Rows
def noCo : Expr → Bool
  | .ListComp .. => false
  | .SetComp .. => false
  | .DictComp .. => false
  | _ => true
/-- not stored from the right -/
def noTp : Expr → Bool
  | .Tuple .. => false
  | _ => true
def notNm : Expr → Bool
  | .Name .. => false
  | _ => true
/-- not stored from the right, whatever the block -/
def swB (ts : List Expr) : Expr → Bool
  | .Tuple vs _ _ => ts.any notNm || vs.all (foldedForSure 8)
  | _ => true
theorem fm_len {α β : Type} {f : α → Option β} : ∀ {l : List α} {a : α}, a ∈ l → f a = none → (l.filterMap f).length ≠ l.length
  | x :: l, a, h, h0 => by
    have hl := List.length_filterMap_le f l
    rw [List.filterMap_cons]
    cases e : f x with
    | none =>
      simp only [List.length_cons]
      omega
    | some y =>
      rcases List.mem_cons.mp h with rfl | h
      · rw [h0] at e
        cases e
      · have := fm_len h h0
        simp only [List.length_cons]
        omega
theorem swB_no {ts : List Expr} {k : Nat} {p : Pos} {v : Expr} (h : swB ts v = true) (env : PySem.Env) : swappedStores [.Tuple ts k p] v env = pure none := by
  unfold swappedStores
  cases v with
  | Tuple vs k2 p2 =>
    have h : (ts.any notNm || vs.all (foldedForSure 8)) = true := h
    simp only
    split
    · rfl
    · split
      · rfl
      · split
        · rfl
        · rename_i hn
          split
          · rfl
          · rename_i hf
            rw [Bool.or_eq_true] at h
            rcases h with h | h
            · obtain ⟨t, ht, hb⟩ := List.any_eq_true.mp h
              exfalso
              apply hn
              rw [Bool.or_eq_true]
              left
              rw [bne_iff_ne]
              refine fm_len ht ?_
              cases t <;> first | rfl | cases hb
            · exact (hf h).elim
  | _ => rfl
/-- two names at once -/
def parT : List Expr → Option (Str × Str)
  | [.Tuple [.Name x p, .Name y q] _ _] => if p.line == q.line then some (x, y) else none
  | _ => none
def parV : Expr → Option (Expr × Expr)
  | .Tuple [a, b] _ _ => some (a, b)
  | _ => none
theorem parT_eq {ts : List Expr} {x y : Str} (h : parT ts = some (x, y)) : ∃ p q k r, ts = [.Tuple [.Name x p, .Name y q] k r] ∧ (p.line == q.line) = true := by
  unfold parT at h
  split at h
  · split at h
    · cases h
      exact ⟨_, _, _, _, rfl, by assumption⟩
    · cases h
  · cases h
theorem parV_eq {v a b : Expr} (h : parV v = some (a, b)) : ∃ k p, v = .Tuple [a, b] k p := by
  unfold parV at h
  split at h
  · cases h
    exact ⟨_, _, rfl⟩
  · cases h
theorem sw_two {x y : Str} {p q r pt2 : Pos} {kt k2 : Nat} {a b : Expr} {env : PySem.Env} (hb : env.blockKind = .function) (hx : env.kindOf x = some .local) (hy : env.kindOf y = some .local) (hl : (p.line == q.line) = true) (hne : x ≠ y) (ha : okX a = true) (hb' : okX b = true)
    (h1 : ([a, b].all (foldedForSure 8)) = false) (h2 : ([a, b].all (constantsAlone 8)) = false) : swappedStores [.Tuple [.Name x p, .Name y q] kt r] (.Tuple [a, b] k2 pt2) env = pure (some [x, y]) := by
  have e1 : p.line = q.line := beq_iff_eq.mp hl
  have hnx : (x == y) = false := beq_eq_false_iff_ne.mpr hne
  have hnx2 : (y == x) = false := beq_eq_false_iff_ne.mpr (Ne.symm hne)
  have hd : [x, y].eraseDups.length = 2 := by
    simp [List.eraseDups, List.eraseDupsBy, List.eraseDupsBy.loop, hnx, hnx2]
  unfold swappedStores
  simp only [List.length_cons, List.length_nil, hb, h1, h2, Expr.pos, List.head?_cons, Option.map_some, Option.getD_some, List.filterMap_cons, List.filterMap_nil, hx, hy, e1, hd]
  simp [hd]
  intro h
  exfalso
  rcases h with h | h
  · cases a <;> first | (cases ha; done) | (cases h; done)
  · cases b <;> first | (cases hb'; done) | (cases h; done)
def txt1 : List Expr → Bool
  | [.Constant (.str _) _ _] => true
  | _ => false
def nameT : List Expr → Option Str
  | [.Name x _] => some x
  | _ => none
def tupT : List Expr → Option (List Expr × Nat × Pos)
  | [.Tuple es k p] => some (es, k, p)
  | _ => none
def subT : List Expr → Option (Expr × Expr)
  | [.Subscript x y _] => some (x, y)
  | _ => none
def attT : List Expr → Option (Expr × Str)
  | [.Attribute x f _] => some (x, f)
  | _ => none
theorem attT_eq {ts : List Expr} {x : Expr} {f : Str} (h : attT ts = some (x, f)) : ∃ p, ts = [.Attribute x f p] := by
  unfold attT at h
  split at h
  · cases h
    exact ⟨_, rfl⟩
  · cases h
def rseT : Option Expr → Option Expr → Option (Str × List Expr)
  | some (.Call (.Name x _) as [] _), none => some (x, as)
  | _, _ => none
def isDoc : Expr → Bool
  | .Constant (.str _) _ _ => true
  | _ => false
theorem nameT_eq {ts : List Expr} {x : Str} (h : nameT ts = some x) : ∃ p, ts = [.Name x p] := by
  unfold nameT at h
  split at h
  · cases h
    exact ⟨_, rfl⟩
  · cases h
theorem tupT_eq {ts es : List Expr} {k : Nat} {p : Pos} (h : tupT ts = some (es, k, p)) : ts = [.Tuple es k p] := by
  unfold tupT at h
  split at h
  · cases h
    rfl
  · cases h
theorem subT_eq {ts : List Expr} {x y : Expr} (h : subT ts = some (x, y)) : ∃ p, ts = [.Subscript x y p] := by
  unfold subT at h
  split at h
  · cases h
    exact ⟨_, rfl⟩
  · cases h
theorem rseT_eq {e c : Option Expr} {x : Str} {as : List Expr} (h : rseT e c = some (x, as)) : ∃ p q, e = some (.Call (.Name x p) as [] q) ∧ c = none := by
  unfold rseT at h
  split at h
  · cases h
    exact ⟨_, _, rfl, rfl⟩
  · cases h
theorem isDoc_eq {x : Expr} (h : isDoc x = true) : ∃ s j p, x = .Constant (.str s) j p := by
  unfold isDoc at h
  split at h
  · exact ⟨_, _, _, rfl⟩
  · cases h
def attE : Expr → Option (Expr × Str)
  | .Attribute x f _ => some (x, f)
  | _ => none
theorem attE_eq {e x : Expr} {f : Str} (h : attE e = some (x, f)) : ∃ p, e = .Attribute x f p := by
  cases e <;> cases h
  exact ⟨_, rfl⟩
def nmE : Expr → Option Str
  | .Name x _ => some x
  | _ => none
theorem nmE_eq {e : Expr} {x : Str} (h : nmE e = some x) : ∃ p, e = .Name x p := by
  cases e <;> cases h
  exact ⟨_, rfl⟩
def atsT : List Expr → Option (Expr × Str × Expr × Str)
  | [.Tuple [.Attribute x f _, .Attribute y g _] _ _] => some (x, f, y, g)
  | _ => none
theorem atsT_eq {ts : List Expr} {x y : Expr} {f g : Str} (h : atsT ts = some (x, f, y, g)) : ∃ p q k r, ts = [.Tuple [.Attribute x f p, .Attribute y g q] k r] := by
  unfold atsT at h
  split at h
  · cases h
    exact ⟨_, _, _, _, rfl⟩
  · cases h
def starT : List Expr → Option (Str × Str)
  | [.Tuple [.Name x _, .Starred (.Name y _) _] _ _] => some (x, y)
  | _ => none
theorem starT_eq {ts : List Expr} {x y : Str} (h : starT ts = some (x, y)) : ∃ p q k r s, ts = [.Tuple [.Name x p, .Starred (.Name y q) r] k s] := by
  unfold starT at h
  split at h
  · cases h
    exact ⟨_, _, _, _, _, rfl⟩
  · cases h
/-- handlers that answer by a constant -/
def retC : List Stmt → Option Const
  | [.Return (some (.Constant c _ _)) _] => some c
  | _ => none
theorem retC_eq {b : List Stmt} {c : Const} (h : retC b = some c) : ∃ j p q, b = [.Return (some (.Constant c j p)) q] := by
  unfold retC at h
  split at h
  · cases h
    exact ⟨_, _, _, rfl⟩
  · cases h
def hdT : ExceptHandler → Option (Str × Const)
  | .ExceptHandler (some (.Name x _)) none b _ => (retC b).map fun c => (x, c)
  | _ => none
theorem hdT_eq {e : ExceptHandler} {x : Str} {c : Const} (h : hdT e = some (x, c)) : ∃ p j p2 q r, e = .ExceptHandler (some (.Name x p)) none [.Return (some (.Constant c j p2)) q] r := by
  unfold hdT at h
  split at h
  · obtain ⟨c', h1, h2⟩ := Option.map_eq_some_iff.mp h
    cases h2
    obtain ⟨j, p, q, rfl⟩ := retC_eq h1
    exact ⟨_, _, _, _, _, rfl⟩
  · cases h
def chkHs (nm : Names) (sc : Scope) : List (Nat × D) → List ExceptHandler → Bool
  | [], [] => true
  | a :: r, e :: s => match hdT e with
    | some (x, c) => decide (nm.cls[a.1]? = some x) && isGl sc x && noDbg x && chkC a.2 c && chkHs nm sc r s
    | none => false
  | _, _ => false
def fldE : Expr → Option (Str × Str)
  | .Attribute (.Name e _) g _ => some (e, g)
  | _ => none
def conE : Expr → Option Const
  | .Constant k _ _ => some k
  | _ => none
def isxE : Expr → Option (Str × Str × List Expr)
  | .Call (.Name i _) [.Name e _, .Tuple es _ _] [] _ => some (i, e, es)
  | _ => none
theorem isxE_eq {x : Expr} {i e : Str} {es : List Expr} (h : isxE x = some (i, e, es)) : ∃ p1 p2 k p3 p4, x = .Call (.Name i p1) [.Name e p2, .Tuple es k p3] [] p4 := by
  unfold isxE at h
  split at h
  · cases h
    exact ⟨_, _, _, _, _, rfl⟩
  · cases h
def chkXs (nm : Names) (sc : Scope) : List Nat → List Expr → Bool
  | [], [] => true
  | c :: r, e :: s => match nmE e with
    | some x => decide (nm.cls[c]? = some x) && isGl sc x && noDbg x && chkXs nm sc r s
    | none => false
  | _, _ => false
def isxA : Atm → Bool
  | .isx _ => true
  | _ => false
def chkAtm (nm : Names) (sc : Scope) (n : Option Str) : Atm → Expr → Bool
  | .con d, x => match conE x with
    | some k => chkC d k
    | none => false
  | .fld f, x => match fldE x with
    | some (e, g) => decide (f = g) && decide (n = some e)
    | none => false
  | .isx cs, x => match isxE x with
    | some (i, e, es) => decide (i = "isinstance") && bltN nm sc i && decide (n = some e) && decide (es.length ≤ 100) && !cs.isEmpty && chkXs nm sc cs es
    | none => false
theorem fldE_eq {x : Expr} {e g : Str} (h : fldE x = some (e, g)) : ∃ p q, x = .Attribute (.Name e p) g q := by
  unfold fldE at h
  split at h
  · cases h
    exact ⟨_, _, rfl⟩
  · cases h
theorem conE_eq {x : Expr} {k : Const} (h : conE x = some k) : ∃ j p, x = .Constant k j p := by
  unfold conE at h
  split at h
  · cases h
    exact ⟨_, _, rfl⟩
  · cases h
def chkAs (nm : Names) (sc : Scope) (n : Option Str) : List Atm → List Expr → Bool
  | [], [] => true
  | a :: r, x :: s => okX x && chkAtm nm sc n a x && (r.isEmpty || !isxA a) && chkAs nm sc n r s
  | _, _ => false
def tupE : Expr → Option (List Expr)
  | .Tuple es _ _ => some es
  | _ => none
def chkHr (nm : Names) (sc : Scope) (n : Option Str) (h : HR) (v : Expr) : Bool :=
  decide (h.as.length ≤ 100) && (if h.tup then (match tupE v with
    | some es => chkAs nm sc n h.as es
    | none => false) else (match h.as with
    | [a] => chkAtm nm sc n a v
    | _ => false))
def nmOk (N : List Str) (sc : Scope) : Option Nat → Option Str → Bool
  | none, none => true
  | some i, some e => decide (N[i]? = some e) && decide (sc.names.lookup e = some .local) && noDbg e
  | _, _ => false
def hrT : ExceptHandler → Option (Str × Option Str × Expr)
  | .ExceptHandler (some (.Name x _)) n [.Return (some v) _] _ => some (x, n, v)
  | _ => none
def chkHM (nm : Names) (N : List Str) (sc : Scope) : List HR → List ExceptHandler → Bool
  | [], [] => true
  | h :: r, e :: s => match hrT e with
    | some (x, n, v) => decide (nm.cls[h.cls]? = some x) && isGl sc x && noDbg x && nmOk N sc h.nm n && chkHr nm sc n h v && chkHM nm N sc r s
    | none => false
  | _, _ => false
section
variable (nm : Names) (N : List Str)
/-- statements without statements within -/
def chkS0 (sc : Scope) (s : Ev.St) (x : Stmt) : Bool := match s with
  | .set i e => (match x with
    | .Assign ts v _ => (match nameT ts with
      | some x => decide (N[i]? = some x) && stO sc x && chkE nm N sc sc e v
      | none => false)
    | _ => false)
  | .asg t e => (match x with
    | .Assign ts v _ => (match tupT ts with
      | some (es, k, p) => swB es v && chkT N sc t (.Tuple es k p) && chkE nm N sc sc e v
      | none => false)
    | _ => false)
  | .par i j a b => (match x with
    | .Assign ts v _ => (match parT ts, parV v with
      | some (x, y), some (u, w) => decide (N[i]? = some x) && decide (N[j]? = some y) && decide (i ≠ j) && decide (x ≠ y) && decide (sc.kind = .function) && decide (sc.names.lookup x = some .local) && decide (sc.names.lookup y = some .local) && okX u && okX w && !([u, w].all (foldedForSure 8)) && !([u, w].all (constantsAlone 8)) && chkE nm N sc sc a u && chkE nm N sc sc b w
      | _, _ => false)
    | _ => false)
  | .put o i e => (match x with
    | .Assign ts v _ => (match subT ts with
      | some (x, y) => noCo v && okX y && chkE nm N sc sc o x && chkE nm N sc sc i y && chkE nm N sc sc e v
      | none => false)
    | _ => false)
  | .fset o f e => (match x with
    | .Assign ts v _ => (match attT ts with
      | some (x, g) => decide (f = g) && noCo v && chkE nm N sc sc o x && chkE nm N sc sc e v
      | none => false)
    | _ => false)
  | .asgF o f g e => (match x with
    | .Assign ts v _ => (match atsT ts with
      | some (x, f', y, g') => decide (f = f') && decide (g = g') && okX x && okX y && noTp v && chkE nm N sc sc o x && chkE nm N sc sc o y && chkE nm N sc sc e v
      | none => false)
    | _ => false)
  | .star i j e => (match x with
    | .Assign ts v _ => (match starT ts with
      | some (x, y) => decide (N[i]? = some x) && decide (N[j]? = some y) && stO sc x && stO sc y && noTp v && chkE nm N sc sc e v
      | none => false)
    | _ => false)
  | .faug o f op e => (match x with
    | .AugAssign tg p v _ => (match attE tg with
      | some (x, g) => decide (f = g) && chkB op p && chkE nm N sc sc o x && chkE nm N sc sc e v
      | none => false)
    | _ => false)
  | .aug i op e => (match x with
    | .AugAssign tg o v _ => (match nmE tg with
      | some x => decide (N[i]? = some x) && stO sc x && chkB op o && chkE nm N sc sc e v
      | none => false)
    | _ => false)
  | .ex e => (match x with
    | .Expr v _ => noCo v && chkE nm N sc sc e v
    | _ => false)
  | .ret e => (match x with
    | .Return (some v) _ => chkE nm N sc sc e v
    | _ => false)
  | .retN => (match x with
    | .Return none _ => true
    | _ => false)
  | .rse k => (match x with
    | .Raise e c _ => (match rseT e c with
      | some (x, as) => decide (nm.cls[k]? = some x) && (nm.xfd.lookup x).isNone && isGl sc x && noDbg x && txt1 as
      | none => false)
    | _ => false)
  | .pas => (match x with
    | .Pass _ => true
    | .Expr v _ => isDoc v
    | _ => false)
  | .brk => (match x with
    | .Break _ => true
    | _ => false)
  | .cnt => (match x with
    | .Continue _ => true
    | _ => false)
  | .nev => true
  | _ => false
mutual
def chkS (sc : Scope) : Ev.St → Stmt → Bool
  | .ite c a b, x => (match x with
    | .If x y z _ => noIf x && chkE nm N sc sc c x && chkSs sc a y && chkSs sc b z
    | _ => false)
  | .whl c b, x => (match x with
    | .While x y z _ => z.isEmpty && noIf x && chkE nm N sc sc c x && chkSs sc b y
    | _ => false)
  | .for t it b, x => (match x with
    | .For tg iter y z _ => z.isEmpty && okX iter && chkT N sc t tg && chkI nm N sc sc it tg iter && chkSs sc b y
    | _ => false)
  | .rseF k f e, x => (match x with
    | .Raise y c _ => (match rseT y c with
      | some (v, [z]) => decide (nm.cls[k]? = some v) && decide (nm.xfd.lookup v = some f) && isGl sc v && noDbg v && okX z && chkE nm N sc sc e z
      | _ => false)
    | _ => false)
  | .tryM b hs, x => (match x with
    | .Try xs hds els fn _ => els.isEmpty && fn.isEmpty && !hs.isEmpty && chkHM nm N sc hs hds && chkSs sc b xs
    | _ => false)
  | .tryH b hs, x => (match x with
    | .Try xs hds els fn _ => els.isEmpty && fn.isEmpty && !hs.isEmpty && chkHs nm sc hs hds && chkSs sc b xs
    | _ => false)
  | s, x => chkS0 nm N sc s x
def chkSs (sc : Scope) : Ev.Ss → List Stmt → Bool
  | .nil, xs => xs.isEmpty
  | .cons s ss, xs => match xs with
    | x :: xs => chkS sc s x && chkSs sc ss xs
    | [] => false
end
end
section
variable {T : Tb} {n : Nat} {N : List Str} {sc : Scope} {X : Cx} {W : WX} {call : Call} {a b c : E} {x y z : Expr} {pos : Pos}
abbrev sS (T : Tb) (call : Call) (s : Ev.St) : Env → Store → SR := fun env S => Ev.St.ev call T.G s env S
abbrev sSs (T : Tb) (call : Call) (s : Ev.Ss) : Env → Store → SR := fun env S => Ev.Ss.ev call T.G s env S
theorem nosw {t : Option Expr} {l : Nat} {env : PySem.Env} (h : noCo x = true) : swapsWith x t l env = pure false := by
  unfold swapsWith
  cases x <;> first | rfl | (cases h)
theorem nosw1 {t : Expr} {l : Nat} {env : PySem.Env} (h : noCo x = true) : swapsWithSole [t] x l env = pure false := nosw h
/-- the end of an expression within a statement -/
theorem stE {T : Ad} {m : Mp} {H : Hp} {σ : L2.St} {S : Store} {env : Env} {f : Env → Store → R D} {g : D → Store → SR} {E : Ends} {Q : VK} (he : REnv T m H env σ) (r : RS T m H S) (h : PostS T ((f env S).st env g) m H W E)
    (next : ∀ dx S1 m1 H1, Ext m H m1 H1 → RS T m1 H1 S1 → PostS T (g dx S1) m1 H1 W E → ∀ v, RD T m1 H1 dx v → Q v H1) : tE T W f σ H Q := seqE he r (PostK.st he h) next
theorem t_set {i : Nat} {v : Str} {p : Pos} (g : Good T n N sc sc X W) (h1 : N[i]? = some v) (h2 : stO sc v = true) (hx : noCo x = true) (ha : PE X x (tE T.toAd W (sE T call a))) : PS X (.Assign [.Name v p] x pos) (tS T.toAd W (sS T call (.set i a))) := by
  obtain ⟨k1, k2⟩ := g.st v (stO_of h2)
  refine psImp (ps_set g.nd (by rw [g.hN]; exact h1) k1 ha (nosw hx) k2) fun E σ H q => ?_
  obtain ⟨env, m, S, he, r, q⟩ := q
  exact stE he r q fun dx S1 m1 H1 x1 r1 q1 w hw => q1 m1 H1 _ Ext.refl r1 ((he.ext x1).set hw)
theorem asg_k {S1 : Store} {o : Option Env} {m1 : Mp} {H1 : Hp} {E : Ends} (q : PostS T.toAd (match o with | some env1 => SR.nx env1 S1 | none => .stuck) m1 H1 W E) : ∃ env1, o = some env1 ∧ ∀ m' H' σ, Ext m1 H1 m' H' → RS T.toAd m' H' S1 → REnv T.toAd m' H' env1 σ → E.nx σ H' := by
  cases o with
  | none => exact q.elim
  | some e => exact ⟨e, rfl, q⟩
theorem nosw1T {ts : List Expr} {k : Nat} {p : Pos} {l : Nat} {env : PySem.Env} : swapsWithSole [.Tuple ts k p] x l env = pure false := by
  show swapsWith x (some (.Tuple ts k p)) l env = pure false
  unfold swapsWith
  cases x <;> rfl
theorem t_asg {t : Ev.T} {ts : List Expr} {k : Nat} {p : Pos} (g : Good T n N sc sc X W) (hx2 : swB ts x = true) (ht : chkT N sc t (.Tuple ts k p) = true) (ha : PE X x (tE T.toAd W (sE T call a))) : PS X (.Assign [.Tuple ts k p] x pos) (tS T.toAd W (sS T call (.asg t a))) := by
  refine psImp (ps_asg ha (sndT g t _ ht) nosw1T (swB_no hx2 _) rfl) fun E σ H q => ?_
  obtain ⟨env, m, S, he, r, q⟩ := q
  refine stE he r q fun dx S1 m1 H1 x1 r1 q1 w hw => ?_
  obtain ⟨env1, e, q1⟩ := asg_k q1
  exact Ev.T.use t dx w env env1 σ _ e hw (he.ext x1) fun σ' he' _ => q1 m1 H1 σ' Ext.refl r1 he'
theorem t_par {i j : Nat} {v1 v2 : Str} {p q r pt2 : Pos} {kt k2 : Nat} (g : Good T n N sc sc X W) (h1 : N[i]? = some v1) (h2 : N[j]? = some v2) (hij : i ≠ j) (hv : v1 ≠ v2) (hf : sc.kind = .function) (l1 : sc.names.lookup v1 = some .local) (l2 : sc.names.lookup v2 = some .local) (hl : (p.line == q.line) = true) (hx : okX x = true) (hy : okX y = true)
    (c1 : ([x, y].all (foldedForSure 8)) = false) (c2 : ([x, y].all (constantsAlone 8)) = false) (ha : PE X x (tE T.toAd W (sE T call a))) (hb : PE X y (tE T.toAd W (sE T call b))) :
    PS X (.Assign [.Tuple [.Name v1 p, .Name v2 q] kt r] (.Tuple [x, y] k2 pt2) pos) (tS T.toAd W (sS T call (.par i j a b))) := by
  have es : X.env.scope = sc := g.scp
  have kb : X.env.blockKind = .function := by
    unfold PySem.Env.blockKind
    rw [es, hf]
    rfl
  have kx : X.env.kindOf v1 = some .local := by
    show X.env.scope.names.lookup v1 = _
    rw [es]
    exact l1
  have ky : X.env.kindOf v2 = some .local := by
    show X.env.scope.names.lookup v2 = _
    rw [es]
    exact l2
  refine psImp (ps_par g.calm g.nd (by rw [g.hN]; exact h1) (by rw [g.hN]; exact h2) hij (by rw [es]; exact l1) (by rw [es]; exact l2) (pa_cons ha (pa_cons hb pa_nil (star_of hy)) (star_of hx)) (sw_two kb kx ky hl hv hx hy c1 c2) rfl) fun E σ H q => ?_
  obtain ⟨env, m, S, he, r, q⟩ := q
  refine stE he r q fun dx S1 m1 H1 x1 r1 q1 w hw => stE (he.ext x1) r1 q1 fun dy S2 m2 H2 x2 r2 q2 u hu => ⟨w, u, rfl, ?_⟩
  exact q2 m2 H2 _ Ext.refl r2 ((((he.ext x1).ext x2).set (RD.ext x2 _ _ hw)).set hu)
theorem t_put {p : Pos} (g : Good T n N sc sc X W) (hx : noCo x = true) (hz : okX z = true) (ho : PE X y (tE T.toAd W (sE T call a))) (hi : PE X z (tE T.toAd W (sE T call b))) (ha : PE X x (tE T.toAd W (sE T call c))) :
    PS X (.Assign [.Subscript y z p] x pos) (tS T.toAd W (sS T call (.put a b c))) := by
  refine psImp (ps_asg ha (pg_sub ho hi (set_any (by have := g.rm.room.un; omega)) fun v => by cases z <;> first | rfl | cases hz) (nosw1 hx) (by cases x <;> rfl) rfl) fun E σ H q => ?_
  obtain ⟨env, m, S, he, r, q⟩ := q
  refine stE he r q fun dv S1 m1 H1 x1 r1 q1 v hv => stE (he.ext x1) r1 q1 fun dx S2 m2 H2 x2 r2 q2 w hw => stE ((he.ext x1).ext x2) r2 q2 fun dy S3 m3 H3 x3 r3 q3 u hu => ?_
  cases e : putV dx dy dv S3 with
  | none =>
    rw [e] at q3
    exact q3.elim
  | some S4 =>
    rw [e] at q3
    show rSetA X.prog X.w X.K _ _ _ _ _
    rw [g.hP, g.hw, g.hK]
    exact put_use r3 (RD.ext x3 _ _ hw) hu (RD.ext (x2.trans x3) _ _ hv) e fun H' x4 r4 => q3 m3 H' σ x4 r4 ((((he.ext x1).ext x2).ext x3).ext x4)
theorem t_fset {f : Str} {p : Pos} (g : Good T n N sc sc X W) (tb : TbOk T n call) (hx : noCo x = true) (ho : PE X y (tE T.toAd W (sE T call a))) (ha : PE X x (tE T.toAd W (sE T call b))) : PS X (.Assign [.Attribute y f p] x pos) (tS T.toAd W (sS T call (.fset a f b))) := by
  refine psImp (ps_fld ho ha (nosw hx)) fun E σ H q => ?_
  obtain ⟨env, m, S, he, r, q⟩ := q
  refine stE he r q fun dv S1 m1 H1 x1 r1 q1 v hv => stE (he.ext x1) r1 q1 fun dx S2 m2 H2 x2 r2 q2 w hw => ?_
  cases e : fsetV T.G f dx dv S2 with
  | none =>
    rw [e] at q2
    exact q2.elim
  | some S4 =>
    rw [e] at q2
    obtain ⟨c, fs, p', q', vs, rfl, e1, e2, e3, e4, x3, r3⟩ := fset_use r2 e hw (RD.ext x2 _ _ hv)
    obtain ⟨k1, k2⟩ := hasFl_of (tb := tb) e2
    rw [← g.hK] at k1 k2
    exact ⟨p', _, q', vs, rfl, e3, k1, k2, e4, q2 m2 _ σ x3 r3 (((he.ext x1).ext x2).ext x3)⟩
def rAug : Bop → TIp
  | .add => ipI fun i j => i + j
  | .sub => ipI fun i j => i - j
  | _ => fun _ _ _ _ => False
theorem aug_ok {X : Cx} (op : Bop) : PIp X (opB op) (rAug op) := by
  cases op with
  | add => exact ip_add
  | sub => exact ip_sub
  | _ => exact fun _ _ _ _ _ _ _ _ _ _ _ _ h => h.elim
theorem aug_use {T : Ad} {m : Mp} {H : Hp} {op : Bop} {dx dy dz : D} {v w : V} {Q : VK} (h : augV op dx dy = some dz) (hv : RD T m H dx v) (hw : RD T m H dy w) (k : ∀ u, RD T m H dz u → Q u H) : rAug op v w H Q := by
  unfold augV at h
  split at h
  · cases h
    exact ⟨_, _, rd_int hv, rd_int hw, k _ rfl⟩
  · cases h
    exact ⟨_, _, rd_int hv, rd_int hw, k _ rfl⟩
  · cases h
theorem t_aug {i : Nat} {v : Str} {p : Pos} {op : Bop} {o : Operator} (g : Good T n N sc sc X W) (h1 : N[i]? = some v) (h2 : stO sc v = true) (ho : chkB op o = true) (ha : PE X x (tE T.toAd W (sE T call a))) : PS X (.AugAssign (.Name v p) o x pos) (tS T.toAd W (sS T call (.aug i op a))) := by
  obtain ⟨k1, k2⟩ := g.st v (stO_of h2)
  cases of_decide_eq_true ho
  refine psImp (ps_aug g.nd (by rw [g.hN]; exact h1) k1 ha (aug_ok op) k2) fun E σ H q => ?_
  obtain ⟨env, m, S, he, r, q⟩ := q
  have q : PostS T.toAd (match env[i]? with | some (some x) => (Ev.E.ev call T.G a env S).st env fun y S => (match augV op x y with | some z => .nx (env.set i (some z)) S | none => .stuck) | _ => .stuck) m H W E := q
  cases e : env[i]? with
  | none =>
    rw [e] at q
    exact q.elim
  | some od =>
    cases od with
    | none =>
      rw [e] at q
      exact q.elim
    | some d =>
      rw [e] at q
      obtain ⟨w, hw1, hw2⟩ := he.at_ i d e
      refine ⟨w, hw1, stE he r q fun dx S1 m1 H1 x1 r1 q1 u hu => ?_⟩
      cases e2 : augV op d dx with
      | none =>
        rw [e2] at q1
        exact q1.elim
      | some dz =>
        rw [e2] at q1
        exact aug_use e2 (RD.ext x1 _ _ hw2) hu fun z hz => q1 m1 H1 _ Ext.refl r1 ((he.ext x1).set hz)
theorem t_ex (g : Good T n N sc sc X W) (hx : noCo x = true) (ha : PE X x (tE T.toAd W (sE T call a))) : PS X (.Expr x pos) (tS T.toAd W (sS T call (.ex a))) := by
  refine psImp (ps_expr ha (nosw hx)) fun E σ H q => ?_
  obtain ⟨env, m, S, he, r, q⟩ := q
  exact stE he r q fun dx S1 m1 H1 x1 r1 q1 w hw => q1 m1 H1 _ Ext.refl r1 (he.ext x1)
theorem t_ret (ha : PE X x (tE T.toAd W (sE T call a))) : PS X (.Return (some x) pos) (tS T.toAd W (sS T call (.ret a))) := by
  refine psImp (ps_ret ha) fun E σ H q => ?_
  obtain ⟨env, m, S, he, r, q⟩ := q
  exact stE he r q fun dx S1 m1 H1 x1 r1 q1 w hw => q1 m1 H1 w Ext.refl r1 hw
theorem t_retN : PS X (.Return none pos) (tS T.toAd W (sS T call .retN)) := by
  refine psImp ps_retN fun E σ H q => ?_
  obtain ⟨env, m, S, he, r, q⟩ := q
  exact q m H .non Ext.refl r rfl
theorem t_pas {st : Stmt} (h : PS X st tNext) : PS X st (tS T.toAd W (sS T call .pas)) := by
  refine psImp h fun E σ H q => ?_
  obtain ⟨env, m, S, he, r, q⟩ := q
  exact q m H σ Ext.refl r he
theorem t_brk : PS X (.Break pos) (tS T.toAd W (sS T call .brk)) := by
  refine psImp ps_break fun E σ H q => ?_
  obtain ⟨env, m, S, he, r, q⟩ := q
  exact q m H σ Ext.refl r he
theorem t_cnt : PS X (.Continue pos) (tS T.toAd W (sS T call .cnt)) := by
  refine psImp ps_continue fun E σ H q => ?_
  obtain ⟨env, m, S, he, r, q⟩ := q
  exact q m H σ Ext.refl r he
theorem t_ite {u v : List Stmt} {p q : Ss} (hx : noIf x = true) (ha : Snd X T.toAd W x (sE T call a)) (hp : PSs X u (tS T.toAd W (sSs T call p))) (hq : PSs X v (tS T.toAd W (sSs T call q))) : PS X (.If x u v pos) (tS T.toAd W (sS T call (.ite a p q))) := by
  refine psImp (ps_if (ha.pt hx) hp hq) fun E σ H z => ?_
  obtain ⟨env, m, S, he, r, z⟩ := z
  refine seqB he r (PostK.st he z) fun k S1 m1 H1 x1 r1 z1 => ?_
  cases k with
  | true => exact ⟨env, m1, S1, he.ext x1, r1, z1⟩
  | false => exact ⟨env, m1, S1, he.ext x1, r1, z1⟩
theorem t_whl {u : List Stmt} {p : Ss} (g : Good T n N sc sc X W) (hx : noIf x = true) (ha : Snd X T.toAd W x (sE T call a)) (hp : PSs X u (tS T.toAd W (sSs T call p))) : PS X (.While x u [] pos) (tS T.toAd W (sS T call (.whl a p))) := by
  refine psImp (ps_while g.po (ha.pt hx) hp) fun E σ H z => ?_
  obtain ⟨env, m, S, he, r, z⟩ := z
  exact whl_use (n := T.G.lim) he r z
theorem t_for {u : List Stmt} {p : Ss} {tg iter : Expr} {t : Ev.T} {it : I} (g : Good T n N sc sc X W) (hx : okX iter = true) (ht : chkT N sc t tg = true) (hI : PI X tg iter (tI T.toAd W (sI T call it))) (hp : PSs X u (tS T.toAd W (sSs T call p))) :
    PS X (.For tg iter u [] pos) (tS T.toAd W (sS T call (.for t it p))) := by
  refine psImp (ps_for g.po g.calm hI (sndT g t tg ht) hp (fold_of hx X.env)) fun E σ H z => ?_
  obtain ⟨env, m, S, he, r, z⟩ := z
  exact for_use he r z
theorem t_rse {k : Nat} {v : Str} {as : List Expr} {p q : Pos} (g : Good T n N sc sc X W) (tb : TbOk T n call) (h1 : T.nm.cls[k]? = some v) (h2 : isGl sc v = true) (h3 : noDbg v = true) (h4 : txt1 as = true) (h5 : T.nm.xfd.lookup v = none) : PS X (.Raise (some (.Call (.Name v p) as [] q)) none pos) (tS T.toAd W (sS T call (.rse k))) := by
  obtain ⟨k1, k2, k3, k4, k5⟩ := tb.cl k v h1
  have k3 := k3 h5
  rw [← g.hmg] at k1
  rw [← g.hK] at k2 k3 k4 k5
  have e : ∃ m j r, as = [.Constant (.str m) j r] := by
    unfold txt1 at h4
    split at h4
    · exact ⟨_, _, _, rfl⟩
    · cases h4
  obtain ⟨ms, j, r, rfl⟩ := e
  refine psImp (L2N.ps_raise g.calm g.tk (L2N.pmk_own PySem.F.excBase_ValueError k3 k1 k2 (raises_own k4 k5) (gl_of g h2) (noDbg_1 h3))) fun E σ H z => ?_
  obtain ⟨env, m, S, he, r, z⟩ := z
  exact z m H σ Ext.refl r he
theorem t_asgF {f f2 : Str} {y2 : Expr} {p q r : Pos} {k : Nat} (g : Good T n N sc sc X W) (tb : TbOk T n call) (hy : okX y = true) (hy2 : okX y2 = true) (hx2 : noTp x = true) (ho : PE X y (tE T.toAd W (sE T call a))) (ho2 : PE X y2 (tE T.toAd W (sE T call a))) (ha : PE X x (tE T.toAd W (sE T call b))) :
    PS X (.Assign [.Tuple [.Attribute y f p, .Attribute y2 f2 q] k r] x pos) (tS T.toAd W (sS T call (.asgF a f f2 b))) := by
  refine psImp (ps_asg ha (pg_tup g.calm (pgs_cons (pg_fld ho) (pgs_cons (pg_fld ho2) pgs_nil))) nosw1T (by cases x <;> first | rfl | cases hx2) rfl) fun E σ H q => ?_
  obtain ⟨env, m, S, he, r, q⟩ := q
  refine stE he r q fun dx S1 m1 H1 x1 r1 q1 w hw => ?_
  match dx, hw, q1 with
  | .tup [d1, d2], hw, q1 =>
    obtain ⟨p, vs, rfl, h2, h3⟩ := hw
    obtain ⟨v1, r1', rfl, hv1, h4⟩ := h3
    obtain ⟨v2, r2', rfl, hv2, h5⟩ := h4
    cases (show r2' = [] from h5)
    refine ⟨p, _, rfl, by rw [g.hK]; exact h2, rfl, v1, [v2], rfl, stE (he.ext x1) r1 q1 fun dy S2 m2 H2 x2 r2 q2 w hw => ?_⟩
    cases e : fsetV T.G f dy d1 S2 with
    | none =>
      rw [e] at q2
      exact q2.elim
    | some S3 =>
      rw [e] at q2
      obtain ⟨c, fs, p', q', us, rfl, e1, e2, e3, e4, x3, r3⟩ := fset_use r2 e hw (RD.ext x2 _ _ hv1)
      obtain ⟨k1, k2⟩ := hasFl_of (tb := tb) e2
      rw [← g.hK] at k1 k2
      refine ⟨p', _, q', us, rfl, e3, k1, k2, e4, v2, [], rfl, stE (((he.ext x1).ext x2).ext x3) r3 (PostS.ext q2 x3) fun dz S4 m4 H4 x4 r4 q4 u hu => ?_⟩
      cases e' : fsetV T.G f2 dz d2 S4 with
      | none =>
        rw [e'] at q4
        exact q4.elim
      | some S5 =>
        rw [e'] at q4
        obtain ⟨c2, fs2, p2, q2', us2, rfl, f1, f2', f3, f4, x5, r5⟩ := fset_use r4 e' hu (RD.ext ((x2.trans x3).trans x4) _ _ hv2)
        obtain ⟨k3, k4⟩ := hasFl_of (tb := tb) f2'
        rw [← g.hK] at k3 k4
        exact ⟨p2, _, q2', us2, rfl, f3, k3, k4, f4, rfl, q4 m4 _ σ x5 r5 (((((he.ext x1).ext x2).ext x3).ext x4).ext x5)⟩
  | .non, _, q1 => exact q1.elim
  | .bl _, _, q1 => exact q1.elim
  | .int _, _, q1 => exact q1.elim
  | .str _, _, q1 => exact q1.elim
  | .lst _, _, q1 => exact q1.elim
  | .ref _, _, q1 => exact q1.elim
  | .fn _, _, q1 => exact q1.elim
  | .scr _, _, q1 => exact q1.elim
  | .tdc _ _, _, q1 => exact q1.elim
  | .tup [], _, q1 => exact q1.elim
  | .tup [_], _, q1 => exact q1.elim
  | .tup (_ :: _ :: _ :: _), _, q1 => exact q1.elim
theorem t_star {i j : Nat} {v1 v2 : Str} {p q r s : Pos} {k : Nat} (g : Good T n N sc sc X W) (h1 : N[i]? = some v1) (h2 : N[j]? = some v2) (h3 : stO sc v1 = true) (h4 : stO sc v2 = true) (hx2 : noTp x = true) (ha : PE X x (tE T.toAd W (sE T call a))) :
    PS X (.Assign [.Tuple [.Name v1 p, .Starred (.Name v2 q) r] k s] x pos) (tS T.toAd W (sS T call (.star i j a))) := by
  obtain ⟨k1, k2⟩ := g.st v1 (stO_of h3)
  obtain ⟨k3, k4⟩ := g.st v2 (stO_of h4)
  refine psImp (ps_asg ha (pg_star g.calm g.nd (by rw [g.hN]; exact h1) k1 k2 (by rw [g.hN]; exact h2) k3 k4) nosw1T (by cases x <;> first | rfl | cases hx2) rfl) fun E σ H q => ?_
  obtain ⟨env, m, S, he, r, q⟩ := q
  refine stE he r q fun dx S1 m1 H1 x1 r1 q1 w hw => ?_
  have q1 : PostS T.toAd (match lstOf S1 dx with | some (x :: r) => .nx ((env.set i (some x)).set j (some (.lst r))) S1 | _ => .stuck) m1 H1 W E := q1
  cases e : lstOf S1 dx with
  | none =>
    rw [e] at q1
    exact q1.elim
  | some l =>
    cases l with
    | nil =>
      rw [e] at q1
      exact q1.elim
    | cons d ds =>
      rw [e] at q1
      obtain ⟨p, vs, rfl, h5, h6⟩ := lst_of r1 e hw
      obtain ⟨v, us, rfl, h7, h8⟩ := h6
      refine ⟨p, v, us, rfl, SqL.of h5, fun p' hp => ?_⟩
      have xn := Ext.new (o := .lst us) r1 hp
      exact q1 m1 _ _ xn (r1.new hp) ((((he.ext x1).ext xn).set (RD.ext xn _ _ h7)).set ⟨p', us, rfl, ⟨upd_same, r1.notin hp⟩, RDs.ext xn _ _ h8⟩)
theorem t_faug {f : Str} {p : Pos} {op : Bop} {o : Operator} (g : Good T n N sc sc X W) (tb : TbOk T n call) (ho' : chkB op o = true) (ho : PE X y (tE T.toAd W (sE T call a))) (ha : PE X x (tE T.toAd W (sE T call b))) :
    PS X (.AugAssign (.Attribute y f p) o x pos) (tS T.toAd W (sS T call (.faug a f op b))) := by
  cases of_decide_eq_true ho'
  refine psImp (ps_fldaug ho ha (aug_ok op)) fun E σ H q => ?_
  obtain ⟨env, m, S, he, r, q⟩ := q
  refine stE he r q fun dx S1 m1 H1 x1 r1 q1 w hw => ?_
  cases e : faugV T.G f dx S1 with
  | none =>
    rw [e] at q1
    exact q1.elim
  | some cd =>
    obtain ⟨cc, d⟩ := cd
    rw [e] at q1
    unfold faugV at e
    cases e2 : objOf S1 dx with
    | none =>
      rw [e2] at e
      cases e
    | some ob =>
      obtain ⟨c, fs⟩ := ob
      rw [e2] at e
      have e : (if hasFl T.G c f then (fs.lookup f).map fun d => (c, d) else none) = some (cc, d) := e
      by_cases hf : hasFl T.G c f = true
      · rw [if_pos hf] at e
        obtain ⟨d', e9, e1⟩ := Option.map_eq_some_iff.mp e
        obtain ⟨h1, h2⟩ := Prod.mk.inj e1
        subst h1
        subst h2
        obtain ⟨l, p', q', us, _, rfl, _, _, e5, e6⟩ := objOf_use r1 e2 hw
        obtain ⟨v, l1, l2⟩ := e6.look e9
        obtain ⟨k1, k2⟩ := hasFl_of (tb := tb) hf
        rw [← g.hK] at k1 k2
        refine ⟨p', _, q', us, v, rfl, e5, k1, k2, l1, stE (he.ext x1) r1 q1 fun dy S2 m2 H2 x2 r2 q2 u hu => ?_⟩
        cases e7 : augV op d' dy with
        | none =>
          rw [e7] at q2
          exact q2.elim
        | some dz =>
          rw [e7] at q2
          have q2 : PostS T.toAd (if clsOf S2 dx = some c then (match fsetV T.G f dx dz S2 with | some S1 => SR.nx env S1 | none => .stuck) else .stuck) m2 H2 W E := q2
          by_cases hcc : clsOf S2 dx = some c
          case neg =>
            rw [if_neg hcc] at q2
            exact q2.elim
          rw [if_pos hcc] at q2
          refine aug_use e7 (RD.ext x2 _ _ l2) hu fun z hz => ?_
          cases e8 : fsetV T.G f dx dz S2 with
          | none =>
            rw [e8] at q2
            exact q2.elim
          | some S3 =>
            rw [e8] at q2
            obtain ⟨c3, fs3, p3, q3, us3, h1, f1, f2', f3, f4, x5, r5⟩ := fset_use r2 e8 (RD.ext x2 _ _ hw) hz
            cases h1
            have hc : T.toAd.ka c3 = T.toAd.ka c := by
              unfold clsOf at hcc
              rw [f1] at hcc
              cases hcc
              rfl
            refine ⟨q3, us3, ?_, f4, ?_⟩
            · rw [← hc]; exact f3
            · rw [← hc]; exact q2 m2 _ σ x5 r5 (((he.ext x1).ext x2).ext x5)
      · rw [if_neg hf] at e
        cases e
/-- a body within try -/
structure FrOk (X : Cx) : Prop where
  stk : X.stack = X.env :: X.outer
  frm : X.env.frame = some X.env.locals
  rm : Room 2 X.A
theorem Good.tr {so : Scope} {pn : List (Addr × Obj)} {xe : Value → Shared → Prop} {W' : WX} (g : Good T n N sc so X W) (tk : L2N.Takes (X.tr pn xe) W') (po : PassesOwn (model X.prog X.w) X.A X.env xe) : Good T n N sc so (X.tr pn xe) W' where
  hK := g.hK
  hmg := g.hmg
  hP := g.hP
  hw := g.hw
  hb := g.hb
  hN := g.hN
  nd := g.nd
  scp := g.scp
  calm := g.calm
  rm := g.rm
  rm1 := g.rm1
  tk := tk
  po := po
  lam := fun e => ⟨(g.lam e).rm, (g.lam e).cd⟩
  st := g.st
/-- what the handlers are, one by one -/
def hdTs (T : Tb) (call : Call) : List (Nat × D) → List (Value × (Addr → Value → Option Addr → TS))
  | [] => []
  | a :: r => (.ref (T.toAd.ca a.1), fun _ _ _ => tS T.toAd W0 (sSs T call (.cons (.ret (.con a.2)) .nil))) :: hdTs T call r
theorem hds_ok (g : Good T n N sc sc X W) (tb : TbOk T n call) : ∀ (hs : List (Nat × D)) (hds : List ExceptHandler), chkHs T.nm sc hs hds = true → L2N.HdsOk X hds (hdTs T call hs)
  | [], [], _ => .nil
  | [], _ :: _, h => by cases h
  | _ :: _, [], h => by cases h
  | a :: r, e :: s, h => by
    have h : (match hdT e with | some (x, c) => decide (T.nm.cls[a.1]? = some x) && isGl sc x && noDbg x && chkC a.2 c && chkHs T.nm sc r s | none => false) = true := h
    cases he : hdT e with
    | none =>
      rw [he] at h
      cases h
    | some w =>
      obtain ⟨x, c⟩ := w
      rw [he] at h
      have h : (decide (T.nm.cls[a.1]? = some x) && isGl sc x && noDbg x && chkC a.2 c && chkHs T.nm sc r s) = true := h
      simp only [Bool.and_eq_true, decide_eq_true_eq] at h
      obtain ⟨⟨⟨⟨h1, h2⟩, h3⟩, h4⟩, h5⟩ := h
      obtain ⟨p, j, p2, q, rr, rfl⟩ := hdT_eq he
      obtain ⟨k1, _⟩ := tb.cl a.1 x h1
      rw [← g.hmg] at k1
      exact .cons ⟨gl_of g h2, noDbg_1 h3, .inl k1⟩ (fun a' oe cls d pn _ _ => pssImp (pss_one (t_ret (T := T) (call := call) (W := W0) (s_con h4))) fun E σ H q => by
        obtain ⟨env, m, S, he, r, q⟩ := q
        exact ⟨env, m, S, he, r, q⟩) (hds_ok g tb r s h5)
theorem hdl_use (g : Good T n N sc sc X W) (tb : TbOk T n call) {x : Nat} {env : Env} {S : Store} {m : Mp} {H : Hp} {σ : L2.St} {E : Ends} (he : REnv T.toAd m H env σ) (r : RS T.toAd m H S) : ∀ (hs : List (Nat × D)),
    PostS T.toAd (match hdl T.G x hs with | some (some d) => .rt d S | some none => .exc ⟨x, []⟩ env S | none => .stuck) m H W E → L2.wMany X.K W E (hdTs T call hs) (.ref (T.toAd.ca x)) none σ H
  | [], q => q m H σ Ext.refl r he
  | a :: rs, q => by
    unfold hdl at q
    cases ef : T.G.exs.find? (fun t => t.1 == x && t.2.1 == a.1) with
    | none =>
      rw [ef] at q
      exact q.elim
    | some t =>
      rw [ef] at q
      have hm := List.mem_of_find?_eq_some ef
      have hp := List.find?_some ef
      rw [Bool.and_eq_true, beq_iff_eq, beq_iff_eq] at hp
      have fact := tb.ex t hm
      rw [hp.1, hp.2, ← g.hK] at fact
      refine ⟨t.2.2, fact, fun hb => ?_, fun hb => ?_⟩
      · simp only [hb] at q
        exact fun a' _ => ⟨env, m, S, he, r, q⟩
      · simp only [hb] at q
        exact hdl_use g tb he r rs q
theorem t_try {b : Ss} {hs : List (Nat × D)} {xs : List Stmt} {hds : List ExceptHandler} (g : Good T n N sc sc X W) (f : FrOk X) (tb : TbOk T n call) (h0 : (!hs.isEmpty) = true) (hh : chkHs T.nm sc hs hds = true)
    (hb : ∀ (X' : Cx) (W' : WX), Good T n N sc sc X' W' → FrOk X' → PSs X' xs (tS T.toAd W' (sSs T call b))) : PS X (.Try xs hds [] [] pos) (tS T.toAd W (sS T call (.tryH b hs))) := by
  cases hds with
  | nil =>
    cases hs with
    | nil => cases h0
    | cons _ _ => cases hh
  | cons e es =>
    refine psImp (L2N.ps_try_many f.stk f.frm g.tk (fun W' pn xe tk po => hb _ W' (g.tr tk po) ⟨f.stk, f.frm, f.rm⟩) (hds_ok g tb hs _ hh)) fun E σ H q => ?_
    obtain ⟨env, m, S, he, r, q⟩ := q
    refine ⟨env, m, S, he, r, ?_⟩
    have q : PostS T.toAd (match Ev.Ss.ev call T.G b env S with | .exc x env1 S1 => if x.fs.isEmpty then (match hdl T.G x.cls hs with | some (some d) => .rt d S1 | some none => .exc x env1 S1 | none => .stuck) else .stuck | r => r) m H W E := q
    show PostS T.toAd (Ev.Ss.ev call T.G b env S) m H _ E
    generalize Ev.Ss.ev call T.G b env S = R0 at q ⊢
    cases R0 with
    | exc x env1 S1 =>
      obtain ⟨c, fs⟩ := x
      cases fs with
      | cons _ _ => exact q.elim
      | nil =>
        have q : PostS T.toAd (match hdl T.G c hs with | some (some d) => .rt d S1 | some none => .exc ⟨c, []⟩ env1 S1 | none => .stuck) m H W E := q
        exact fun m' H' σ' x1 r1 he1 => hdl_use g tb he1 r1 hs (PostS.ext q x1)
    | nx _ _ => exact q
    | rt _ _ => exact q
    | bk _ _ => exact q
    | ct _ _ => exact q
    | stuck => exact q
theorem t_rseF {k : Nat} {f : Str} {e : E} {v : Str} {z : Expr} {p q : Pos} (g : Good T n N sc sc X W) (fo : FrOk X) (tb : TbOk T n call) (h1 : T.nm.cls[k]? = some v) (h5 : T.nm.xfd.lookup v = some f) (h2 : isGl sc v = true) (h3 : noDbg v = true) (hz : okX z = true) (he : PE X z (tE T.toAd W (sE T call e))) :
    PS X (.Raise (some (.Call (.Name v p) [z] [] q)) none pos) (tS T.toAd W (sS T call (.rseF k f e))) := by
  obtain ⟨k1, _⟩ := tb.cl k v h1
  have kc := tb.xk k v f h1 h5
  rw [← g.hmg] at k1
  rw [← g.hK] at kc
  refine psImp (L2N.ps_raise g.calm g.tk (pmk_keep kc fo.rm (gl_of g h2) k1 (noDbg_1 h3) he (star_of hz))) fun E σ H q => ?_
  obtain ⟨env, m, S, hen, r, q⟩ := q
  refine stE hen r q fun dx S1 m1 H1 x1 r1 q1 w hw => fun dd hd => ?_
  exact q1 m1 (L2.upd H1 dd (.xd [(f, w)])) σ (Ext.new r1 hd) (r1.new hd) ((hen.ext x1).ext (Ext.new r1 hd)) dd w upd_same (RD.ext (Ext.new r1 hd) _ _ hw)
def cV : D → V
  | .bl b => .bl b
  | .int i => .int i
  | .str x => .str x
  | _ => .non
theorem pe_con {d : D} {k : Const} {j : Nat} (h : chkC d k = true) : PE X (.Constant k j pos) (tC (cV d)) ∧ ∀ A m H, RD A m H d (cV d) := by
  cases d <;> cases k <;> first | (cases h; done) | skip
  · exact ⟨pe_non, fun _ _ _ => rfl⟩
  · rename_i a b
    cases (beq_iff_eq.mp (show (a == b) = true from h))
    exact ⟨pe_bl, fun _ _ _ => rfl⟩
  · rename_i a b
    cases (of_decide_eq_true (show decide (a = b) = true from h))
    exact ⟨pe_int, fun _ _ _ => rfl⟩
  · rename_i a b
    cases (of_decide_eq_true (show decide (a = b) = true from h))
    exact ⟨pe_str, fun _ _ _ => rfl⟩
section
variable {A : Ad} {m : Mp} {H : Hp} {S : Store} {σ : L2.St} {Y : Cx} {a : Addr} {ob : Obj} {cls : Value} {od : Option Addr} {pn : List (Addr × Obj)} {x : Ex} {n : Option Str} {o : Option Nat} {sc : Scope}
theorem atm_ok (tb : TbOk T k call) (hK : Y.K = T.K) (hN : ∀ i e, o = some i → n = some e → Y.N[i]? = some e ∧ Vis Y.env.scope e ∧ noDbg e = true) (hon : n.isSome = true → o.isSome = true) (hσ : ∀ i, o = some i → σ[i]? = some (some (.ref a))) (hc : cls = .ref (T.ca x.cls)) (hx : XR A m H x.fs od)
    (hz : L2N.Zn cls od ob) (hf : ∃ vs, ob.data = .fields vs) {t : Atm} {e : Expr} {d : D} (hi : isxA t = false) (h1 : chkAtm T.nm sc n t e = true) (h2 : atmV T.G x t = some d) : ∃ te v, PE (Y.suite a ((a, ob) :: pn)) e te ∧ RD A m H d v ∧ ∀ Q : VK, Q v H → te σ H Q := by
  cases t with
  | con c =>
    have ed : c = d := Option.some.inj h2
    subst ed
    have h1 : (match conE e with | some k => chkC c k | none => false) = true := h1
    cases ek : conE e with
    | none =>
      rw [ek] at h1
      cases h1
    | some k =>
      rw [ek] at h1
      obtain ⟨j, p, rfl⟩ := conE_eq ek
      have := pe_con (X := Y.suite a ((a, ob) :: pn)) (pos := p) (j := j) h1
      exact ⟨_, _, this.1, this.2 _ _ _, fun Q q => q⟩
  | fld f =>
    have h1 : (match fldE e with | some (y, g) => decide (f = g) && decide (n = some y) | none => false) = true := h1
    cases ek : fldE e with
    | none =>
      rw [ek] at h1
      cases h1
    | some w =>
      obtain ⟨y, g⟩ := w
      rw [ek] at h1
      obtain ⟨p, q, rfl⟩ := fldE_eq ek
      obtain ⟨h3, h4⟩ := band h1
      cases dec h3
      have h4 := dec h4
      subst h4
      obtain ⟨i, rfl⟩ := Option.isSome_iff_exists.mp (hon rfl)
      obtain ⟨n1, n2, n3⟩ := hN i y rfl rfl
      have h2 : (if T.G.xfs.contains (x.cls, f) then x.fs.lookup f else none) = some d := h2
      by_cases hm : T.G.xfs.contains (x.cls, f) = true
      · rw [if_pos hm] at h2
        have kc := tb.xf _ (List.contains_iff_mem.mp hm)
        rw [← hK] at kc
        obtain ⟨xc, fs⟩ := x
        match fs, hx, h2 with
        | [], hx, h2 => cases h2
        | _ :: _ :: _, hx, h2 => exact hx.elim
        | [(g, d2)], hx, h2 =>
          obtain ⟨dd, v, e4, e5, hv⟩ := hx
          have eg : (f == g) = true := by
            cases q : (f == g) with
            | true => rfl
            | false =>
              have h2 : ([(g, d2)] : List (Str × Ev.D)).lookup f = some d := h2
              rw [List.lookup, q] at h2
              cases h2
          have h2 : ([(g, d2)] : List (Str × Ev.D)).lookup f = some d := h2
          rw [List.lookup, eg] at h2
          cases h2
          refine ⟨_, v, pe_xf (C := T.ca xc) kc.xf kc.no hz.zc hf (pe_var (i := i) n1 n2 (noDbg_1 n3) (noDbg_2 n3)), hv, fun Q q => ?_⟩
          refine ⟨.ref a, hσ i rfl, rfl, hc, dd, _, v, e4, e5, ?_, q⟩
          rw [List.lookup, eg]
      · rw [if_neg hm] at h2
        cases h2
  | isx cs => cases hi
theorem cs_ok (tb : TbOk T k call) (hmg : Y.mg = T.mg) (hgl : ∀ y, isGl sc y = true → Gl Y y) : ∀ {cs : List Nat} {es : List Expr}, chkXs T.nm sc cs es = true → es.length = cs.length ∧ ∃ ta, PA (Y.suite a ((a, ob) :: pn)) es ta ∧ ∀ (Q : List V → Hp → Prop) (σ : L2.St) (H : Hp), Q (cs.map fun c => V.ref (T.ca c)) H → ta σ H Q
  | [], [], _ => ⟨rfl, _, pa_nil, fun Q σ H q => q⟩
  | [], _ :: _, h => by cases h
  | _ :: _, [], h => by cases h
  | c :: r, e :: s, h => by
    have h : (match nmE e with | some y => decide (T.nm.cls[c]? = some y) && isGl sc y && noDbg y && chkXs T.nm sc r s | none => false) = true := h
    cases ek : nmE e with
    | none =>
      rw [ek] at h
      cases h
    | some y =>
      rw [ek] at h
      obtain ⟨p, rfl⟩ := nmE_eq ek
      obtain ⟨h, h4⟩ := band h
      obtain ⟨h, h3⟩ := band h
      obtain ⟨h1, h2⟩ := band h
      obtain ⟨k1, _⟩ := tb.cl c y (dec h1)
      rw [← hmg] at k1
      obtain ⟨l0, ta, b1, b2⟩ := cs_ok tb hmg hgl (cs := r) (es := s) h4
      have pg : PE (Y.suite a ((a, ob) :: pn)) (.Name y p) _ := pe_glob (v := .ref (T.ca c)) (hgl y h2) k1 rfl (noDbg_1 h3)
      exact ⟨by rw [List.length_cons, List.length_cons, l0], _, pa_cons pg b1, fun Q σ H q => b2 _ σ H q⟩
theorem kit_any (tb : TbOk T k call) (kk : Nat) : ∀ {cs : List Nat} {b : Bool}, isxV T.G kk cs = some b → PySem.W.kitAny T.K (.ref (T.ca kk)) (cs.map fun c => Value.ref (T.ca c)) = some b ∧ (cs ≠ [] → ExcC T.K (T.ca kk))
  | [], b, h => by
    cases h
    exact ⟨kitAny_nil, fun z => (z rfl).elim⟩
  | c :: r, b, h => by
    unfold isxV at h
    cases ef : T.G.xis.find? (fun t => t.1 == kk && t.2.1 == c) with
    | none =>
      rw [ef] at h
      cases h
    | some t =>
      rw [ef] at h
      have hm := List.mem_of_find?_eq_some ef
      have hp := List.find?_some ef
      rw [Bool.and_eq_true, beq_iff_eq, beq_iff_eq] at hp
      obtain ⟨f1, f2⟩ := tb.xi t hm
      rw [hp.1] at f1 f2
      rw [hp.2] at f2
      refine ⟨kitAny_cons f2 (fun hb => ?_) (fun hb => ?_), fun _ => f1⟩
      · simp only [hb, Bool.false_eq_true, if_false] at h
        exact (kit_any tb kk h).1
      · simp only [hb, if_true] at h
        exact (Option.some.inj h).symm
theorem cls_v (T : Tb) : ∀ cs : List Nat, Paired ClsV (cs.map fun c => V.ref (T.ca c)) (cs.map fun c => Value.ref (T.ca c))
  | [] => .nil
  | c :: r => .cons (.own _) (cls_v T r)
theorem xr_dd {fs : List (Str × Ev.D)} (hx : XR A m H fs od) : ∀ dd, od = some dd → ∃ gs, H dd = some (.xd gs) := fun dd e => by
  match fs, hx with
  | [], hx =>
    rw [show od = none from hx] at e
    cases e
  | [(f, d)], ⟨d2, v, e2, e5, _⟩ =>
    rw [e2] at e
    cases e
    exact ⟨_, e5⟩
  | _ :: _ :: _, hx => exact hx.elim
/-- any atom; the heap may grow -/
theorem atmG_ok (tb : TbOk T k call) (hK : Y.K = T.K) (hmg : Y.mg = T.mg) (hgl : ∀ y, isGl sc y = true → Gl Y y) (hbl : ∀ y, bltN T.nm sc y = true → Y.mg y = none) (rs : RS T.toAd m H S) (hN : ∀ i e, o = some i → n = some e → Y.N[i]? = some e ∧ Vis Y.env.scope e ∧ noDbg e = true) (hon : n.isSome = true → o.isSome = true) (hσ : ∀ i, o = some i → σ[i]? = some (some (.ref a))) (hc : cls = .ref (T.ca x.cls)) (hx : XR T.toAd m H x.fs od)
    (hz : L2N.Zn cls od ob) (hf : ∃ vs, ob.data = .fields vs) {t : Atm} {e : Expr} {d : D} (h1 : chkAtm T.nm sc n t e = true) (h2 : atmV T.G x t = some d) : ∃ te v, PE (Y.suite a ((a, ob) :: pn)) e te ∧ RD T.toAd m H d v ∧ ∀ Q : VK, (∀ m' H', Ext m H m' H' → RS T.toAd m' H' S → Q v H') → te σ H Q := by
  cases hi : isxA t with
  | false =>
    obtain ⟨te, v, a1, a2, a3⟩ := atm_ok (A := T.toAd) tb hK hN hon hσ hc hx hz hf (pn := pn) hi h1 h2
    exact ⟨te, v, a1, a2, fun Q q => a3 Q (q m H Ext.refl rs)⟩
  | true =>
    cases t with
    | con c => cases hi
    | fld f => cases hi
    | isx cs =>
      have h1 : (match isxE e with | some (i, y, es) => decide (i = "isinstance") && bltN T.nm sc i && decide (n = some y) && decide (es.length ≤ 100) && !cs.isEmpty && chkXs T.nm sc cs es | none => false) = true := h1
      cases ek : isxE e with
      | none =>
        rw [ek] at h1
        cases h1
      | some w =>
        obtain ⟨i0, y, es⟩ := w
        rw [ek] at h1
        obtain ⟨p1, p2, kk, p3, p4, rfl⟩ := isxE_eq ek
        obtain ⟨h1, c6⟩ := band h1
        obtain ⟨h1, c5⟩ := band h1
        obtain ⟨h1, c4⟩ := band h1
        obtain ⟨h1, c3⟩ := band h1
        obtain ⟨c1, c2⟩ := band h1
        cases dec c1
        have c3 := dec c3
        subst c3
        have c4 := dec c4
        obtain ⟨i, rfl⟩ := Option.isSome_iff_exists.mp (hon rfl)
        obtain ⟨n1, n2, n3⟩ := hN i y rfl rfl
        have h2 : (isxV T.G x.cls cs).map Ev.D.bl = some d := h2
        cases eb : isxV T.G x.cls cs with
        | none =>
          rw [eb] at h2
          cases h2
        | some b =>
          rw [eb] at h2
          cases h2
          obtain ⟨ka, kc⟩ := kit_any tb x.cls eb
          have hne : cs ≠ [] := fun z => by rw [z] at c5; cases c5
          have C := kc hne
          rw [← hK] at C ka
          subst hc
          obtain ⟨ln, ta, b1, b2⟩ := cs_ok tb hmg hgl c6 (a := a) (ob := ob) (pn := pn)
          have g0 : isGl sc "isinstance" = true := by
            have z : (isGl sc "isinstance" && T.nm.blt.contains ("isinstance" : Str) && noDbg "isinstance") = true := c2
            exact (band (band z).1).1
          have cis : CallR (Y.suite a ((a, ob) :: pn)) (.builtin "isinstance") (rIsET Y.K (T.ca x.cls) a od) := call_isET C hz.zc hf
          have P : PE (Y.suite a ((a, ob) :: pn)) (.Call (.Name "isinstance" p1) [.Name y p2, .Tuple es kk p3] [] p4) _ := pe_callB cis (hgl _ g0) (hbl _ c2) rfl (pa_cons (pe_var (i := i) n1 n2 (noDbg_1 n3) (noDbg_2 n3)) (pa_cons (pe_tup (x1 := kk) (pos := p3) b1) pa_nil))
          refine ⟨_, .bl b, P, rfl, fun Q q => ?_⟩
          refine ⟨.ref a, hσ i rfl, b2 _ _ _ ⟨?_, fun p hp => ?_⟩⟩
          · rw [List.length_map, ← ln]
            exact Nat.le_trans c4 (by decide)
          · refine ⟨p, _, _, b, rfl, upd_same, cls_v T cs, ka, fun dd e => ?_, q m _ (Ext.new rs hp) (rs.new hp)⟩
            obtain ⟨gs, hg⟩ := xr_dd hx dd e
            exact ⟨gs, by rw [upd_ne (fun z => by subst z; rw [hg] at hp; cases hp)]; exact hg⟩
theorem atms_ok (tb : TbOk T k call) (hK : Y.K = T.K) (hmg : Y.mg = T.mg) (hgl : ∀ y, isGl sc y = true → Gl Y y) (hbl : ∀ y, bltN T.nm sc y = true → Y.mg y = none) (rs : RS T.toAd m H S) (hN : ∀ i e, o = some i → n = some e → Y.N[i]? = some e ∧ Vis Y.env.scope e ∧ noDbg e = true) (hon : n.isSome = true → o.isSome = true) (hσ : ∀ i, o = some i → σ[i]? = some (some (.ref a))) (hc : cls = .ref (T.ca x.cls)) (hx : XR T.toAd m H x.fs od)
    (hz : L2N.Zn cls od ob) (hf : ∃ vs, ob.data = .fields vs) : ∀ {ts : List Atm} {es : List Expr} {ds : List D}, chkAs T.nm sc n ts es = true → atmsV T.G x ts = some ds → ds.length = ts.length ∧ ∃ ta vs, PA (Y.suite a ((a, ob) :: pn)) es ta ∧ RDs T.toAd m H ds vs ∧ ∀ Q : List V → Hp → Prop, (∀ m' H', Ext m H m' H' → RS T.toAd m' H' S → Q vs H') → ta σ H Q
  | [], [], ds, h1, h2 => by
    cases h2
    exact ⟨rfl, _, [], pa_nil, rfl, fun Q q => q m H Ext.refl rs⟩
  | [], _ :: _, ds, h1, h2 => by cases h1
  | _ :: _, [], ds, h1, h2 => by cases h1
  | t :: ts, e :: es, ds, h1, h2 => by
    have h1 : (okX e && chkAtm T.nm sc n t e && (ts.isEmpty || !isxA t) && chkAs T.nm sc n ts es) = true := h1
    obtain ⟨h1, h5⟩ := band h1
    obtain ⟨h1, h6⟩ := band h1
    obtain ⟨h3, h4⟩ := band h1
    have h2 : (match atmV T.G x t, atmsV T.G x ts with | some d, some ds => some (d :: ds) | _, _ => none) = some ds := h2
    cases e1 : atmV T.G x t with
    | none =>
      rw [e1] at h2
      cases h2
    | some d =>
      cases e2 : atmsV T.G x ts with
      | none =>
        rw [e1, e2] at h2
        cases h2
      | some dr =>
        rw [e1, e2] at h2
        cases h2
        obtain ⟨b0, ta, vs, b1, b2, b3⟩ := atms_ok tb hK hmg hgl hbl rs hN hon hσ hc hx hz hf h5 e2
        cases hi : isxA t with
        | false =>
          obtain ⟨te, v, a1, a2, a3⟩ := atm_ok (A := T.toAd) tb hK hN hon hσ hc hx hz hf (pn := pn) hi h4 e1
          exact ⟨by rw [List.length_cons, List.length_cons, b0], _, v :: vs, pa_cons a1 b1 (star_of h3), ⟨v, vs, rfl, a2, b2⟩, fun Q q => a3 _ (b3 _ q)⟩
        | true =>
          rw [hi] at h6
          obtain ⟨te, v, a1, a2, a3⟩ := atmG_ok tb hK hmg hgl hbl rs hN hon hσ hc hx hz hf (pn := pn) h4 e1
          match ts, es, h6, h5, e2 with
          | [], [], _, _, e2 =>
            cases e2
            exact ⟨rfl, _, [v], pa_cons a1 pa_nil (star_of h3), ⟨v, [], rfl, a2, rfl⟩, fun Q q => a3 _ q⟩
          | [], _ :: _, _, h5, _ => cases h5
          | _ :: _, _, h6, _, _ => cases h6
end
/-- what a handler's suite is handed -/
def sutOf (T : Tb) (h : HR) : Sut := fun a cls od E σ H => ∃ (x : Ex) (m : Mp) (S : Store) (d : Ev.D), RS T.toAd m H S ∧ cls = .ref (T.ca x.cls) ∧ XR T.toAd m H x.fs od ∧ (∀ i, h.nm = some i → σ[i]? = some (some (.ref a))) ∧ hrV T.G x h = some d ∧
  ∀ m' H' v, Ext m H m' H' → RS T.toAd m' H' S → RD T.toAd m' H' d v → E.rt v H'
theorem sut_ok (g : Good T n N sc sc X W) (tb : TbOk T n call) {h : HR} {e : Option Str} {v : Expr} {p : Pos} (h1 : nmOk N sc h.nm e = true) (h2 : chkHr T.nm sc e h v = true) (a : Addr) (ob : Obj) (cls : Value) (od : Option Addr) (pn : List (Addr × Obj)) (hz : L2N.Zn cls od ob) (hf : ∃ vs, ob.data = .fields vs) :
    PSs (X.suite a ((a, ob) :: pn)) [.Return (some v) p] (sutOf T h a cls od) := by
  refine ⟨fun pins sh σ H D I q => ?_⟩
  obtain ⟨x, m, S, d, r, hc, hx, hσ, hv, fin⟩ := q
  have hN : ∀ i y, h.nm = some i → e = some y → X.N[i]? = some y ∧ Vis X.env.scope y ∧ noDbg y = true := fun i y e1 e2 => by
    rw [e1, e2] at h1
    have h1 : (decide (N[i]? = some y) && decide (sc.names.lookup y = some .local) && noDbg y) = true := h1
    obtain ⟨h1, h5⟩ := band h1
    obtain ⟨h3, h4⟩ := band h1
    exact ⟨by rw [g.hN]; exact dec h3, by rw [g.scp]; exact .inl (dec h4), h5⟩
  have hon : e.isSome = true → h.nm.isSome = true := fun z => by
    obtain ⟨y, rfl⟩ := Option.isSome_iff_exists.mp z
    cases q : h.nm with
    | none =>
      rw [q] at h1
      cases h1
    | some i => rfl
  have hbl : ∀ y, bltN T.nm sc y = true → X.mg y = none := fun y hy => by
    have z : (isGl sc y && T.nm.blt.contains y && noDbg y) = true := hy
    rw [g.hmg]
    exact tb.bl y (List.contains_iff_mem.mp (band (band z).1).2)
  obtain ⟨hl, h3⟩ := band h2
  have hl := dec hl
  clear h2
  unfold hrV at hv
  cases ea : atmsV T.G x h.as with
  | none =>
    rw [ea] at hv
    cases hv
  | some ds =>
    rw [ea] at hv
    simp only at hv
    by_cases ht : h.tup = true
    · rw [if_pos ht] at hv h3
      cases hv
      cases et : tupE v with
      | none =>
        rw [et] at h3
        cases h3
      | some es =>
        rw [et] at h3
        have ev : ∃ kk pp, v = .Tuple es kk pp := by
          unfold tupE at et
          split at et
          · cases et
            exact ⟨_, _, rfl⟩
          · cases et
        obtain ⟨kk, pp, rfl⟩ := ev
        obtain ⟨ln, ta, vs, b1, b2, b3⟩ := atms_ok tb g.hK g.hmg (fun y h => gl_of g h) hbl r hN hon hσ hc hx hz hf (pn := pn) h3 ea
        have P := pss_one (ps_ret (pos := p) (pe_tup (x1 := kk) (pos := pp) b1))
        refine P.run pins sh σ H D I (b3 _ fun m1 H1 x1 r1 => ⟨?_, fun q hq => ?_⟩)
        · have : vs.length ≤ 100 := by
            rw [b2.length, ln]
            exact hl
          exact Nat.le_trans this (by decide)
        · exact fin m1 _ _ (x1.trans (Ext.new r1 hq)) (r1.new hq) ⟨q, vs, rfl, .inl (.inl upd_same), RDs.ext (x1.trans (Ext.new r1 hq)) _ _ b2⟩
    · rw [if_neg ht] at hv h3
      match hh : h.as, h3, ea with
      | [t], h3, ea =>
        have ea : (match atmV T.G x t, atmsV T.G x [] with | some d, some ds => some (d :: ds) | _, _ => none) = some ds := ea
        cases e1 : atmV T.G x t with
        | none =>
          rw [e1] at ea
          cases ea
        | some d1 =>
          rw [e1] at ea
          cases ea
          cases hv
          obtain ⟨te, w, a1, a2, a3⟩ := atmG_ok (k := n) tb g.hK g.hmg (fun y h => gl_of g h) hbl r hN hon hσ hc hx hz hf (pn := pn) h3 e1
          have P := pss_one (ps_ret (pos := p) a1)
          exact P.run pins sh σ H D I (a3 _ fun m1 H1 x1 r1 => fin m1 H1 w x1 r1 (RD.ext x1 _ _ a2))
      | [], h3, ea => cases h3
      | _ :: _ :: _, h3, ea => cases h3
def hmTs (T : Tb) : List HR → List (Value × Option Nat × Sut)
  | [] => []
  | h :: r => (.ref (T.toAd.ca h.cls), h.nm, sutOf T h) :: hmTs T r
theorem hm_ok (g : Good T n N sc sc X W) (tb : TbOk T n call) : ∀ (hs : List HR) (hds : List ExceptHandler), chkHM T.nm N sc hs hds = true → HdMix X hds (hmTs T hs)
  | [], [], _ => .nil
  | [], _ :: _, h => by cases h
  | _ :: _, [], h => by cases h
  | h :: r, e :: s, hq => by
    have hq : (match hrT e with | some (x, n, v) => decide (T.nm.cls[h.cls]? = some x) && isGl sc x && noDbg x && nmOk N sc h.nm n && chkHr T.nm sc n h v && chkHM T.nm N sc r s | none => false) = true := hq
    cases he : hrT e with
    | none =>
      rw [he] at hq
      cases hq
    | some w =>
      obtain ⟨x, en, v⟩ := w
      rw [he] at hq
      simp only [Bool.and_eq_true, decide_eq_true_eq] at hq
      obtain ⟨⟨⟨⟨⟨h1, h2⟩, h3⟩, h4⟩, h5⟩, h6⟩ := hq
      have ee : ∃ p q r2, e = .ExceptHandler (some (.Name x p)) en [.Return (some v) q] r2 := by
        unfold hrT at he
        split at he
        · cases he
          exact ⟨_, _, _, rfl⟩
        · cases he
      obtain ⟨p, q, r2, rfl⟩ := ee
      obtain ⟨k1, _⟩ := tb.cl h.cls x h1
      rw [← g.hmg] at k1
      refine .cons ⟨gl_of g h2, noDbg_1 h3, .inl k1⟩ ?_ (sut_ok g tb h4 h5) (hm_ok g tb r s h6)
      cases en with
      | none =>
        cases hn : h.nm with
        | none => exact .non
        | some i =>
          rw [hn] at h4
          cases h4
      | some y =>
        cases hn : h.nm with
        | none =>
          rw [hn] at h4
          cases h4
        | some i =>
          rw [hn] at h4
          have h4 : (decide (N[i]? = some y) && decide (sc.names.lookup y = some .local) && noDbg y) = true := h4
          obtain ⟨h4, h7⟩ := band h4
          obtain ⟨h8, h9⟩ := band h4
          refine .som (by rw [g.hN]; exact dec h8) ?_
          show X.env.scope.names.lookup y = _
          rw [g.scp]
          exact dec h9
theorem hm_use (g : Good T n N sc sc X W) (tb : TbOk T n call) {x : Ex} {env : Env} {S : Store} {m : Mp} {H : Hp} {σ : L2.St} {E : Ends} {od : Option Addr} (he : REnv T.toAd m H env σ) (r : RS T.toAd m H S) (hx : XR T.toAd m H x.fs od) : ∀ (hs : List HR), (∀ h ∈ hs, ∀ i, h.nm = some i → i < σ.length) →
    PostS T.toAd (match hdlM T.G x hs with | some (some d) => .rt d S | some none => .exc x env S | none => .stuck) m H W E → wMix X.K W E (hmTs T hs) (.ref (T.toAd.ca x.cls)) od σ H
  | [], _, q => by
    have q : XP T.toAd m H x.fs fun od => W (.ref (T.toAd.ca x.cls)) od σ H := q m H σ Ext.refl r he
    obtain ⟨xc, fs⟩ := x
    match fs, hx, q with
    | [], hx, q =>
      cases (show od = none from hx)
      exact q
    | [(f, d)], hx, q =>
      obtain ⟨dd, v, rfl, e5, hv⟩ := hx
      exact q dd v e5 hv
    | _ :: _ :: _, hx, q => exact hx.elim
  | h :: rs, hi, q => by
    unfold hdlM at q
    cases ef : T.G.exs.find? (fun t => t.1 == x.cls && t.2.1 == h.cls) with
    | none =>
      rw [ef] at q
      exact q.elim
    | some t =>
      rw [ef] at q
      have hm := List.mem_of_find?_eq_some ef
      have hp := List.find?_some ef
      rw [Bool.and_eq_true, beq_iff_eq, beq_iff_eq] at hp
      have fact := tb.ex t hm
      rw [hp.1, hp.2, ← g.hK] at fact
      refine ⟨t.2.2, fact, fun hb a na => ?_, fun hb => ?_⟩
      · simp only [hb, if_true] at q
        cases ev : hrV T.G x h with
        | none =>
          rw [ev] at q
          exact q.elim
        | some d =>
          rw [ev] at q
          have q : PostS T.toAd (.rt d S) m H W E := q
          unfold inSut
          cases hn : h.nm with
          | none => exact ⟨x, m, S, d, r, rfl, hx, fun i e => (by rw [hn] at e; cases e), ev, fun m' H' v x1 r1 hv => q m' H' v x1 r1 hv⟩
          | some i =>
            refine ⟨x, m, S, d, r, rfl, hx, fun j e => ?_, ev, fun m' H' v x1 r1 hv => q m' H' v x1 r1 hv⟩
            rw [hn] at e
            cases e
            exact List.getElem?_set_self (hi h List.mem_cons_self i hn)
      · simp only [hb] at q
        exact hm_use g tb he r hx rs (fun h2 hh => hi h2 (List.mem_cons_of_mem _ hh)) q
theorem t_tryM {b : Ss} {hs : List HR} {xs : List Stmt} {hds : List ExceptHandler} (g : Good T n N sc sc X W) (f : FrOk X) (tb : TbOk T n call) (h0 : (!hs.isEmpty) = true) (hh : chkHM T.nm N sc hs hds = true)
    (hb : ∀ (X' : Cx) (W' : WX), Good T n N sc sc X' W' → FrOk X' → PSs X' xs (tS T.toAd W' (sSs T call b))) : PS X (.Try xs hds [] [] pos) (tS T.toAd W (sS T call (.tryM b hs))) := by
  cases hds with
  | nil =>
    cases hs with
    | nil => cases h0
    | cons _ _ => cases hh
  | cons e es =>
    refine psImp (ps_try_mix f.stk f.frm g.nd g.tk (fun W' pn xe tk po => hb _ W' (g.tr tk po) ⟨f.stk, f.frm, f.rm⟩) (hm_ok g tb hs _ hh)) fun E σ H q => ?_
    obtain ⟨env, m, S, he, r, q⟩ := q
    refine ⟨env, m, S, he, r, ?_⟩
    have q : PostS T.toAd (match Ev.Ss.ev call T.G b env S with | .exc x env1 S1 => if x.fs.length ≤ 1 ∧ (hs.all fun h => slotOk env1.length h.nm) = true then (match hdlM T.G x hs with | some (some d) => .rt d S1 | some none => .exc x env1 S1 | none => .stuck) else .stuck | r => r) m H W E := q
    show PostS T.toAd (Ev.Ss.ev call T.G b env S) m H _ E
    generalize Ev.Ss.ev call T.G b env S = R0 at q ⊢
    cases R0 with
    | exc x env1 S1 =>
      have q : PostS T.toAd (if x.fs.length ≤ 1 ∧ (hs.all fun h => slotOk env1.length h.nm) = true then (match hdlM T.G x hs with | some (some d) => .rt d S1 | some none => .exc x env1 S1 | none => .stuck) else .stuck) m H W E := q
      by_cases hl : x.fs.length ≤ 1 ∧ (hs.all fun h => slotOk env1.length h.nm) = true
      · rw [if_pos hl] at q
        intro m' H' σ' x1 r1 he1
        refine XP.use (fun od hx => hm_use g tb he1 r1 hx hs (fun h hh i e => ?_) (PostS.ext q x1)) hl.1
        have := List.all_eq_true.mp hl.2 h hh
        rw [e] at this
        rw [← he1.len]
        exact of_decide_eq_true this
      · rw [if_neg hl] at q
        exact q.elim
    | nx _ _ => exact q
    | rt _ _ => exact q
    | bk _ _ => exact q
    | ct _ _ => exact q
    | stuck => exact q
theorem sw_of {elt : Expr} {gs : List Comprehension} {scope : Scope} {p1 p : Pos} {v : Str} {l : Nat} {env : PySem.Env} : ∃ b : Bool, swapsWith (.ListComp elt gs scope p1) (some (.Name v p)) l env = pure b ∧ (b = true → env.scope.names.lookup v = some .local) := by
  refine ⟨env.blockKind == .function && env.kindOf v == some .local && p.line == p1.line && !(scope.names.any fun (n, k) => n == v && (k == .local || k == .cell)), rfl, fun h => ?_⟩
  simp only [Bool.and_eq_true] at h
  exact beq_iff_eq.mp h.1.1.2
variable {t t2 : Ev.T} {it i2 : I} {ifs : Es} {own : List Nat} {scope : Scope} {tg tg2 iter iter2 : Expr} {ifx : List Expr} {new : Bool}
theorem t_setC {i : Nat} {v : Str} {p p1 : Pos} (g : Good T n N sc sc X W) (h1 : N[i]? = some v) (h2 : stO sc v = true) (hb : blkC N sc scope (ownP N own) = true) (hi : okX iter = true) (hs : t.slots.all own.contains = true) (ht : chkT N scope t tg = true) (hI : PI X tg iter (tI T.toAd W (sI T call it)))
    (hw : ∀ s H C cl fp, PTs (BlkC X scope s H C cl fp) ifx (tB T.toAd W0 fun env S => Es.tst call T.G ifs env S)) (he : ∀ s H C cl fp, PE (BlkC X scope s H C cl fp) x (tE T.toAd W0 (sE T call a))) :
    PS X (.Assign [.Name v p] (.ListComp x [⟨tg, iter, ifx, 0⟩] scope p1) pos) (tS T.toAd W (sS T call (.set i (.comp new own a t it ifs)))) := by
  obtain ⟨k1, k2⟩ := g.st v (stO_of h2)
  have ok : BlkOk X.N X.env.scope scope (ownP N own) := by
    rw [g.hN, g.scp]
    exact blkOk_by hb
  obtain ⟨b, hsw, hl⟩ := sw_of (elt := x) (gs := [⟨tg, iter, ifx, 0⟩]) (scope := scope) (p1 := p1) (p := p) (v := v) (l := pos.line) (env := X.env)
  cases b with
  | false =>
    refine psImp (ps_set g.nd (by rw [g.hN]; exact h1) k1 (s_comp (new := new) (own := own) g hb hi hs ht hI hw he) hsw k2) fun E σ H q => ?_
    obtain ⟨env, m, S, he, r, q⟩ := q
    exact stE he r q fun dx S1 m1 H1 x1 r1 q1 w hw => q1 m1 H1 _ Ext.refl r1 ((he.ext x1).set hw)
  | true =>
    refine psImp (ps_setLc g.calm g.nd (by rw [g.hN]; exact h1) (hl rfl) hsw hI ok (fun s H C cl fp => sndT (g.blk s H scope C cl fp) t tg ht) hw he (fold_of hi X.env)) fun E σ H q => ?_
    obtain ⟨env, m, S, he, r, q⟩ := q
    show tLc _ _ _ _ _ σ H _
    rw [own_eq]
    exact lc_use (new := new) (slots_of hs) he r ((PostK.st he q).imp fun dx S1 m1 H1 _ x1 r1 q1 w hw => q1 m1 H1 _ Ext.refl r1 ((he.ext x1).set hw))
theorem t_setC2 {i : Nat} {v : Str} {p p1 : Pos} (g : Good T n N sc sc X W) (h1 : N[i]? = some v) (h2 : stO sc v = true) (hb : blkC N sc scope (ownP N own) = true) (hi : okX iter = true) (hi2 : okX iter2 = true) (hs : t.slots.all own.contains = true) (hs2 : t2.slots.all own.contains = true) (ht : chkT N scope t tg = true) (ht2 : chkT N scope t2 tg2 = true) (hI : PI X tg iter (tI T.toAd W (sI T call it)))
    (hI2 : ∀ s H C cl fp, PI (BlkC X scope s H C cl fp) tg2 iter2 (tI T.toAd W0 (sI T call i2))) (he : ∀ s H C cl fp, PE (BlkC X scope s H C cl fp) x (tE T.toAd W0 (sE T call a))) :
    PS X (.Assign [.Name v p] (.ListComp x [⟨tg, iter, [], 0⟩, ⟨tg2, iter2, [], 0⟩] scope p1) pos) (tS T.toAd W (sS T call (.set i (.comp2 new own a t it t2 i2)))) := by
  obtain ⟨k1, k2⟩ := g.st v (stO_of h2)
  have ok : BlkOk X.N X.env.scope scope (ownP N own) := by
    rw [g.hN, g.scp]
    exact blkOk_by hb
  obtain ⟨b, hsw, hl⟩ := sw_of (elt := x) (gs := [⟨tg, iter, [], 0⟩, ⟨tg2, iter2, [], 0⟩]) (scope := scope) (p1 := p1) (p := p) (v := v) (l := pos.line) (env := X.env)
  cases b with
  | false =>
    refine psImp (ps_set g.nd (by rw [g.hN]; exact h1) k1 (s_comp2 (new := new) (own := own) g hb hi hi2 hs hs2 ht ht2 hI hI2 he) hsw k2) fun E σ H q => ?_
    obtain ⟨env, m, S, he, r, q⟩ := q
    exact stE he r q fun dx S1 m1 H1 x1 r1 q1 w hw => q1 m1 H1 _ Ext.refl r1 ((he.ext x1).set hw)
  | true =>
    refine psImp (ps_setLc2 (vs1 := t2.slots) g.calm g.nd (by rw [g.hN]; exact h1) (hl rfl) hsw hI ok (fun i hi => by rw [own_eq]; exact slots_of hs2 i hi) (fun s H C cl fp => sndT (g.blk s H scope C cl fp) t tg ht) (fun s H C cl fp => pts_nil) hI2 (fun s H C cl fp => sndT (g.blk s H scope C cl fp) t2 tg2 ht2) (fun s H C cl fp => pts_ok (T := T.toAd) (W := W0)) he (fold_of hi X.env) (fold_of hi2)) fun E σ H q => ?_
    obtain ⟨env, m, S, he, r, q⟩ := q
    show tLc2 _ _ _ _ _ _ _ _ _ σ H _
    rw [own_eq]
    exact lc2_use (new := new) (slots_of hs) he r ((PostK.st he q).imp fun dx S1 m1 H1 _ x1 r1 q1 w hw => q1 m1 H1 _ Ext.refl r1 ((he.ext x1).set hw))
theorem t_setCN {i : Nat} {v : Str} {p p1 : Pos} {cs : Cs} {gs : List Comprehension} (g : Good T n N sc sc X W) (h1 : N[i]? = some v) (h2 : stO sc v = true) (hb : blkC N sc scope (ownP N own) = true) (hi : okX iter = true) (hs : t.slots.all own.contains = true) (hs2 : cs.slots.all own.contains = true) (ht : chkT N scope t tg = true) (hk : chkCs T.nm N (relS scope sc) scope cs gs = true) (hI : PI X tg iter (tI T.toAd W (sI T call it)))
    (hw : ∀ s H C cl fp, PTs (BlkC X scope s H C cl fp) ifx (tB T.toAd W0 fun env S => Es.tst call T.G ifs env S)) (hcl : ∀ c ∈ List.zipWith (clOf T.toAd W0) (cfOf T call cs) gs, ∀ s H C cl fp, ClOk (BlkC X scope s H C cl fp) c) (he : ∀ s H C cl fp, PE (BlkC X scope s H C cl fp) x (tE T.toAd W0 (sE T call a))) :
    PS X (.Assign [.Name v p] (.ListComp x (⟨tg, iter, ifx, 0⟩ :: gs) scope p1) pos) (tS T.toAd W (sS T call (.set i (.compN new own a (.cons t it ifs cs))))) := by
  obtain ⟨k1, k2⟩ := g.st v (stO_of h2)
  have ok : BlkOk X.N X.env.scope scope (ownP N own) := by
    rw [g.hN, g.scp]
    exact blkOk_by hb
  obtain ⟨b, hsw, hl⟩ := sw_of (elt := x) (gs := ⟨tg, iter, ifx, 0⟩ :: gs) (scope := scope) (p1 := p1) (p := p) (v := v) (l := pos.line) (env := X.env)
  cases b with
  | false =>
    refine psImp (ps_set g.nd (by rw [g.hN]; exact h1) k1 (s_compN (new := new) (own := own) g hb hi hs hs2 ht hk hI hw hcl he) hsw k2) fun E σ H q => ?_
    obtain ⟨env, m, S, he, r, q⟩ := q
    exact stE he r q fun dx S1 m1 H1 x1 r1 q1 w hw => q1 m1 H1 _ Ext.refl r1 ((he.ext x1).set hw)
  | true =>
    have pp := ps_setLcN (i := i) (pyy := p) (pos := p1) (spos := pos) (cls := List.zipWith (clOf T.toAd W0) (cfOf T call cs) gs) g.calm g.nd (by rw [g.hN]; exact h1) (hl rfl) (by rw [cf_c cs gs hk]; exact hsw) hI ok (by rw [own_eq]; exact cf_nested cs gs own fun i hi => List.contains_iff_mem.mp (List.all_eq_true.mp hs2 i hi)) (fun s H C cl fp => sndT (g.blk s H scope C cl fp) t tg ht) hw hcl he (fold_of hi X.env)
    rw [cf_c cs gs hk] at pp
    refine psImp pp fun E σ H q => ?_
    obtain ⟨env, m, S, he, r, q⟩ := q
    show tLcN _ _ _ _ _ _ σ H _
    rw [own_eq]
    exact s_compN_use (new := new) (cf_len cs gs hk) hs he r ((PostK.st he q).imp fun dx S1 m1 H1 _ x1 r1 q1 w hw => q1 m1 H1 _ Ext.refl r1 ((he.ext x1).set hw))
/-- a name set to anything -/
theorem t_setA {i : Nat} {v : Str} {p : Pos} {e : E} (g : Good T n N sc sc X W) (tb : TbOk T n call) (h1 : N[i]? = some v) (h2 : stO sc v = true) (h : chkE T.nm N sc sc e x = true) : PS X (.Assign [.Name v p] x pos) (tS T.toAd W (sS T call (.set i e))) := by
  cases hc : noCo x with
  | true => exact t_set g h1 h2 hc (sndE tb e sc sc X W g x h).pe
  | false =>
    cases x <;> first | (cases hc; done) | skip
    · rename_i ex gens scope p1
      cases e <;> first | (cases h; done) | skip
      · rename_i new own elt t it ifs
        have h : (match gens1 gens with
          | some (tg, iter, ifx) => blkC N sc scope (ownP N own) && okX iter && t.slots.all own.contains && chkT N scope t tg && chkI T.nm N sc sc it tg iter && chkW T.nm N (relS scope sc) scope ifs ifx && chkE T.nm N (relS scope sc) scope elt ex
          | none => false) = true := h
        split at h
        · rename_i tg iter ifx hg
          cases gens1_eq hg
          obtain ⟨h, h7⟩ := band h
          obtain ⟨h, h6⟩ := band h
          obtain ⟨h, h5⟩ := band h
          obtain ⟨h, h4⟩ := band h
          obtain ⟨h, h3⟩ := band h
          exact t_setC g h1 h2 (band h).1 (band h).2 h3 h4 (sndI tb it sc sc X W g tg iter h5) (fun s H C cl fp => sndW tb ifs _ _ _ _ (g.blk s H scope C cl fp) ifx h6) (fun s H C cl fp => (sndE tb elt _ _ _ _ (g.blk s H scope C cl fp) ex h7).pe)
        · cases h
      · rename_i new own elt t1 i1 t2 i2
        have h : (match gens2 gens with
          | some (tg, iter, tg2, iter2) => blkC N sc scope (ownP N own) && okX iter && okX iter2 && t1.slots.all own.contains && t2.slots.all own.contains && chkT N scope t1 tg && chkT N scope t2 tg2 && chkI T.nm N sc sc i1 tg iter && chkI T.nm N (relS scope sc) scope i2 tg2 iter2 && chkE T.nm N (relS scope sc) scope elt ex
          | none => false) = true := h
        split at h
        · rename_i tg iter tg2 iter2 hg
          cases gens2_eq hg
          obtain ⟨h, h10⟩ := band h
          obtain ⟨h, h9⟩ := band h
          obtain ⟨h, h8⟩ := band h
          obtain ⟨h, h7⟩ := band h
          obtain ⟨h, h6⟩ := band h
          obtain ⟨h, h5⟩ := band h
          obtain ⟨h, h4⟩ := band h
          obtain ⟨h, h3⟩ := band h
          exact t_setC2 g h1 h2 (band h).1 (band h).2 h3 h4 h5 h6 h7 (sndI tb i1 sc sc X W g tg iter h8) (fun s H C cl fp => sndI tb i2 _ _ _ _ (g.blk s H scope C cl fp) tg2 iter2 h9) (fun s H C cl fp => (sndE tb elt _ _ _ _ (g.blk s H scope C cl fp) ex h10).pe)
        · cases h
      · rename_i new own elt cs
        cases cs with
        | nil => cases h
        | cons t it ifs cs =>
        match gens, h with
        | [], h => cases h
        | ⟨tg, iter, ifx, k⟩ :: gs, h =>
          have h : (decide (k = 0) && blkC N sc scope (ownP N own) && okX iter && t.slots.all own.contains && cs.slots.all own.contains && chkT N scope t tg && chkI T.nm N sc sc it tg iter && chkW T.nm N (relS scope sc) scope ifs ifx && chkCs T.nm N (relS scope sc) scope cs gs && chkE T.nm N (relS scope sc) scope elt ex) = true := h
          obtain ⟨h, h10⟩ := band h
          obtain ⟨h, h9⟩ := band h
          obtain ⟨h, h8⟩ := band h
          obtain ⟨h, h7⟩ := band h
          obtain ⟨h, h6⟩ := band h
          obtain ⟨h, h5⟩ := band h
          obtain ⟨h, h4⟩ := band h
          obtain ⟨h, h3⟩ := band h
          cases dec (band h).1
          exact t_setCN g h1 h2 (band h).2 h3 h4 h5 h6 h9 (sndI tb it sc sc X W g tg iter h7) (fun s H C cl fp => sndW tb ifs _ _ _ _ (g.blk s H scope C cl fp) ifx h8) (fun c hc s H C cl fp => sndCs tb cs _ _ _ (g.blk s H scope C cl fp) gs h9 c hc) (fun s H C cl fp => (sndE tb elt _ _ _ _ (g.blk s H scope C cl fp) ex h10).pe)
    · cases e <;> first | (cases h; done) | (rename_i cs; cases cs <;> cases h)
    · cases e <;> first | (cases h; done) | (rename_i cs; cases cs <;> cases h)
end
end Ev
namespace Ev
open PySem PySem.Spec L2 PyProof.Rows
section
variable {T : Tb} {n : Nat} {N : List Str} {call : Call}
def flat : Ev.St → Bool
  | .ite .. => false
  | .whl .. => false
  | .for .. => false
  | .tryH .. => false
  | .tryM .. => false
  | .rseF .. => false
  | _ => true
theorem sndS0 (tb : TbOk T n call) (s : Ev.St) (sc : Scope) (X : Cx) (W : WX) (g : Good T n N sc sc X W) (x : Stmt) (h : chkS0 T.nm N sc s x = true) (hf : flat s = true) : PS X x (tS T.toAd W (sS T call s)) := by
  cases s with
  | ite _ _ _ => cases hf
  | whl _ _ => cases hf
  | «for» _ _ _ => cases hf
  | tryH _ _ => cases hf
  | tryM _ _ => cases hf
  | rseF _ _ _ => cases hf
  | asgF o f g' e =>
    cases x <;> first | (cases h; done) | skip
    rename_i ts v p
    have h : (match atsT ts with
      | some (x, a, y, b) => decide (f = a) && decide (g' = b) && okX x && okX y && noTp v && chkE T.nm N sc sc o x && chkE T.nm N sc sc o y && chkE T.nm N sc sc e v
      | none => false) = true := h
    split at h
    · rename_i y a y2 b hy
      obtain ⟨_, _, _, _, rfl⟩ := atsT_eq hy
      obtain ⟨h, h8⟩ := band h
      obtain ⟨h, h7⟩ := band h
      obtain ⟨h, h6⟩ := band h
      obtain ⟨h, h5⟩ := band h
      obtain ⟨h, h4⟩ := band h
      obtain ⟨h, h3⟩ := band h
      cases dec (band h).1
      cases dec (band h).2
      exact t_asgF g tb h3 h4 h5 (sndE tb o sc sc X W g y h6).pe (sndE tb o sc sc X W g y2 h7).pe (sndE tb e sc sc X W g v h8).pe
    · cases h
  | star i j e =>
    cases x <;> first | (cases h; done) | skip
    rename_i ts v p
    have h : (match starT ts with
      | some (x, y) => decide (N[i]? = some x) && decide (N[j]? = some y) && stO sc x && stO sc y && noTp v && chkE T.nm N sc sc e v
      | none => false) = true := h
    split at h
    · rename_i y y2 hy
      obtain ⟨_, _, _, _, _, rfl⟩ := starT_eq hy
      obtain ⟨h, h6⟩ := band h
      obtain ⟨h, h5⟩ := band h
      obtain ⟨h, h4⟩ := band h
      obtain ⟨h, h3⟩ := band h
      exact t_star g (dec (band h).1) (dec (band h).2) h3 h4 h5 (sndE tb e sc sc X W g v h6).pe
    · cases h
  | faug o f op e =>
    cases x <;> first | (cases h; done) | skip
    rename_i y o' v p
    have h : (match attE y with
      | some (x, g) => decide (f = g) && chkB op o' && chkE T.nm N sc sc o x && chkE T.nm N sc sc e v
      | none => false) = true := h
    split at h
    · rename_i y' f' hy
      obtain ⟨q, rfl⟩ := attE_eq hy
      obtain ⟨h, h4⟩ := band h
      obtain ⟨h, h3⟩ := band h
      cases dec (band h).1
      exact t_faug g tb (band h).2 (sndE tb o sc sc X W g y' h3).pe (sndE tb e sc sc X W g v h4).pe
    · cases h
  | par i j a b =>
    cases x <;> first | (cases h; done) | skip
    rename_i ts v p
    have h : (match parT ts, parV v with
      | some (x, y), some (u, w) => decide (N[i]? = some x) && decide (N[j]? = some y) && decide (i ≠ j) && decide (x ≠ y) && decide (sc.kind = .function) && decide (sc.names.lookup x = some .local) && decide (sc.names.lookup y = some .local) && okX u && okX w && !([u, w].all (foldedForSure 8)) && !([u, w].all (constantsAlone 8)) && chkE T.nm N sc sc a u && chkE T.nm N sc sc b w
      | _, _ => false) = true := h
    cases e1 : parT ts with
    | none =>
      rw [e1] at h
      cases h
    | some xy =>
      cases e2 : parV v with
      | none =>
        rw [e1, e2] at h
        cases h
      | some uw =>
        obtain ⟨x, y⟩ := xy
        obtain ⟨u, w⟩ := uw
        rw [e1, e2] at h
        have hh : (decide (N[i]? = some x) && decide (N[j]? = some y) && decide (i ≠ j) && decide (x ≠ y) && decide (sc.kind = .function) && decide (sc.names.lookup x = some .local) && decide (sc.names.lookup y = some .local) && okX u && okX w && !([u, w].all (foldedForSure 8)) && !([u, w].all (constantsAlone 8)) && chkE T.nm N sc sc a u && chkE T.nm N sc sc b w) = true := h
        obtain ⟨p1, q1, k1, r1, rfl, hl⟩ := parT_eq e1
        obtain ⟨k2, r2, rfl⟩ := parV_eq e2
        obtain ⟨hh, c13⟩ := band hh
        obtain ⟨hh, c12⟩ := band hh
        obtain ⟨hh, c11⟩ := band hh
        obtain ⟨hh, c10⟩ := band hh
        obtain ⟨hh, c9⟩ := band hh
        obtain ⟨hh, c8⟩ := band hh
        obtain ⟨hh, c7⟩ := band hh
        obtain ⟨hh, c6⟩ := band hh
        obtain ⟨hh, c5⟩ := band hh
        obtain ⟨hh, c4⟩ := band hh
        obtain ⟨hh, c3⟩ := band hh
        exact t_par g (dec (band hh).1) (dec (band hh).2) (dec c3) (dec c4) (dec c5) (dec c6) (dec c7) hl c8 c9 (Bool.not_eq_true' _ |>.mp c10) (Bool.not_eq_true' _ |>.mp c11) (sndE tb a sc sc X W g u c12).pe (sndE tb b sc sc X W g w c13).pe
  | set i e =>
    cases x <;> first | (cases h; done) | skip
    rename_i ts v p
    have h : (match nameT ts with
      | some x => decide (N[i]? = some x) && stO sc x && chkE T.nm N sc sc e v
      | none => false) = true := h
    split at h
    · rename_i y hy
      obtain ⟨q, rfl⟩ := nameT_eq hy
      exact t_setA g tb (dec (band (band h).1).1) (band (band h).1).2 (band h).2
    · cases h
  | asg t e =>
    cases x <;> first | (cases h; done) | skip
    rename_i ts v p
    have h : (match tupT ts with
      | some (es, k, p) => swB es v && chkT N sc t (.Tuple es k p) && chkE T.nm N sc sc e v
      | none => false) = true := h
    split at h
    · rename_i es k q hy
      cases tupT_eq hy
      obtain ⟨h, h4⟩ := band h
      obtain ⟨h, h3⟩ := band h
      exact t_asg g h h3 (sndE tb e sc sc X W g v h4).pe
    · cases h
  | put o i e =>
    cases x <;> first | (cases h; done) | skip
    rename_i ts v p
    have h : (match subT ts with
      | some (x, y) => noCo v && okX y && chkE T.nm N sc sc o x && chkE T.nm N sc sc i y && chkE T.nm N sc sc e v
      | none => false) = true := h
    split at h
    · rename_i y z hy
      obtain ⟨q, rfl⟩ := subT_eq hy
      obtain ⟨h, h5⟩ := band h
      obtain ⟨h, h4⟩ := band h
      obtain ⟨h, h3⟩ := band h
      exact t_put g (band h).1 (band h).2 (sndE tb o sc sc X W g y h3).pe (sndE tb i sc sc X W g z h4).pe (sndE tb e sc sc X W g v h5).pe
    · cases h
  | fset o f e =>
    cases x <;> first | (cases h; done) | skip
    rename_i ts v p
    have h : (match attT ts with
      | some (x, g) => decide (f = g) && noCo v && chkE T.nm N sc sc o x && chkE T.nm N sc sc e v
      | none => false) = true := h
    split at h
    · rename_i y f' hy
      obtain ⟨q, rfl⟩ := attT_eq hy
      obtain ⟨h, h4⟩ := band h
      obtain ⟨h, h3⟩ := band h
      cases dec (band h).1
      exact t_fset g tb (band h).2 (sndE tb o sc sc X W g y h3).pe (sndE tb e sc sc X W g v h4).pe
    · cases h
  | aug i op e =>
    cases x <;> first | (cases h; done) | skip
    rename_i y o v p
    have h : (match nmE y with
      | some x => decide (N[i]? = some x) && stO sc x && chkB op o && chkE T.nm N sc sc e v
      | none => false) = true := h
    split at h
    · rename_i y' hy
      obtain ⟨q, rfl⟩ := nmE_eq hy
      obtain ⟨h, h4⟩ := band h
      obtain ⟨h, h3⟩ := band h
      exact t_aug g (dec (band h).1) (band h).2 h3 (sndE tb e sc sc X W g v h4).pe
    · cases h
  | ex e =>
    cases x <;> first | (cases h; done) | skip
    rename_i v p
    have h : (noCo v && chkE T.nm N sc sc e v) = true := h
    exact t_ex g (band h).1 (sndE tb e sc sc X W g v (band h).2).pe
  | ret e =>
    cases x <;> first | (cases h; done) | skip
    rename_i v p
    cases v with
    | none => cases h
    | some v => exact t_ret (sndE tb e sc sc X W g v h).pe
  | retN =>
    cases x <;> first | (cases h; done) | skip
    rename_i v p
    cases v with
    | none => exact t_retN
    | some v => cases h
  | rse k =>
    cases x <;> first | (cases h; done) | skip
    rename_i e c p
    have h : (match rseT e c with
      | some (x, as) => decide (T.nm.cls[k]? = some x) && (T.nm.xfd.lookup x).isNone && isGl sc x && noDbg x && txt1 as
      | none => false) = true := h
    split at h
    · rename_i v as hy
      obtain ⟨p1, q1, rfl, rfl⟩ := rseT_eq hy
      obtain ⟨h, h4⟩ := band h
      obtain ⟨h, h3⟩ := band h
      obtain ⟨h, h2⟩ := band h
      exact t_rse g tb (dec (band h).1) h2 h3 h4 (Option.isNone_iff_eq_none.mp (band h).2)
    · cases h
  | pas =>
    cases x <;> first | (cases h; done) | skip
    · rename_i v p
      obtain ⟨s, j, q, rfl⟩ := isDoc_eq (show isDoc v = true from h)
      exact t_pas ps_doc
    · exact t_pas ps_pass
  | brk =>
    cases x <;> first | (cases h; done) | skip
    exact t_brk
  | cnt =>
    cases x <;> first | (cases h; done) | skip
    exact t_cnt
  | nev =>
    refine psImp ps_never fun E σ H q => ?_
    obtain ⟨env, m, S, he, r, q⟩ := q
    exact q
mutual
theorem sndS (tb : TbOk T n call) : ∀ (s : Ev.St) (sc : Scope) (X : Cx) (W : WX) (g : Good T n N sc sc X W) (fo : FrOk X) (x : Stmt), chkS T.nm N sc s x = true → PS X x (tS T.toAd W (sS T call s))
  | .set i e, sc, X, W, g, fo, x, h => sndS0 tb _ sc X W g x h rfl
  | .asg t e, sc, X, W, g, fo, x, h => sndS0 tb _ sc X W g x h rfl
  | .par i j a b, sc, X, W, g, fo, x, h => sndS0 tb _ sc X W g x h rfl
  | .put o i e, sc, X, W, g, fo, x, h => sndS0 tb _ sc X W g x h rfl
  | .fset o f e, sc, X, W, g, fo, x, h => sndS0 tb _ sc X W g x h rfl
  | .aug i op e, sc, X, W, g, fo, x, h => sndS0 tb _ sc X W g x h rfl
  | .asgF o f g' e, sc, X, W, g, fo, x, h => sndS0 tb _ sc X W g x h rfl
  | .star i j e, sc, X, W, g, fo, x, h => sndS0 tb _ sc X W g x h rfl
  | .faug o f op e, sc, X, W, g, fo, x, h => sndS0 tb _ sc X W g x h rfl
  | .tryH b hs, sc, X, W, g, fo, x, h => by
    cases x <;> first | (cases h; done) | skip
    rename_i xs hds els fin p
    have h : (els.isEmpty && fin.isEmpty && !hs.isEmpty && chkHs T.nm sc hs hds && chkSs T.nm N sc b xs) = true := h
    obtain ⟨h, h5⟩ := band h
    obtain ⟨h, h4⟩ := band h
    obtain ⟨h, h3⟩ := band h
    obtain rfl := List.isEmpty_iff.mp (band h).1
    obtain rfl := List.isEmpty_iff.mp (band h).2
    exact t_try g fo tb h3 h4 fun X' W' g' fo' => sndSs tb b sc X' W' g' fo' xs h5
  | .ex e, sc, X, W, g, fo, x, h => sndS0 tb _ sc X W g x h rfl
  | .ret e, sc, X, W, g, fo, x, h => sndS0 tb _ sc X W g x h rfl
  | .retN, sc, X, W, g, fo, x, h => sndS0 tb _ sc X W g x h rfl
  | .rse k, sc, X, W, g, fo, x, h => sndS0 tb _ sc X W g x h rfl
  | .rseF k f e, sc, X, W, g, fo, x, h => by
    cases x <;> first | (cases h; done) | skip
    rename_i y c p
    have h : (match rseT y c with
      | some (v, [z]) => decide (T.nm.cls[k]? = some v) && decide (T.nm.xfd.lookup v = some f) && isGl sc v && noDbg v && okX z && chkE T.nm N sc sc e z
      | _ => false) = true := h
    split at h
    case h_2 => cases h
    rename_i v z hy
    obtain ⟨p1, q1, rfl, rfl⟩ := rseT_eq hy
    obtain ⟨h, h6⟩ := band h
    obtain ⟨h, h5⟩ := band h
    obtain ⟨h, h4⟩ := band h
    obtain ⟨h, h3⟩ := band h
    exact t_rseF g fo tb (dec (band h).1) (dec (band h).2) h3 h4 h5 (sndE tb e sc sc X W g z h6).pe
  | .tryM b hs, sc, X, W, g, fo, x, h => by
    cases x <;> first | (cases h; done) | skip
    rename_i xs hds els fin p
    have h : (els.isEmpty && fin.isEmpty && !hs.isEmpty && chkHM T.nm N sc hs hds && chkSs T.nm N sc b xs) = true := h
    obtain ⟨h, h5⟩ := band h
    obtain ⟨h, h4⟩ := band h
    obtain ⟨h, h3⟩ := band h
    obtain rfl := List.isEmpty_iff.mp (band h).1
    obtain rfl := List.isEmpty_iff.mp (band h).2
    exact t_tryM g fo tb h3 h4 fun X' W' g' fo' => sndSs tb b sc X' W' g' fo' xs h5
  | .pas, sc, X, W, g, fo, x, h => sndS0 tb _ sc X W g x h rfl
  | .brk, sc, X, W, g, fo, x, h => sndS0 tb _ sc X W g x h rfl
  | .cnt, sc, X, W, g, fo, x, h => sndS0 tb _ sc X W g x h rfl
  | .nev, sc, X, W, g, fo, x, h => sndS0 tb _ sc X W g x h rfl
  | .ite c a b, sc, X, W, g, fo, x, h => by
    cases x <;> first | (cases h; done) | skip
    rename_i x y z p
    have h : (noIf x && chkE T.nm N sc sc c x && chkSs T.nm N sc a y && chkSs T.nm N sc b z) = true := h
    obtain ⟨h, h4⟩ := band h
    obtain ⟨h, h3⟩ := band h
    exact t_ite (band h).1 (sndE tb c sc sc X W g x (band h).2) (sndSs tb a sc X W g fo y h3) (sndSs tb b sc X W g fo z h4)
  | .whl c b, sc, X, W, g, fo, x, h => by
    cases x <;> first | (cases h; done) | skip
    rename_i x y z p
    cases z with
    | cons _ _ => cases h
    | nil =>
      have h : (true && noIf x && chkE T.nm N sc sc c x && chkSs T.nm N sc b y) = true := h
      rw [Bool.true_and] at h
      exact t_whl g (band (band h).1).1 (sndE tb c sc sc X W g x (band (band h).1).2) (sndSs tb b sc X W g fo y (band h).2)
  | .for t it b, sc, X, W, g, fo, x, h => by
    cases x <;> first | (cases h; done) | skip
    rename_i tg iter y z p
    cases z with
    | cons _ _ => cases h
    | nil =>
      have h : (true && okX iter && chkT N sc t tg && chkI T.nm N sc sc it tg iter && chkSs T.nm N sc b y) = true := h
      rw [Bool.true_and] at h
      obtain ⟨h, h4⟩ := band h
      obtain ⟨h, h3⟩ := band h
      exact t_for g (band h).1 (band h).2 (sndI tb it sc sc X W g tg iter h3) (sndSs tb b sc X W g fo y h4)
theorem sndSs (tb : TbOk T n call) : ∀ (ss : Ev.Ss) (sc : Scope) (X : Cx) (W : WX) (g : Good T n N sc sc X W) (fo : FrOk X) (xs : List Stmt), chkSs T.nm N sc ss xs = true → PSs X xs (tS T.toAd W (sSs T call ss))
  | .nil, sc, X, W, g, fo, xs, h => by
    cases xs with
    | cons _ _ => cases h
    | nil =>
      refine pssImp pss_nil fun E σ H q => ?_
      obtain ⟨env, m, S, he, r, q⟩ := q
      exact q m H σ Ext.refl r he
  | .cons s ss, sc, X, W, g, fo, xs, h => by
    cases xs with
    | nil => cases h
    | cons x xs =>
      have h : (chkS T.nm N sc s x && chkSs T.nm N sc ss xs) = true := h
      refine pssImp (pss_cons (sndS tb s sc X W g fo x (band h).1) (sndSs tb ss sc X W g fo xs (band h).2)) fun E σ H q => ?_
      obtain ⟨env, m, S, he, r, q⟩ := q
      refine ⟨env, m, S, he, r, ?_⟩
      have q : PostS T.toAd ((Ev.St.ev call T.G s env S).seq fun env S => Ev.Ss.ev call T.G ss env S) m H W E := q
      show PostS T.toAd (Ev.St.ev call T.G s env S) m H W _
      cases e : Ev.St.ev call T.G s env S with
      | nx env1 S1 =>
        rw [e] at q
        exact fun m' H' σ' x1 r1 he1 => ⟨env1, m', S1, he1, r1, PostS.ext q x1⟩
      | rt d S1 =>
        rw [e] at q
        exact q
      | bk env1 S1 =>
        rw [e] at q
        exact q
      | ct env1 S1 =>
        rw [e] at q
        exact q
      | exc x1 env1 S1 =>
        rw [e] at q
        exact q
      | stuck =>
        rw [e] at q
        exact q
end
end
section
variable {T : Ad} {m m' : Mp} {H H' H0 : Hp}
mutual
theorem RD.back {t : List Addr} (e : m'.c = m.c ++ t) (eh : m'.h = m.h) : ∀ (d : D) (v v0 : V), RD T m H0 d v0 → RD T m' H' d v → RD T m H' d v
  | .non, v, v0, _, h => h
  | .bl b, v, v0, _, h => h
  | .int i, v, v0, _, h => h
  | .str x, v, v0, _, h => h
  | .fn k, v, v0, _, h => h
  | .scr ns, v, v0, _, h => h
  | .tdc ks ds, v, v0, h0, h => by
    obtain ⟨p, as, vs, h1, h2, hn, h3, h4, h5, h6⟩ := h
    obtain ⟨_, _, vs0, _, _, _, _, _, _, k6⟩ := h0
    exact ⟨p, as, vs, h1, h2, fun z => hn (by
      rcases z with z | z
      · exact .inl (by rw [e]; exact List.mem_append_left _ z)
      · exact .inr (by rw [eh]; exact z)), h3, h4, h5, RDs.back e eh ds vs vs0 k6 h6⟩
  | .ref l, v, v0, h0, h => by
    obtain ⟨p, h1, h2⟩ := h
    obtain ⟨p0, h3, _⟩ := h0
    have hl := (List.getElem?_eq_some_iff.mp h3).1
    rw [e, List.getElem?_append_left hl] at h1
    exact ⟨p, h1, h2⟩
  | .tup xs, v, v0, h0, h => by
    obtain ⟨p, vs, h1, h2, h3⟩ := h
    obtain ⟨_, vs0, _, _, h4⟩ := h0
    exact ⟨p, vs, h1, h2, RDs.back e eh xs vs vs0 h4 h3⟩
  | .lst xs, v, v0, h0, h => by
    obtain ⟨p, vs, h1, h2, h3⟩ := h
    obtain ⟨_, vs0, _, _, h4⟩ := h0
    exact ⟨p, vs, h1, ⟨h2.1, fun z => h2.2 (by
      rcases z with z | z
      · exact .inl (by rw [e]; exact List.mem_append_left _ z)
      · exact .inr (by rw [eh]; exact z))⟩, RDs.back e eh xs vs vs0 h4 h3⟩
theorem RDs.back {t : List Addr} (e : m'.c = m.c ++ t) (eh : m'.h = m.h) : ∀ (ds : List D) (vs vs0 : List V), RDs T m H0 ds vs0 → RDs T m' H' ds vs → RDs T m H' ds vs
  | [], vs, vs0, _, h => h
  | d :: ds, vs, vs0, h0, h => by
    obtain ⟨v, r, h1, h2, h3⟩ := h
    obtain ⟨w, q, _, k2, k3⟩ := h0
    exact ⟨v, r, h1, RD.back e eh d v w k2 h2, RDs.back e eh ds r q k3 h3⟩
end
theorem RKs.back {t : List Addr} (e : m'.c = m.c ++ t) (eh : m'.h = m.h) : ∀ (ds : List (D × D)) (vs vs0 : List (Key × V)), RKs T m H0 ds vs0 → RKs T m' H' ds vs → RKs T m H' ds vs
  | [], vs, vs0, _, h => h
  | d :: ds, vs, vs0, h0, h => by
    obtain ⟨k, v, r, h1, h2, h3, h4⟩ := h
    obtain ⟨k', w, q, _, _, k3, k4⟩ := h0
    exact ⟨k, v, r, h1, h2, RD.back e eh _ v w k3 h3, RKs.back e eh ds r q k4 h4⟩
theorem RFs.back {t : List Addr} (e : m'.c = m.c ++ t) (eh : m'.h = m.h) : ∀ (ds : List (Str × D)) (vs vs0 : List (Str × V)), RFs T m H0 ds vs0 → RFs T m' H' ds vs → RFs T m H' ds vs
  | [], vs, vs0, _, h => h
  | d :: ds, vs, vs0, h0, h => by
    obtain ⟨v, r, h1, h3, h4⟩ := h
    obtain ⟨w, q, _, k3, k4⟩ := h0
    exact ⟨v, r, h1, RD.back e eh _ v w k3 h3, RFs.back e eh ds r q k4 h4⟩
theorem notm {t : List Addr} (e : m'.c = m.c ++ t) (eh : m'.h = m.h) {p : Addr} (h : ¬ m'.has p) : ¬ m.has p := fun z => h (by
  rcases z with z | z
  · exact .inl (by rw [e]; exact List.mem_append_left _ z)
  · exact .inr (by rw [eh]; exact z))
theorem Ext.back (x : Ext m H m' H') : Ext m H m H' := by
  obtain ⟨t, e⟩ := x.pre
  exact ⟨⟨⟨[], by simp⟩, x.tup, fun p vs h n => ⟨(x.lst p vs h n).1, n⟩, x.frz, x.ext, fun p P w u h n => ⟨(x.dic p P w u h n).1, n⟩, rfl, x.tab⟩, rfl, x.hid⟩
theorem RS.back {S S' : Store} (x : Ext m H m' H') (r : RS T m H S) (r' : RS T m' H' S') (h : S'.take S.length = S) : RS T m H' S := by
  obtain ⟨t, e⟩ := x.pre
  refine ⟨r.len, r.nd, fun p hp => ⟨(r.hid p hp).1, by rw [x.hid p hp]; exact (r.hid p hp).2⟩, fun p hp => (by rw [x.hid p hp]; exact r.hnt p hp), r.tt, x.tab r.tab, fun l ob p h1 h2 => ?_⟩
  have hl : l < S.length := (List.getElem?_eq_some_iff.mp h1).1
  have h3 : S'[l]? = some ob := by
    rw [← h1]
    conv => rhs; rw [← h]
    rw [List.getElem?_take, if_pos hl]
  obtain ⟨o, k1, k2⟩ := r'.at_ l ob p h3 (x.get h2)
  obtain ⟨o0, j1, j2⟩ := r.at_ l ob p h1 h2
  refine ⟨o, k1, ?_⟩
  cases ob with
  | lst xs =>
    obtain ⟨vs, q1, q2⟩ := k2
    obtain ⟨vs0, _, q3⟩ := j2
    exact ⟨vs, q1, RDs.back e x.eqh xs vs vs0 q3 q2⟩
  | dct kvs =>
    obtain ⟨vs, q1, q2⟩ := k2
    obtain ⟨vs0, _, q3⟩ := j2
    exact ⟨vs, q1, RKs.back e x.eqh kvs vs vs0 q3 q2⟩
  | obj c fs =>
    obtain ⟨dx, vs, q1, q2⟩ := k2
    obtain ⟨_, vs0, _, q3⟩ := j2
    exact ⟨dx, vs, q1, RFs.back e x.eqh fs vs vs0 q3 q2⟩
  | dtt kvs =>
    obtain ⟨as, vs, q1, q2, q3, q4⟩ := k2
    obtain ⟨as0, vs0, _, _, _, j4⟩ := j2
    exact ⟨as, vs, q1, q2, q3, RDs.back e x.eqh _ vs vs0 j4 q4⟩
  | dtl kvs =>
    obtain ⟨od, as, vs, q1, q2, q3, q4⟩ := k2
    obtain ⟨od0, as0, vs0, _, _, _, j4⟩ := j2
    exact ⟨od, as, vs, q1, q2, q3, RDs.back e x.eqh _ vs vs0 j4 q4⟩
mutual
theorem frzW_use {t : List Addr} {n : Nat} {g : Nat → Option D} (e : m'.c = m.c ++ t) (eh : m'.h = m.h) (hn : n = m.c.length) (hg : ∀ l d v, ¬ l < n → g l = some d → RD T m' H' (.ref l) v → RD T m H' d v) : ∀ (d d' : D) (v : V), frzW n g d = some d' → RD T m' H' d v → RD T m H' d' v
  | .non, d', v, h, hv => by
    cases h
    exact hv
  | .bl b, d', v, h, hv => by
    cases h
    exact hv
  | .int i, d', v, h, hv => by
    cases h
    exact hv
  | .str x, d', v, h, hv => by
    cases h
    exact hv
  | .fn k, d', v, h, hv => by
    cases h
    exact hv
  | .scr k, d', v, h, hv => by
    cases h
    exact hv
  | .tdc _ _, d', v, h, hv => by cases h
  | .ref l, d', v, h, hv => by
    have h : (if l < n then some (.ref l) else g l) = some d' := h
    by_cases c : l < n
    · rw [if_pos c] at h
      cases h
      obtain ⟨p, h1, h2⟩ := hv
      rw [e, List.getElem?_append_left (by rw [← hn]; exact c)] at h1
      exact ⟨p, h1, h2⟩
    · rw [if_neg c] at h
      exact hg l d' v c h hv
  | .tup xs, d', v, h, hv => by
    obtain ⟨ys, h1, rfl⟩ := Option.map_eq_some_iff.mp (show (frzWs n g xs).map .tup = some d' from h)
    obtain ⟨p, vs, k1, k2, k3⟩ := hv
    exact ⟨p, vs, k1, k2, frzWs_use e eh hn hg xs ys vs h1 k3⟩
  | .lst xs, d', v, h, hv => by
    obtain ⟨ys, h1, rfl⟩ := Option.map_eq_some_iff.mp (show (frzWs n g xs).map .lst = some d' from h)
    obtain ⟨p, vs, k1, k2, k3⟩ := hv
    exact ⟨p, vs, k1, ⟨k2.1, notm e eh k2.2⟩, frzWs_use e eh hn hg xs ys vs h1 k3⟩
theorem frzWs_use {t : List Addr} {n : Nat} {g : Nat → Option D} (e : m'.c = m.c ++ t) (eh : m'.h = m.h) (hn : n = m.c.length) (hg : ∀ l d v, ¬ l < n → g l = some d → RD T m' H' (.ref l) v → RD T m H' d v) : ∀ (ds ds' : List D) (vs : List V), frzWs n g ds = some ds' → RDs T m' H' ds vs → RDs T m H' ds' vs
  | [], ds', vs, h, hv => by
    cases h
    exact hv
  | d :: ds, ds', vs, h, hv => by
    have h : (match frzW n g d with | some y => (frzWs n g ds).map (y :: ·) | none => none) = some ds' := h
    obtain ⟨v, r, h1, h2, h3⟩ := hv
    cases e1 : frzW n g d with
    | none =>
      rw [e1] at h
      cases h
    | some y =>
      rw [e1] at h
      obtain ⟨ys, k1, rfl⟩ := Option.map_eq_some_iff.mp h
      exact ⟨v, r, h1, frzW_use e eh hn hg d y v e1 h2, frzWs_use e eh hn hg ds ys r k1 h3⟩
end
theorem mapM_use {f : D → Option D} (hf : ∀ d d' v, f d = some d' → RD T m' H' d v → RD T m H' d' v) : ∀ (ds ds' : List D) (vs : List V), ds.mapM f = some ds' → RDs T m' H' ds vs → RDs T m H' ds' vs
  | [], ds', vs, h, hv => by
    simp at h
    subst h
    exact hv
  | d :: ds, ds', vs, h, hv => by
    obtain ⟨v, r, h1, h2, h3⟩ := hv
    rw [List.mapM_cons] at h
    obtain ⟨d1, e1, h⟩ := Option.bind_eq_some_iff.mp h
    obtain ⟨ds1, e2, h⟩ := Option.bind_eq_some_iff.mp h
    cases h
    exact ⟨v, r, h1, hf d d1 v e1 h2, mapM_use hf ds ds1 r e2 h3⟩
theorem frz_use {S' : Store} {t : List Addr} (e : m'.c = m.c ++ t) (eh : m'.h = m.h) (r' : RS T m' H' S') : ∀ (k : Nat) (d d' : D) (v : V), frz S' m.c.length k d = some d' → RD T m' H' d v → RD T m H' d' v
  | 0, d, d', v, h, hv => frzW_use e eh rfl (fun _ _ _ _ h _ => by cases h) d d' v h hv
  | k + 1, d, d', v, h, hv => by
    refine frzW_use e eh rfl (fun l d v hl h hv => ?_) d d' v h hv
    cases e1 : S'[l]? with
    | none =>
      rw [e1] at h
      cases h
    | some ob =>
      cases ob with
      | dct _ =>
        rw [e1] at h
        cases h
      | obj _ _ =>
        rw [e1] at h
        cases h
      | dtt _ =>
        rw [e1] at h
        cases h
      | dtl _ =>
        rw [e1] at h
        cases h
      | lst xs =>
        rw [e1] at h
        obtain ⟨ys, k1, rfl⟩ := Option.map_eq_some_iff.mp h
        obtain ⟨p, vs, h1, h2, h3⟩ := r'.lst e1
        obtain ⟨p', q1, rfl⟩ := hv
        rw [h1] at q1
        cases q1
        refine ⟨p, vs, rfl, ⟨h2, ?_⟩, mapM_use (fun d d' v => frz_use e eh r' k d d' v) xs ys vs k1 h3⟩
        rintro (z | z)
        · obtain ⟨j, hj, ej⟩ := List.getElem_of_mem z
          have h4 : m'.c[j]? = some p := by
            rw [e, List.getElem?_append_left hj, List.getElem?_eq_getElem hj, ej]
          obtain ⟨a1, b1⟩ := List.getElem?_eq_some_iff.mp h1
          obtain ⟨a2, b2⟩ := List.getElem?_eq_some_iff.mp h4
          have := (List.getElem_inj r'.nd).mp (b1.trans b2.symm)
          omega
        · exact (r'.hid p (by rw [eh]; exact z)).1 (List.mem_of_getElem? h1)
/-- the end of a body, handed to the caller -/
theorem fin_use {pure : Bool} {S S' : Store} {d : D} {v : V} {Q : VK} {E : XK} (r : RS T m H S) (h : PostF T (fin pure S d S') m H Q E) (x : Ext m H m' H') (r' : RS T m' H' S') (hv : RD T m' H' d v) : Q v H' := by
  unfold fin at h
  cases pure with
  | false =>
    rw [if_neg Bool.false_ne_true] at h
    exact h v m' H' x r' hv
  | true =>
    rw [if_pos rfl] at h
    by_cases c : S'.take S.length = S
    · rw [if_pos c] at h
      cases e : frz S' S.length 3 d with
      | none =>
        rw [e] at h
        exact h.elim
      | some d' =>
        rw [e] at h
        obtain ⟨t, et⟩ := x.pre
        rw [r.len] at e
        exact h v m H' x.back (r.back x r' c) (frz_use et x.eqh r' 3 d d' v e hv)
    · rw [if_neg c] at h
      exact h.elim
theorem finish_use {pure : Bool} {S : Store} {R : SR} {Q : VK} {E : XK} (r : RS T m H S) (h : PostF T (finish pure S R) m H Q E) : PostS T R m H (fun cls d _ H => E cls d H) { nx := fun _ H' => Q .non H', rt := Q } := by
  cases R with
  | nx env S1 => exact fun m' H' σ x r' _ => fin_use r h x r' rfl
  | rt d S1 => exact fun m' H' v x r' hv => fin_use r h x r' hv
  | bk env S1 => exact h.elim
  | ct env S1 => exact h.elim
  | stuck => exact h.elim
  | exc e env S1 =>
    have h : PostF T (if pure = true then (if S1.take S.length = S then finX e S1 S else .stuck) else .exc e S1) m H Q E := h
    intro m' H' σ x r' _
    cases pure with
    | false =>
      rw [if_neg Bool.false_ne_true] at h
      exact h m' H' x r'
    | true =>
      rw [if_pos rfl] at h
      by_cases c2 : S1.take S.length = S
      · rw [if_pos c2] at h
        obtain ⟨ec, fs⟩ := e
        match fs, h with
        | [], h => exact h m H' x.back (r.back x r' c2)
        | [(f, d)], h =>
          have h : PostF T (match frz S1 S.length 3 d with | some y => .exc ⟨ec, [(f, y)]⟩ S | none => .stuck) m H Q E := h
          cases e2 : frz S1 S.length 3 d with
          | none =>
            rw [e2] at h
            exact h.elim
          | some d' =>
            rw [e2] at h
            have h := h m H' x.back (r.back x r' c2)
            obtain ⟨t, et⟩ := x.pre
            rw [r.len] at e2
            exact fun dd v hd hv => h dd v hd (frz_use et x.eqh r' 3 d d' v e2 hv)
        | _ :: _ :: _, h => exact h.elim
      · rw [if_neg c2] at h
        exact h.elim
end
end Ev
namespace Ev
open PySem PySem.Spec L2 PyProof.Rows
/-- a def's look: its names, its term -/
def chkF (nm : Names) (N ps : List Str) (f : Fn) (sc : Scope) (body : List Stmt) : Bool := C8.scC N ps sc && decide (f.np = ps.length) && decide (f.nv = N.length) && chkSs nm N sc f.body body
/-- of a def that makes lambdas: its code object and the table -/
def LamT (T : Tb) (x : Str) (scope : Scope) (cdv : Value) : Prop := ∃ c P : Addr, cdv = .ref c ∧ LamX.TabB T.base T.mg c P ∧ (P, (envOfC x scope 0 0 cdv).qual ++ "<lambda>") ∈ T.tb ∧ ∀ p ∈ T.tb, p.1 = P → p.2 = (envOfC x scope 0 0 cdv).qual ++ "<lambda>"
/-- a function of the table as it stands behind the top -/
structure Top (T : Tb) (k : Nat) (x : Str) : Prop where
  ex : ∃ (sn : Str) (params : Arguments) (body : List Stmt) (scope : Scope) (oc : Value) (od : Option Addr) (dV kV doc pm : Value) (an : Option Addr) (cdv ct : Value) (osl : Array (Option Value)) (N : List Str) (f : Fn),
    T.fd k = PySem.W.fnOf sn x params body scope dV kV doc pm an cdv ct ∧ T.K.lookup (T.fa k) = some ⟨oc, od, .func (PySem.W.fnOf sn x params body scope dV kV doc pm an cdv ct), osl⟩ ∧ PySem.W.codeIn T.K cdv x = true ∧
    T.G.fns[k]? = some f ∧ chkF T.nm N (T.ps k) f scope body = true ∧ (N ∈ T.nm.tld → LamT T x scope cdv)
  mgf : isM x = false → T.mg x = some (.ref (T.fa k))
  kp : PySem.W.keepIn T.K (.ref (T.fa k)) = true
  bd : kwOf T.nm k = none → Binds T.K (T.fd k) (T.ps k) []
theorem top_mk {T : Tb} {k : Nat} {x sn : Str} {fa : Addr} {params : Arguments} {body : List Stmt} {scope : Scope} {oc : Value} {od : Option Addr} {dV kV doc pm : Value} {an : Option Addr} {cdv ct : Value} {osl : Array (Option Value)} {f : Fn} {ps : List Str} (N : List Str)
    (hfa : T.fa k = fa) (hfd : T.fd k = PySem.W.fnOf sn x params body scope dV kV doc pm an cdv ct) (hps : T.ps k = ps) (hG : T.G.fns[k]? = some f) (lk : T.K.lookup fa = some ⟨oc, od, .func (PySem.W.fnOf sn x params body scope dV kV doc pm an cdv ct), osl⟩)
    (hc : PySem.W.codeIn T.K cdv x = true) (hck : chkF T.nm N ps f scope body = true) (hm : isM x = false → T.mg x = some (.ref fa)) (hk : PySem.W.keepIn T.K (.ref fa) = true) (hb : kwOf T.nm k = none → Binds T.K (PySem.W.fnOf sn x params body scope dV kV doc pm an cdv ct) ps []) (hl : N ∈ T.nm.tld → LamT T x scope cdv) : Top T k x := by
  subst hfa hps
  exact ⟨⟨sn, params, body, scope, oc, od, dV, kV, doc, pm, an, cdv, ct, osl, N, f, hfd, lk, hc, hG, hck, hl⟩, hm, hk, by rw [hfd]; exact hb⟩
theorem noLam {T : Tb} {N : List Str} {P : Prop} (h : T.nm.tld.contains N = false) (e : N ∈ T.nm.tld) : P := by rw [List.contains_iff_mem.mpr e] at h; cases h
theorem kw_of1 {P : Nat → Str × D → Prop} {nm : Names} {k0 : Nat} {q0 : Str × D} (e : nm.kwd = [(k0, q0)]) (hp : P k0 q0) (k : Nat) (q : Str × D) (h : kwOf nm k = some q) : P k q := by
  unfold kwOf at h
  rw [e] at h
  by_cases c : k = k0
  · subst c
    simp [List.lookup] at h
    subst h
    exact hp
  · have : (k == k0) = false := beq_eq_false_iff_ne.mpr c
    simp [List.lookup, this] at h
def vfB (nm : Names) (l : List Nat) : Bool := l.all fun k => match nm.fns[k]? with
  | some x => (kwOf nm k).isNone && !isM x
  | none => false
theorem vf_of {nm : Names} {l : List Nat} (h : vfB nm l = true) : ∀ k ∈ l, ∃ x, nm.fns[k]? = some x ∧ kwOf nm k = none ∧ isM x = false := fun k hk => by
  have := List.all_eq_true.mp h k hk
  cases e : nm.fns[k]? with
  | none =>
    rw [e] at this
    cases this
  | some x =>
    rw [e] at this
    exact ⟨x, rfl, Option.isNone_iff_eq_none.mp (band this).1, by simpa using (band this).2⟩
/-- the def that asks: its handlers, then its last row's constants -/
def conEs : List D → Es
  | [] => .nil
  | d :: ds => .cons (.con d) (conEs ds)
def saidT : List Stmt → Option (Str × List ExceptHandler × Stmt)
  | [.Try [.Expr (.Call (.Name a _) [] [] _) _] hds [] [] _, r] => some (a, hds, r)
  | _ => none
theorem saidT_eq {b : List Stmt} {a : Str} {hds : List ExceptHandler} {r : Stmt} (h : saidT b = some (a, hds, r)) : ∃ p1 p2 p3 p4, b = [.Try [.Expr (.Call (.Name a p1) [] [] p2) p3] hds [] [] p4, r] := by
  unfold saidT at h
  split at h
  · cases h
    exact ⟨_, _, _, _, rfl⟩
  · cases h
def saidB (nm : Names) (N : List Str) (sc : Scope) (hs : List HR) (ds : List D) (body : List Stmt) : Bool := C8.scC N ["_law_ask"] sc && decide (N[0]? = some ("_law_ask" : Str)) && isVis sc "_law_ask" && decide (ds.length ≤ 100) && !hs.isEmpty && (match saidT body with
  | some (a, hds, r) => decide (a = "_law_ask") && chkHM nm N sc hs hds && chkSs nm N sc (.cons (.ret (.tup (conEs ds))) .nil) [r]
  | none => false)
def ToldR (T : Tb) : Prop := ∃ (hs : List HR) (ds : List D) (g : Addr) (oc : Value) (od : Option Addr) (pg : Arguments) (bg : List Stmt) (sg : Scope) (dV kV doc pm : Value) (an : Option Addr) (cdv ct : Value) (osl : Array (Option Value)) (Ng : List Str),
  T.G.sad = some (hs, ds, Ng.length) ∧ T.mg "_law_said" = some (.ref g) ∧ PySem.W.keepIn T.K (.ref g) = true ∧ T.K.lookup g = some ⟨oc, od, .func (PySem.W.fnOf "_law_said" "_law_said" pg bg sg dV kV doc pm an cdv ct), osl⟩ ∧ PySem.W.codeIn T.K cdv "_law_said" = true ∧
  Binds T.K (PySem.W.fnOf "_law_said" "_law_said" pg bg sg dV kV doc pm an cdv ct) ["_law_ask"] [] ∧ saidB { T.nm with tld := [] } Ng sg hs ds bg = true
structure Tops (T : Tb) : Prop where
  fn : ∀ (k : Nat) (x : Str), T.nm.fns[k]? = some x → Top T k x
  kw : ∀ (k : Nat) (q : Str × D), kwOf T.nm k = some q → KwB T.toAd (T.fd k) (T.ps k) q.2
  bl : ∀ x ∈ T.nm.blt, T.mg x = none
  gl : ∀ (k : Nat) (x : Str) (d : D), T.nm.gls[k]? = some x → T.G.glbs[k]? = some d → ∃ v u, T.mg x = some u ∧ RelV v u ∧ ∀ m H, RD T.toAd m H d v
  cl : ∀ (k : Nat) (x : Str), T.nm.cls[k]? = some x → T.mg x = some (.ref (T.ca k)) ∧ PySem.W.keepIn T.K (.ref (T.ca k)) = true ∧
    (T.nm.xfd.lookup x = none → PySem.W.excIn T.K (T.ca k) [.type "ValueError", .type "Exception", .type "BaseException", .type "object"] "ValueError.__new__" = true) ∧
    PySem.W.subIn T.K (.ref (T.ca k)) (.type "BaseException") = some true ∧ PySem.W.typeIn T.K (.ref (T.ca k)) = some (.type "type")
  xk : ∀ (k : Nat) (x f : Str), T.nm.cls[k]? = some x → T.nm.xfd.lookup x = some f → KeepC T.K (T.ca k) f
  xf : ∀ t ∈ T.G.xfs, KeepC T.K (T.ca t.1) t.2
  xi : ∀ t ∈ T.G.xis, ExcC T.K (T.ca t.1) ∧ PySem.W.kitOne T.K (.ref (T.ca t.1)) (.ref (T.ca t.2.1)) = some t.2.2
  td : T.nm.tld ≠ [] → ToldR T
  vf : ∀ k ∈ T.G.vfn, ∃ x, T.nm.fns[k]? = some x ∧ kwOf T.nm k = none ∧ isM x = false
  kl : ∀ (c : Nat) (kl : Kl), T.G.kls[c]? = some kl → Cls T.K (T.ka c) ∧ (∀ f ∈ kl.fl, NoAttr T.K (T.ka c) f) ∧ ∀ (w : Bool) (mt : Str) (k : Nat), (if w then kl.mc else kl.ms).lookup mt = some k → Meth T.K (T.ka c) mt (T.fa k) ∧ ∃ x, T.nm.fns[k]? = some x ∧ kwOf T.nm k = none
  ex : ∀ t ∈ T.G.exs, PySem.W.exmOne T.K (.ref (T.ca t.1)) (.ref (T.ca t.2.1)) = some t.2.2
  xo : ∀ c ∈ T.G.xos, OwnX T.K (T.ka c) ∧ ∃ kl, T.G.kls[c]? = some kl
  kn : ∀ (c : Nat) (x : Str), T.nm.kns[c]? = some x → T.mg x = some (.ref (T.ka c)) ∧ ∀ (kl : Kl) (k : Nat), T.G.kls[c]? = some kl → kl.ms.lookup ("__init__" : Str) = some k → Mk T.K (T.ka c) (T.fa k)
section
variable {T : Tb}
theorem start_env {T : Ad} {m : Mp} {H : Hp} {N : List Str} : ∀ {ds : List D} {vs : List V}, RDs T m H ds vs → REnv T m H (ds.map some ++ List.replicate (N.length - ds.length) none) (L2.start N vs) := fun {ds vs} h => by
  unfold L2.start
  have hl := h.length
  refine ⟨by simp [hl], fun i d q => ?_⟩
  rcases Nat.lt_or_ge i ds.length with c | c
  · rw [List.getElem?_append_left (by simpa using c), List.getElem?_map] at q
    obtain ⟨d', e1, e2⟩ := Option.map_eq_some_iff.mp q
    cases e2
    obtain ⟨v, h1, h2⟩ := h.get e1
    exact ⟨v, by rw [List.getElem?_append_left (by rw [List.length_map, hl]; exact c), List.getElem?_map, h1]; rfl, h2⟩
  · rw [List.getElem?_append_right (by simpa using c)] at q
    have := List.mem_of_getElem? q
    simp at this
theorem run_len {G : Cfg} {n k : Nat} {ds : List D} {S : Store} {f : Fn} (hf : G.fns[k]? = some f) (h : run G n k ds S ≠ .stuck) : ds.length = f.np := by
  cases n with
  | zero => exact absurd rfl h
  | succ n =>
    by_cases c : ds.length = f.np
    · exact c
    · refine absurd ?_ h
      rw [run, hf]
      simp only
      rw [if_neg c]
theorem fnG_run (t : Tops T) {n k : Nat} {x : Str} (hx : T.nm.fns[k]? = some x) (tb : TbOk T (4 * n) (run T.G n)) : FnG T.P T.w T.K T.mg T.base (L2N.CX T.P T.w) (4 * n + 3 + 1) (T.fa k) (T.fd k) (T.ps k) (spC T.toAd (run T.G (n + 1) k) (T.ps k).length) := by
  obtain ⟨sn, params, body, scope, oc, od, dV, kV, doc, pm, an, cdv, ct, osl, N, f, e1, lk, hcd, hf, hc, hlm⟩ := (t.fn k x hx).ex
  unfold chkF at hc
  obtain ⟨hc, c4⟩ := band hc
  obtain ⟨hc, c3⟩ := band hc
  obtain ⟨c1, c2⟩ := band hc
  have c2 := dec c2
  have c3 := dec c3
  have sc := C8.fnScope_by c1
  rw [e1]
  refine fnG_of lk hcd sc (fun vs H Q E h => h.1) fun A outer s H vs Q E hr hsp => ?_
  obtain ⟨hl, m, ds, S, r, hv, hp⟩ := hsp
  have g : Good T (4 * n) N scope scope (cxOf (L2N.CX T.P T.w) T.P T.w T.K T.mg T.base N x scope (T.fa k) cdv A outer s H E) (fun cls d _ H => E cls d H) :=
    { hK := rfl, hmg := rfl, hP := rfl, hw := rfl, hb := rfl, hN := rfl, nd := sc.nd, scp := rfl, calm := rfl, rm := hr.mono (Nat.le_add_right _ _), rm1 := hr.mono (by omega), lam := fun e => ⟨hr, hlm e⟩, tk := L2N.takes_of rfl rfl rfl rfl, po := passes_of rfl, st := fun x h => ⟨h, .inl rfl⟩ }
  refine ⟨_, sndSs tb f.body scope _ _ g ⟨rfl, rfl, (hr.mono (by omega)).room⟩ body c4, ?_⟩
  have hdl : ds.length = f.np := by rw [← hv.length, hl, c2]
  have e : run T.G (n + 1) k ds S = finish f.pure S (f.body.ev (run T.G n) T.G (ds.map some ++ List.replicate (f.nv - f.np) none) S) := by
    rw [run, hf]
    simp only
    rw [if_pos hdl]
  rw [e] at hp
  refine ⟨_, m, S, ?_, r, finish_use r hp⟩
  rw [c3, ← hdl]
  exact start_env hv
/-- the facts at level 0, lambdas aside -/
theorem tb_0 (t : Tops T) : TbOk { T with nm := { T.nm with tld := [] } } 0 (run T.G 0) := by
  have fn : ∀ (k : Nat) (x : Str), T.nm.fns[k]? = some x → (isM x = false → T.mg x = some (.ref (T.fa k))) ∧ PySem.W.keepIn T.K (.ref (T.fa k)) = true ∧ (kwOf T.nm k = none → Binds T.K (T.fd k) (T.ps k) []) ∧
      FnG T.P T.w T.K T.mg T.base (L2N.CX T.P T.w) 0 (T.fa k) (T.fd k) (T.ps k) (spC T.toAd (run T.G 0 k) (T.ps k).length) ∧ ∀ ds S, run T.G 0 k ds S ≠ .stuck → ds.length = (T.ps k).length := fun k x hx => by
    have F := t.fn k x hx
    refine ⟨F.mgf, F.kp, F.bd, ?_, fun ds S h => absurd rfl h⟩
    have no : ∀ vs H Q E, ¬ spC T.toAd (run T.G 0 k) (T.ps k).length vs H Q E := fun vs H Q E h => by
      obtain ⟨_, m, ds, S, _, _, h⟩ := h
      exact h
    exact ⟨fun vs H Q E h => absurd h (no vs H Q E), fun A outer s H args us vs Q E _ _ _ _ h => absurd h (no vs H Q E)⟩
  refine ⟨fn, t.kw, t.bl, t.gl, t.cl, t.xk, t.xf, t.xi, fun z => absurd rfl z, t.vf, fun c kl hc => ?_, t.ex, t.xo, t.kn⟩
  obtain ⟨h1, h2, h3⟩ := t.kl c kl hc
  refine ⟨h1, h2, fun w mt k hk => ?_⟩
  obtain ⟨h4, x, hx, hq⟩ := h3 w mt k hk
  exact ⟨h4, (fn k x hx).2.2.1 hq, (fn k x hx).2.2.2⟩
theorem cons_ev {call : Call} {G : Cfg} {env : Env} {S : Store} : ∀ ds : List D, Es.ev call G (conEs ds) env S = .ok ds S
  | [] => rfl
  | d :: ds => by
    show (Ev.R.ok d S).bind (fun x S => (Es.ev call G (conEs ds) env S).bind fun xs S => .ok (x :: xs) S) = _
    show (Es.ev call G (conEs ds) env S).bind (fun xs S => Ev.R.ok (d :: xs) S) = _
    rw [cons_ev ds]
    rfl
theorem takes_lenM {X : Cx} {W : WX} {n : Nat} (hn : X.N.length = n) (t : L2N.Takes X W) : L2N.Takes X (fun c d σ H => σ.length = n → W c d σ H) := fun u s' ⟨a, B, sI, pins, σ, H, cls, d, e, I, nb, up, sky, na, os, ag, w⟩ =>
  t u s' ⟨a, B, sI, pins, σ, H, cls, d, e, I, nb, up, sky, na, os, ag, w (I.len.trans hn)⟩
theorem peWk {X : Cx} {e : Expr} {t : TE} (p : PE X e t) : PE X e (fun σ H Q => ∃ K : VK, t σ H K ∧ ∀ v H1, K v H1 → Q v H1) := ⟨fun pins s σ H Q I ⟨K, h, k⟩ => thn (p.run pins s σ H K I h) fun u s1 ⟨v, H1, I1, r1, q1⟩ => ⟨v, H1, I1, r1, k v H1 q1⟩⟩
theorem said_ok (t : Tops T) (hT : T.nm.tld ≠ []) : ToldF T := by
  obtain ⟨hs, ds, g, oc, od, pg, bg, sg, dV, kV, doc, pm, an, cdv, ct, osl, Ng, e0, t1, t2, t3, t4, t5, hb⟩ := t.td hT
  unfold saidB at hb
  obtain ⟨hb, b6⟩ := band hb
  obtain ⟨hb, b5⟩ := band hb
  obtain ⟨hb, b4⟩ := band hb
  obtain ⟨hb, b3⟩ := band hb
  obtain ⟨b1, b2⟩ := band hb
  have b4 := dec b4
  cases eb : saidT bg with
  | none =>
    rw [eb] at b6
    cases b6
  | some w =>
    obtain ⟨a, hds, r⟩ := w
    rw [eb] at b6
    obtain ⟨b6, b8⟩ := band b6
    obtain ⟨b6, b7⟩ := band b6
    obtain rfl := dec b6
    obtain ⟨p1, p2, p3, p4, rfl⟩ := saidT_eq eb
    have Sg := C8.fnScope_by b1
    refine ⟨hs, ds, Ng.length, g, oc, od, pg, _, sg, dV, kV, doc, pm, an, cdv, ct, osl, Ng, e0, t1, t2, t3, t4, t5, Sg, dec b2, isVis_of b3, ?_⟩
    intro X q hK hmg hP hw hbs f c' s H Q tl hr act hc h
    have tb := tb_0 t
    obtain ⟨TT, hTT⟩ : ∃ TT : Tb, TT = { T with nm := { T.nm with tld := [] } } := ⟨_, rfl⟩
    have go : ∃ t, PSs (cxOf (L2N.CX T.P T.w) T.P T.w T.K T.mg T.base Ng "_law_said" sg g cdv X.A X.stack s H fun _ _ _ => False) [.Try [.Expr (.Call (.Name "_law_ask" p1) [] [] p2) p3] hds [] [] p4, r] t ∧ t { nx := fun _ H' => Q .non H', rt := Q } (L2.start Ng [.ref f]) H := by
      have g0 : Good { T with nm := { T.nm with tld := [] } } 0 Ng sg sg (cxOf (L2N.CX T.P T.w) T.P T.w T.K T.mg T.base Ng "_law_said" sg g cdv X.A X.stack s H fun _ _ _ => False) (fun _ _ _ _ => False) :=
        { hK := rfl, hmg := rfl, hP := rfl, hw := rfl, hb := rfl, hN := rfl, nd := Sg.nd, scp := rfl, calm := rfl, rm := hr.mono (Nat.zero_le _), rm1 := hr.mono (Nat.le_succ _), lam := (fun e => by cases e), tk := L2N.takes_of rfl rfl rfl rfl, po := passes_of rfl, st := fun x h => ⟨h, .inl rfl⟩ }
      cases hds with
      | nil =>
        cases hs with
        | nil => cases b5
        | cons _ _ => cases b7
      | cons hd hds =>
        have act : ∀ (W : WX) (pn : List (Addr × Obj)) (xe : Value → Shared → Prop) (E : XK) (p1 p2 : Pos), L2N.Takes ((cxOf (L2N.CX T.P T.w) T.P T.w T.K T.mg T.base Ng "_law_said" sg g cdv X.A X.stack s H fun _ _ _ => False).tr pn xe) W → (∀ cls d σ' H', E cls d H' → W cls d σ' H') →
            PE ((cxOf (L2N.CX T.P T.w) T.P T.w T.K T.mg T.base Ng "_law_said" sg g cdv X.A X.stack s H fun _ _ _ => False).tr pn xe) (.Call (.Name "_law_ask" p1) [] [] p2) (fun σZ HZ Q => σZ[0]? = some (some (.ref f)) ∧ HZ c' = some (LamX.CodeO c' q) ∧ tl E HZ Q) := by
          rw [← hK, ← hmg, ← hP, ← hw, ← hbs]
          exact act
        have ptry := ps_try_mix (X := cxOf (L2N.CX T.P T.w) T.P T.w T.K T.mg T.base Ng "_law_said" sg g cdv X.A X.stack s H fun _ _ _ => False) (pos := p4) (body := [.Expr (.Call (.Name "_law_ask" p1) [] [] p2) p3]) (h0 := hd) (hs := hds)
          (tb := fun W D σ H' => ∃ Ech : XK, (∀ cls d σ' H', Ech cls d H' → σ'.length = Ng.length → W cls d σ' H') ∧ σ[0]? = some (some (.ref f)) ∧ H' c' = some (LamX.CodeO c' q) ∧ ∃ K : VK, tl Ech H' K ∧ ∀ v H1, K v H1 → D.nx σ H1)
          rfl rfl Sg.nd g0.tk (fun W pn xe tk _ => by
            refine ⟨fun pins s' σ H' D I h' => ?_⟩
            obtain ⟨Ech, hW, h1, h2, K, h3, h4⟩ := h'
            have hp := act (fun c d σ H => σ.length = Ng.length → W c d σ H) pn xe Ech p1 p2 (takes_lenM rfl tk) hW
            exact (pss_one (ps_expr (pos := p3) (peWk hp) (nosw rfl))).run pins s' σ H' D I ⟨K, ⟨h1, h2, h3⟩, h4⟩) (hm_ok g0 tb hs _ b7)
        have pret := sndSs tb (.cons (.ret (.tup (conEs ds))) .nil) sg _ _ g0 ⟨rfl, rfl, hr.room⟩ [r] b8
        refine ⟨_, pss_cons ptry pret, ?_⟩
        have len0 : (L2.start Ng [V.ref f]).length = Ng.length := by
          unfold L2.start
          have : 0 < Ng.length := (List.getElem?_eq_some_iff.mp (dec b2)).1
          simp
          omega
        have renv : ∀ (m : Mp) (H' : Hp) (σ : L2.St), σ.length = Ng.length → REnv T.toAd m H' (List.replicate Ng.length none) σ := fun m H' σ hl => ⟨by rw [hl, List.length_replicate], fun i d q => by
          have := List.mem_of_getElem? q
          simp at this⟩
        refine ⟨EhM T hs Ng.length Q, fun cls od σ' H' hE hl => ?_, rfl, hc, _, h, fun v H1 hk => ?_⟩
        · obtain ⟨x, m, S, d, rfl, rs, hx, h1, h2, h3, fin⟩ := hE
          refine hm_use g0 tb (renv m H' σ' hl) rs hx hs (fun h hh i e => ?_) ?_
          · have := List.all_eq_true.mp h2 h hh
            rw [e] at this
            rw [hl]
            exact of_decide_eq_true this
          · rw [h3]
            exact fun m2 H2 v x2 r2 hv => fin v m2 H2 x2 r2 hv
        · obtain ⟨m, S, rs, fin⟩ := hk
          refine ⟨List.replicate Ng.length none, m, S, renv m H1 _ len0, rs, ?_⟩
          have ev : Ev.Ss.ev (run T.G 0) T.G (.cons (.ret (.tup (conEs ds))) .nil) (List.replicate Ng.length none) S = .rt (.tup ds) S := by
            show ((((Es.ev (run T.G 0) T.G (conEs ds) (List.replicate Ng.length none) S).bind fun xs S => mkT xs S).st (List.replicate Ng.length none) fun x S => SR.rt x S).seq fun env S => Ev.Ss.ev (run T.G 0) T.G .nil env S) = _
            rw [cons_ev ds]
            show (((mkT ds S).st (List.replicate Ng.length none) fun x S => SR.rt x S).seq fun env S => Ev.Ss.ev (run T.G 0) T.G .nil env S) = _
            unfold mkT
            rw [if_pos (show isz ds.length = true from decide_eq_true (Nat.le_trans b4 (by decide)))]
            rfl
          show PostS T.toAd (Ev.Ss.ev (run T.G 0) T.G (.cons (.ret (.tup (conEs ds))) .nil) (List.replicate Ng.length none) S) m H1 _ _
          rw [ev]
          exact fun m2 H2 v x2 r2 hv => fin v m2 H2 x2 r2 hv
    rw [← hK, ← hmg, ← hP, ← hw, ← hbs] at go
    exact go
theorem tbl (t : Tops T) : ∀ n, TbOk T (4 * n) (run T.G n)
  | 0 => by
    have fn : ∀ (k : Nat) (x : Str), T.nm.fns[k]? = some x → (isM x = false → T.mg x = some (.ref (T.fa k))) ∧ PySem.W.keepIn T.K (.ref (T.fa k)) = true ∧ (kwOf T.nm k = none → Binds T.K (T.fd k) (T.ps k) []) ∧
        FnG T.P T.w T.K T.mg T.base (L2N.CX T.P T.w) (4 * 0) (T.fa k) (T.fd k) (T.ps k) (spC T.toAd (run T.G 0 k) (T.ps k).length) ∧ ∀ ds S, run T.G 0 k ds S ≠ .stuck → ds.length = (T.ps k).length := fun k x hx => by
      have F := t.fn k x hx
      refine ⟨F.mgf, F.kp, F.bd, ?_, fun ds S h => absurd rfl h⟩
      have no : ∀ vs H Q E, ¬ spC T.toAd (run T.G 0 k) (T.ps k).length vs H Q E := fun vs H Q E h => by
        obtain ⟨_, m, ds, S, _, _, h⟩ := h
        exact h
      exact ⟨fun vs H Q E h => absurd h (no vs H Q E), fun A outer s H args us vs Q E _ _ _ _ h => absurd h (no vs H Q E)⟩
    refine ⟨fn, t.kw, t.bl, t.gl, t.cl, t.xk, t.xf, t.xi, said_ok t, t.vf, fun c kl hc => ?_, t.ex, t.xo, t.kn⟩
    obtain ⟨h1, h2, h3⟩ := t.kl c kl hc
    refine ⟨h1, h2, fun w mt k hk => ?_⟩
    obtain ⟨h4, x, hx, hq⟩ := h3 w mt k hk
    exact ⟨h4, (fn k x hx).2.2.1 hq, (fn k x hx).2.2.2⟩
  | n + 1 => by
    have fn : ∀ (k : Nat) (x : Str), T.nm.fns[k]? = some x → (isM x = false → T.mg x = some (.ref (T.fa k))) ∧ PySem.W.keepIn T.K (.ref (T.fa k)) = true ∧ (kwOf T.nm k = none → Binds T.K (T.fd k) (T.ps k) []) ∧
        FnG T.P T.w T.K T.mg T.base (L2N.CX T.P T.w) (4 * (n + 1)) (T.fa k) (T.fd k) (T.ps k) (spC T.toAd (run T.G (n + 1) k) (T.ps k).length) ∧ ∀ ds S, run T.G (n + 1) k ds S ≠ .stuck → ds.length = (T.ps k).length := fun k x hx => by
      have F := t.fn k x hx
      refine ⟨F.mgf, F.kp, F.bd, fnG_run t hx (tbl t n), fun ds S h => ?_⟩
      obtain ⟨_, _, body, scope, _, _, _, _, _, _, _, _, _, _, N, f, _, _, _, hf, hc, _⟩ := F.ex
      unfold chkF at hc
      obtain ⟨hc, _⟩ := band hc
      obtain ⟨hc, _⟩ := band hc
      rw [run_len hf h, dec (band hc).2]
    refine ⟨fn, t.kw, t.bl, t.gl, t.cl, t.xk, t.xf, t.xi, said_ok t, t.vf, fun c kl hc => ?_, t.ex, t.xo, t.kn⟩
    obtain ⟨h1, h2, h3⟩ := t.kl c kl hc
    refine ⟨h1, h2, fun w mt k hk => ?_⟩
    obtain ⟨h4, x, hx, hq⟩ := h3 w mt k hk
    exact ⟨h4, (fn k x hx).2.2.1 hq, (fn k x hx).2.2.2⟩
end
/-- the promise of the law's def, called by the caller -/
theorem law_callG {P : Program} {w : World} {K : PySem.W.Frag} {mg mb : Str → Option Value} {k : Nat} {fa a : Addr} {fd : FuncData} {x : Str} {sp : Sp} {s₁ : Shared} {vs : List Value} {ns : List Int}
    (KX : K.In s₁.heap) (hns : s₁.heap.Ns mainGlobals mg) (hb : s₁.heap.Ns builtinsNs mb) (hbb : ∀ x : Str, x ≠ "__name__" → mb x = bootBuiltins x) (hlim : s₁.heap.NoLimit) (hg : s₁.gens = #[])
    (ha : s₁.heap.get? a = some { cls := .type "list", data := .seq vs.toArray }) (hi : IntsAre vs ns) (hl : ns.length ≤ sizeLine) (hr : Rm k callerA)
    (F : ∀ base : Heap, K.In base → base.Ns mainGlobals mg → FnG P w K mg base (L2N.CX P w) k fa fd [x] sp) (hbind : ∀ (s : Shared) (u : Value), BindsTo s fd ⟨[u], []⟩ [(x, u)])
    (hsp : ∀ H : Hp, Only H → SqL K H a (ns.map V.int) → sp [.ref a] H (fun v _ => v = .bl true) fun _ _ _ => False)
    (hno : ∀ (H : Hp) (e : Value) (s' : Shared), L2N.CX P w [] H s₁ (fun _ _ _ => False) e s' → False) :
    codeAny (model P w) callerA (.call (.ref fa) ⟨[.ref a], []⟩) (fun r s' => r = .ok (.ret (.bool true)) ∧ OldK s₁.heap s'.heap ∧ s'.os = s₁.os ∧ AllBare s'.gens) s₁ := by
  have rv := vals_ints hi
  have lenV := hi.length
  -- a heap in which the script alone may be told
  have core : ∀ H : Hp, Only H → SqL K H a (ns.map V.int) → HOk P w H s₁.heap → (∀ b, H b ≠ none → b = a) → (H a ≠ none → K.lookup a = none) →
      codeAny (model P w) callerA (.call (.ref fa) ⟨[.ref a], []⟩) (fun r s' => r = .ok (.ret (.bool true)) ∧ OldK s₁.heap s'.heap ∧ s'.os = s₁.os ∧ AllBare s'.gens) s₁ := fun H hO hS hok hA hK => by
    have isa : ∀ {b : Addr} {u : HO}, H b = some u → b = a := fun {b u} q => hA b (by rw [q]; simp)
    have low : ∀ {b : Addr} {o : Obj}, s₁.heap.get? b = some o → (b = a → H b = none) → (hidT s₁.heap H).get? b = some o := fun {b o} e n => hidT_get e (by
      cases q : H b with
      | none => rfl
      | some u => rw [n (isa q)] at q; cases q)
    have low2 : ∀ {b : Addr} {m : Str → Option Value}, s₁.heap.Ns b m → (hidT s₁.heap H).Ns b m := fun {b m} ⟨o, es, ep, e, d, r⟩ => ⟨o, es, ep, low e (fun z => by
      subst z
      rw [ha] at e
      cases e
      exact nomatch (show Data.seq vs.toArray _ = Data.dict es ep from d)), d, r⟩
    have hKb : K.In (hidT s₁.heap H) := fun b o e => low (KX b o e) fun z => by
      cases q : H b with
      | none => rfl
      | some u =>
        subst z
        rw [hK (by rw [q]; simp)] at e
        cases e
    have hM : Mod K mg (hidT s₁.heap H) := ⟨hKb, low2 hns, ⟨mb, low2 hb, hbb⟩, by
      obtain ⟨mc, h1, h2⟩ := hlim
      exact ⟨mc, low2 h1, h2⟩⟩
    have e0 : Env0 P w K mg (hidT s₁.heap H) callerA [] s₁ H := ⟨rfl, hM, fun b o e => of_hidT e, Nat.le_of_eq (hidT_size _ _), trivial, fun b hb => absurd hb (by simp [frs]), hok, .of_eq hg⟩
    refine codeAny_mono ((F _ hKb (low2 hns)).run callerA [] s₁ H ⟨[.ref a], []⟩ [.ref a] [.ref a] _ _ hr e0 (hbind s₁ (.ref a)) (.cons rfl .nil) (hsp H hO hS)) fun r s' h => ?_
    match r, h with
    | .error e, h => exact (hno H e s' h).elim
    | .ok .next, h => exact h.elim
    | .ok .brk, h => exact h.elim
    | .ok .cont, h => exact h.elim
    | .ok (.ret u), h =>
      obtain ⟨v, H', os, bare, un, hok', r', q⟩ := h
      cases (show v = .bl true from q)
      cases (show u = Value.bool true from r')
      refine ⟨rfl, OldK.of_keep fun b o e => ?_, os, bare⟩
      cases q : H b with
      | none => exact un.keep b o e q (by simp [frs]) (by simp)
      | some u =>
        rcases hO b with z | ⟨ob, xs, z⟩
        · rw [q] at z
          cases z
        · obtain ⟨e1, _⟩ := hok b _ z
          obtain ⟨e2, _⟩ := hok' b _ (un.frzs b ob _ z)
          rw [e] at e1
          cases e1
          exact e2
  cases hk : K.lookup a with
  | some o =>
    have e := KX a o hk
    rw [ha] at e
    cases e
    exact core (fun _ => none) (fun _ => .inl rfl) (.inr ⟨_, vs.toArray, _, hk, rfl, rfl, rfl, by rw [List.size_toArray, lenV]; exact hl, by simpa using rv⟩) (fun b u z => nomatch z) (fun b z => absurd rfl z) fun z => absurd rfl z
  | none =>
    have at_ : ∀ {b : Addr} {u : HO}, (if b = a then some (HO.frz { cls := .type "list", data := .seq vs.toArray } (.lst (ns.map V.int))) else none) = some u → b = a ∧ u = .frz { cls := .type "list", data := .seq vs.toArray } (.lst (ns.map V.int)) := fun {b u} z => by
      by_cases hb : b = a
      · rw [if_pos hb] at z
        exact ⟨hb, (Option.some.inj z).symm⟩
      · rw [if_neg hb] at z
        cases z
    refine core (fun b => if b = a then some (.frz { cls := .type "list", data := .seq vs.toArray } (.lst (ns.map V.int))) else none) (fun b => ?_) (.inl (.inr ⟨_, if_pos rfl⟩)) (fun b u z => ?_) (fun b z => ?_) fun _ => hk
    · by_cases hb : b = a
      · exact .inr ⟨_, _, if_pos hb⟩
      · exact .inl (if_neg hb)
    · obtain ⟨rfl, rfl⟩ := at_ z
      exact ⟨ha, by rw [List.length_map]; exact hl, vs, _, rv, ha⟩
    · by_cases hb : b = a
      · exact hb
      · exact absurd (if_neg hb) z
theorem rm_caller {k : Nat} (h : Room k callerA) : Rm k callerA := ⟨h, rfl⟩
theorem no_cx {P : Program} {w : World} {s₁ : Shared} (H : Hp) (e : Value) (s' : Shared) (h : L2N.CX P w [] H s₁ (fun _ _ _ => False) e s') : False := by
  obtain ⟨_, _, _, _, _, _, _, _, _, _, _, _, z⟩ := h
  exact z
theorem only_sc {T : Ad} {H : Hp} {a : Addr} {vs : List V} (hO : Only H) (h : SqL T.K H a vs) : SC T H a vs := by
  rcases h with (h | h) | h
  · rcases hO a with z | ⟨o, xs, z⟩
    · rw [z] at h
      cases h
    · rw [z] at h
      cases h
  · exact .inl h
  · exact .inr h
/-- the goal behind the head, by the table and the law's equation -/
theorem walkG {l : PySem.W.OpenLaw} {n dp : Nat} {q : Program} {loose : List Str} {XP : (Str → Option Value) → Heap → Prop} {YP : World → Heap → Prop} {d : DefRec} {K : Params → PySem.W.Frag} {x : Str} {G : Cfg} {nm : Names} {ps : Nat → List Str} {kl : Nat}
    (hn : l.most = some n) (hn2 : n ≤ sizeLine) (hdf : d.params.defaults = []) (hr : Room (4 * dp) callerA) (hkl : nm.fns[kl]? = some d.name) (hps : ps kl = [x]) (hY : ∀ (w : World) (h : Heap), YP w h → (K w.params).In h)
    (F : ∀ (w : World) (mg : Str → Option Value) (fa : Addr) (h : Heap), (K w.params).In h → h.Ns mainGlobals mg → mg d.name = some (.ref fa) →
      ∃ (A0 : Ad) (fd : Nat → FuncData), A0.K = K w.params ∧ A0.fa kl = fa ∧ (∀ base : Heap, (K w.params).In base → base.Ns mainGlobals mg → Tops { toAd := { A0 with P := l.prog, w := w, tb := [] }, mg := mg, base := base, G := G, nm := nm, fd := fd, ps := ps }) ∧
        ∀ (s : Shared) (u : Value), BindsTo s (fd kl) ⟨[u], []⟩ [(x, u)])
    (hrun : ∀ ns : List Int, ns.length ≤ n → ∃ S, run G dp kl [.scr ns] [] = .ok (.bl true) S) :
    PySem.W.WalkO q loose XP YP l.row.toRowW d [] (fun f vs => PySem.call f vs) := by
  refine Att.attach_call hn hdf fun w s₀ s₁ mg mb fa o pm cd doc a vs ns Gx Y ho hd hcd hmg hobj hints hlen hg => ?_
  have KX := hY w _ Y
  obtain ⟨A0, fd, hK, hfa, hT, hb⟩ := F w mg fa _ KX Gx.T.g hmg
  refine law_callG (k := 4 * dp) (x := x) (fd := fd kl) (sp := spC { A0 with P := l.prog, w := w, tb := [] } (run G dp kl) 1) KX Gx.T.g Gx.T.b Gx.T.builtins Gx.T.nolimit hg hobj hints (Nat.le_trans hlen hn2) (rm_caller hr) (fun base h1 h2 => ?_) hb (fun H hO hS => ?_) no_cx
  · have F := ((tbl (hT base h1 h2) dp).fn kl d.name hkl).2.2.2.1
    simp only at F
    rw [hps] at F
    rw [← hfa, ← hK]
    exact F
  · obtain ⟨S, e⟩ := hrun ns hlen
    rw [← hK] at hS
    refine ⟨rfl, ⟨[], [], []⟩, [.scr ns], [], ⟨rfl, List.nodup_nil, fun p hp => absurd hp (by simp), fun p hp => absurd hp (by simp), rfl, fun p hp => absurd hp (by simp), fun l ob p h1 h2 => absurd h1 (by simp)⟩, ⟨_, [], rfl, ⟨a, rfl, only_sc hO hS⟩, rfl⟩, ?_⟩
    rw [e]
    exact fun v m' H' _ _ hv => hv
def Fns (T : Tb) : Nat → List Str → Prop
  | _, [] => True
  | i, x :: r => Top T i x ∧ Fns T (i + 1) r
theorem fns_at {T : Tb} : ∀ (l : List Str) (i k : Nat) (x : Str), Fns T i l → l[k]? = some x → Top T (i + k) x
  | [], i, k, x, _, h => by simp at h
  | y :: r, i, 0, x, h, e => by
    simp at e
    subst e
    exact h.1
  | y :: r, i, k + 1, x, h, e => by
    have := fns_at r (i + 1) k x h.2 (by simpa using e)
    rwa [show i + 1 + k = i + (k + 1) by omega] at this
theorem fns_of {T : Tb} (h : Fns T 0 T.nm.fns) : ∀ (k : Nat) (x : Str), T.nm.fns[k]? = some x → Top T k x := fun k x e => by
  have := fns_at _ 0 k x h e
  rwa [Nat.zero_add] at this
def Blts (T : Tb) : List Str → Prop
  | [] => True
  | x :: r => T.mg x = none ∧ Blts T r
theorem blts_at {T : Tb} : ∀ (l : List Str) (x : Str), Blts T l → x ∈ l → T.mg x = none
  | [], x, _, h => by simp at h
  | y :: r, x, h, e => by
    rcases List.mem_cons.mp e with rfl | e
    · exact h.1
    · exact blts_at r x h.2 e
theorem blt_of' {T : Tb} (h : Blts T T.nm.blt) : ∀ x ∈ T.nm.blt, T.mg x = none := fun x e => blts_at _ x h e
def Gls (T : Tb) : List Str → List D → Prop
  | x :: r, d :: s => (∃ v u, T.mg x = some u ∧ RelV v u ∧ ∀ m H, RD T.toAd m H d v) ∧ Gls T r s
  | _, _ => True
theorem gls_at {T : Tb} : ∀ (l : List Str) (s : List D) (k : Nat) (x : Str) (d : D), Gls T l s → l[k]? = some x → s[k]? = some d → ∃ v u, T.mg x = some u ∧ RelV v u ∧ ∀ m H, RD T.toAd m H d v
  | [], _, k, x, d, _, h, _ => by simp at h
  | _ :: _, [], k, x, d, _, _, h => by simp at h
  | y :: r, e :: s, 0, x, d, h, h1, h2 => by
    simp at h1 h2
    subst h1
    subst h2
    exact h.1
  | y :: r, e :: s, k + 1, x, d, h, h1, h2 => gls_at r s k x d h.2 (by simpa using h1) (by simpa using h2)
theorem gls_of {T : Tb} (h : Gls T T.nm.gls T.G.glbs) : ∀ (k : Nat) (x : Str) (d : D), T.nm.gls[k]? = some x → T.G.glbs[k]? = some d → ∃ v u, T.mg x = some u ∧ RelV v u ∧ ∀ m H, RD T.toAd m H d v := fun k x d => gls_at _ _ k x d h
def Clss (T : Tb) : Nat → List Str → Prop
  | _, [] => True
  | i, x :: r => (T.mg x = some (.ref (T.ca i)) ∧ PySem.W.keepIn T.K (.ref (T.ca i)) = true ∧
    (T.nm.xfd.lookup x = none → PySem.W.excIn T.K (T.ca i) [.type "ValueError", .type "Exception", .type "BaseException", .type "object"] "ValueError.__new__" = true) ∧
    PySem.W.subIn T.K (.ref (T.ca i)) (.type "BaseException") = some true ∧ PySem.W.typeIn T.K (.ref (T.ca i)) = some (.type "type")) ∧ Clss T (i + 1) r
theorem clss_at {T : Tb} : ∀ (l : List Str) (i k : Nat) (x : Str), Clss T i l → l[k]? = some x → T.mg x = some (.ref (T.ca (i + k))) ∧ PySem.W.keepIn T.K (.ref (T.ca (i + k))) = true ∧
    (T.nm.xfd.lookup x = none → PySem.W.excIn T.K (T.ca (i + k)) [.type "ValueError", .type "Exception", .type "BaseException", .type "object"] "ValueError.__new__" = true) ∧
    PySem.W.subIn T.K (.ref (T.ca (i + k))) (.type "BaseException") = some true ∧ PySem.W.typeIn T.K (.ref (T.ca (i + k))) = some (.type "type")
  | [], i, k, x, _, h => by simp at h
  | y :: r, i, 0, x, h, e => by
    simp at e
    subst e
    exact h.1
  | y :: r, i, k + 1, x, h, e => by
    have := clss_at r (i + 1) k x h.2 (by simpa using e)
    rwa [show i + 1 + k = i + (k + 1) by omega] at this
theorem cls_of {T : Tb} (h : Clss T 0 T.nm.cls) : ∀ (k : Nat) (x : Str), T.nm.cls[k]? = some x → T.mg x = some (.ref (T.ca k)) ∧ PySem.W.keepIn T.K (.ref (T.ca k)) = true ∧
    (T.nm.xfd.lookup x = none → PySem.W.excIn T.K (T.ca k) [.type "ValueError", .type "Exception", .type "BaseException", .type "object"] "ValueError.__new__" = true) ∧
    PySem.W.subIn T.K (.ref (T.ca k)) (.type "BaseException") = some true ∧ PySem.W.typeIn T.K (.ref (T.ca k)) = some (.type "type") := fun k x e => by
  have := clss_at _ 0 k x h e
  rwa [Nat.zero_add] at this
/-- exceptions that keep a thing: facts, one by one -/
def Xks (T : Tb) : Nat → List Str → Prop
  | _, [] => True
  | i, x :: r => (∀ f, T.nm.xfd.lookup x = some f → KeepC T.K (T.ca i) f) ∧ Xks T (i + 1) r
theorem xks_at {T : Tb} : ∀ (l : List Str) (i k : Nat) (x f : Str), Xks T i l → l[k]? = some x → T.nm.xfd.lookup x = some f → KeepC T.K (T.ca (i + k)) f
  | [], i, k, x, f, _, h, _ => by simp at h
  | y :: r, i, 0, x, f, h, e, q => by
    simp at e
    subst e
    exact h.1 f q
  | y :: r, i, k + 1, x, f, h, e, q => by
    have := xks_at r (i + 1) k x f h.2 (by simpa using e) q
    rwa [show i + 1 + k = i + (k + 1) by omega] at this
theorem xks_of {T : Tb} (h : Xks T 0 T.nm.cls) (k : Nat) (x f : Str) (e : T.nm.cls[k]? = some x) (q : T.nm.xfd.lookup x = some f) : KeepC T.K (T.ca k) f := by
  have := xks_at _ 0 k x f h e q
  rwa [Nat.zero_add] at this
def Xfs (T : Tb) : List (Nat × Str) → Prop
  | [] => True
  | t :: r => KeepC T.K (T.ca t.1) t.2 ∧ Xfs T r
theorem xfs_of {T : Tb} : ∀ {l : List (Nat × Str)}, Xfs T l → ∀ t ∈ l, KeepC T.K (T.ca t.1) t.2
  | [], _, t, h => nomatch h
  | _ :: _, q, t, h => (List.mem_cons.mp h).elim (fun e => e ▸ q.1) fun h => xfs_of q.2 t h
/-- an own class: facts, one by one -/
def MsOk (T : Tb) (c : Nat) : List (Str × Nat) → Prop
  | [] => True
  | p :: r => (Meth T.K (T.ka c) p.1 (T.fa p.2) ∧ ∃ x, T.nm.fns[p.2]? = some x ∧ kwOf T.nm p.2 = none) ∧ MsOk T c r
theorem ms_at {T : Tb} {c : Nat} : ∀ (l : List (Str × Nat)) (mt : Str) (k : Nat), MsOk T c l → l.lookup mt = some k → Meth T.K (T.ka c) mt (T.fa k) ∧ ∃ x, T.nm.fns[k]? = some x ∧ kwOf T.nm k = none
  | [], mt, k, _, e => by cases e
  | p :: r, mt, k, h, e => by
    cases hb : (mt == p.1) with
    | true =>
      obtain ⟨a, b⟩ := p
      simp only [List.lookup, hb] at e
      cases e
      rw [beq_iff_eq.mp hb]
      exact h.1
    | false =>
      obtain ⟨a, b⟩ := p
      simp only [List.lookup, hb] at e
      exact ms_at r mt k h.2 e
def FlOk (T : Tb) (c : Nat) : List Str → Prop
  | [] => True
  | f :: r => NoAttr T.K (T.ka c) f ∧ FlOk T c r
theorem fl_at {T : Tb} {c : Nat} : ∀ (l : List Str) (f : Str), FlOk T c l → f ∈ l → NoAttr T.K (T.ka c) f
  | [], _, _, h => by cases h
  | x :: r, f, h, e => by
    rcases List.mem_cons.mp e with rfl | e
    · exact h.1
    · exact fl_at r f h.2 e
def Kls (T : Tb) : Nat → List Kl → Prop
  | _, [] => True
  | i, kl :: r => (Cls T.K (T.ka i) ∧ FlOk T i kl.fl ∧ MsOk T i kl.ms ∧ MsOk T i kl.mc) ∧ Kls T (i + 1) r
theorem kls_at {T : Tb} : ∀ (l : List Kl) (i c : Nat) (kl : Kl), Kls T i l → l[c]? = some kl → Cls T.K (T.ka (i + c)) ∧ FlOk T (i + c) kl.fl ∧ MsOk T (i + c) kl.ms ∧ MsOk T (i + c) kl.mc
  | [], i, c, kl, _, h => by simp at h
  | y :: r, i, 0, kl, h, e => by
    simp at e
    subst e
    exact h.1
  | y :: r, i, c + 1, kl, h, e => by
    have := kls_at r (i + 1) c kl h.2 (by simpa using e)
    rwa [show i + 1 + c = i + (c + 1) by omega] at this
theorem kls_of {T : Tb} (h : Kls T 0 T.G.kls) : ∀ (c : Nat) (kl : Kl), T.G.kls[c]? = some kl → Cls T.K (T.ka c) ∧ (∀ f ∈ kl.fl, NoAttr T.K (T.ka c) f) ∧ ∀ (w : Bool) (mt : Str) (k : Nat), (if w then kl.mc else kl.ms).lookup mt = some k → Meth T.K (T.ka c) mt (T.fa k) ∧ ∃ x, T.nm.fns[k]? = some x ∧ kwOf T.nm k = none := fun c kl e => by
  have := kls_at _ 0 c kl h e
  rw [Nat.zero_add] at this
  refine ⟨this.1, fun f hf => fl_at _ f this.2.1 hf, fun w mt k hk => ?_⟩
  cases w with
  | false => exact ms_at _ mt k this.2.2.1 hk
  | true => exact ms_at _ mt k this.2.2.2 hk
/-- how instances are made -/
def InitOk (T : Tb) (c : Nat) (kl : Kl) : Prop := ∀ k, kl.ms.lookup ("__init__" : Str) = some k → Mk T.K (T.ka c) (T.fa k)
/-- the classes' names, and how they are made -/
def Kns (T : Tb) : Nat → List Str → List Kl → Prop
  | i, x :: r, kl :: s => (T.mg x = some (.ref (T.ka i)) ∧ InitOk T i kl) ∧ Kns T (i + 1) r s
  | i, x :: r, [] => T.mg x = some (.ref (T.ka i)) ∧ Kns T (i + 1) r []
  | _, [], _ => True
theorem kns_at {T : Tb} : ∀ (l : List Str) (s : List Kl) (i c : Nat) (x : Str), Kns T i l s → l[c]? = some x → T.mg x = some (.ref (T.ka (i + c))) ∧ ∀ (kl : Kl) (k : Nat), s[c]? = some kl → kl.ms.lookup ("__init__" : Str) = some k → Mk T.K (T.ka (i + c)) (T.fa k)
  | [], _, i, c, x, _, h => by simp at h
  | y :: r, [], i, 0, x, h, e => by
    simp at e
    subst e
    exact ⟨h.1, fun kl k h1 => by simp at h1⟩
  | y :: r, kl' :: s, i, 0, x, h, e => by
    simp at e
    subst e
    refine ⟨h.1.1, fun kl k h1 h2 => ?_⟩
    simp at h1
    subst h1
    exact h.1.2 k h2
  | y :: r, [], i, c + 1, x, h, e => by
    have := kns_at r [] (i + 1) c x h.2 (by simpa using e)
    rw [show i + 1 + c = i + (c + 1) by omega] at this
    exact ⟨this.1, fun kl k h1 => by simp at h1⟩
  | y :: r, kl' :: s, i, c + 1, x, h, e => by
    have := kns_at r s (i + 1) c x h.2 (by simpa using e)
    rw [show i + 1 + c = i + (c + 1) by omega] at this
    exact ⟨this.1, fun kl k h1 h2 => this.2 kl k (by simpa using h1) h2⟩
theorem kns_of {T : Tb} (h : Kns T 0 T.nm.kns T.G.kls) : ∀ (c : Nat) (x : Str), T.nm.kns[c]? = some x → T.mg x = some (.ref (T.ka c)) ∧ ∀ (kl : Kl) (k : Nat), T.G.kls[c]? = some kl → kl.ms.lookup ("__init__" : Str) = some k → Mk T.K (T.ka c) (T.fa k) := fun c x e => by
  have := kns_at _ _ 0 c x h e
  rwa [Nat.zero_add] at this
def Exs (T : Tb) : List (Nat × Nat × Bool) → Prop
  | [] => True
  | t :: r => PySem.W.exmOne T.K (.ref (T.ca t.1)) (.ref (T.ca t.2.1)) = some t.2.2 ∧ Exs T r
theorem exs_of {T : Tb} : ∀ {l : List (Nat × Nat × Bool)}, Exs T l → ∀ t ∈ l, PySem.W.exmOne T.K (.ref (T.ca t.1)) (.ref (T.ca t.2.1)) = some t.2.2
  | [], _, t, h => by cases h
  | x :: r, h, t, e => by
    rcases List.mem_cons.mp e with rfl | e
    · exact h.1
    · exact exs_of h.2 t e
def Xis (T : Tb) : List (Nat × Nat × Bool) → Prop
  | [] => True
  | t :: r => (ExcC T.K (T.ca t.1) ∧ PySem.W.kitOne T.K (.ref (T.ca t.1)) (.ref (T.ca t.2.1)) = some t.2.2) ∧ Xis T r
theorem xis_of {T : Tb} : ∀ {l : List (Nat × Nat × Bool)}, Xis T l → ∀ t ∈ l, ExcC T.K (T.ca t.1) ∧ PySem.W.kitOne T.K (.ref (T.ca t.1)) (.ref (T.ca t.2.1)) = some t.2.2
  | [], _, t, h => by cases h
  | x :: r, h, t, e => by
    rcases List.mem_cons.mp e with rfl | e
    · exact h.1
    · exact xis_of h.2 t e
def Xos (T : Tb) : List Nat → Prop
  | [] => True
  | c :: r => (OwnX T.K (T.ka c) ∧ ∃ kl, T.G.kls[c]? = some kl) ∧ Xos T r
theorem xos_of {T : Tb} : ∀ {l : List Nat}, Xos T l → ∀ c ∈ l, OwnX T.K (T.ka c) ∧ ∃ kl, T.G.kls[c]? = some kl
  | [], _, t, h => by cases h
  | x :: r, h, t, e => by
    rcases List.mem_cons.mp e with rfl | e
    · exact h.1
    · exact xos_of h.2 t e
end Ev
namespace Ev
open PySem PySem.Spec L2
section
variable {call : Call} {G : Cfg} {env : Env} {S : Store} {new : Bool}
@[simp] theorem ev_e_var {i} : E.ev call G (.var i) env S = (match env[i]? with
    | some (some d) => .ok d S
    | _ => .stuck) := (rfl)
@[simp] theorem ev_e_con {d} : E.ev call G (.con d) env S = (.ok d S) := (rfl)
@[simp] theorem ev_e_glb {k} : E.ev call G (.glb k) env S = (match G.glbs[k]? with
    | some d => .ok d S
    | none => .stuck) := (rfl)
@[simp] theorem ev_e_tup {es} : E.ev call G (.tup es) env S = ((Es.ev call G es env S).bind fun xs S => mkT xs S) := (rfl)
@[simp] theorem ev_e_lst {es} : E.ev call G (.lst new es) env S = ((Es.ev call G es env S).bind fun xs S => mkL new xs S) := (rfl)
@[simp] theorem ev_e_dct0  : E.ev call G (.dct0) env S = (.ok (.ref S.length) (S ++ [.dct []])) := (rfl)
@[simp] theorem ev_e_dct2 {a} {b} {c} {d} : E.ev call G (.dct2 a b c d) env S = (if decide (a = c) then .stuck else .ok (.ref S.length) (S ++ [.dct [(.str a, .str b), (.str c, .str d)]])) := (rfl)
@[simp] theorem ev_e_told {a} : E.ev call G (.told a) env S = (toldM G (E.ev call G a env S)) := (rfl)
@[simp] theorem ev_e_fld {o} {f} : E.ev call G (.fld o f) env S = ((E.ev call G o env S).bind fun x S => fldV G f x S) := (rfl)
@[simp] theorem ev_e_mcall {m} {w} {o} {es} : E.ev call G (.mcall m w o es) env S = ((E.ev call G o env S).bind fun x S => match methV G m w x S with
    | some k => (Es.ev call G es env S).bind fun xs S => call k (x :: xs) S
    | none => .stuck) := (rfl)
@[simp] theorem ev_e_get {o} {k} {d} : E.ev call G (.get o k d) env S = ((E.ev call G o env S).bind fun x S => if isDic x S then ((E.ev call G k env S).bind fun y S => (E.ev call G d env S).bind fun z S => getV x y z S) else .stuck) := (rfl)
@[simp] theorem ev_e_upd {o} {a} : E.ev call G (.upd o a) env S = ((E.ev call G o env S).bind fun x S => if isDic x S then ((E.ev call G a env S).bind fun y S => updV x y S) else .stuck) := (rfl)
@[simp] theorem ev_e_dctT0  : E.ev call G (.dctT0) env S = (.ok (.ref S.length) (S ++ [.dtt []])) := (rfl)
@[simp] theorem ev_e_dtd1 {k} {v} : E.ev call G (.dtd1 k v) env S = ((E.ev call G k env S).bind fun x S => (E.ev call G v env S).bind fun y S => match tkD x with
    | some a => .ok (.ref S.length) (S ++ [.dtt [(a, y)]])
    | none => .stuck) := (rfl)
@[simp] theorem ev_e_dtd2 {k} {v} {k2} {v2} : E.ev call G (.dtd2 k v k2 v2) env S = ((E.ev call G k env S).bind fun x S => (E.ev call G v env S).bind fun y S => (E.ev call G k2 env S).bind fun x2 S => (E.ev call G v2 env S).bind fun y2 S => match tkD x, tkD x2 with
    | some a, some b => .ok (.ref S.length) (S ++ [.dtt (setT [(a, y)] b y2)])
    | _, _ => .stuck) := (rfl)
@[simp] theorem ev_e_dss2 {k} {k2} {a} {b} : E.ev call G (.dss2 k k2 a b) env S = ((E.ev call G a env S).bind fun x S => (E.ev call G b env S).bind fun y S => if decide (k = k2) then .stuck else .ok (.ref S.length) (S ++ [.dct [(.str k, x), (.str k2, y)]])) := (rfl)
@[simp] theorem ev_e_isiO {a} {c} : E.ev call G (.isiO a c) env S = ((E.ev call G a env S).bind fun x S => ofB (if G.xos.contains c then isiOD S c x else none) S) := (rfl)
@[simp] theorem ev_e_lenO {a} : E.ev call G (.lenO a) env S = ((E.ev call G a env S).bind fun x S => match methV G "__len__" false x S with
    | some k => (call k [x] S).bind fun d S => lenOK d S
    | none => .stuck) := (rfl)
@[simp] theorem ev_e_eqO {ne} {a} {b} : E.ev call G (.eqO ne a b) env S = ((E.ev call G a env S).bind fun x S => (E.ev call G b env S).bind fun y S => match eqOM G x y S with
    | some k => (call k [x, y] S).bind fun d S => eqOK ne d S
    | none => .stuck) := (rfl)
@[simp] theorem ev_e_mx {a} {b} : E.ev call G (.mx a b) env S = ((E.ev call G a env S).bind fun x S => (E.ev call G b env S).bind fun y S => match x, y with
    | .int i, .int j => .ok (.int (if j > i then j else i)) S
    | _, _ => .stuck) := (rfl)
@[simp] theorem ev_e_new {c} {es} : E.ev call G (.new c es) env S = (match msOf G c false "__init__" with
    | some k => (Es.ev call G es env S).bind fun xs S => (call k (.ref S.length :: xs) (S ++ [.obj c []])).bind fun d S' => if isNon d then .ok (.ref S.length) S' else .stuck
    | none => .stuck) := (rfl)
@[simp] theorem ev_e_bin {op} {a} {b} : E.ev call G (.bin new op a b) env S = ((E.ev call G a env S).bind fun x S => (E.ev call G b env S).bind fun y S => binV new op x y S) := (rfl)
@[simp] theorem ev_e_neg {a} : E.ev call G (.neg a) env S = ((E.ev call G a env S).bind fun x S => match x with
    | .int i => .ok (.int (-i)) S
    | _ => .stuck) := (rfl)
@[simp] theorem ev_e_nt {a} : E.ev call G (.nt a) env S = ((E.ev call G a env S).bind fun x S => match truth S x with
    | some b => .ok (.bl (!b)) S
    | none => .stuck) := (rfl)
@[simp] theorem ev_e_cmp {op} {a} {b} : E.ev call G (.cmp op a b) env S = ((E.ev call G a env S).bind fun x S => (E.ev call G b env S).bind fun y S => cmpV op x y S) := (rfl)
@[simp] theorem ev_e_cmp2 {o1} {o2} {a} {b} {c} : E.ev call G (.cmp2 o1 o2 a b c) env S = ((E.ev call G a env S).bind fun x S => (E.ev call G b env S).bind fun y S => (cmpV o1 x y S).bind fun z S => match z with
    | .bl true => (E.ev call G c env S).bind fun w S => cmpV o2 y w S
    | .bl false => .ok (.bl false) S
    | _ => .stuck) := (rfl)
@[simp] theorem ev_e_and {a} {b} : E.ev call G (.and a b) env S = ((E.ev call G a env S).bind fun x S => match truth S x with
    | some true => E.ev call G b env S
    | some false => .ok x S
    | none => .stuck) := (rfl)
@[simp] theorem ev_e_or {a} {b} : E.ev call G (.or a b) env S = ((E.ev call G a env S).bind fun x S => match truth S x with
    | some true => .ok x S
    | some false => E.ev call G b env S
    | none => .stuck) := (rfl)
@[simp] theorem ev_e_ife {c} {a} {b} : E.ev call G (.ife c a b) env S = ((E.ev call G c env S).bind fun x S => match truth S x with
    | some true => E.ev call G a env S
    | some false => E.ev call G b env S
    | none => .stuck) := (rfl)
@[simp] theorem ev_e_ix {a} {b} : E.ev call G (.ix a b) env S = ((E.ev call G a env S).bind fun x S => (E.ev call G b env S).bind fun y S => ixV x y S) := (rfl)
@[simp] theorem ev_e_cutA {a} {lo} : E.ev call G (.cutA new a lo) env S = ((E.ev call G a env S).bind fun x S => (E.ev call G lo env S).bind fun y S => match y with
    | .int i => cutV new x (some i) none S
    | _ => .stuck) := (rfl)
@[simp] theorem ev_e_cutB {a} {hi} : E.ev call G (.cutB new a hi) env S = ((E.ev call G a env S).bind fun x S => (E.ev call G hi env S).bind fun y S => match y with
    | .int i => cutV new x none (some i) S
    | _ => .stuck) := (rfl)
@[simp] theorem ev_e_cutC {a} {lo} {hi} : E.ev call G (.cutC new a lo hi) env S = ((E.ev call G a env S).bind fun x S => (E.ev call G lo env S).bind fun y S => match y with
    | .int i => (E.ev call G hi env S).bind fun z S => match z with
      | .int j => cutV new x (some i) (some j) S
      | _ => .stuck
    | _ => .stuck) := (rfl)
@[simp] theorem ev_e_rev {a} : E.ev call G (.rev new a) env S = ((E.ev call G a env S).bind fun x S => match lstOf S x with
    | some xs => mkL new xs.reverse S
    | none => .stuck) := (rfl)
@[simp] theorem ev_e_call {k} {es} : E.ev call G (.call k es) env S = ((Es.ev call G es env S).bind fun xs S => call k xs S) := (rfl)
@[simp] theorem ev_e_fnc {k} : E.ev call G (.fnc k) env S = (if G.vfn.contains k then .ok (.fn k) S else .stuck) := (rfl)
@[simp] theorem ev_e_callV {i} {es} : E.ev call G (.callV i es) env S = (match env[i]? with
    | some (some (.fn k)) => if G.vfn.contains k then (Es.ev call G es env S).bind fun xs S => call k xs S else .stuck
    | _ => .stuck) := (rfl)
@[simp] theorem ev_e_callD {k} {es} {d} : E.ev call G (.callD k es d) env S = ((Es.ev call G es env S).bind fun xs S => call k (xs ++ [d]) S) := (rfl)
@[simp] theorem ev_e_bf {f} {a} : E.ev call G (.bf new f a) env S = ((E.ev call G a env S).bind fun x S => bfV new f x S) := (rfl)
@[simp] theorem ev_e_isi {a} {t} : E.ev call G (.isi a t) env S = ((E.ev call G a env S).bind fun x S => ofB (isiD S t x) S) := (rfl)
@[simp] theorem ev_e_lrng1 {a} : E.ev call G (.lrng1 new a) env S = ((E.ev call G a env S).bind fun x S => match rngs [x] with
    | some ys => mkL new ys S
    | none => .stuck) := (rfl)
@[simp] theorem ev_e_lrng2 {a} {b} : E.ev call G (.lrng2 new a b) env S = ((E.ev call G a env S).bind fun x S => (E.ev call G b env S).bind fun y S => match rngs [x, y] with
    | some ys => mkL new ys S
    | none => .stuck) := (rfl)
@[simp] theorem ev_e_mth0 {m} {o} : E.ev call G (.mth0 m o) env S = ((E.ev call G o env S).bind fun x S => if mtOk m x S then mthV m x [] S else .stuck) := (rfl)
@[simp] theorem ev_e_mth1 {m} {o} {a} : E.ev call G (.mth1 m o a) env S = ((E.ev call G o env S).bind fun x S => if mtOk m x S then (E.ev call G a env S).bind fun y S => mthV m x [y] S else .stuck) := (rfl)
@[simp] theorem ev_e_comp {own} {elt} {t} {it} {ifs} : E.ev call G (.comp new own elt t it ifs) env S = ((I.ev call G it env S).bind fun its S =>
    (compGo t its.g (fun env S => (Es.tst call G ifs env S)) (fun env S => E.ev call G elt env S) (wipeD env own) its.xs S).bind fun ys S => mkL new ys S) := (rfl)
@[simp] theorem ev_e_comp2 {own} {elt} {t1} {i1} {t2} {i2} : E.ev call G (.comp2 new own elt t1 i1 t2 i2) env S = ((I.ev call G i1 env S).bind fun its S =>
    (colGo t1 its.g (fun env S => (I.ev call G i2 env S).bind fun js S => compGo t2 js.g (fun _ S => .ok true S) (fun env S => E.ev call G elt env S) (wipeD env t2.slots) js.xs S) (wipeD env own) its.xs S).bind fun ys S => mkL new ys S) := (rfl)
@[simp] theorem ev_es_nil  : Es.ev call G (.nil) env S = (.ok [] S) := (rfl)
@[simp] theorem ev_es_cons {e} {es} : Es.ev call G (.cons e es) env S = ((E.ev call G e env S).bind fun x S => (Es.ev call G es env S).bind fun xs S => .ok (x :: xs) S) := (rfl)
@[simp] theorem ev_et_nil  : Es.tst call G (.nil) env S = (.ok true S) := (rfl)
@[simp] theorem ev_et_cons {e} {es} : Es.tst call G (.cons e es) env S = ((E.ev call G e env S).bind fun x S => match truth S x with
    | some b => .ok b S
    | none => .stuck) := (rfl)
@[simp] theorem ev_i_seq {e} : I.ev call G (.seq e) env S = ((E.ev call G e env S).bind fun x S => match seqItems S x with
    | some its => .ok its S
    | none => .stuck) := (rfl)
@[simp] theorem ev_i_rng {es} : I.ev call G (.rng es) env S = ((Es.ev call G es env S).bind fun xs S => match rngs xs with
    | some ys => .ok ⟨ys, none⟩ S
    | none => .stuck) := (rfl)
@[simp] theorem ev_i_zip {a} {b} : I.ev call G (.zip a b) env S = ((E.ev call G a env S).bind fun x S => (E.ev call G b env S).bind fun y S => match srcD x, srcD y with
    | some xs, some ys => .ok ⟨(xs.zip ys).map fun p => .tup [p.1, p.2], none⟩ S
    | _, _ => .stuck) := (rfl)
@[simp] theorem ev_i_enum {a} : I.ev call G (.enum a) env S = ((E.ev call G a env S).bind fun x S => match enumItems S x with
    | some its => .ok its S
    | none => .stuck) := (rfl)
@[simp] theorem ev_i_dk {a} : I.ev call G (.dk a) env S = ((E.ev call G a env S).bind fun x S => walkD keysD x S) := (rfl)
@[simp] theorem ev_i_di {a} : I.ev call G (.di a) env S = ((E.ev call G a env S).bind fun x S => walkD pairsD x S) := (rfl)
@[simp] theorem ev_i_enz {a} {b} : I.ev call G (.enz a b) env S = ((E.ev call G a env S).bind fun x S => (E.ev call G b env S).bind fun y S => match srcD x, srcD y with
    | some xs, some ys => .ok ⟨(xs.zip ys).zipIdx.map fun p => .tup [.int (p.2 : Nat), .tup [p.1.1, p.1.2]], none⟩ S
    | _, _ => .stuck) := (rfl)
@[simp] theorem ev_s_set {i} {e} : Ev.St.ev call G (.set i e) env S = ((e.ev call G env S).st env fun x S => .nx (env.set i (some x)) S) := (rfl)
@[simp] theorem ev_s_asg {t} {e} : Ev.St.ev call G (.asg t e) env S = ((e.ev call G env S).st env fun x S => match t.asg x env with
    | some env1 => .nx env1 S
    | none => .stuck) := (rfl)
@[simp] theorem ev_s_par {i} {j} {a} {b} : Ev.St.ev call G (.par i j a b) env S = ((a.ev call G env S).st env fun x S => (b.ev call G env S).st env fun y S => .nx ((env.set i (some x)).set j (some y)) S) := (rfl)
@[simp] theorem ev_s_put {o} {i} {e} : Ev.St.ev call G (.put o i e) env S = ((e.ev call G env S).st env fun v S => (o.ev call G env S).st env fun x S => (i.ev call G env S).st env fun y S => match putV x y v S with
    | some S1 => .nx env S1
    | none => .stuck) := (rfl)
@[simp] theorem ev_s_asgF {o} {f} {g} {e} : Ev.St.ev call G (.asgF o f g e) env S = ((e.ev call G env S).st env fun v S => match v with
    | .tup [a, b] => (o.ev call G env S).st env fun x S => match fsetV G f x a S with
      | some S1 => (o.ev call G env S1).st env fun x S => match fsetV G g x b S with
        | some S2 => .nx env S2
        | none => .stuck
      | none => .stuck
    | _ => .stuck) := (rfl)
@[simp] theorem ev_s_star {i} {j} {e} : Ev.St.ev call G (.star i j e) env S = ((e.ev call G env S).st env fun v S => match lstOf S v with
    | some (x :: r) => .nx ((env.set i (some x)).set j (some (.lst r))) S
    | _ => .stuck) := (rfl)
@[simp] theorem ev_s_faug {o} {f} {op} {e} : Ev.St.ev call G (.faug o f op e) env S = ((o.ev call G env S).st env fun x S => match faugV G f x S with
    | some (c, a) => (e.ev call G env S).st env fun y S => match augV op a y with
      | some z => if clsOf S x = some c then (match fsetV G f x z S with
        | some S1 => .nx env S1
        | none => .stuck) else .stuck
      | none => .stuck
    | none => .stuck) := (rfl)
@[simp] theorem ev_s_tryH {b} {hs} : Ev.St.ev call G (.tryH b hs) env S = (match Ss.ev call G b env S with
    | .exc x env1 S1 => if x.fs.isEmpty then (match hdl G x.cls hs with
      | some (some d) => .rt d S1
      | some none => .exc x env1 S1
      | none => .stuck) else .stuck
    | r => r) := (rfl)
@[simp] theorem ev_s_fset {o} {f} {e} : Ev.St.ev call G (.fset o f e) env S = ((e.ev call G env S).st env fun v S => (o.ev call G env S).st env fun x S => match fsetV G f x v S with
    | some S1 => .nx env S1
    | none => .stuck) := (rfl)
@[simp] theorem ev_s_aug {i} {op} {e} : Ev.St.ev call G (.aug i op e) env S = (match env[i]? with
    | some (some x) => (e.ev call G env S).st env fun y S => (match augV op x y with
      | some z => .nx (env.set i (some z)) S
      | none => .stuck)
    | _ => .stuck) := (rfl)
@[simp] theorem ev_s_ex {e} : Ev.St.ev call G (.ex e) env S = ((e.ev call G env S).st env fun _ S => .nx env S) := (rfl)
@[simp] theorem ev_s_ret {e} : Ev.St.ev call G (.ret e) env S = ((e.ev call G env S).st env fun x S => .rt x S) := (rfl)
@[simp] theorem ev_s_retN  : Ev.St.ev call G (.retN) env S = (.rt .non S) := (rfl)
@[simp] theorem ev_s_ite {c} {a} {b} : Ev.St.ev call G (.ite c a b) env S = ((c.tst call G env S).st env fun k S => if k then Ss.ev call G a env S else Ss.ev call G b env S) := (rfl)
@[simp] theorem ev_s_whl {c} {b} : Ev.St.ev call G (.whl c b) env S = (whlGo (fun env S => c.tst call G env S) (fun env S => Ss.ev call G b env S) G.lim env S) := (rfl)
@[simp] theorem ev_s_for {t} {it} {b} : Ev.St.ev call G (.for t it b) env S = ((it.ev call G env S).st env fun its S => forGo t its.g (fun env S => Ss.ev call G b env S) its.xs env S) := (rfl)
@[simp] theorem ev_s_rse {k} : Ev.St.ev call G (.rse k) env S = (.exc ⟨k, []⟩ env S) := (rfl)
@[simp] theorem ev_s_rseF {k} {f} {e} : Ev.St.ev call G (.rseF k f e) env S = ((e.ev call G env S).st env fun d S => .exc ⟨k, [(f, d)]⟩ env S) := (rfl)
@[simp] theorem ev_s_tryM {b} {hs} : Ev.St.ev call G (.tryM b hs) env S = (match Ss.ev call G b env S with
    | .exc x env1 S1 => if x.fs.length ≤ 1 ∧ (hs.all fun h => slotOk env1.length h.nm) = true then (match hdlM G x hs with
      | some (some d) => .rt d S1
      | some none => .exc x env1 S1
      | none => .stuck) else .stuck
    | r => r) := (rfl)
@[simp] theorem ev_s_pas  : Ev.St.ev call G (.pas) env S = (.nx env S) := (rfl)
@[simp] theorem ev_s_brk  : Ev.St.ev call G (.brk) env S = (.bk env S) := (rfl)
@[simp] theorem ev_s_cnt  : Ev.St.ev call G (.cnt) env S = (.ct env S) := (rfl)
@[simp] theorem ev_s_nev  : Ev.St.ev call G (.nev) env S = (.stuck) := (rfl)
@[simp] theorem ev_ss_nil  : Ev.Ss.ev call G (.nil) env S = (.nx env S) := (rfl)
@[simp] theorem ev_ss_cons {s} {ss} : Ev.Ss.ev call G (.cons s ss) env S = ((St.ev call G s env S).seq fun env S => Ss.ev call G ss env S) := (rfl)
@[simp] theorem bind_ok' {α β : Type} {a : α} {f : α → Store → R β} : (R.ok a S).bind f = f a S := (rfl)
@[simp] theorem bind_exc {α β : Type} {x : Ex} {f : α → Store → R β} : (R.exc x S : R α).bind f = .exc x S := (rfl)
@[simp] theorem bind_stuck {α β : Type} {f : α → Store → R β} : (R.stuck : R α).bind f = .stuck := (rfl)
@[simp] theorem st_ok {α : Type} {a : α} {f : α → Store → SR} : (R.ok a S).st env f = f a S := (rfl)
@[simp] theorem st_exc {α : Type} {x : Ex} {f : α → Store → SR} : (R.exc x S : R α).st env f = .exc x env S := (rfl)
@[simp] theorem seq_nx {f : Env → Store → SR} : (SR.nx env S).seq f = f env S := (rfl)
@[simp] theorem seq_rt {d : D} {f : Env → Store → SR} : (SR.rt d S).seq f = .rt d S := (rfl)
@[simp] theorem seq_bk {f : Env → Store → SR} : (SR.bk env S).seq f = .bk env S := (rfl)
@[simp] theorem seq_ct {f : Env → Store → SR} : (SR.ct env S).seq f = .ct env S := (rfl)
@[simp] theorem seq_exc {x : Ex} {f : Env → Store → SR} : (SR.exc x env S).seq f = .exc x env S := (rfl)
@[simp] theorem tst_def {e : E} : E.tst call G e env S = (e.ev call G env S).bind fun x S => match truth S x with
  | some b => .ok b S
  | none => .stuck := (rfl)
@[simp] theorem ite_seq {c : Prop} [Decidable c] {a b : SR} {f : Env → Store → SR} : (if c then a else b).seq f = if c then a.seq f else b.seq f := by split <;> rfl
theorem run_eq {n k : Nat} {args : List D} {f : Fn} (hG : G.fns[k]? = some f) (hl : args.length = f.np) : run G (n + 1) k args S = finish f.pure S (f.body.ev (run G n) G (args.map some ++ List.replicate (f.nv - f.np) none) S) := by
  rw [run, hG]
  simp only
  rw [if_pos hl]
@[simp] theorem finish_rt {d : D} {S1 : Store} : finish false S (.rt d S1) = .ok d S1 := (rfl)
@[simp] theorem finish_nx {S1 : Store} : finish false S (.nx env S1) = .ok .non S1 := (rfl)
/-- the end of a pure body -/
theorem finish_pure {d e : D} {S1 : Store} (h : S1.take S.length = S) (hf : frz S1 S.length 3 d = some e) : finish true S (.rt d S1) = .ok e S := by
  show (if S1.take S.length = S then (match frz S1 S.length 3 d with | some e => .ok e S | none => .stuck) else R.stuck) = _
  rw [if_pos h, hf]
mutual
theorem frzW_plain (n : Nat) (r : Nat → Option D) : ∀ d : D, d.plain = true → frzW n r d = some d
  | .non, _ => rfl
  | .bl _, _ => rfl
  | .int _, _ => rfl
  | .str _, _ => rfl
  | .tup xs, h => by
    show (frzWs n r xs).map D.tup = _
    rw [frzWs_plain n r xs h]
    rfl
  | .lst xs, h => by
    show (frzWs n r xs).map D.lst = _
    rw [frzWs_plain n r xs h]
    rfl
  | .ref _, h => by cases h
  | .fn _, h => by cases h
  | .scr _, h => by cases h
theorem frzWs_plain (n : Nat) (r : Nat → Option D) : ∀ ds : List D, D.plains ds = true → frzWs n r ds = some ds
  | [], _ => rfl
  | d :: ds, h => by
    have h : (d.plain && D.plains ds) = true := h
    rw [Bool.and_eq_true] at h
    rw [frzWs, frzW_plain n r d h.1, frzWs_plain n r ds h.2]
    rfl
end
theorem frz_plain {n k : Nat} {d : D} (h : d.plain = true) : frz S n k d = some d := by
  cases k <;> exact frzW_plain _ _ d h
/-- a pure body that laid nothing -/
@[simp] theorem finish_here {d : D} (h : d.plain = true) : finish true S (.rt d S) = .ok d S := finish_pure (by simp) (frz_plain h)
@[simp] theorem finish_none : finish true S (.nx env S) = .ok .non S := by
  show (if S.take S.length = S then (match frz S S.length 3 .non with | some e => .ok e S | none => .stuck) else R.stuck) = _
  rw [if_pos (by simp), frz_plain rfl]
theorem isz_t {n : Nat} (h : n ≤ sizeLine) : isz n = true := decide_eq_true h
variable {xs ys : List D} {i j : Int} {l : Nat} {a b : Str} {x y : D}
@[simp] theorem lstOf_lst' : lstOf S (.lst xs) = some xs := (rfl)
@[simp] theorem lstOf_ref' (h : S[l]? = some (.lst xs)) : lstOf S (.ref l) = some xs := by simp [lstOf, h]
@[simp] theorem truth_bl {b : Bool} : truth S (.bl b) = some b := (rfl)
@[simp] theorem truth_int : truth S (.int i) = some (i != 0) := (rfl)
@[simp] theorem truth_non : truth S .non = some false := (rfl)
@[simp] theorem truth_lst : truth S (.lst xs) = some (!xs.isEmpty) := (rfl)
@[simp] theorem truth_tup : truth S (.tup xs) = some (!xs.isEmpty) := (rfl)
@[simp] theorem v_add_int : binV new .add (.int i) (.int j) S = .ok (.int (i + j)) S := (rfl)
@[simp] theorem v_sub_int : binV new .sub (.int i) (.int j) S = .ok (.int (i - j)) S := (rfl)
@[simp] theorem v_mul_int (h : okMul i j = true) : binV new .mul (.int i) (.int j) S = .ok (.int (i * j)) S := by
  show (if okMul i j then R.ok (D.int (i * j)) S else .stuck) = _
  rw [if_pos h]
@[simp] theorem v_fdiv_int (h : okDiv j = true) : binV new .fdiv (.int i) (.int j) S = .ok (.int (i.fdiv j)) S := by
  show (if okDiv j then R.ok (D.int (i.fdiv j)) S else .stuck) = _
  rw [if_pos h]
@[simp] theorem v_mod_int (h : ¬ j = 0) : binV new .mod (.int i) (.int j) S = .ok (.int (i.fmod j)) S := by
  show (if j = 0 then R.stuck else R.ok (D.int (i.fmod j)) S) = _
  rw [if_neg h]
@[simp] theorem v_pow_int (h : okPow i j = true) : binV new .pow (.int i) (.int j) S = .ok (.int (i ^ j.toNat)) S := by
  show (if okPow i j then R.ok (D.int (i ^ j.toNat)) S else .stuck) = _
  rw [if_pos h]
@[simp] theorem v_add_str (h : a.length + b.length ≤ sizeLine) : binV new .add (.str a) (.str b) S = .ok (.str (a ++ b)) S := by
  show (if isz (a.length + b.length) then R.ok (D.str (a ++ b)) S else .stuck) = _
  rw [if_pos (isz_t h)]
@[simp] theorem mkL_val (h : xs.length ≤ sizeLine) : mkL false xs S = .ok (.lst xs) S := by
  unfold mkL
  rw [if_pos (isz_t h)]
  rfl
@[simp] theorem mkL_new (h : xs.length ≤ sizeLine) : mkL true xs S = .ok (.ref S.length) (S ++ [.lst xs]) := by
  unfold mkL
  rw [if_pos (isz_t h)]
  rfl
@[simp] theorem mkT_val (h : xs.length ≤ sizeLine) : mkT xs S = .ok (.tup xs) S := by
  unfold mkT
  rw [if_pos (isz_t h)]
@[simp] theorem c_eq_int : cmpV .eq (.int i) (.int j) S = .ok (.bl (decide (i = j))) S := (rfl)
@[simp] theorem c_ne_int : cmpV .ne (.int i) (.int j) S = .ok (.bl (!decide (i = j))) S := (rfl)
@[simp] theorem c_lt_int : cmpV .lt (.int i) (.int j) S = .ok (.bl (decide (i < j))) S := (rfl)
@[simp] theorem c_gt_int : cmpV .gt (.int i) (.int j) S = .ok (.bl (decide (j < i))) S := (rfl)
@[simp] theorem c_le_int : cmpV .le (.int i) (.int j) S = .ok (.bl (decide (i ≤ j))) S := (rfl)
@[simp] theorem c_ge_int : cmpV .ge (.int i) (.int j) S = .ok (.bl (decide (j ≤ i))) S := (rfl)
@[simp] theorem c_eq_str : cmpV .eq (.str a) (.str b) S = .ok (.bl (decide (a = b))) S := (rfl)
@[simp] theorem c_ne_str : cmpV .ne (.str a) (.str b) S = .ok (.bl (!decide (a = b))) S := (rfl)
@[simp] theorem c_is_non : cmpV .is x .non S = .ok (.bl (isNon x)) S := by cases x <;> rfl
@[simp] theorem c_nis_non : cmpV .nis x .non S = .ok (.bl (!isNon x)) S := by cases x <;> rfl
@[simp] theorem c_is_bl {b c : Bool} : cmpV .is (.bl b) (.bl c) S = .ok (.bl (decide (b = c))) S := (rfl)
@[simp] theorem c_nis_bl {b c : Bool} : cmpV .nis (.bl b) (.bl c) S = .ok (.bl (!decide (b = c))) S := (rfl)
@[simp] theorem isNon_non : isNon .non = true := (rfl)
@[simp] theorem isNon_int : isNon (.int i) = false := (rfl)
@[simp] theorem isNon_str : isNon (.str a) = false := (rfl)
@[simp] theorem isNon_tup : isNon (.tup xs) = false := (rfl)
@[simp] theorem c_in_tup (h : flatD x = true) (h2 : ys.all flatD = true) : cmpV .isin x (.tup ys) S = .ok (.bl (ys.any fun y => flatEq y x)) S := by
  show ofB (match inSeq x ys with | some b => some b | none => inDatT x ys) S = _
  unfold inSeq
  rw [h, h2]
  rfl
@[simp] theorem c_nin_tup (h : flatD x = true) (h2 : ys.all flatD = true) : cmpV .nin x (.tup ys) S = .ok (.bl (!ys.any fun y => flatEq y x)) S := by
  show ofB ((match inSeq x ys with | some b => some b | none => inDatT x ys).map (!·)) S = _
  unfold inSeq
  rw [h, h2]
  rfl
@[simp] theorem c_in_lst (h : flatD x = true) (h2 : ys.all flatD = true) : cmpV .isin x (.lst ys) S = .ok (.bl (ys.any fun y => flatEq y x)) S := by
  show ofB (match inSeq x ys with | some b => some b | none => inDat x ys) S = _
  unfold inSeq
  rw [h, h2]
  rfl
@[simp] theorem flatD_str : flatD (.str a) = true := (rfl)
@[simp] theorem flatD_int : flatD (.int i) = true := (rfl)
@[simp] theorem flatD_non : flatD .non = true := (rfl)
@[simp] theorem flatEq_str : flatEq (.str a) (.str b) = (a == b) := (rfl)
@[simp] theorem flatEq_int : flatEq (.int i) (.int j) = (i == j) := (rfl)
@[simp] theorem flatEq_in : flatEq (.int i) .non = false := (rfl)
@[simp] theorem flatEq_ni : flatEq .non (.int i) = false := (rfl)
@[simp] theorem flatEq_nn : flatEq .non .non = true := (rfl)
@[simp] theorem flatEq_sn : flatEq (.str a) .non = false := (rfl)
@[simp] theorem flatEq_ns : flatEq .non (.str a) = false := (rfl)
@[simp] theorem flatEq_si : flatEq (.str a) (.int i) = false := (rfl)
@[simp] theorem flatEq_is : flatEq (.int i) (.str a) = false := (rfl)
theorem dctOf_ref' (h : S[l]? = some (.lst xs)) : dctOf S (.ref l) = none := by
  show (match S[l]? with | some (.dct kvs) => some kvs | _ => none) = none
  rw [h]
theorem dctOf_dct {kvs : List (D × D)} (h : S[l]? = some (.dct kvs)) : dctOf S (.ref l) = some kvs := by
  show (match S[l]? with | some (.dct kvs) => some kvs | _ => none) = _
  rw [h]
@[simp] theorem ix_dct {kvs : List (D × D)} {y d : D} {k : Key} (h : S[l]? = some (.dct kvs)) (hk : kD y = some k) (hd : dAt kvs k = some d) : ixV (.ref l) y S = .ok d S := by
  unfold ixV
  rw [dctOf_dct h]
  show dctIx kvs y S = _
  unfold dctIx
  rw [hk]
  simp only
  rw [hd]
theorem dttOf_ref' (h : S[l]? = some (.lst xs)) : dttOf S (.ref l) = none := by simp only [dttOf, h]
theorem dttOf_dtt {kvs : List (List Key × D)} (h : S[l]? = some (.dtt kvs)) : dttOf S (.ref l) = some kvs := by simp only [dttOf, h]
theorem dctOf_dtt {kvs : List (List Key × D)} (h : S[l]? = some (.dtt kvs)) : dctOf S (.ref l) = none := by simp only [dctOf, h]
theorem objOf_obj {c : Nat} {fs : List (Str × D)} (h : S[l]? = some (.obj c fs)) : objOf S (.ref l) = some (c, fs) := by simp only [objOf, h]
@[simp] theorem fld_obj {c : Nat} {fs : List (Str × D)} {f : Str} {d : D} (h : S[l]? = some (.obj c fs)) (hf : hasFl G c f = true) (e : fs.lookup f = some d) : fldV G f (.ref l) S = .ok d S := by
  unfold fldV
  rw [objOf_obj h]
  simp only [hf, if_true, e]
@[simp] theorem meth_obj {c k : Nat} {fs : List (Str × D)} {mt : Str} {w : Bool} (h : S[l]? = some (.obj c fs)) (e : fs.lookup mt = none) (hm : msOf G c w mt = some k) : methV G mt w (.ref l) S = some k := by
  unfold methV
  rw [objOf_obj h]
  simp only [e, Option.isNone_none, if_true, hm]
@[simp] theorem fset_obj {c : Nat} {fs : List (Str × D)} {f : Str} {d : D} (h : S[l]? = some (.obj c fs)) (hf : hasFl G c f = true) (hl : fs.length < 1000) : fsetV G f (.ref l) d S = some (S.set l (.obj c (putFD f d fs))) := by
  unfold fsetV
  rw [objOf_obj h]
  simp only [hf, Bool.true_and, decide_eq_true hl, if_true]
@[simp] theorem get_dct {kvs : List (D × D)} {y z : D} {k : Key} (h : S[l]? = some (.dct kvs)) (hk : kD y = some k) : getV (.ref l) y z S = .ok ((dAt kvs k).getD z) S := by
  unfold getV
  rw [dctOf_dct h]
  simp only [hk]
@[simp] theorem get_dtt {kvs : List (List Key × D)} {y z : D} {k : List Key} (h : S[l]? = some (.dtt kvs)) (hk : tkD y = some k) : getV (.ref l) y z S = .ok ((ttAt kvs k).getD z) S := by
  unfold getV
  rw [dctOf_dtt h, dttOf_dtt h]
  simp only [hk]
@[simp] theorem dic_dct {kvs : List (D × D)} (h : S[l]? = some (.dct kvs)) : isDic (.ref l) S = true := by
  unfold isDic
  rw [dctOf_dct h]
  rfl
@[simp] theorem dic_dtt {kvs : List (List Key × D)} (h : S[l]? = some (.dtt kvs)) : isDic (.ref l) S = true := by
  unfold isDic
  rw [dctOf_dtt h, dttOf_dtt h]
  rfl
@[simp] theorem in_dct {kvs : List (D × D)} {y : D} {k : Key} (h : S[l]? = some (.dct kvs)) (hk : kD y = some k) : cmpV .isin y (.ref l) S = .ok (.bl (dAt kvs k).isSome) S := by
  show ofB (inDD S y (.ref l)) S = _
  unfold inDD
  rw [dctOf_dct h]
  simp only [hk]
  rfl
@[simp] theorem nin_dct {kvs : List (D × D)} {y : D} {k : Key} (h : S[l]? = some (.dct kvs)) (hk : kD y = some k) : cmpV .nin y (.ref l) S = .ok (.bl (!(dAt kvs k).isSome)) S := by
  show ofB ((inDD S y (.ref l)).map (!·)) S = _
  unfold inDD
  rw [dctOf_dct h]
  simp only [hk]
  rfl
@[simp] theorem in_dtt {kvs : List (List Key × D)} {y : D} {k : List Key} (h : S[l]? = some (.dtt kvs)) (hk : tkD y = some k) : cmpV .isin y (.ref l) S = .ok (.bl (ttAt kvs k).isSome) S := by
  show ofB (inDD S y (.ref l)) S = _
  unfold inDD
  rw [dctOf_dtt h, dttOf_dtt h]
  simp only [hk]
  rfl
@[simp] theorem nin_dtt {kvs : List (List Key × D)} {y : D} {k : List Key} (h : S[l]? = some (.dtt kvs)) (hk : tkD y = some k) : cmpV .nin y (.ref l) S = .ok (.bl (!(ttAt kvs k).isSome)) S := by
  show ofB ((inDD S y (.ref l)).map (!·)) S = _
  unfold inDD
  rw [dctOf_dtt h, dttOf_dtt h]
  simp only [hk]
  rfl
@[simp] theorem ix_dtt {kvs : List (List Key × D)} {y d : D} {k : List Key} (h : S[l]? = some (.dtt kvs)) (hk : tkD y = some k) (hd : ttAt kvs k = some d) : ixV (.ref l) y S = .ok d S := by
  unfold ixV
  rw [dctOf_dtt h]
  simp only [ixT, dttOf_dtt h, hk, hd]
@[simp] theorem put_dtt {kvs : List (List Key × D)} {y d : D} {k : List Key} (h : S[l]? = some (.dtt kvs)) (hk : tkD y = some k) (hz : kvs.length < sizeLine) : putV (.ref l) y d S = some (S.set l (.dtt (setT kvs k d))) := by
  unfold putV
  rw [dctOf_dtt h]
  simp only [dttOf_dtt h, hk]
  rw [if_pos (decide_eq_true ⟨hz, h⟩)]
theorem dttOf_dtl {kvs : List (List Key × D)} (h : S[l]? = some (.dtl kvs)) : dttOf S (.ref l) = some kvs := by simp only [dttOf, h]
theorem dctOf_dtl {kvs : List (List Key × D)} (h : S[l]? = some (.dtl kvs)) : dctOf S (.ref l) = none := by simp only [dctOf, h]
@[simp] theorem in_dtl {kvs : List (List Key × D)} {y : D} {k : List Key} (h : S[l]? = some (.dtl kvs)) (hk : tkD y = some k) : cmpV .isin y (.ref l) S = .ok (.bl (ttAt kvs k).isSome) S := by
  show ofB (inDD S y (.ref l)) S = _
  unfold inDD
  rw [dctOf_dtl h, dttOf_dtl h]
  simp only [hk]
  rfl
@[simp] theorem ix_dtl {kvs : List (List Key × D)} {y d : D} {k : List Key} (h : S[l]? = some (.dtl kvs)) (hk : tkD y = some k) (hd : ttAt kvs k = some d) : ixV (.ref l) y S = .ok d S := by
  unfold ixV
  rw [dctOf_dtl h]
  simp only [ixT, dttOf_dtl h, hk, hd]
@[simp] theorem m_pop {y : D} (h : S[l]? = some (.lst xs)) (e : xs[xs.length - 1]? = some y) : mthV .pop (.ref l) [] S = .ok y (S.set l (.lst xs.dropLast)) := by
  unfold mthV
  simp only [h, e]
@[simp] theorem m_reverse (h : S[l]? = some (.lst xs)) : mthV .reverse (.ref l) [] S = .ok .non (S.set l (.lst xs.reverse)) := by
  unfold mthV
  simp only [h]
@[simp] theorem put_dct {kvs : List (D × D)} {y d : D} {k : Key} (h : S[l]? = some (.dct kvs)) (hk : kD y = some k) (hz : kvs.length < sizeLine) : putV (.ref l) y d S = some (S.set l (.dct (dPut kvs y k d))) := by
  unfold putV
  rw [dctOf_dct h]
  simp only [hk]
  rw [if_pos (decide_eq_true hz)]
@[simp] theorem ix_ref (h : S[l]? = some (.lst xs)) (h2 : atI xs i = some x) : ixV (.ref l) (.int i) S = .ok x S := by
  unfold ixV
  rw [dctOf_ref' h]
  simp only [ixT, dttOf_ref' h]
  show (match lstOf S (.ref l) with | some xs => (match atI xs i with | some d => R.ok d S | none => .stuck) | none => .stuck) = _
  rw [lstOf_ref' h]
  simp only
  rw [h2]
@[simp] theorem ix_lst (h2 : atI xs i = some x) : ixV (.lst xs) (.int i) S = .ok x S := by
  show (match atI xs i with | some d => R.ok d S | none => .stuck) = _
  rw [h2]
@[simp] theorem ix_tup (h2 : atI xs i = some x) : ixV (.tup xs) (.int i) S = .ok x S := by
  show (match atI xs i with | some d => R.ok d S | none => .stuck) = _
  rw [h2]
@[simp] theorem len_ref (h : S[l]? = some (.lst xs)) : bfV new .len (.ref l) S = .ok (.int xs.length) S := by
  show (match lstOf S (.ref l) with | some xs => R.ok (D.int xs.length) S | none => .stuck) = _
  rw [lstOf_ref' h]
@[simp] theorem len_lst : bfV new .len (.lst xs) S = .ok (.int xs.length) S := (rfl)
@[simp] theorem len_tup : bfV new .len (.tup xs) S = .ok (.int xs.length) S := (rfl)
@[simp] theorem len_scr {ns : List Int} : bfV new .len (.scr ns) S = .ok (.int ns.length) S := (rfl)
@[simp] theorem len_str (h : a.length ≤ sizeLine) : bfV new .len (.str a) S = .ok (.int a.length) S := by
  show (if isz a.length then R.ok (D.int a.length) S else .stuck) = _
  rw [if_pos (isz_t h)]
@[simp] theorem ok_ref (h : S[l]? = some (.lst xs)) {m : Mt} : mtOk m (.ref l) S = (match m with | .append => true | .extend => true | .clear => true | .pop => true | .popAt => true | .reverse => true | .lindex => true | _ => false) := by
  cases m <;> simp [mtOk, mtOk.isCell, mtOk.isStr, lstOf, h]
@[simp] theorem ok_str {m : Mt} : mtOk m (.str a) S = (match m with | .join => true | .split => true | .sindex => true | .upper => true | .splitN => true | _ => false) := by
  cases m <;> simp [mtOk, mtOk.isCell, mtOk.isStr, lstOf]
@[simp] theorem m_append (h : S[l]? = some (.lst xs)) (hz : xs.length < sizeLine) : mthV .append (.ref l) [x] S = .ok .non (S.set l (.lst (xs ++ [x]))) := by
  unfold mthV
  simp only [h]
  rw [if_pos (decide_eq_true hz)]
@[simp] theorem m_extend (h : S[l]? = some (.lst xs)) (hz : xs.length + ys.length ≤ sizeLine) : mthV .extend (.ref l) [.lst ys] S = .ok .non (S.set l (.lst (xs ++ ys))) := by
  unfold mthV
  simp only [h]
  rw [if_pos (isz_t hz)]
@[simp] theorem m_clear (h : S[l]? = some (.lst xs)) : mthV .clear (.ref l) [] S = .ok .non (S.set l (.lst [])) := by
  unfold mthV
  simp only [h]
@[simp] theorem put_ref (h : S[l]? = some (.lst xs)) : putV (.ref l) (.int i) x S = (ixN xs.length i).map fun j => S.set l (.lst (xs.set j x)) := by
  unfold putV
  rw [dctOf_ref' h]
  simp only [dttOf_ref' h]
  unfold putV0
  simp only [h]
  cases ixN xs.length i <;> rfl
@[simp] theorem at0 : atI (x :: xs) 0 = some x := by simp [atI, ixN]
@[simp] theorem at1 : atI (x :: y :: xs) 1 = some y := by
  have : ((1 : Int) < ((x :: y :: xs).length : Nat)) := by simp; omega
  simp only [atI, ixN, if_pos (show (0 : Int) ≤ 1 by omega), if_pos this]
  rfl
@[simp] theorem at2 {z : D} : atI (x :: y :: z :: xs) 2 = some z := by
  have : ((2 : Int) < ((x :: y :: z :: xs).length : Nat)) := by simp; omega
  simp only [atI, ixN, if_pos (show (0 : Int) ≤ 2 by omega), if_pos this]
  rfl
@[simp] theorem ofB_some {b : Bool} : ofB (some b) S = .ok (.bl b) S := (rfl)
@[simp] theorem isi_tup {t : Ty} : isiD S t (.tup xs) = some (match t with | .tuple => true | _ => false) := (rfl)
@[simp] theorem isi_str {t : Ty} : isiD S t (.str a) = some (match t with | .str => true | _ => false) := (rfl)
@[simp] theorem isi_int {t : Ty} : isiD S t (.int i) = some (match t with | .int => true | _ => false) := (rfl)
@[simp] theorem isi_lst {t : Ty} : isiD S t (.lst xs) = some (match t with | .list => true | _ => false) := (rfl)
@[simp] theorem isi_non {t : Ty} : isiD S t .non = some false := (rfl)
@[simp] theorem isi_ref {t : Ty} (h : S[l]? = some (.lst xs)) : isiD S t (.ref l) = some (match t with | .list => true | _ => false) := by
  unfold isiD
  simp only [h] <;> cases t <;> rfl
@[simp] theorem seqI_tup : seqItems S (.tup xs) = some ⟨xs, none⟩ := (rfl)
@[simp] theorem seqI_lst : seqItems S (.lst xs) = some ⟨xs, none⟩ := (rfl)
variable {t : Ev.T} {ev : Env → Store → R (List D)} {okf : Env → Store → R Bool} {evf : Env → Store → R D}
@[simp] theorem comp_def {g : Option (Nat × Ob)} : compGo t g okf evf env xs S = colGo t g (step1 okf evf) env xs S := (rfl)
@[simp] theorem col_nil : colGo t none ev env [] S = .ok [] S := (rfl)
@[simp] theorem col_step : colGo t none ev env (x :: xs) S = match t.asg x env with
    | some env1 => match ev env1 S with
      | .ok ys S2 => match colGo t none ev env xs S2 with
        | .ok zs S3 => .ok (ys ++ zs) S3
        | _ => .stuck
      | _ => .stuck
    | none => .stuck := (rfl)
@[simp] theorem step1_def : step1 okf evf env S = match okf env S with
    | .ok b S1 => if b then (match evf env S1 with
      | .ok y S2 => .ok [y] S2
      | _ => .stuck) else .ok [] S1
    | _ => .stuck := (rfl)
@[simp] theorem asg_nm {i : Nat} : Ev.T.asg (.nm i) x env = some (env.set i (some x)) := (rfl)
@[simp] theorem wipe_nil : wipeD env [] = env := (rfl)
@[simp] theorem wipe_cons {i : Nat} {r : List Nat} : wipeD env (i :: r) = (wipeD env r).set i none := (rfl)
@[simp] theorem cutA_tup : cutV new (.tup (x :: xs)) (some 1) none S = .ok (.tup xs) S := by
  show R.ok (D.tup (cutD (x :: xs) (some 1) none)) S = _
  have : cutD (x :: xs) (some 1) none = xs := by
    unfold cutD HT.sIx
    simp
  rw [this]
@[simp] theorem sum_lst {ns : List Int} (h : intsOf xs = some ns) : bfV new .sum (.lst xs) S = .ok (.int ns.sum) S := by
  show (match intsOf xs with | some ns => R.ok (D.int ns.sum) S | none => .stuck) = _
  rw [h]
@[simp] theorem c_in_str2 {c : Str} : cmpV .isin (.str a) (.tup [.str b, .str c]) S = .ok (.bl (b == a || c == a)) S := by
  show ofB (some (b == a || (c == a || false))) S = _
  rw [Bool.or_false]
  rfl
@[simp] theorem c_nin_str2 {c : Str} : cmpV .nin (.str a) (.tup [.str b, .str c]) S = .ok (.bl (!(b == a || c == a))) S := by
  show ofB (some (!(b == a || (c == a || false)))) S = _
  rw [Bool.or_false]
  rfl
@[simp] theorem fin_bl {b : Bool} : finish true S (.rt (.bl b) S) = .ok (.bl b) S := finish_here rfl
@[simp] theorem fin_int : finish true S (.rt (.int i) S) = .ok (.int i) S := finish_here rfl
@[simp] theorem fin_str : finish true S (.rt (.str a) S) = .ok (.str a) S := finish_here rfl
@[simp] theorem fin_non : finish true S (.rt .non S) = .ok .non S := finish_here rfl
variable {body : Env → Store → SR}
@[simp] theorem for_nil : forGo t none body [] env S = .nx env S := (rfl)
@[simp] theorem for_step : forGo t none body (x :: xs) env S = match t.asg x env with
    | some env1 => match body env1 S with
      | .nx e S1 => forGo t none body xs e S1
      | .ct e S1 => forGo t none body xs e S1
      | .bk e S1 => .nx e S1
      | .rt d S1 => .rt d S1
      | .exc x e S1 => .exc x e S1
      | .stuck => .stuck
    | none => .stuck := (rfl)
@[simp] theorem tuple_lst (h : xs.length ≤ sizeLine) : bfV new .tuple (.lst xs) S = .ok (.tup xs) S := by
  show mkT xs S = _
  exact mkT_val h
@[simp] theorem list_tup (h : xs.length ≤ sizeLine) : bfV false .list (.tup xs) S = .ok (.lst xs) S := by
  show mkL false xs S = _
  exact mkL_val h
@[simp] theorem asg_tp {ts : Ts} : Ev.T.asg (.tp ts) (.tup xs) env = Ts.asg ts xs env := (rfl)
@[simp] theorem asg_tpl {ts : Ts} : Ev.T.asg (.tp ts) (.lst xs) env = Ts.asg ts xs env := (rfl)
@[simp] theorem asg_cons {ts : Ts} : Ts.asg (.cons t ts) (x :: xs) env = (match t.asg x env with
    | some env1 => Ts.asg ts xs env1
    | none => none) := (rfl)
@[simp] theorem asg_nil : Ts.asg .nil [] env = some env := (rfl)
@[simp] theorem m_join {ws : List Str} (h : strsOf xs = some ws) (hz : joinLen a ws ≤ 16777216) : mthV .join (.str a) [.lst xs] S = .ok (.str (Txt.join a ws)) S := by
  show (match strsOf xs with | some ys => if decide (joinLen a ys ≤ 16777216) then R.ok (D.str (Txt.join a ys)) S else .stuck | none => .stuck) = _
  rw [h]
  simp only
  rw [if_pos (decide_eq_true hz)]
@[simp] theorem m_split (h : (b.length == 0) = false) (hz : a.length + 2 ≤ sizeLine) : mthV .split (.str a) [.str b] S = .ok (.lst ((Txt.split a b).map .str)) S := by
  show (if !(b.length == 0) && isz (a.length + 2) then R.ok (D.lst ((Txt.split a b).map .str)) S else .stuck) = _
  rw [h, isz_t hz]
  rfl
@[simp] theorem repr_tup (h : okRepr (.tup xs) = true) : bfV new .repr (.tup xs) S = .ok (.str (D.pd (.tup xs)).shown) S := by
  show (if okRepr (.tup xs) then R.ok (D.str (D.pd (.tup xs)).shown) S else .stuck) = _
  rw [if_pos h]
@[simp] theorem repr_lst (h : okRepr (.lst xs) = true) : bfV new .repr (.lst xs) S = .ok (.str (D.pd (.lst xs)).shown) S := by
  show (if okRepr (.lst xs) then R.ok (D.str (D.pd (.lst xs)).shown) S else .stuck) = _
  rw [if_pos h]
@[simp] theorem repr_ref (hl : S[l]? = some (.lst xs)) (h : okRepr (.lst xs) = true) : bfV new .repr (.ref l) S = .ok (.str (D.pd (.lst xs)).shown) S := by
  unfold bfV
  simp only [view, hl]
  rw [if_pos h]
@[simp] theorem cut_scr {ns : List Int} {i j : Int} (h : (cutD ns (some i) (some j)).length ≤ sizeLine) : cutV false (.scr ns) (some i) (some j) S = .ok (.lst ((cutD ns (some i) (some j)).map .int)) S := by
  show mkL false ((cutD ns (some i) (some j)).map .int) S = _
  rw [mkL_val (by rw [List.length_map]; exact h)]
@[simp] theorem slots_nm {i : Nat} : (Ev.T.nm i).slots = [i] := (rfl)
theorem sz {n : Nat} (h : n ≤ 1000000) : n ≤ sizeLine := Nat.le_trans h (by decide)
end
end Ev
namespace Ev
open PySem PySem.Spec L2
def tf_law_digit : Ss := (.cons (.ite (.cmp .eq (.bf false .len (.var 0)) (.con (.int 1))) (.cons (.ex (.mth1 .extend (.var 0) (.lst false (.cons (.bin false .mod (.ix (.var 0) (.con (.int 0))) (.con (.int 2147483647))) (.cons (.con (.int 0)) (.nil)))))) (.nil)) (.nil)) (.cons (.ite (.cmp .ge (.ix (.var 0) (.con (.int 0))) (.var 1)) (.cons (.set 2 (.bin false .mod (.ix (.var 0) (.con (.int 0))) (.var 1))) (.cons (.put (.var 0) (.con (.int 0)) (.bin false .fdiv (.ix (.var 0) (.con (.int 0))) (.var 1))) (.cons (.ret (.var 2)) (.nil)))) (.nil)) (.cons (.put (.var 0) (.con (.int 2)) (.bin false .add (.ix (.var 0) (.con (.int 2))) (.con (.int 1)))) (.cons (.set 3 (.bin false .mod (.bin false .mul (.bin false .add (.bin false .add (.ix (.var 0) (.con (.int 1))) (.bin false .mul (.con (.int 7919)) (.ix (.var 0) (.con (.int 2))))) (.con (.int 1))) (.con (.int 48271))) (.con (.int 2147483647)))) (.cons (.set 3 (.bin false .mod (.bin false .mul (.var 3) (.bin false .add (.bin false .fdiv (.var 3) (.con (.int 1009))) (.con (.int 69621)))) (.con (.int 2147483647)))) (.cons (.ret (.bin false .mod (.bin false .mod (.bin false .mul (.var 3) (.bin false .add (.bin false .fdiv (.var 3) (.con (.int 2003))) (.con (.int 40692)))) (.con (.int 2147483399))) (.var 1))) (.nil)))))))
def f_law_digit : Fn := ⟨2, 4, false, tf_law_digit⟩
theorem okMul_of {i j : Int} (a b : Nat) (hi : i.natAbs < 2 ^ a) (hj : j.natAbs < 2 ^ b) (h : a + b ≤ 999998) : okMul i j = true := by
  unfold okMul
  have h1 : i.natAbs.log2 ≤ a := by
    rcases Nat.eq_zero_or_pos i.natAbs with z | z
    · rw [z]; simp
    · exact Nat.le_of_lt ((Nat.log2_lt (by omega)).mpr hi)
  have h2 : j.natAbs.log2 ≤ b := by
    rcases Nat.eq_zero_or_pos j.natAbs with z | z
    · rw [z]; simp
    · exact Nat.le_of_lt ((Nat.log2_lt (by omega)).mpr hj)
  rw [Bool.or_eq_true]
  exact .inl (decide_eq_true (by omega))
theorem okMul_small {i j : Int} (h : -2 ≤ j ∧ j ≤ 2) : okMul i j = true := by
  unfold okMul
  rw [Bool.or_eq_true]
  exact .inr (decide_eq_true h)
theorem okPow_of {i j : Int} (h : 0 ≤ j ∧ j ≤ 1000000 ∧ i.natAbs < 2 ^ 64) : okPow i j = true := by
  unfold okPow
  exact decide_eq_true h
theorem okDiv_of {j : Int} (h : j ≠ 0 ∧ j.natAbs < 1073741824) : okDiv j = true := by
  unfold okDiv
  simp [h.1, h.2]
/-- a drawing state -/
def stOk (B : Nat) (st : List D) : Prop := (∃ a, st = [.int a]) ∨ ∃ a b c : Int, st = [.int a, .int b, .int c] ∧ 0 ≤ b ∧ b < 2147483647 ∧ 0 ≤ c ∧ c ≤ B
@[simp] theorem set_same {S : Store} {l : Nat} {o p : Ob} : (S.set l o).set l p = S.set l p := by simp
theorem fmod_in {a b : Int} (h : 0 < b) : 0 ≤ a.fmod b ∧ a.fmod b < b := ⟨Int.fmod_nonneg_of_pos a h, Int.fmod_lt_of_pos a h⟩
end Ev
namespace Ev
open PySem PySem.Spec L2
def tf_law_grown : Ss := (.cons (.set 3 (.call 18 (.cons (.var 0) (.cons (.con (.int 5)) (.nil))))) (.cons (.ite (.and (.cmp .gt (.var 2) (.con (.int 1))) (.cmp .eq (.var 3) (.con (.int 0)))) (.cons (.ret (.tup (.cons (.con (.str "not")) (.cons (.call 19 (.cons (.var 0) (.cons (.var 1) (.cons (.bin false .sub (.var 2) (.con (.int 1))) (.nil))))) (.nil))))) (.nil)) (.nil)) (.cons (.ite (.and (.cmp .gt (.var 2) (.con (.int 1))) (.and (.cmp .gt (.var 1) (.con (.int 1))) (.cmp .lt (.var 3) (.con (.int 4))))) (.cons (.set 4 (.bin false .add (.con (.int 1)) (.call 18 (.cons (.var 0) (.cons (.bin false .sub (.var 1) (.con (.int 1))) (.nil)))))) (.cons (.set 5 (.call 25 (.cons (.var 0) (.cons (.lst false (.cons (.con (.str "and")) (.cons (.con (.str "or")) (.nil)))) (.nil))))) (.cons (.ret (.tup (.cons (.var 5) (.cons (.call 19 (.cons (.var 0) (.cons (.var 4) (.cons (.bin false .sub (.var 2) (.con (.int 1))) (.nil))))) (.cons (.call 19 (.cons (.var 0) (.cons (.bin false .sub (.var 1) (.var 4)) (.cons (.bin false .sub (.var 2) (.con (.int 1))) (.nil))))) (.nil)))))) (.nil)))) (.nil)) (.cons (.ret (.tup (.cons (.call 25 (.cons (.var 0) (.cons (.lst false (.cons (.con (.str "=")) (.cons (.con (.str "<")) (.nil)))) (.nil)))) (.cons (.call 25 (.cons (.var 0) (.cons (.con (.str "abc0123")) (.nil)))) (.cons (.call 25 (.cons (.var 0) (.cons (.con (.str "abc0123")) (.nil)))) (.nil)))))) (.nil)))))
def f_law_grown : Fn := ⟨3, 6, false, tf_law_grown⟩
def tf_law_pick : Ss := (.cons (.ret (.ix (.var 1) (.call 18 (.cons (.var 0) (.cons (.bf false .len (.var 1)) (.nil)))))) (.nil))
def f_law_pick : Fn := ⟨2, 2, false, tf_law_pick⟩
theorem run_at {G : Cfg} {n k : Nat} {args : List D} {S : Store} {f : Fn} (hn : 1 ≤ n) (hG : G.fns[k]? = some f) (hl : args.length = f.np) : run G n k args S = finish f.pure S (f.body.ev (run G (n - 1)) G (args.map some ++ List.replicate (f.nv - f.np) none) S) := by
  obtain ⟨n, rfl⟩ : ∃ k, n = k + 1 := ⟨n - 1, by omega⟩
  exact run_eq hG hl
theorem stOk.mono {B C : Nat} {st : List D} (h : stOk B st) (hc : B ≤ C) : stOk C st := by
  rcases h with h | ⟨a, b, c, h1, h2, h3, h4, h5⟩
  · exact .inl h
  · exact .inr ⟨a, b, c, h1, h2, h3, h4, by omega⟩
theorem atI_mem {α : Type} {xs : List α} {r : Int} (h0 : 0 ≤ r) (h1 : r < (xs.length : Int)) : ∃ a ∈ xs, atI xs r = some a := by
  have hr : r.toNat < xs.length := by omega
  refine ⟨xs[r.toNat], List.getElem_mem hr, ?_⟩
  unfold atI ixN
  rw [if_pos h0, if_pos h1]
  simp [hr]
inductive Cd where
  | leaf (s a b : Str)
  | nt (c : Cd)
  | jn (w : Str) (c d : Cd)
def signs : List Str := ["=", "<"]
def joins : List Str := ["and", "or"]
def wordC : List Nat := (Str.ofString "abc0123").cps.toList
def Cd.ok : Cd → Prop
  | .leaf s a b => s ∈ signs ∧ (∃ c ∈ wordC, a = ⟨#[c]⟩) ∧ ∃ c ∈ wordC, b = ⟨#[c]⟩
  | .nt c => c.ok
  | .jn w c d => w ∈ joins ∧ c.ok ∧ d.ok
end Ev
namespace Ev
open PySem PySem.Spec L2
def tfis_condition : Ss := (.cons (.set 1 (.call 26 (.cons (.var 0) (.cons (.glb 0) (.nil))))) (.cons (.ret (.and (.cmp .nis (.var 1) (.con .non)) (.cmp .le (.var 1) (.glb 1)))) (.nil)))
def fis_condition : Fn := ⟨1, 2, true, tfis_condition⟩
def tfmany_parts : Ss := (.cons (.ite (.or (.cmp .eq (.var 1) (.con (.int 0))) (.or (.nt (.isi (.var 0) .tuple)) (.or (.cmp .eq (.var 0) (.tup (.nil))) (.nt (.isi (.ix (.var 0) (.con (.int 0))) .str))))) (.cons (.ret (.con .non)) (.nil)) (.nil)) (.cons (.ite (.and (.cmp .isin (.ix (.var 0) (.con (.int 0))) (.glb 2)) (.cmp .eq (.bf false .len (.var 0)) (.con (.int 3)))) (.cons (.ret (.ife (.and (.call 32 (.cons (.ix (.var 0) (.con (.int 1))) (.nil))) (.call 32 (.cons (.ix (.var 0) (.con (.int 2))) (.nil)))) (.con (.int 1)) (.con .non))) (.nil)) (.nil)) (.cons (.ite (.or (.and (.cmp .isin (.ix (.var 0) (.con (.int 0))) (.glb 3)) (.cmp .eq (.bf false .len (.var 0)) (.con (.int 3)))) (.and (.cmp .eq (.ix (.var 0) (.con (.int 0))) (.con (.str "not"))) (.cmp .eq (.bf false .len (.var 0)) (.con (.int 2))))) (.cons (.set 3 (.comp false [2] (.call 26 (.cons (.var 2) (.cons (.bin false .sub (.var 1) (.con (.int 1))) (.nil)))) (.nm 2) (.seq (.cutA false (.var 0) (.con (.int 1)))) (.nil))) (.cons (.ret (.ife (.cmp .isin (.con .non) (.var 3)) (.con .non) (.bf false .sum (.var 3)))) (.nil))) (.nil)) (.cons (.ret (.con .non)) (.nil)))))
def fmany_parts : Fn := ⟨2, 4, true, tfmany_parts⟩
def tfcondition_unless : Ss := (.cons (.ite (.nt (.call 20 (.cons (.var 0) (.nil)))) (.cons (.rse 0) (.nil)) (.nil)) (.nil))
def fcondition_unless : Fn := ⟨1, 1, true, tfcondition_unless⟩
def tfis_word : Ss := (.cons (.ret (.and (.isi (.var 0) .str) (.and (.cmp .eq (.bf false .len (.var 0)) (.con (.int 1))) (.cmp .isin (.var 0) (.bin false .add (.glb 4) (.glb 5)))))) (.nil))
def fis_word : Fn := ⟨1, 1, true, tfis_word⟩
@[simp] theorem in_non_int {i : Int} {r : List D} {S : Store} : cmpV .isin .non (.lst [.int i]) S = .ok (.bl false) S := rfl
@[simp] theorem in_non_int2 {i j : Int} {S : Store} : cmpV .isin .non (.lst [.int i, .int j]) S = .ok (.bl false) S := rfl
end Ev
namespace Ev
open PySem PySem.Spec L2
def tfcondition_text : Ss := (.cons (.ex (.call 27 (.cons (.var 0) (.nil)))) (.cons (.ret (.mth1 .join (.con (.str " ")) (.call 28 (.cons (.var 0) (.nil))))) (.nil)))
def fcondition_text : Fn := ⟨1, 1, true, tfcondition_text⟩
def tfread_condition : Ss := (.cons (.ite (.nt (.isi (.var 0) .str)) (.cons (.rse 0) (.nil)) (.nil)) (.cons (.set 1 (.mth1 .split (.var 0) (.con (.str " ")))) (.cons (.asg (.tp (.cons (.nm 2) (.cons (.nm 3) (.nil)))) (.call 29 (.cons (.var 1) (.cons (.con (.int 0)) (.cons (.glb 0) (.nil)))))) (.cons (.ite (.or (.cmp .ne (.var 3) (.bf false .len (.var 1))) (.nt (.call 20 (.cons (.var 2) (.nil))))) (.cons (.rse 0) (.nil)) (.nil)) (.cons (.ret (.var 2)) (.nil))))))
def fread_condition : Fn := ⟨1, 4, true, tfread_condition⟩
def tcparts_of : Ss := (.cons (.ex (.call 27 (.cons (.var 0) (.nil)))) (.cons (.ret (.call 30 (.cons (.var 0) (.nil)))) (.nil)))
def cparts_of : Fn := ⟨1, 1, false, tcparts_of⟩
def tfparts_of : Ss := (.cons (.ex (.call 27 (.cons (.var 0) (.nil)))) (.cons (.ret (.call 31 (.cons (.var 0) (.nil)))) (.nil)))
def fparts_of : Fn := ⟨1, 1, true, tfparts_of⟩
def tfwords_in : Ss := (.cons (.ite (.cmp .isin (.ix (.var 0) (.con (.int 0))) (.glb 2)) (.cons (.ret (.bf false .list (.var 0))) (.nil)) (.nil)) (.cons (.ret (.bin false .add (.lst false (.cons (.ix (.var 0) (.con (.int 0))) (.nil))) (.comp2 false [1, 2] (.var 2) (.nm 1) (.seq (.cutA false (.var 0) (.con (.int 1)))) (.nm 2) (.seq (.call 28 (.cons (.var 1) (.nil))))))) (.nil)))
def fwords_in : Fn := ⟨1, 3, true, tfwords_in⟩
def tfread_from : Ss := (.cons (.ite (.or (.cmp .eq (.var 2) (.con (.int 0))) (.cmp .ge (.var 1) (.bf false .len (.var 0)))) (.cons (.rse 0) (.nil)) (.nil)) (.cons (.set 3 (.ix (.var 0) (.var 1))) (.cons (.ite (.cmp .isin (.var 3) (.glb 2)) (.cons (.ret (.tup (.cons (.bf false .tuple (.cutC false (.var 0) (.var 1) (.bin false .add (.var 1) (.con (.int 3))))) (.cons (.bin false .add (.var 1) (.con (.int 3))) (.nil))))) (.nil)) (.nil)) (.cons (.ite (.and (.cmp .nin (.var 3) (.glb 3)) (.cmp .ne (.var 3) (.con (.str "not")))) (.cons (.rse 0) (.nil)) (.nil)) (.cons (.asg (.tp (.cons (.nm 4) (.cons (.nm 5) (.nil)))) (.call 29 (.cons (.var 0) (.cons (.bin false .add (.var 1) (.con (.int 1))) (.cons (.bin false .sub (.var 2) (.con (.int 1))) (.nil)))))) (.cons (.ite (.cmp .eq (.var 3) (.con (.str "not"))) (.cons (.ret (.tup (.cons (.tup (.cons (.var 3) (.cons (.var 4) (.nil)))) (.cons (.var 5) (.nil))))) (.nil)) (.nil)) (.cons (.asg (.tp (.cons (.nm 6) (.cons (.nm 7) (.nil)))) (.call 29 (.cons (.var 0) (.cons (.var 5) (.cons (.bin false .sub (.var 2) (.con (.int 1))) (.nil)))))) (.cons (.ret (.tup (.cons (.tup (.cons (.var 3) (.cons (.var 4) (.cons (.var 6) (.nil))))) (.cons (.var 7) (.nil))))) (.nil)))))))))
def fread_from : Fn := ⟨3, 8, true, tfread_from⟩
def tcparts_in : Ss := (.cons (.ite (.cmp .isin (.ix (.var 0) (.con (.int 0))) (.glb 2)) (.cons (.ret (.lst true (.cons (.var 0) (.nil)))) (.nil)) (.nil)) (.cons (.ret (.comp2 true [1, 2] (.var 2) (.nm 1) (.seq (.cutA false (.var 0) (.con (.int 1)))) (.nm 2) (.seq (.call 31 (.cons (.var 1) (.nil)))))) (.nil)))
def cparts_in : Fn := ⟨1, 3, false, tcparts_in⟩
def tfparts_in : Ss := (.cons (.ite (.cmp .isin (.ix (.var 0) (.con (.int 0))) (.glb 2)) (.cons (.ret (.lst false (.cons (.var 0) (.nil)))) (.nil)) (.nil)) (.cons (.ret (.comp2 false [1, 2] (.var 2) (.nm 1) (.seq (.cutA false (.var 0) (.con (.int 1)))) (.nm 2) (.seq (.call 31 (.cons (.var 1) (.nil)))))) (.nil)))
def fparts_in : Fn := ⟨1, 3, true, tfparts_in⟩
end Ev
namespace Ev
open PySem PySem.Spec L2
def tc_law_well : Ss := (.cons (.ret (.lst true (.cons (.bin false .mul (.var 0) (.bf false .int (.cmp .ge (.var 0) (.bin false .pow (.con (.int 10)) (.con (.int 18)))))) (.cons (.bin false .mod (.var 0) (.con (.int 2147483647))) (.cons (.con (.int 0)) (.nil)))))) (.nil))
def c_law_well : Fn := ⟨1, 1, false, tc_law_well⟩
def tf_law_draw_1 : Ss := (.cons (.ite (.cmp .gt (.ix (.var 0) (.con (.int 0))) (.con (.int 0))) (.cons (.set 2 (.bin false .mod (.ix (.var 0) (.con (.int 0))) (.var 1))) (.cons (.put (.var 0) (.con (.int 0)) (.bin false .fdiv (.ix (.var 0) (.con (.int 0))) (.var 1))) (.cons (.ret (.var 2)) (.nil)))) (.nil)) (.cons (.put (.var 0) (.con (.int 2)) (.bin false .add (.ix (.var 0) (.con (.int 2))) (.con (.int 1)))) (.cons (.set 3 (.ix (.lst false (.cons (.con (.int 2147483647)) (.cons (.con (.int 2147483629)) (.cons (.con (.int 2147483587)) (.cons (.con (.int 2147483579)) (.cons (.con (.int 2147483563)) (.nil))))))) (.bin false .mod (.ix (.var 0) (.con (.int 2))) (.con (.int 5))))) (.cons (.set 4 (.bin false .mod (.bin false .pow (.bin false .add (.bin false .add (.ix (.var 0) (.con (.int 1))) (.bin false .mul (.con (.int 6007)) (.ix (.var 0) (.con (.int 2))))) (.con (.int 3))) (.con (.int 5))) (.var 3))) (.cons (.set 4 (.bin false .mod (.bin false .mul (.bin false .add (.var 4) (.ix (.var 0) (.con (.int 2)))) (.bin false .add (.bin false .fdiv (.var 4) (.con (.int 1013))) (.con (.int 69623)))) (.con (.int 2147483549)))) (.cons (.ret (.bin false .mod (.bin false .fdiv (.var 4) (.con (.int 11))) (.var 1))) (.nil)))))))
def f_law_draw_1 : Fn := ⟨2, 5, false, tf_law_draw_1⟩
def tf_law_one_1 : Ss := (.cons (.ret (.ix (.var 1) (.call 34 (.cons (.var 0) (.cons (.bf false .len (.var 1)) (.nil)))))) (.nil))
def f_law_one_1 : Fn := ⟨2, 2, false, tf_law_one_1⟩
def WellOk (B : Nat) (st : List D) : Prop := ∃ a b c : Int, st = [.int a, .int b, .int c] ∧ 0 ≤ b ∧ b < 2147483647 ∧ 0 ≤ c ∧ c ≤ B
theorem WellOk.mono {B C : Nat} {st : List D} (h : WellOk B st) (k : B ≤ C) : WellOk C st := by
  obtain ⟨a, b, c, h1, h2, h3, h4, h5⟩ := h
  exact ⟨a, b, c, h1, h2, h3, h4, by omega⟩
theorem int_bl {new b : Bool} {S : Store} : bfV new .int (.bl b) S = .ok (.int (if b then 1 else 0)) S := rfl
theorem well_at {G : Cfg} {n : Nat} {S : Store} {i : Int} (hn : 1 ≤ n) (hG : G.fns[1]? = some c_law_well) : ∃ st, run G n 1 [.int i] S = .ok (.ref S.length) (S ++ [.lst st]) ∧ WellOk 0 st := by
  have hb := fmod_in (a := i) (b := 2147483647) (by omega)
  have d1 : okMul i (if (1000000000000000000 : Int) ≤ i then 1 else 0) = true := okMul_small (by split <;> simp)
  have p1 : okPow 10 18 = true := okPow_of ⟨by decide, by decide, by decide⟩
  refine ⟨[.int (i * (if (1000000000000000000 : Int) ≤ i then 1 else 0)), .int (i.fmod 2147483647), .int 0], ?_, ⟨_, _, _, rfl, hb.1, hb.2, by omega, by omega⟩⟩
  rw [run_at hn hG rfl]
  simp [c_law_well, tc_law_well, p1, d1, sz, int_bl]
end Ev
namespace Ev
open PySem PySem.Spec L2
def tf_law_draw : Ss := (.cons (.ite (.cmp .gt (.ix (.var 0) (.con (.int 0))) (.con (.int 0))) (.cons (.set 2 (.bin false .mod (.ix (.var 0) (.con (.int 0))) (.var 1))) (.cons (.put (.var 0) (.con (.int 0)) (.bin false .fdiv (.ix (.var 0) (.con (.int 0))) (.var 1))) (.cons (.ret (.var 2)) (.nil)))) (.nil)) (.cons (.put (.var 0) (.con (.int 2)) (.bin false .add (.ix (.var 0) (.con (.int 2))) (.con (.int 1)))) (.cons (.set 3 (.bin false .mod (.bin false .mul (.bin false .add (.bin false .add (.ix (.var 0) (.con (.int 1))) (.bin false .mul (.con (.int 6421)) (.ix (.var 0) (.con (.int 2))))) (.con (.int 17))) (.con (.int 48271))) (.con (.int 2147483647)))) (.cons (.set 3 (.bin false .mod (.bin false .mul (.var 3) (.bin false .add (.bin false .fdiv (.var 3) (.con (.int 1013))) (.con (.int 70001)))) (.con (.int 2147483629)))) (.cons (.ret (.bin false .mod (.bin false .mod (.bin false .mul (.var 3) (.bin false .add (.bin false .fdiv (.var 3) (.con (.int 2011))) (.con (.int 30011)))) (.con (.int 2147483587))) (.var 1))) (.nil))))))
def f_law_draw : Fn := ⟨2, 4, false, tf_law_draw⟩
def tf_law_one : Ss := (.cons (.ret (.ix (.var 1) (.call 4 (.cons (.var 0) (.cons (.bf false .len (.var 1)) (.nil)))))) (.nil))
def f_law_one : Fn := ⟨2, 2, false, tf_law_one⟩
def tf_law_great : Ss := (.cons (.set 1 (.call 4 (.cons (.var 0) (.cons (.con (.int 5)) (.nil))))) (.cons (.ite (.cmp .lt (.var 1) (.con (.int 3))) (.cons (.ret (.bin false .sub (.call 4 (.cons (.var 0) (.cons (.con (.int 25)) (.nil)))) (.con (.int 12)))) (.nil)) (.nil)) (.cons (.ite (.cmp .eq (.var 1) (.con (.int 3))) (.cons (.ret (.bin false .add (.bin false .mul (.call 4 (.cons (.var 0) (.cons (.bin false .pow (.con (.int 10)) (.con (.int 9))) (.nil)))) (.call 5 (.cons (.var 0) (.cons (.lst false (.cons (.bin false .pow (.con (.int 10)) (.con (.int 9))) (.cons (.bin false .pow (.con (.int 10)) (.con (.int 30))) (.cons (.bin false .pow (.con (.int 10)) (.con (.int 49))) (.nil))))) (.nil))))) (.call 4 (.cons (.var 0) (.cons (.bin false .pow (.con (.int 10)) (.con (.int 6))) (.nil)))))) (.nil)) (.nil)) (.cons (.ret (.bin false .add (.bin false .sub (.con (.int 1)) (.bin false .pow (.con (.int 10)) (.con (.int 59)))) (.call 4 (.cons (.var 0) (.cons (.con (.int 999)) (.nil)))))) (.nil)))))
def f_law_great : Fn := ⟨1, 2, false, tf_law_great⟩
def tf_law_lowest : Ss := (.cons (.ite (.cmp .eq (.var 1) (.con (.int 0))) (.cons (.ret (.con .non)) (.nil)) (.nil)) (.cons (.par 2 3 (.bf false .abs (.var 0)) (.bf false .abs (.var 1))) (.cons (.whl (.cmp .gt (.var 3) (.con (.int 0))) (.cons (.par 2 3 (.var 3) (.bin false .mod (.var 2) (.var 3))) (.nil))) (.cons (.set 4 (.ix (.lst false (.cons (.con (.int 1)) (.cons (.neg (.con (.int 1))) (.nil)))) (.bf false .int (.cmp .lt (.var 1) (.con (.int 0)))))) (.cons (.ret (.tup (.cons (.bin false .fdiv (.bin false .mul (.var 4) (.var 0)) (.var 2)) (.cons (.bin false .fdiv (.bin false .mul (.var 4) (.var 1)) (.var 2)) (.nil))))) (.nil))))))
def f_law_lowest : Fn := ⟨2, 5, true, tf_law_lowest⟩
def tffraction : Ss := (.cons (.ite (.or (.nt (.call 0 (.cons (.var 0) (.cons (.con .non) (.cons (.con .non) (.nil)))))) (.or (.nt (.call 0 (.cons (.var 1) (.cons (.con .non) (.cons (.con .non) (.nil)))))) (.cmp .eq (.var 1) (.con (.int 0))))) (.cons (.rse 10) (.nil)) (.nil)) (.cons (.set 2 (.call 16 (.cons (.var 0) (.cons (.var 1) (.nil))))) (.cons (.ite (.cmp .lt (.var 1) (.con (.int 0))) (.cons (.set 2 (.neg (.var 2))) (.nil)) (.nil)) (.cons (.ret (.tup (.cons (.bin false .fdiv (.var 0) (.var 2)) (.cons (.bin false .fdiv (.var 1) (.var 2)) (.nil))))) (.nil)))))
def ffraction : Fn := ⟨2, 3, true, tffraction⟩
def tdfraction : Ss := (.cons (.ite (.or (.nt (.call 0 (.cons (.var 0) (.cons (.con .non) (.cons (.con .non) (.nil)))))) (.or (.nt (.call 0 (.cons (.var 1) (.cons (.con .non) (.cons (.con .non) (.nil)))))) (.cmp .eq (.var 1) (.con (.int 0))))) (.cons (.rse 10) (.nil)) (.nil)) (.cons (.set 2 (.call 16 (.cons (.var 0) (.cons (.var 1) (.nil))))) (.cons (.ite (.cmp .lt (.var 1) (.con (.int 0))) (.cons (.set 2 (.neg (.var 2))) (.nil)) (.nil)) (.cons (.ret (.tup (.cons (.bin false .fdiv (.var 0) (.var 2)) (.cons (.bin false .fdiv (.var 1) (.var 2)) (.nil))))) (.nil)))))
def dfraction : Fn := ⟨2, 3, true, tdfraction⟩
def tfshared_out : Ss := (.cons (.par 0 1 (.bf false .abs (.var 0)) (.bf false .abs (.var 1))) (.cons (.whl (.cmp .gt (.var 1) (.con (.int 0))) (.cons (.par 0 1 (.var 1) (.bin false .mod (.var 0) (.var 1))) (.nil))) (.cons (.ret (.var 0)) (.nil))))
def fshared_out : Fn := ⟨2, 2, true, tfshared_out⟩
def tfis_whole : Ss := (.cons (.ite (.or (.isi (.var 0) .bool) (.nt (.isi (.var 0) .int))) (.cons (.ret (.con (.bl false))) (.nil)) (.nil)) (.cons (.ret (.and (.or (.cmp .is (.var 1) (.con .non)) (.cmp .ge (.var 0) (.var 1))) (.or (.cmp .is (.var 2) (.con .non)) (.cmp .le (.var 0) (.var 2))))) (.nil)))
def fis_whole : Fn := ⟨3, 3, true, tfis_whole⟩
structure HasF (G : Cfg) : Prop where
  f_well : G.fns[1]? = some c_law_well
  f_draw : G.fns[4]? = some f_law_draw
  f_one : G.fns[5]? = some f_law_one
  f_great : G.fns[2]? = some f_law_great
  f_low : G.fns[3]? = some f_law_lowest
  f_fr : G.fns[7]? = some ffraction
  f_fd : G.fns[14]? = some dfraction
  f_so : G.fns[16]? = some fshared_out
  f_wh : G.fns[0]? = some fis_whole
  lim : 1000 ≤ G.lim
section
variable {G : Cfg} {n l B : Nat} {S : Store} {st : List D}
theorem drawF (hG : HasF G) {many : Int} (hn : 1 ≤ n) (h : S[l]? = some (.lst st)) (hs : WellOk B st) (hB : B < 2 ^ 50) (h1 : 1 ≤ many ∧ many < 1073741824) :
    ∃ r st', run G n 4 [.ref l, .int many] S = .ok (.int r) (S.set l (.lst st')) ∧ 0 ≤ r ∧ r < many ∧ WellOk (B + 1) st' := by
  obtain ⟨a, b, c, rfl, hb1, hb2, hc1, hc2⟩ := hs
  have hl : l < S.length := (List.getElem?_eq_some_iff.mp h).1
  have hbn : ¬ many = 0 := by omega
  have hd := okDiv_of (j := many) ⟨hbn, by omega⟩
  have hw : ∀ o, (S.set l o)[l]? = some o := fun o => List.getElem?_set_self hl
  rw [run_at hn hG.f_draw rfl]
  by_cases c1 : 0 < a
  · refine ⟨a.fmod many, [.int (a.fdiv many), .int b, .int c], ?_, (fmod_in (by omega)).1, (fmod_in (by omega)).2, ⟨_, b, c, rfl, hb1, hb2, hc1, by omega⟩⟩
    simp [f_law_draw, tf_law_draw, h, hw, c1, hbn, hd, ixN]
  · obtain ⟨x, hx⟩ : ∃ x, x = ((b + 6421 * (c + 1) + 17) * 48271).fmod 2147483647 := ⟨_, rfl⟩
    have hx1 := fmod_in (a := (b + 6421 * (c + 1) + 17) * 48271) (b := 2147483647) (by omega)
    rw [← hx] at hx1
    have hxd : 0 ≤ x.fdiv 1013 ∧ x.fdiv 1013 < 2147483647 := by
      rw [Int.fdiv_eq_ediv_of_nonneg _ (by omega)]
      omega
    obtain ⟨y, hy⟩ : ∃ y, y = (x * (x.fdiv 1013 + 70001)).fmod 2147483629 := ⟨_, rfl⟩
    have hy1 := fmod_in (a := x * (x.fdiv 1013 + 70001)) (b := 2147483629) (by omega)
    rw [← hy] at hy1
    have hyd : 0 ≤ y.fdiv 2011 ∧ y.fdiv 2011 < 2147483647 := by
      rw [Int.fdiv_eq_ediv_of_nonneg _ (by omega)]
      omega
    have m0 : okMul 6421 (c + 1) = true := okMul_of 13 52 (by decide) (by omega) (by omega)
    have m1 : okMul (b + 6421 * (c + 1) + 17) 48271 = true := okMul_of 70 16 (by omega) (by decide) (by omega)
    have m2 : okMul x (x.fdiv 1013 + 70001) = true := okMul_of 33 33 (by omega) (by omega) (by omega)
    have m3 : okMul y (y.fdiv 2011 + 30011) = true := okMul_of 33 33 (by omega) (by omega) (by omega)
    have d1 : okDiv 1013 = true := okDiv_of ⟨by omega, by decide⟩
    have d2 : okDiv 2011 = true := okDiv_of ⟨by omega, by decide⟩
    refine ⟨((y * (y.fdiv 2011 + 30011)).fmod 2147483587).fmod many, [.int a, .int b, .int (c + 1)], ?_, (fmod_in (by omega)).1, (fmod_in (by omega)).2, ⟨a, b, c + 1, rfl, hb1, hb2, by omega, by push_cast; omega⟩⟩
    simp [f_law_draw, tf_law_draw, h, hw, c1, hbn, hd, ixN, m0, m1, m2, m3, d1, d2, ← hx, ← hy, sz]
theorem oneF (hG : HasF G) {xs : List D} (hn : 2 ≤ n) (h : S[l]? = some (.lst st)) (hs : WellOk B st) (hB : B < 2 ^ 50) (hw : 1 ≤ xs.length ∧ xs.length < 1000) :
    ∃ x st', run G n 5 [.ref l, .lst xs] S = .ok x (S.set l (.lst st')) ∧ x ∈ xs ∧ WellOk (B + 1) st' := by
  obtain ⟨r, st', e, h1, h2, h3⟩ := drawF (n := n - 1) hG (many := (xs.length : Nat)) (by omega) h hs hB (by omega)
  obtain ⟨d, hd, hd2⟩ := atI_mem (xs := xs) h1 h2
  refine ⟨d, st', ?_, hd, h3⟩
  rw [run_at (by omega) hG.f_one rfl]
  simp [f_law_one, tf_law_one, e, hd2]
theorem great (hG : HasF G) (hn : 3 ≤ n) (h : S[l]? = some (.lst st)) (hs : WellOk B st) (hB : B + 10 < 2 ^ 50) :
    ∃ x st', run G n 2 [.ref l] S = .ok (.int x) (S.set l (.lst st')) ∧ x.natAbs < 2 ^ 200 ∧ WellOk (B + 4) st' := by
  have hl : l < S.length := (List.getElem?_eq_some_iff.mp h).1
  have hw : ∀ o, (S.set l o)[l]? = some o := fun o => List.getElem?_set_self hl
  obtain ⟨k, st1, e1, k1, k2, s1⟩ := drawF (n := n - 1) hG (many := 5) (by omega) h hs (by omega) (by omega)
  rw [run_at (by omega) hG.f_great rfl]
  by_cases c1 : k < 3
  · obtain ⟨r, st2, e2, r1, r2, s2⟩ := drawF (n := n - 1) hG (many := 25) (by omega) (hw (.lst st1)) s1 (by omega) (by omega)
    rw [set_same] at e2
    refine ⟨r - 12, st2, ?_, ?_, s2.mono (by omega)⟩
    · simp [f_law_great, tf_law_great, e1, c1, e2]
    · have : (2 : Nat) ^ 5 ≤ 2 ^ 200 := Nat.pow_le_pow_right (by omega) (by omega)
      omega
  · by_cases c2 : k = 3
    · obtain ⟨r, st2, e2, r1, r2, s2⟩ := drawF (n := n - 1) hG (many := 1000000000) (by omega) (hw (.lst st1)) s1 (by omega) (by omega)
      rw [set_same] at e2
      obtain ⟨x, st3, e3, hx, s3⟩ := oneF (n := n - 1) hG (xs := [.int 1000000000, .int 1000000000000000000000000000000, .int 10000000000000000000000000000000000000000000000000]) (by omega) (hw (.lst st2)) s2 (by omega) (by decide)
      rw [set_same] at e3
      obtain ⟨q, st4, e4, q1, q2, s4⟩ := drawF (n := n - 1) hG (many := 1000000) (by omega) (hw (.lst st3)) s3 (by omega) (by omega)
      rw [set_same] at e4
      obtain ⟨m, rfl, hm⟩ : ∃ m : Int, x = .int m ∧ 0 ≤ m ∧ m ≤ 10000000000000000000000000000000000000000000000000 := by
        simp only [List.mem_cons, List.not_mem_nil, or_false] at hx
        rcases hx with rfl | rfl | rfl
        · exact ⟨_, rfl, by omega, by omega⟩
        · exact ⟨_, rfl, by omega, by omega⟩
        · exact ⟨_, rfl, by omega, by omega⟩
      have b1 : (10000000000000000000000000000000000000000000000000 : Nat) < 2 ^ 164 := by decide
      have m1 : okMul r m = true := okMul_of 30 164 (by omega) (by omega) (by omega)
      have p1 : okPow 10 9 = true := okPow_of ⟨by decide, by decide, by decide⟩
      have p2 : okPow 10 30 = true := okPow_of ⟨by decide, by decide, by decide⟩
      have p3 : okPow 10 49 = true := okPow_of ⟨by decide, by decide, by decide⟩
      have p4 : okPow 10 6 = true := okPow_of ⟨by decide, by decide, by decide⟩
      refine ⟨r * m + q, st4, ?_, ?_, s4.mono (by omega)⟩
      · subst c2
        simp [f_law_great, tf_law_great, e1, p1, p2, p3, p4, e2, e3, e4, m1, sz]
      · have h1 : r * m ≤ 1000000000 * 10000000000000000000000000000000000000000000000000 := Int.mul_le_mul (by omega) hm.2 hm.1 (by omega)
        have h0 : 0 ≤ r * m := Int.mul_nonneg r1 hm.1
        have b2 : (1000000000 * 10000000000000000000000000000000000000000000000000 + 1000000 : Nat) < 2 ^ 200 := by decide
        omega
    · obtain ⟨r, st2, e2, r1, r2, s2⟩ := drawF (n := n - 1) hG (many := 999) (by omega) (hw (.lst st1)) s1 (by omega) (by omega)
      rw [set_same] at e2
      have p1 : okPow 10 59 = true := okPow_of ⟨by decide, by decide, by decide⟩
      refine ⟨1 - 100000000000000000000000000000000000000000000000000000000000 + r, st2, ?_, ?_, s2.mono (by omega)⟩
      · simp [f_law_great, tf_law_great, e1, c1, c2, p1, e2]
      · have b2 : (100000000000000000000000000000000000000000000000000000000000 + 1000 : Nat) < 2 ^ 200 := by decide
        omega
end
end Ev
namespace Ev
open PySem PySem.Spec L2
theorem gcd_turn {a b : Nat} : Nat.gcd a b = Nat.gcd b (a % b) := by
  rw [Nat.gcd_comm a b, Nat.gcd_rec b a, Nat.gcd_comm]
theorem mod_half {b r : Nat} (h0 : 0 < r) (h1 : r ≤ b) : 2 * (b % r) < b := by
  have h2 := Nat.mod_lt b h0
  have h3 := Nat.div_add_mod b r
  have h4 : 1 ≤ b / r := (Nat.one_le_div_iff h0).mpr h1
  have h5 : r ≤ r * (b / r) := Nat.le_mul_of_pos_right r h4
  omega
theorem euclid {test : Env → Store → R Bool} {body : Env → Store → SR} {E : Nat → Nat → Env} (ht : ∀ a b S, test (E a b) S = .ok (decide (0 < b)) S) (hb : ∀ a b S, 0 < b → body (E a b) S = .nx (E b (a % b)) S) :
    ∀ (k a b fuel : Nat) (S : Store), b < 2 ^ k → 2 * k + 1 ≤ fuel → whlGo test body fuel (E a b) S = .nx (E (Nat.gcd a b) 0) S := by
  have stop : ∀ (a f : Nat) (S : Store), whlGo test body (f + 1) (E a 0) S = .nx (E a 0) S := fun a f S => by
    rw [whlGo, ht]
    rfl
  have go : ∀ (a b f : Nat) (S : Store), 0 < b → whlGo test body (f + 1) (E a b) S = whlGo test body f (E b (a % b)) S := fun a b f S h => by
    rw [whlGo, ht, decide_eq_true h]
    show (match body (E a b) S with
      | .nx e S2 => whlGo test body f e S2
      | .ct e S2 => whlGo test body f e S2
      | .bk e S2 => .nx e S2
      | .rt d S2 => .rt d S2
      | .exc x e S2 => .exc x e S2
      | .stuck => SR.stuck) = _
    rw [hb a b S h]
  intro k
  induction k with
  | zero =>
    intro a b fuel S h hf
    obtain rfl : b = 0 := by simpa using h
    obtain ⟨f, rfl⟩ : ∃ f, fuel = f + 1 := ⟨fuel - 1, by omega⟩
    rw [stop, Nat.gcd_zero_right]
  | succ k ih =>
    intro a b fuel S h hf
    obtain ⟨f, rfl⟩ : ∃ f, fuel = f + 1 := ⟨fuel - 1, by omega⟩
    by_cases c : b = 0
    · subst c
      rw [stop, Nat.gcd_zero_right]
    · have hp : 0 < b := by omega
      rw [go a b f S hp]
      have hr := Nat.mod_lt a hp
      obtain ⟨f, rfl⟩ : ∃ f', f = f' + 1 := ⟨f - 1, by omega⟩
      by_cases c2 : a % b = 0
      · rw [gcd_turn (a := a), c2, stop, Nat.gcd_zero_right]
      · have hp2 : 0 < a % b := by omega
        rw [go b (a % b) f S hp2, gcd_turn (a := a), gcd_turn (a := b)]
        have h2 := mod_half hp2 (Nat.le_of_lt hr)
        have hk : (2 : Nat) ^ (k + 1) = 2 * 2 ^ k := by rw [Nat.pow_succ, Nat.mul_comm]
        exact ih _ _ f S (by omega) (by omega)
theorem okDiv_big {j : Int} (h0 : j ≠ 0) (h : j.natAbs < 2 ^ 402) : okDiv j = true := by
  unfold okDiv
  rw [Bool.or_eq_true]
  left
  refine decide_eq_true ⟨h0, ?_⟩
  have hz : j.natAbs ≠ 0 := by omega
  have := (Nat.log2_lt hz).mpr h
  omega
def gg (t b : Int) : Int := ((Nat.gcd t.natAbs b.natAbs : Nat) : Int)
def sg (b : Int) : Int := if b < 0 then -1 else 1
/-- a fraction in lowest terms -/
def fr (t b : Int) : D := .tup [.int ((sg b * t).fdiv (gg t b)), .int ((sg b * b).fdiv (gg t b))]
theorem gg_pos {t b : Int} (h : b ≠ 0) : 0 < gg t b := by
  unfold gg
  have : 0 < Nat.gcd t.natAbs b.natAbs := Nat.gcd_pos_of_pos_right _ (by omega)
  omega
theorem gg_le {t b : Int} (h : b ≠ 0) : (gg t b).natAbs ≤ b.natAbs := by
  unfold gg
  rw [Int.natAbs_natCast]
  exact Nat.gcd_le_right _ (by omega)
section
variable {G : Cfg} {n : Nat} {S : Store}
theorem fmod_nat {a b : Nat} : ((a : Int)).fmod (b : Int) = ((a % b : Nat) : Int) := by
  rw [Int.fmod_eq_emod_of_nonneg _ (Int.natCast_nonneg b)]
  rfl
theorem abs_at {i : Int} : bfV false .abs (.int i) S = .ok (.int (i.natAbs : Nat)) S := by
  show R.ok (D.int (if i < 0 then -i else i)) S = _
  congr 2
  split <;> omega
theorem shared_out (hG : HasF G) (hn : 1 ≤ n) {t b : Int} (hb : b.natAbs < 2 ^ 402) : run G n 16 [.int t, .int b] S = .ok (.int (gg t b)) S := by
  have hl := hG.lim
  have hw := euclid (test := fun env S => E.tst (run G (n - 1)) G (.cmp .gt (.var 1) (.con (.int 0))) env S) (body := fun env S => Ev.Ss.ev (run G (n - 1)) G (.cons (.par 0 1 (.var 1) (.bin false .mod (.var 0) (.var 1))) .nil) env S)
    (E := fun a b => [some (.int (a : Nat)), some (.int (b : Nat))]) (fun a b S => by
      by_cases c : 0 < b
      · simp [c]
      · have c0 : b = 0 := by omega
        subst c0
        simp) (fun a b S h => by
      have h0 : ¬ b = 0 := by omega
      simp [h0, fmod_nat]) 402 t.natAbs b.natAbs G.lim S hb (by omega)
  obtain ⟨w, ew⟩ : ∃ w, w = St.whl (.cmp .gt (.var 1) (.con (.int 0))) (.cons (.par 0 1 (.var 1) (.bin false .mod (.var 0) (.var 1))) .nil) := ⟨_, rfl⟩
  have hwl : Ev.St.ev (run G (n - 1)) G w [some (.int (t.natAbs : Nat)), some (.int (b.natAbs : Nat))] S = .nx [some (.int (gg t b)), some (.int (0 : Nat))] S := by
    rw [ew]
    exact hw
  have hB : fshared_out.body = .cons (.par 0 1 (.bf false .abs (.var 0)) (.bf false .abs (.var 1))) (.cons w (.cons (.ret (.var 0)) .nil)) := by rw [ew]; rfl
  have hf : finish true S (.rt (.int (gg t b)) S) = .ok (.int (gg t b)) S := finish_here rfl
  have hnp : fshared_out.np = 2 := rfl
  have hnv : fshared_out.nv = 2 := rfl
  have hpu : fshared_out.pure = true := rfl
  rw [run_at hn hG.f_so rfl, hB, hnp, hnv, hpu]
  simp [abs_at, hwl, hf]
theorem lowest0 (hG : HasF G) (hn : 1 ≤ n) {t : Int} : run G n 3 [.int t, .int 0] S = .ok .non S := by
  rw [run_at hn hG.f_low rfl]
  simp [f_law_lowest, tf_law_lowest]
theorem lowest (hG : HasF G) (hn : 1 ≤ n) {t b : Int} (h0 : b ≠ 0) (ht : t.natAbs < 2 ^ 402) (hb : b.natAbs < 2 ^ 402) : run G n 3 [.int t, .int b] S = .ok (fr t b) S := by
  have hl := hG.lim
  have hw := euclid (test := fun env S => E.tst (run G (n - 1)) G (.cmp .gt (.var 3) (.con (.int 0))) env S) (body := fun env S => Ev.Ss.ev (run G (n - 1)) G (.cons (.par 2 3 (.var 3) (.bin false .mod (.var 2) (.var 3))) .nil) env S)
    (E := fun x y => [some (.int t), some (.int b), some (.int (x : Nat)), some (.int (y : Nat)), none]) (fun a b S => by
      by_cases c : 0 < b
      · simp [c]
      · have c0 : b = 0 := by omega
        subst c0
        simp) (fun a b S h => by
      have h0 : ¬ b = 0 := by omega
      simp [h0, fmod_nat]) 402 t.natAbs b.natAbs G.lim S hb (by omega)
  obtain ⟨w, ew⟩ : ∃ w, w = St.whl (.cmp .gt (.var 3) (.con (.int 0))) (.cons (.par 2 3 (.var 3) (.bin false .mod (.var 2) (.var 3))) .nil) := ⟨_, rfl⟩
  have hwl : Ev.St.ev (run G (n - 1)) G w [some (.int t), some (.int b), some (.int (t.natAbs : Nat)), some (.int (b.natAbs : Nat)), none] S = .nx [some (.int t), some (.int b), some (.int (gg t b)), some (.int (0 : Nat)), none] S := by
    rw [ew]
    exact hw
  have gp := gg_pos (t := t) h0
  have gl := gg_le (t := t) h0
  have dz := okDiv_big (j := gg t b) (by omega) (by omega)
  have hB : f_law_lowest.body = .cons (.ite (.cmp .eq (.var 1) (.con (.int 0))) (.cons (.ret (.con .non)) .nil) .nil) (.cons (.par 2 3 (.bf false .abs (.var 0)) (.bf false .abs (.var 1))) (.cons w (.cons (.set 4 (.ix (.lst false (.cons (.con (.int 1)) (.cons (.neg (.con (.int 1))) (.nil)))) (.bf false .int (.cmp .lt (.var 1) (.con (.int 0)))))) (.cons (.ret (.tup (.cons (.bin false .fdiv (.bin false .mul (.var 4) (.var 0)) (.var 2)) (.cons (.bin false .fdiv (.bin false .mul (.var 4) (.var 1)) (.var 2)) (.nil))))) .nil)))) := by rw [ew]; rfl
  have hnp : f_law_lowest.np = 2 := rfl
  have hnv : f_law_lowest.nv = 5 := rfl
  have hpu : f_law_lowest.pure = true := rfl
  have hf : finish true S (.rt (fr t b) S) = .ok (fr t b) S := finish_here rfl
  have m1 : ∀ s : Int, s.natAbs < 2 ^ 2 → okMul s t = true := fun s hs => okMul_of 2 402 hs ht (by omega)
  have m2 : ∀ s : Int, s.natAbs < 2 ^ 2 → okMul s b = true := fun s hs => okMul_of 2 402 hs hb (by omega)
  have u1 := m1 1 (by decide)
  have u2 := m2 1 (by decide)
  have v1 := m1 (-1) (by decide)
  have v2 := m2 (-1) (by decide)
  rw [run_at hn hG.f_low rfl, hB, hnp, hnv, hpu]
  by_cases c : b < 0
  · have e1 : sg b = -1 := if_pos c
    unfold fr at hf ⊢
    rw [e1] at hf ⊢
    simp [abs_at, h0, hwl, c, v1, v2, dz, int_bl, sz]
    simpa using hf
  · have e1 : sg b = 1 := if_neg c
    unfold fr at hf ⊢
    rw [e1] at hf ⊢
    simp [abs_at, h0, hwl, c, u1, u2, dz, int_bl, sz]
    simpa using hf
theorem whole_int (hG : HasF G) (hn : 1 ≤ n) {i : Int} : run G n 0 [.int i, .non, .non] S = .ok (.bl true) S := by
  rw [run_at hn hG.f_wh rfl]
  simp [fis_whole, tfis_whole]
theorem neg_div {t g : Int} : (-t).fdiv g = t.fdiv (-g) := by
  have := Int.neg_fdiv_neg t (-g)
  rw [Int.neg_neg] at this
  exact this
theorem fraction (hG : HasF G) (hn : 2 ≤ n) {t b : Int} (h0 : b ≠ 0) (hb : b.natAbs < 2 ^ 402) : run G n 7 [.int t, .int b] S = .ok (fr t b) S ∧ run G n 14 [.int t, .int b] S = .ok (fr t b) S := by
  have w1 := whole_int (n := n - 1) (S := S) hG (by omega) (i := t)
  have w2 := whole_int (n := n - 1) (S := S) hG (by omega) (i := b)
  have e1 := shared_out (n := n - 1) (S := S) hG (by omega) (t := t) hb
  have gp := gg_pos (t := t) h0
  have gl := gg_le (t := t) h0
  have dz := okDiv_big (j := gg t b) (by omega) (by omega)
  have dn := okDiv_big (j := -gg t b) (by omega) (by omega)
  have hf : finish true S (.rt (fr t b) S) = .ok (fr t b) S := finish_here rfl
  refine ⟨?_, ?_⟩
  · rw [run_at (by omega) hG.f_fr rfl]
    by_cases c : b < 0
    · have e2 : sg b = -1 := if_pos c
      unfold fr at hf ⊢
      rw [e2] at hf ⊢
      rw [show (-1 : Int) * t = -t by omega, show (-1 : Int) * b = -b by omega, neg_div, neg_div] at hf ⊢
      simp [ffraction, tffraction, w1, w2, h0, e1, c, dn, sz, hf]
    · have e2 : sg b = 1 := if_neg c
      unfold fr at hf ⊢
      rw [e2, Int.one_mul, Int.one_mul] at hf ⊢
      simp [ffraction, tffraction, w1, w2, h0, e1, c, dz, sz, hf]
  · rw [run_at (by omega) hG.f_fd rfl]
    by_cases c : b < 0
    · have e2 : sg b = -1 := if_pos c
      unfold fr at hf ⊢
      rw [e2] at hf ⊢
      rw [show (-1 : Int) * t = -t by omega, show (-1 : Int) * b = -b by omega, neg_div, neg_div] at hf ⊢
      simp [dfraction, tdfraction, w1, w2, h0, e1, c, dn, sz, hf]
    · have e2 : sg b = 1 := if_neg c
      unfold fr at hf ⊢
      rw [e2, Int.one_mul, Int.one_mul] at hf ⊢
      simp [dfraction, tdfraction, w1, w2, h0, e1, c, dz, sz, hf]
theorem fin_x {k : Nat} {env : Env} : finish true S (.exc ⟨k, []⟩ env S) = .exc ⟨k, []⟩ S := by
  show (if true then (if S.take S.length = S then finX ⟨k, []⟩ S S else .stuck) else .exc ⟨k, []⟩ S : R D) = _
  rw [if_pos rfl, if_pos (List.take_length ..)]
  rfl
theorem fraction0 (hG : HasF G) (hn : 2 ≤ n) {t : Int} : run G n 7 [.int t, .int 0] S = .exc ⟨10, []⟩ S := by
  have w1 := whole_int (n := n - 1) (S := S) hG (by omega) (i := t)
  have w2 := whole_int (n := n - 1) (S := S) hG (by omega) (i := 0)
  have hf := fin_x (S := S) (k := 10) (env := [some (.int t), some (.int 0), none])
  rw [run_at (by omega) hG.f_fr rfl]
  simp [ffraction, tffraction, w1, w2, hf]
/-- a fraction: a bottom from 1 on, nothing in common -/
def IsF (x : D) : Prop := ∃ p q : Int, x = .tup [.int p, .int q] ∧ 1 ≤ q ∧ gg p q = 1 ∧ p.natAbs < 2 ^ 200 ∧ q.natAbs < 2 ^ 200
theorem fr_is {t b : Int} (h0 : b ≠ 0) (ht : t.natAbs < 2 ^ 200) (hb : b.natAbs < 2 ^ 200) : IsF (fr t b) := by
  obtain ⟨g, hg⟩ : ∃ g, g = Nat.gcd t.natAbs b.natAbs := ⟨_, rfl⟩
  have gp : 0 < g := by rw [hg]; exact Nat.gcd_pos_of_pos_right _ (by omega)
  obtain ⟨x, hx⟩ : g ∣ t.natAbs := by rw [hg]; exact Nat.gcd_dvd_left _ _
  obtain ⟨y, hy⟩ : g ∣ b.natAbs := by rw [hg]; exact Nat.gcd_dvd_right _ _
  have hgg : gg t b = (g : Int) := by rw [hg]; rfl
  have hc : Nat.gcd x y = 1 := by
    have := Nat.gcd_mul_left g x y
    rw [← hx, ← hy, ← hg] at this
    have h2 : g * Nat.gcd x y = g * 1 := by omega
    exact Nat.eq_of_mul_eq_mul_left gp h2
  have yp : 0 < y := by
    rcases Nat.eq_zero_or_pos y with z | z
    · rw [z, Nat.mul_zero] at hy
      omega
    · exact z
  have lx : x ≤ t.natAbs := by rw [hx]; exact Nat.le_mul_of_pos_left x gp
  have ly : y ≤ b.natAbs := by rw [hy]; exact Nat.le_mul_of_pos_left y gp
  have div : ∀ z : Int, ((g : Int) * z).fdiv (g : Int) = z := fun z => Int.mul_fdiv_cancel_left z (by omega)
  have eb : sg b * b = (g : Int) * (y : Int) := by
    have : ((g * y : Nat) : Int) = (g : Int) * (y : Int) := Int.natCast_mul g y
    rw [← this, ← hy]
    unfold sg
    split <;> omega
  have et : ∃ z : Int, sg b * t = (g : Int) * z ∧ z.natAbs = x := by
    have h1 : ((g * x : Nat) : Int) = (g : Int) * (x : Int) := Int.natCast_mul g x
    by_cases c : sg b * t < 0
    · refine ⟨-(x : Int), ?_, by omega⟩
      rw [Int.mul_neg, ← h1, ← hx]
      clear ht hb hc lx ly eb
      by_cases cb : b < 0
      · have e : sg b = -1 := if_pos cb
        rw [e] at c ⊢
        omega
      · have e : sg b = 1 := if_neg cb
        rw [e] at c ⊢
        omega
    · refine ⟨(x : Int), ?_, by omega⟩
      rw [← h1, ← hx]
      clear ht hb hc lx ly eb
      by_cases cb : b < 0
      · have e : sg b = -1 := if_pos cb
        rw [e] at c ⊢
        omega
      · have e : sg b = 1 := if_neg cb
        rw [e] at c ⊢
        omega
  obtain ⟨z, ez, hz⟩ := et
  refine ⟨z, (y : Int), ?_, by omega, ?_, by omega, by omega⟩
  · unfold fr
    rw [hgg, eb, ez, div, div]
  · unfold gg
    rw [hz, Int.natAbs_natCast, hc]
    rfl
end
end Ev
namespace Ev
open PySem PySem.Spec L2
def tf_law_told : Ss := (.cons (.tryH (.cons (.ret (.callV 0 (.cons (.var 1) (.cons (.var 2) (.nil))))) (.nil)) [(10, .non), (5, (.str "other"))]) (.nil))
def f_law_told : Fn := ⟨3, 3, true, tf_law_told⟩
def tfis_fraction : Ss := (.cons (.ite (.or (.nt (.isi (.var 0) .tuple)) (.cmp .ne (.bf false .len (.var 0)) (.con (.int 2)))) (.cons (.ret (.con (.bl false))) (.nil)) (.nil)) (.cons (.ite (.or (.nt (.call 0 (.cons (.ix (.var 0) (.con (.int 0))) (.cons (.con .non) (.cons (.con .non) (.nil)))))) (.nt (.call 0 (.cons (.ix (.var 0) (.con (.int 1))) (.cons (.con (.int 1)) (.cons (.con .non) (.nil))))))) (.cons (.ret (.con (.bl false))) (.nil)) (.nil)) (.cons (.ret (.cmp .eq (.call 16 (.cons (.ix (.var 0) (.con (.int 0))) (.cons (.ix (.var 0) (.con (.int 1))) (.nil)))) (.con (.int 1)))) (.nil))))
def fis_fraction : Fn := ⟨1, 1, true, tfis_fraction⟩
def tfplus : Ss := (.cons (.ex (.call 17 (.cons (.var 0) (.cons (.var 1) (.nil))))) (.cons (.asg (.tp (.cons (.tp (.cons (.nm 2) (.cons (.nm 3) (.nil)))) (.cons (.tp (.cons (.nm 4) (.cons (.nm 5) (.nil)))) (.nil)))) (.tup (.cons (.var 0) (.cons (.var 1) (.nil))))) (.cons (.ret (.call 7 (.cons (.bin false .add (.bin false .mul (.var 2) (.var 5)) (.bin false .mul (.var 4) (.var 3))) (.cons (.bin false .mul (.var 3) (.var 5)) (.nil))))) (.nil))))
def fplus : Fn := ⟨2, 6, true, tfplus⟩
def tfminus : Ss := (.cons (.ex (.call 17 (.cons (.var 0) (.cons (.var 1) (.nil))))) (.cons (.asg (.tp (.cons (.tp (.cons (.nm 2) (.cons (.nm 3) (.nil)))) (.cons (.tp (.cons (.nm 4) (.cons (.nm 5) (.nil)))) (.nil)))) (.tup (.cons (.var 0) (.cons (.var 1) (.nil))))) (.cons (.ret (.call 7 (.cons (.bin false .sub (.bin false .mul (.var 2) (.var 5)) (.bin false .mul (.var 4) (.var 3))) (.cons (.bin false .mul (.var 3) (.var 5)) (.nil))))) (.nil))))
def fminus : Fn := ⟨2, 6, true, tfminus⟩
def tftimes : Ss := (.cons (.ex (.call 17 (.cons (.var 0) (.cons (.var 1) (.nil))))) (.cons (.ret (.call 7 (.cons (.bin false .mul (.ix (.var 0) (.con (.int 0))) (.ix (.var 1) (.con (.int 0)))) (.cons (.bin false .mul (.ix (.var 0) (.con (.int 1))) (.ix (.var 1) (.con (.int 1)))) (.nil))))) (.nil)))
def ftimes : Fn := ⟨2, 2, true, tftimes⟩
def tfshared : Ss := (.cons (.ex (.call 17 (.cons (.var 0) (.cons (.var 1) (.nil))))) (.cons (.ret (.call 7 (.cons (.bin false .mul (.ix (.var 0) (.con (.int 0))) (.ix (.var 1) (.con (.int 1)))) (.cons (.bin false .mul (.ix (.var 0) (.con (.int 1))) (.ix (.var 1) (.con (.int 0)))) (.nil))))) (.nil)))
def fshared : Fn := ⟨2, 2, true, tfshared⟩
def tffractions_unless : Ss := (.cons (.ite (.or (.nt (.call 9 (.cons (.var 0) (.nil)))) (.nt (.call 9 (.cons (.var 1) (.nil))))) (.cons (.rse 10) (.nil)) (.nil)) (.nil))
def ffractions_unless : Fn := ⟨2, 2, true, tffractions_unless⟩
def tf_law_bounds_right : Ss := (.cons (.for (.nm 2) (.seq (.lst false (.cons (.var 1) (.cons (.call 5 (.cons (.var 0) (.cons (.lst false (.cons (.con (.bl true)) (.cons (.con (.bl false)) (.cons (.con .non) (.cons (.con (.str "1")) (.cons (.lst false (.cons (.var 1) (.nil))) (.cons (.tup (.cons (.var 1) (.nil))) (.cons .dct0 (.nil))))))))) (.nil)))) (.nil))))) (.cons (.for (.tp (.cons (.nm 3) (.cons (.nm 4) (.nil)))) (.seq (.lst false (.cons (.tup (.cons (.con .non) (.cons (.con .non) (.nil)))) (.cons (.tup (.cons (.var 1) (.cons (.con .non) (.nil)))) (.cons (.tup (.cons (.bin false .add (.var 1) (.con (.int 1))) (.cons (.con .non) (.nil)))) (.cons (.tup (.cons (.con .non) (.cons (.var 1) (.nil)))) (.cons (.tup (.cons (.con .non) (.cons (.bin false .sub (.var 1) (.con (.int 1))) (.nil)))) (.nil)))))))) (.cons (.set 5 (.and (.cmp .eq (.var 2) (.var 1)) (.and (.nt (.isi (.var 2) .bool)) (.and (.cmp .ne (.var 3) (.bin false .add (.var 1) (.con (.int 1)))) (.cmp .ne (.var 4) (.bin false .sub (.var 1) (.con (.int 1)))))))) (.cons (.ite (.isi (.var 2) .bool) (.cons (.set 5 (.con (.bl false))) (.nil)) (.nil)) (.cons (.ite (.cmp .ne (.call 0 (.cons (.var 2) (.cons (.var 3) (.cons (.var 4) (.nil))))) (.var 5)) (.cons (.ret (.con (.bl false))) (.nil)) (.nil)) (.nil))))) (.nil))) (.cons (.ret (.cmp .is (.call 0 (.cons (.var 1) (.cons (.bin false .add (.var 1) (.con (.int 1))) (.cons (.bin false .sub (.var 1) (.con (.int 1))) (.nil))))) (.con (.bl false)))) (.nil)))
def f_law_bounds_right : Fn := ⟨2, 6, false, tf_law_bounds_right⟩
def tflaw_20 : Ss := (.cons (.for (.nm 1) (.seq (.cutB false (.bin false .add (.var 0) (.lst false (.cons (.con (.int 0)) (.nil)))) (.con (.int 8)))) (.cons (.set 2 (.call 1 (.cons (.var 1) (.nil)))) (.cons (.par 3 4 (.call 2 (.cons (.var 2) (.nil))) (.call 2 (.cons (.var 2) (.nil)))) (.cons (.set 5 (.or (.call 3 (.cons (.var 3) (.cons (.var 4) (.nil)))) (.tup (.cons (.con (.int 0)) (.cons (.con (.int 1)) (.nil)))))) (.cons (.set 6 (.call 3 (.cons (.call 2 (.cons (.var 2) (.nil))) (.cons (.bin false .add (.con (.int 1)) (.call 4 (.cons (.var 2) (.cons (.con (.int 40)) (.nil))))) (.nil))))) (.cons (.ite (.or (.cmp .ne (.call 8 (.cons (.fnc 7) (.cons (.var 3) (.cons (.var 4) (.nil))))) (.call 3 (.cons (.var 3) (.cons (.var 4) (.nil))))) (.nt (.call 9 (.cons (.var 5) (.nil))))) (.cons (.ret (.con (.bl false))) (.nil)) (.nil)) (.cons (.set 7 (.lst true (.cons (.call 3 (.cons (.bin false .add (.bin false .mul (.ix (.var 5) (.con (.int 0))) (.ix (.var 6) (.con (.int 1)))) (.bin false .mul (.ix (.var 6) (.con (.int 0))) (.ix (.var 5) (.con (.int 1))))) (.cons (.bin false .mul (.ix (.var 5) (.con (.int 1))) (.ix (.var 6) (.con (.int 1)))) (.nil)))) (.nil)))) (.cons (.ex (.mth1 .append (.var 7) (.call 3 (.cons (.bin false .sub (.bin false .mul (.ix (.var 5) (.con (.int 0))) (.ix (.var 6) (.con (.int 1)))) (.bin false .mul (.ix (.var 6) (.con (.int 0))) (.ix (.var 5) (.con (.int 1))))) (.cons (.bin false .mul (.ix (.var 5) (.con (.int 1))) (.ix (.var 6) (.con (.int 1)))) (.nil)))))) (.cons (.ex (.mth1 .append (.var 7) (.call 3 (.cons (.bin false .mul (.ix (.var 5) (.con (.int 0))) (.ix (.var 6) (.con (.int 0)))) (.cons (.bin false .mul (.ix (.var 5) (.con (.int 1))) (.ix (.var 6) (.con (.int 1)))) (.nil)))))) (.cons (.ex (.mth1 .append (.var 7) (.call 3 (.cons (.bin false .mul (.ix (.var 5) (.con (.int 0))) (.ix (.var 6) (.con (.int 1)))) (.cons (.bin false .mul (.ix (.var 5) (.con (.int 1))) (.ix (.var 6) (.con (.int 0)))) (.nil)))))) (.cons (.set 8 (.lst false (.cons (.fnc 10) (.cons (.fnc 11) (.cons (.fnc 12) (.cons (.fnc 13) (.nil))))))) (.cons (.ite (.or (.cmp .ne (.comp false [9] (.call 8 (.cons (.var 9) (.cons (.var 5) (.cons (.var 6) (.nil))))) (.nm 9) (.seq (.var 8)) (.nil)) (.var 7)) (.cmp .ne (.callD 14 (.cons (.var 3) (.nil)) (.int 1)) (.tup (.cons (.var 3) (.cons (.con (.int 1)) (.nil)))))) (.cons (.ret (.con (.bl false))) (.nil)) (.nil)) (.cons (.set 10 (.bin false .add (.con (.int 2)) (.call 4 (.cons (.var 2) (.cons (.con (.int 7)) (.nil)))))) (.cons (.set 11 (.lst false (.cons (.con .non) (.cons (.var 3) (.cons (.con (.bl true)) (.cons (.con (.str "1/2")) (.cons (.lst false (.cons (.con (.int 1)) (.cons (.con (.int 2)) (.nil)))) (.cons (.tup (.cons (.con (.int 1)) (.nil))) (.cons (.tup (.cons (.con (.int 1)) (.cons (.con (.int 2)) (.cons (.con (.int 1)) (.nil))))) (.cons (.tup (.cons (.bin false .mul (.var 10) (.con (.int 3))) (.cons (.bin false .mul (.var 10) (.con (.int 2))) (.nil)))) (.cons (.tup (.cons (.con (.int 1)) (.cons (.con (.int 0)) (.nil)))) (.cons (.tup (.cons (.neg (.con (.int 1))) (.cons (.neg (.con (.int 2))) (.nil)))) (.nil))))))))))))) (.cons (.set 11 (.bin false .add (.var 11) (.lst false (.cons (.tup (.cons (.con (.bl true)) (.cons (.con (.int 1)) (.nil)))) (.cons (.tup (.cons (.con (.int 1)) (.cons (.con (.str "1")) (.nil)))) (.nil)))))) (.cons (.set 12 (.call 5 (.cons (.var 2) (.cons (.var 11) (.nil))))) (.cons (.for (.nm 9) (.seq (.var 8)) (.cons (.ite (.or (.cmp .nis (.call 8 (.cons (.var 9) (.cons (.var 12) (.cons (.var 6) (.nil))))) (.con .non)) (.cmp .nis (.call 8 (.cons (.var 9) (.cons (.var 6) (.cons (.var 12) (.nil))))) (.con .non))) (.cons (.ret (.con (.bl false))) (.nil)) (.nil)) (.nil))) (.cons (.ite (.or (.cmp .nis (.call 9 (.cons (.var 12) (.nil))) (.con (.bl false))) (.or (.cmp .nis (.call 8 (.cons (.fnc 7) (.cons (.con (.str "1")) (.cons (.con (.int 2)) (.nil))))) (.con .non)) (.nt (.call 15 (.cons (.var 2) (.cons (.var 3) (.nil))))))) (.cons (.ret (.con (.bl false))) (.nil)) (.nil)) (.nil))))))))))))))))))) (.cons (.ret (.con (.bl true))) (.nil)))
def flaw_20 : Fn := ⟨1, 13, true, tflaw_20⟩
structure HasF2 (G : Cfg) : Prop extends HasF G where
  f_to : G.fns[8]? = some f_law_told
  f_is : G.fns[9]? = some fis_fraction
  f_pl : G.fns[10]? = some fplus
  f_mi : G.fns[11]? = some fminus
  f_ti : G.fns[12]? = some ftimes
  f_sh : G.fns[13]? = some fshared
  f_un : G.fns[17]? = some ffractions_unless
  f_bo : G.fns[15]? = some f_law_bounds_right
  f_law : G.fns[6]? = some flaw_20
  v1 : G.vfn.contains 7 = true
  v2 : G.vfn.contains 10 = true
  v3 : G.vfn.contains 11 = true
  v4 : G.vfn.contains 12 = true
  v5 : G.vfn.contains 13 = true
  hd : hdl G 10 [(10, .non), (5, .str "other")] = some (some .non)
theorem nb {a d : Int} (ha : a.natAbs < 2 ^ 200) (hd : d.natAbs < 2 ^ 200) : (a * d).natAbs < 2 ^ 400 := by
  rw [Int.natAbs_mul]
  have := Nat.mul_lt_mul'' ha hd
  rwa [← Nat.pow_add] at this
/-- no fraction -/
inductive BadF : D → Prop
  | nt (d : D) (h : ∀ S, isiD S .tuple d = some false) : BadF d
  | len (xs : List D) (h : xs.length ≠ 2) (hz : xs.length ≤ 1000) : BadF (.tup xs)
  | com (m : Int) (h : 2 ≤ m) (hm : m ≤ 1000) : BadF (.tup [.int (m * 3), .int (m * 2)])
  | low (p q : Int) (h : q < 1) : BadF (.tup [.int p, .int q])
  | bl (q : D) : BadF (.tup [.bl true, q])
  | str (p : Int) (s : Str) : BadF (.tup [.int p, .str s])
section
variable {G : Cfg} {n : Nat} {S : Store} {x y : D}
theorem whole_1 (hG : HasF G) (hn : 1 ≤ n) {i : Int} : run G n 0 [.int i, .int 1, .non] S = .ok (.bl (decide (1 ≤ i))) S := by
  rw [run_at hn hG.f_wh rfl]
  by_cases h1 : 1 ≤ i
  · simp [fis_whole, tfis_whole, h1]
  · simp [fis_whole, tfis_whole, h1]
theorem whole_no (hG : HasF G) (hn : 1 ≤ n) {d l h : D} (k : isiD S .bool d = some true ∨ (isiD S .bool d = some false ∧ isiD S .int d = some false)) : run G n 0 [d, l, h] S = .ok (.bl false) S := by
  rw [run_at hn hG.f_wh rfl]
  rcases k with k | ⟨k1, k2⟩
  · simp [fis_whole, tfis_whole, k]
  · simp [fis_whole, tfis_whole, k1, k2]
theorem is_frac (hG : HasF2 G) (hn : 2 ≤ n) (h : IsF x) : run G n 9 [x] S = .ok (.bl true) S := by
  obtain ⟨p, q, rfl, h1, h2, h3, h4⟩ := h
  have it : ∀ xs, isiD S .tuple (.tup xs) = some true := fun _ => rfl
  have w1 := whole_int (n := n - 1) (S := S) hG.toHasF (by omega) (i := p)
  have w2 := whole_1 (n := n - 1) (S := S) hG.toHasF (by omega) (i := q)
  rw [decide_eq_true h1] at w2
  have hq : q.natAbs < 2 ^ 402 := Nat.lt_of_lt_of_le h4 (Nat.pow_le_pow_right (by omega) (by omega))
  have e1 := shared_out (n := n - 1) (S := S) hG.toHasF (by omega) (t := p) hq
  rw [h2] at e1
  rw [run_at (by omega) hG.f_is rfl]
  simp [fis_fraction, tfis_fraction, it, w1, w2, e1, sz]
theorem is_bad (hG : HasF2 G) (hn : 2 ≤ n) (h : BadF x) : run G n 9 [x] S = .ok (.bl false) S := by
  have it : ∀ xs, isiD S .tuple (.tup xs) = some true := fun _ => rfl
  rw [run_at (by omega) hG.f_is rfl]
  cases h with
  | nt d h => simp [fis_fraction, tfis_fraction, h S]
  | len xs h hz =>
    have hne : ¬ ((xs.length : Int) = 2) := by omega
    simp [fis_fraction, tfis_fraction, it, hne, sz, hz]
  | com m h hm =>
    have w1 := whole_int (n := n - 1) (S := S) hG.toHasF (by omega) (i := m * 3)
    have w2 := whole_1 (n := n - 1) (S := S) hG.toHasF (by omega) (i := m * 2)
    rw [decide_eq_true (by omega)] at w2
    have hq : (m * 2).natAbs < 2 ^ 402 := Nat.lt_of_lt_of_le (show (m * 2).natAbs < 2 ^ 20 by omega) (Nat.pow_le_pow_right (by omega) (by omega))
    have e1 := shared_out (n := n - 1) (S := S) hG.toHasF (by omega) (t := m * 3) hq
    have hg : gg (m * 3) (m * 2) = m := by
      unfold gg
      rw [show (m * 3).natAbs = m.natAbs * 3 by omega, show (m * 2).natAbs = m.natAbs * 2 by omega, Nat.gcd_mul_left]
      have : Nat.gcd 3 2 = 1 := by decide
      rw [this]
      omega
    rw [hg] at e1
    have hne : ¬ m = 1 := by omega
    simp [fis_fraction, tfis_fraction, it, w1, w2, e1, hne, sz]
  | low p q h =>
    have w1 := whole_int (n := n - 1) (S := S) hG.toHasF (by omega) (i := p)
    have w2 := whole_1 (n := n - 1) (S := S) hG.toHasF (by omega) (i := q)
    rw [decide_eq_false (by omega)] at w2
    simp [fis_fraction, tfis_fraction, it, w1, w2, sz]
  | bl q =>
    have w1 := whole_no (n := n - 1) (S := S) hG.toHasF (by omega) (d := .bl true) (l := .non) (h := .non) (.inl rfl)
    simp [fis_fraction, tfis_fraction, it, w1, sz]
  | str p s =>
    have w1 := whole_int (n := n - 1) (S := S) hG.toHasF (by omega) (i := p)
    have w2 := whole_no (n := n - 1) (S := S) hG.toHasF (by omega) (d := .str s) (l := .int 1) (h := .non) (.inr ⟨rfl, rfl⟩)
    simp [fis_fraction, tfis_fraction, it, w1, w2, sz]
theorem unless_ok (hG : HasF2 G) (hn : 3 ≤ n) (h1 : IsF x) (h2 : IsF y) : run G n 17 [x, y] S = .ok .non S := by
  have e1 := is_frac (n := n - 1) (S := S) hG (by omega) h1
  have e2 := is_frac (n := n - 1) (S := S) hG (by omega) h2
  rw [run_at (by omega) hG.f_un rfl]
  simp [ffractions_unless, tffractions_unless, e1, e2]
theorem unless_no (hG : HasF2 G) (hn : 3 ≤ n) (h : BadF x ∨ (IsF x ∧ BadF y)) : run G n 17 [x, y] S = .exc ⟨10, []⟩ S := by
  have hf := fin_x (S := S) (k := 10) (env := [some x, some y])
  rw [run_at (by omega) hG.f_un rfl]
  rcases h with h | ⟨h, h2⟩
  · have e1 := is_bad (n := n - 1) (S := S) hG (by omega) h
    simp [ffractions_unless, tffractions_unless, e1, hf]
  · have e1 := is_frac (n := n - 1) (S := S) hG (by omega) h
    have e2 := is_bad (n := n - 1) (S := S) hG (by omega) h2
    simp [ffractions_unless, tffractions_unless, e1, e2, hf]
/-- sums, differences, products, quotients -/
theorem deeds_ok (hG : HasF2 G) (hn : 4 ≤ n) {a b c d : Int} (h1 : IsF (.tup [.int a, .int b])) (h2 : IsF (.tup [.int c, .int d])) :
    run G n 10 [.tup [.int a, .int b], .tup [.int c, .int d]] S = .ok (fr (a * d + c * b) (b * d)) S ∧ run G n 11 [.tup [.int a, .int b], .tup [.int c, .int d]] S = .ok (fr (a * d - c * b) (b * d)) S ∧
    run G n 12 [.tup [.int a, .int b], .tup [.int c, .int d]] S = .ok (fr (a * c) (b * d)) S ∧ run G n 13 [.tup [.int a, .int b], .tup [.int c, .int d]] S = (if c = 0 then .exc ⟨10, []⟩ S else .ok (fr (a * d) (b * c)) S) := by
  have u := unless_ok (n := n - 1) (S := S) hG (by omega) h1 h2
  obtain ⟨a', b', e, b1, _, ab, bb⟩ := h1
  injection e with e
  injection e with ea e
  injection e with eb _
  injection ea with ea
  injection eb with eb
  subst ea eb
  obtain ⟨c', d', e, d1, _, cb, db⟩ := h2
  injection e with e
  injection e with ec e
  injection e with ed _
  injection ec with ec
  injection ed with ed
  subst ec ed
  have hbd : b * d ≠ 0 := by
    have := Int.mul_pos (show 0 < b by omega) (show 0 < d by omega)
    omega
  have k402 : ∀ {i : Int}, i.natAbs < 2 ^ 400 → i.natAbs < 2 ^ 402 := fun h => Nat.lt_of_lt_of_le h (Nat.pow_le_pow_right (by omega) (by omega))
  have ok : ∀ {i j : Int}, i.natAbs < 2 ^ 200 → j.natAbs < 2 ^ 200 → okMul i j = true := fun h k => okMul_of 200 200 h k (by omega)
  have f1 := (fraction (n := n - 1) (S := S) hG.toHasF (by omega) (t := a * d + c * b) hbd (k402 (nb bb db))).1
  have f2 := (fraction (n := n - 1) (S := S) hG.toHasF (by omega) (t := a * d - c * b) hbd (k402 (nb bb db))).1
  have f3 := (fraction (n := n - 1) (S := S) hG.toHasF (by omega) (t := a * c) hbd (k402 (nb bb db))).1
  have o1 := ok ab db
  have o2 := ok cb bb
  have o3 := ok bb db
  have o4 := ok ab cb
  have o5 := ok bb cb
  have ha : ∀ env : Env, Ev.T.asg (.tp (.cons (.tp (.cons (.nm 2) (.cons (.nm 3) (.nil)))) (.cons (.tp (.cons (.nm 4) (.cons (.nm 5) (.nil)))) (.nil)))) (.tup [.tup [.int a, .int b], .tup [.int c, .int d]]) env = some ((((env.set 2 (some (.int a))).set 3 (some (.int b))).set 4 (some (.int c))).set 5 (some (.int d))) := fun _ => rfl
  have hf : ∀ t k, finish true S (.rt (fr t k) S) = .ok (fr t k) S := fun _ _ => finish_here rfl
  refine ⟨?_, ?_, ?_, ?_⟩
  · rw [run_at (by omega) hG.f_pl rfl]
    simp [fplus, tfplus, u, ha, o1, o2, o3, f1, hf, sz]
  · rw [run_at (by omega) hG.f_mi rfl]
    simp [fminus, tfminus, u, ha, o1, o2, o3, f2, hf, sz]
  · rw [run_at (by omega) hG.f_ti rfl]
    simp [ftimes, tftimes, u, o3, o4, f3, hf, sz]
  · rw [run_at (by omega) hG.f_sh rfl]
    by_cases c0 : c = 0
    · subst c0
      have f4 := fraction0 (n := n - 1) (S := S) hG.toHasF (by omega) (t := a * d)
      have hx := fin_x (S := S) (k := 10) (env := [some (.tup [.int a, .int b]), some (.tup [.int 0, .int d])])
      simp [fshared, tfshared, u, o1, o5, f4, hx, sz]
    · have hbc : b * c ≠ 0 := Int.mul_ne_zero (by omega) c0
      have f4 := (fraction (n := n - 1) (S := S) hG.toHasF (by omega) (t := a * d) hbc (k402 (nb bb cb))).1
      simp [fshared, tfshared, u, o1, o5, f4, hf, sz, c0]
theorem deeds_no (hG : HasF2 G) (hn : 4 ≤ n) (h : BadF x ∨ (IsF x ∧ BadF y)) : run G n 10 [x, y] S = .exc ⟨10, []⟩ S ∧ run G n 11 [x, y] S = .exc ⟨10, []⟩ S ∧ run G n 12 [x, y] S = .exc ⟨10, []⟩ S ∧ run G n 13 [x, y] S = .exc ⟨10, []⟩ S := by
  have u := unless_no (n := n - 1) (S := S) hG (by omega) h
  have hf := fun env => fin_x (S := S) (k := 10) (env := env)
  refine ⟨?_, ?_, ?_, ?_⟩
  · rw [run_at (by omega) hG.f_pl rfl]
    simp [fplus, tfplus, u, hf]
  · rw [run_at (by omega) hG.f_mi rfl]
    simp [fminus, tfminus, u, hf]
  · rw [run_at (by omega) hG.f_ti rfl]
    simp [ftimes, tftimes, u, hf]
  · rw [run_at (by omega) hG.f_sh rfl]
    simp [fshared, tfshared, u, hf]
/-- what is told of two things -/
theorem told_is (hG : HasF2 G) (hn : 1 ≤ n) {k : Nat} (hk : G.vfn.contains k = true) {d : D} (hd : d.plain = true) (h : run G (n - 1) k [x, y] S = .ok d S) : run G n 8 [.fn k, x, y] S = .ok d S := by
  have hf : finish true S (.rt d S) = .ok d S := finish_here hd
  rw [run_at (by omega) hG.f_to rfl]
  simp [f_law_told, tf_law_told, List.contains_iff_mem.mp hk, h, hf]
theorem told_no (hG : HasF2 G) (hn : 1 ≤ n) {k : Nat} (hk : G.vfn.contains k = true) (h : run G (n - 1) k [x, y] S = .exc ⟨10, []⟩ S) : run G n 8 [.fn k, x, y] S = .ok .non S := by
  rw [run_at (by omega) hG.f_to rfl]
  simp [f_law_told, tf_law_told, List.contains_iff_mem.mp hk, h, hG.hd]
end
end Ev
namespace Ev
open PySem PySem.Spec L2
section
variable {G : Cfg} {n l B : Nat} {S : Store} {st : List D} {x : D} {i : Int}
/-- bounds: None, or a number -/
def bnds (i : Int) : List (D × D) := [(.non, .non), (.int i, .non), (.int (i + 1), .non), (.non, .int i), (.non, .int (i - 1))]
/-- whether a number lies within them -/
def inB (i : Int) (q : D × D) : Bool := !decide (q.1 = .int (i + 1)) && !decide (q.2 = .int (i - 1))
theorem whole_b (hG : HasF2 G) (hn : 1 ≤ n) {q : D × D} (hq : q ∈ bnds i) : run G n 0 [.int i, q.1, q.2] S = .ok (.bl (inB i q)) S := by
  rw [run_at hn hG.f_wh rfl]
  simp only [bnds, List.mem_cons, List.not_mem_nil, or_false] at hq
  rcases hq with rfl | rfl | rfl | rfl | rfl
  · simp [fis_whole, tfis_whole, inB]
  · have h1 : ¬ i = i + 1 := by omega
    simp [fis_whole, tfis_whole, inB, h1]
  · have h1 : ¬ i + 1 ≤ i := by omega
    simp [fis_whole, tfis_whole, inB, h1]
  · have h1 : ¬ i = i - 1 := by omega
    simp [fis_whole, tfis_whole, inB, h1]
  · have h1 : ¬ i ≤ i - 1 := by omega
    simp [fis_whole, tfis_whole, inB, h1]
theorem ne_nb {S : Store} {j : Int} : cmpV .ne .non (.int j) S = .ok (.bl true) S := rfl
theorem ne_bb {S : Store} {b : Bool} : cmpV .ne (.bl b) (.bl b) S = .ok (.bl false) S := by cases b <;> rfl
def bb01 : Ss := match tf_law_bounds_right with
  | .cons (.for _ _ b) _ => b
  | _ => .nil
def bt01 : Ss := match bb01 with
  | .cons (.for _ _ b) _ => b
  | _ => .nil
/-- a thing that is no whole number: a truth, another sort -/
structure NoW (S : Store) (i : Int) (x : D) : Prop where
  k : isiD S .bool x = some true ∨ (isiD S .bool x = some false ∧ isiD S .int x = some false)
  e : ∃ b, cmpV .eq x (.int i) S = .ok (.bl b) S ∧ (isiD S .bool x = some false → b = false)
theorem bt_num (hG : HasF2 G) (hn : 1 ≤ n) {q : D × D} (hq : q ∈ bnds i) {w o : Option D} : Ev.Ss.ev (run G n) G bt01 [w, some (.int i), some (.int i), some q.1, some q.2, o] S = .nx [w, some (.int i), some (.int i), some q.1, some q.2, some (.bl (inB i q))] S := by
  have e1 := whole_b (n := n) (S := S) hG hn hq
  have ib : isiD S .bool (.int i) = some false := rfl
  simp only [bnds, List.mem_cons, List.not_mem_nil, or_false] at hq
  rcases hq with rfl | rfl | rfl | rfl | rfl
  · simp only [inB] at e1 ⊢
    simp [bt01, bb01, tf_law_bounds_right, ne_nb, ne_bb, e1, ib]
  · have h1 : ¬ i = i + 1 := by omega
    simp [inB, h1] at e1 ⊢
    simp [bt01, bb01, tf_law_bounds_right, ne_nb, ne_bb, e1, ib, h1]
  · simp [inB] at e1 ⊢
    simp [bt01, bb01, tf_law_bounds_right, ne_nb, ne_bb, e1, ib]
  · have h1 : ¬ i = i - 1 := by omega
    simp [inB, h1] at e1 ⊢
    simp [bt01, bb01, tf_law_bounds_right, ne_nb, ne_bb, e1, ib, h1]
  · simp [inB] at e1 ⊢
    simp [bt01, bb01, tf_law_bounds_right, ne_nb, ne_bb, e1, ib]
theorem bt_no (hG : HasF2 G) (hn : 1 ≤ n) (h : NoW S i x) {q : D × D} (hq : q ∈ bnds i) {w o : Option D} : ∃ o', Ev.Ss.ev (run G n) G bt01 [w, some (.int i), some x, some q.1, some q.2, o] S = .nx [w, some (.int i), some x, some q.1, some q.2, o'] S := by
  have e1 := whole_no (n := n) (S := S) hG.toHasF hn (d := x) (l := q.1) (h := q.2) h.k
  obtain ⟨b, e2, e3⟩ := h.e
  refine ⟨some (.bl false), ?_⟩
  simp only [bnds, List.mem_cons, List.not_mem_nil, or_false] at hq
  rcases h.k with k | ⟨k, _⟩
  · cases b with
    | false => rcases hq with rfl | rfl | rfl | rfl | rfl <;> simp [bt01, bb01, tf_law_bounds_right, ne_nb, ne_bb, e1, e2, k]
    | true => rcases hq with rfl | rfl | rfl | rfl | rfl <;> simp [bt01, bb01, tf_law_bounds_right, ne_nb, ne_bb, e1, e2, k]
  · obtain rfl := e3 k
    rcases hq with rfl | rfl | rfl | rfl | rfl <;> simp [bt01, bb01, tf_law_bounds_right, ne_nb, ne_bb, e1, e2, k]
def prD (q : D × D) : D := .tup [q.1, q.2]
theorem in_loop {body : Env → Store → SR} {w : Option D} (hb : ∀ q ∈ bnds i, ∀ o, ∃ o', body [w, some (.int i), some x, some q.1, some q.2, o] S = .nx [w, some (.int i), some x, some q.1, some q.2, o'] S) :
    ∀ (L : List (D × D)), (∀ q ∈ L, q ∈ bnds i) → ∀ o3 o4 o5, ∃ o3' o4' o5', forGo (.tp (.cons (.nm 3) (.cons (.nm 4) .nil))) none body (L.map prD) [w, some (.int i), some x, o3, o4, o5] S = .nx [w, some (.int i), some x, o3', o4', o5'] S
  | [], _, o3, o4, o5 => ⟨o3, o4, o5, rfl⟩
  | q :: L, h, o3, o4, o5 => by
    obtain ⟨o', e1⟩ := hb q (h q List.mem_cons_self) o5
    obtain ⟨o3', o4', o5', e2⟩ := in_loop hb L (fun q hq => h q (List.mem_cons_of_mem _ hq)) (some q.1) (some q.2) o'
    refine ⟨o3', o4', o5', ?_⟩
    rw [List.map_cons, for_step]
    have ha : Ev.T.asg (.tp (.cons (.nm 3) (.cons (.nm 4) .nil))) (prD q) [w, some (.int i), some x, o3, o4, o5] = some [w, some (.int i), some x, some q.1, some q.2, o5] := rfl
    rw [ha]
    simp only [e1]
    exact e2
theorem no_w {k : Nat} (hk : S[k]? = some (.dct [])) (hx : x ∈ [D.bl true, .bl false, .non, .str "1", .lst [.int i], .tup [.int i], .ref k]) : NoW S i x := by
  simp only [List.mem_cons, List.not_mem_nil, or_false] at hx
  rcases hx with rfl | rfl | rfl | rfl | rfl | rfl | rfl
  · exact ⟨.inl rfl, _, rfl, fun h => nomatch h⟩
  · exact ⟨.inl rfl, _, rfl, fun h => nomatch h⟩
  · exact ⟨.inr ⟨rfl, rfl⟩, _, rfl, fun _ => rfl⟩
  · exact ⟨.inr ⟨rfl, rfl⟩, _, rfl, fun _ => rfl⟩
  · exact ⟨.inr ⟨rfl, rfl⟩, _, rfl, fun _ => rfl⟩
  · exact ⟨.inr ⟨rfl, rfl⟩, _, rfl, fun _ => rfl⟩
  · have i1 : ∀ t, isiD S t (.ref k) = some (match t with | .dict => true | _ => false) := fun t => by
      show (match S[k]? with
        | some (.lst _) => some (match t with | .list => true | _ => false)
        | some (.dct _) => some (match t with | .dict => true | _ => false)
        | some (.dtt _) => none
        | some (.dtl _) => none
        | some (.obj _ _) => none
        | none => none) = _
      rw [hk]
    refine ⟨.inr ⟨i1 .bool, i1 .int⟩, false, ?_, fun _ => rfl⟩
    have hd : dicI S (.ref k) (.int i) = true := by
      show (match S[k]? with | some (.dct _) => true | _ => false) = true
      rw [hk]
    show (if dicI S (.ref k) (.int i) then R.ok (D.bl false) S else _) = _
    rw [if_pos hd]
theorem bounds (hG : HasF2 G) (hn : 3 ≤ n) (h : S[l]? = some (.lst st)) (hs : WellOk B st) (hB : B + 2 < 2 ^ 50) : ∃ S' st', run G n 15 [.ref l, .int i] S = .ok (.bl true) S' ∧ S'[l]? = some (.lst st') ∧ WellOk (B + 1) st' := by
  have hl : l < S.length := (List.getElem?_eq_some_iff.mp h).1
  obtain ⟨S1, hS1⟩ : ∃ S1, S1 = S ++ [Ob.dct []] := ⟨_, rfl⟩
  have h1 : S1[l]? = some (.lst st) := by rw [hS1, List.getElem?_append_left hl]; exact h
  obtain ⟨x, st1, e1, hx, s1⟩ := oneF (n := n - 1) hG.toHasF (xs := [.bl true, .bl false, .non, .str "1", .lst [.int i], .tup [.int i], .ref S.length]) (by omega) h1 hs (by omega) (by simp)
  obtain ⟨S2, hS2⟩ : ∃ S2, S2 = S1.set l (.lst st1) := ⟨_, rfl⟩
  have hl1 : l < S1.length := (List.getElem?_eq_some_iff.mp h1).1
  have hk : S2[S.length]? = some (.dct []) := by rw [hS2, List.getElem?_set_ne (by omega), hS1]; simp
  have hw := no_w (S := S2) (i := i) hk hx
  rw [← hS2] at e1
  obtain ⟨body, hbody⟩ : ∃ body : Env → Store → SR, body = fun env S => Ev.Ss.ev (run G (n - 1)) G bt01 env S := ⟨_, rfl⟩
  have L1 := in_loop (S := S2) (x := .int i) (i := i) (body := body) (w := some (.ref l)) (fun q hq o => by rw [hbody]; exact ⟨_, bt_num hG (by omega) hq⟩) (bnds i) (fun q hq => hq)
  have L2 := in_loop (S := S2) (x := x) (i := i) (body := body) (w := some (.ref l)) (fun q hq o => by rw [hbody]; exact bt_no hG (by omega) hw hq) (bnds i) (fun q hq => hq)
  obtain ⟨a3, a4, a5, r1⟩ := L1 none none none
  obtain ⟨b3, b4, b5, r2⟩ := L2 a3 a4 a5
  obtain ⟨w, ew⟩ : ∃ w, w = bt01 := ⟨_, rfl⟩
  rw [hbody, ← ew] at r1 r2
  have hm : (bnds i).map prD = [.tup [.non, .non], .tup [.int i, .non], .tup [.int (i + 1), .non], .tup [.non, .int i], .tup [.non, .int (i - 1)]] := rfl
  rw [hm] at r1 r2
  have w3 : run G (n - 1) 0 [.int i, .int (i + 1), .int (i - 1)] S2 = .ok (.bl false) S2 := by
    rw [run_at (by omega) hG.f_wh rfl]
    have h1 : ¬ i + 1 ≤ i := by omega
    simp [fis_whole, tfis_whole, h1]
  refine ⟨S2, st1, ?_, by rw [hS2]; exact List.getElem?_set_self hl1, s1⟩
  have hB : f_law_bounds_right.body = (.cons (.for (.nm 2) (.seq (.lst false (.cons (.var 1) (.cons (.call 5 (.cons (.var 0) (.cons (.lst false (.cons (.con (.bl true)) (.cons (.con (.bl false)) (.cons (.con .non) (.cons (.con (.str "1")) (.cons (.lst false (.cons (.var 1) (.nil))) (.cons (.tup (.cons (.var 1) (.nil))) (.cons .dct0 (.nil))))))))) (.nil)))) (.nil))))) (.cons (.for (.tp (.cons (.nm 3) (.cons (.nm 4) (.nil)))) (.seq (.lst false (.cons (.tup (.cons (.con .non) (.cons (.con .non) (.nil)))) (.cons (.tup (.cons (.var 1) (.cons (.con .non) (.nil)))) (.cons (.tup (.cons (.bin false .add (.var 1) (.con (.int 1))) (.cons (.con .non) (.nil)))) (.cons (.tup (.cons (.con .non) (.cons (.var 1) (.nil)))) (.cons (.tup (.cons (.con .non) (.cons (.bin false .sub (.var 1) (.con (.int 1))) (.nil)))) (.nil)))))))) w) (.nil))) (.cons (.ret (.cmp .is (.call 0 (.cons (.var 1) (.cons (.bin false .add (.var 1) (.con (.int 1))) (.cons (.bin false .sub (.var 1) (.con (.int 1))) (.nil))))) (.con (.bl false)))) (.nil))) := by rw [ew]; rfl
  have hnp : f_law_bounds_right.np = 2 := rfl
  have hnv : f_law_bounds_right.nv = 6 := rfl
  have hpu : f_law_bounds_right.pure = false := rfl
  rw [run_at (by omega) hG.f_bo rfl, hB, hnp, hnv, hpu]
  rw [hS1] at e1
  simp [e1, r1, r2, w3, sz]
end
end Ev
set_option exponentiation.threshold 1000
namespace Ev
open PySem PySem.Spec L2
def b01 : Ss := match tflaw_20 with
  | .cons (.for _ _ b) _ => b
  | _ => .nil
def eo01 : E := (.or (.call 3 (.cons (.var 3) (.cons (.var 4) (.nil)))) (.tup (.cons (.con (.int 0)) (.cons (.con (.int 1)) (.nil)))))
def ec01 : E := (.comp false [9] (.call 8 (.cons (.var 9) (.cons (.var 5) (.cons (.var 6) (.nil))))) (.nm 9) (.seq (.var 8)) (.nil))
def w01 : Ss := (.cons (.ite (.or (.cmp .nis (.call 8 (.cons (.var 9) (.cons (.var 12) (.cons (.var 6) (.nil))))) (.con .non)) (.cmp .nis (.call 8 (.cons (.var 9) (.cons (.var 6) (.cons (.var 12) (.nil))))) (.con .non))) (.cons (.ret (.con (.bl false))) (.nil)) (.nil)) (.nil))
def tupF (x : D) : Prop := x = .non ∨ ∃ p q : Int, x = .tup [.int p, .int q]
theorem lay_f : ∀ {xs : List D}, (∀ x ∈ xs, tupF x) → PyData.canLayAll0 (D.pds xs) = true ∧ PyData.depthAll (D.pds xs) ≤ 8 ∧ D.plains xs = true ∧ PyData.eqvAll (D.pds xs) (D.pds xs) = true
  | [], _ => ⟨rfl, Nat.zero_le _, rfl, rfl⟩
  | x :: xs, h => by
    obtain ⟨k1, k2, k3, k4⟩ := lay_f fun y hy => h y (List.mem_cons_of_mem _ hy)
    have hx : PyData.canLay0 (D.pd x) = true ∧ (D.pd x).depth ≤ 8 ∧ D.plain x = true ∧ PyData.eqv (D.pd x) (D.pd x) = true := by
      rcases h x List.mem_cons_self with rfl | ⟨p, q, rfl⟩
      · exact ⟨rfl, by decide, rfl, rfl⟩
      · refine ⟨rfl, by show max 0 (max 0 0) + 1 ≤ 8; decide, rfl, ?_⟩
        show ((p == p) && ((q == q) && true)) = true
        simp
    obtain ⟨h1, h2, h3, h4⟩ := hx
    refine ⟨?_, ?_, ?_, ?_⟩
    · show (PyData.canLay0 (D.pd x) && PyData.canLayAll0 (D.pds xs)) = true
      rw [h1, k1]
      rfl
    · show max (D.pd x).depth (PyData.depthAll (D.pds xs)) ≤ 8
      omega
    · show (D.plain x && D.plains xs) = true
      rw [h3, k3]
      rfl
    · show (PyData.eqv (D.pd x) (D.pd x) && PyData.eqvAll (D.pds xs) (D.pds xs)) = true
      rw [h4, k4]
      rfl
theorem ne_lst_cell {S : Store} {l : Nat} {xs : List D} (hc : S[l]? = some (.lst xs)) (h : ∀ x ∈ xs, tupF x) : cmpV .ne (.lst xs) (.ref l) S = .ok (.bl false) S := by
  obtain ⟨h1, h2, h3, h4⟩ := lay_f h
  have hsh : SeqAt.shaped (.list (D.pds xs)) = true := by
    unfold SeqAt.shaped
    show (PyData.canLayAll0 (D.pds xs) && decide (PyData.depthAll (D.pds xs) + 1 ≤ 64)) = true
    rw [h1, decide_eq_true (by omega)]
    rfl
  show ofB ((eqD S (.lst xs) (.ref l)).map (!·)) S = _
  have hv : view S (.ref l) = .lst xs := by
    show (match S[l]? with | some (.lst xs) => D.lst xs | _ => .ref l) = _
    rw [hc]
  have e : eqD S (.lst xs) (.ref l) = some true := by
    unfold eqD
    have hs : scalD (.lst xs) (.ref l) = none := rfl
    rw [hs]
    simp only
    rw [hv]
    show (if D.plains xs && D.plains xs && SeqAt.shaped (.list (D.pds xs)) && SeqAt.shaped (.list (D.pds xs)) then some (PyData.eqvAll (D.pds xs) (D.pds xs)) else none) = _
    rw [h3, hsh, h4]
    rfl
  rw [e]
  rfl
theorem ne_tf {S : Store} {x : D} (h : tupF x) : cmpV .ne x x S = .ok (.bl false) S := by
  rcases h with rfl | ⟨p, q, rfl⟩
  · rfl
  · show ofB ((some ((p == p) && ((q == q) && true))).map (!·)) S = _
    simp [ofB]
theorem fr_tf {t b : Int} : tupF (fr t b) := .inr ⟨_, _, rfl⟩
theorem fr_one {t : Int} : fr t 1 = .tup [.int t, .int 1] := by
  unfold fr gg sg
  have : Nat.gcd t.natAbs (Int.natAbs 1) = 1 := Nat.gcd_one_right _
  rw [this]
  simp
section
variable {G : Cfg} {n l B : Nat} {S : Store} {st : List D} {P : Int}
/-- the first fraction, or (0, 1) -/
theorem first (hG : HasF2 G) (hn : 3 ≤ n) {t b : Int} (ht : t.natAbs < 2 ^ 200) (hb : b.natAbs < 2 ^ 200) : ∃ d o : D, (∀ S, run G n 3 [.int t, .int b] S = .ok d S) ∧ (∀ S, run G n 8 [.fn 7, .int t, .int b] S = .ok d S) ∧ tupF d ∧ IsF o ∧
    ∀ (s c x5 : Option D) (S : Store) (r : List (Option D)), E.ev (run G n) G eo01 (s :: c :: x5 :: some (.int t) :: some (.int b) :: r) S = .ok o S := by
  have k402 : ∀ {i : Int}, i.natAbs < 2 ^ 200 → i.natAbs < 2 ^ 402 := fun h => Nat.lt_of_lt_of_le h (Nat.pow_le_pow_right (by omega) (by omega))
  by_cases h0 : b = 0
  · subst h0
    refine ⟨.non, .tup [.int 0, .int 1], fun S => lowest0 hG.toHasF (by omega), fun S => told_no hG (by omega) hG.v1 (fraction0 hG.toHasF (by omega)), .inl rfl, ⟨0, 1, rfl, by omega, by decide, by decide, by decide⟩, fun s c x5 S r => ?_⟩
    have e := lowest0 (n := n) (S := S) hG.toHasF (by omega) (t := t)
    simp [eo01, e, sz]
  · refine ⟨fr t b, fr t b, fun S => lowest hG.toHasF (by omega) h0 (k402 ht) (k402 hb), fun S => told_is hG (by omega) hG.v1 rfl (fraction hG.toHasF (by omega) h0 (k402 hb)).1, fr_tf, fr_is h0 ht hb, fun s c x5 S r => ?_⟩
    have e := lowest (n := n) (S := S) hG.toHasF (by omega) h0 (k402 ht) (k402 hb)
    have ht : truth S (fr t b) = some true := rfl
    simp [eo01, e, ht]
/-- what is due of two fractions -/
theorem dues (hG : HasF2 G) (hn : 5 ≤ n) {a b c d : Int} (h1 : IsF (.tup [.int a, .int b])) (h2 : IsF (.tup [.int c, .int d])) : ∃ d4 : D, tupF d4 ∧
    (∀ S, run G n 3 [.int (a * d + c * b), .int (b * d)] S = .ok (fr (a * d + c * b) (b * d)) S) ∧ (∀ S, run G n 3 [.int (a * d - c * b), .int (b * d)] S = .ok (fr (a * d - c * b) (b * d)) S) ∧
    (∀ S, run G n 3 [.int (a * c), .int (b * d)] S = .ok (fr (a * c) (b * d)) S) ∧ (∀ S, run G n 3 [.int (a * d), .int (b * c)] S = .ok d4 S) ∧
    (∀ S, run G n 8 [.fn 10, .tup [.int a, .int b], .tup [.int c, .int d]] S = .ok (fr (a * d + c * b) (b * d)) S) ∧ (∀ S, run G n 8 [.fn 11, .tup [.int a, .int b], .tup [.int c, .int d]] S = .ok (fr (a * d - c * b) (b * d)) S) ∧
    (∀ S, run G n 8 [.fn 12, .tup [.int a, .int b], .tup [.int c, .int d]] S = .ok (fr (a * c) (b * d)) S) ∧ (∀ S, run G n 8 [.fn 13, .tup [.int a, .int b], .tup [.int c, .int d]] S = .ok d4 S) ∧
    okMul a d = true ∧ okMul c b = true ∧ okMul b d = true ∧ okMul a c = true ∧ okMul b c = true := by
  have D := fun S => deeds_ok (n := n - 1) (S := S) hG (by omega) h1 h2
  obtain ⟨a', b', e, b1, _, ab, bb⟩ := h1
  injection e with e
  injection e with ea e
  injection e with eb _
  injection ea with ea
  injection eb with eb
  subst ea eb
  obtain ⟨c', d', e, d1, _, cb, db⟩ := h2
  injection e with e
  injection e with ec e
  injection e with ed _
  injection ec with ec
  injection ed with ed
  subst ec ed
  have hbd : b * d ≠ 0 := by
    have := Int.mul_pos (show 0 < b by omega) (show 0 < d by omega)
    omega
  have le1 : (2 : Nat) ^ 400 + 2 ^ 400 ≤ 2 ^ 402 := by decide
  have k402 : ∀ {i : Int}, i.natAbs < 2 ^ 400 → i.natAbs < 2 ^ 402 := fun h => Nat.lt_of_lt_of_le h (Nat.pow_le_pow_right (by omega) (by omega))
  have ok : ∀ {i j : Int}, i.natAbs < 2 ^ 200 → j.natAbs < 2 ^ 200 → okMul i j = true := fun h k => okMul_of 200 200 h k (by omega)
  have m1 := nb ab db
  have m2 := nb cb bb
  have m3 := nb bb db
  have m4 := nb ab cb
  have m5 := nb bb cb
  obtain ⟨M, hM⟩ : ∃ M : Nat, M = 2 ^ 400 := ⟨_, rfl⟩
  obtain ⟨M2, hM2⟩ : ∃ M2 : Nat, M2 = 2 ^ 402 := ⟨_, rfl⟩
  have s1 : (a * d + c * b).natAbs < 2 ^ 402 := by
    rw [← hM] at m1 m2 le1
    rw [← hM2] at le1 ⊢
    generalize a * d = u at m1 ⊢
    generalize c * b = v at m2 ⊢
    omega
  have s2 : (a * d - c * b).natAbs < 2 ^ 402 := by
    rw [← hM] at m1 m2 le1
    rw [← hM2] at le1 ⊢
    generalize a * d = u at m1 ⊢
    generalize c * b = v at m2 ⊢
    omega
  have k1 : 1 ≤ n := by omega
  by_cases c0 : c = 0
  · subst c0
    refine ⟨.non, .inl rfl, fun S => lowest hG.toHasF k1 hbd s1 (k402 m3), fun S => lowest hG.toHasF k1 hbd s2 (k402 m3), fun S => lowest hG.toHasF k1 hbd (k402 m4) (k402 m3), fun S => ?_, fun S => told_is hG k1 hG.v2 rfl (D S).1, fun S => told_is hG k1 hG.v3 rfl (D S).2.1, fun S => told_is hG k1 hG.v4 rfl (D S).2.2.1, fun S => told_no hG k1 hG.v5 ?_, ok ab db, ok cb bb, ok bb db, ok ab cb, ok bb cb⟩
    · rw [Int.mul_zero]
      exact lowest0 hG.toHasF k1
    · have := (D S).2.2.2
      rw [if_pos rfl] at this
      exact this
  · have hbc : b * c ≠ 0 := Int.mul_ne_zero (by omega) c0
    refine ⟨fr (a * d) (b * c), fr_tf, fun S => lowest hG.toHasF k1 hbd s1 (k402 m3), fun S => lowest hG.toHasF k1 hbd s2 (k402 m3), fun S => lowest hG.toHasF k1 hbd (k402 m4) (k402 m3), fun S => lowest hG.toHasF k1 hbc (k402 m1) (k402 m5), fun S => told_is hG k1 hG.v2 rfl (D S).1, fun S => told_is hG k1 hG.v3 rfl (D S).2.1, fun S => told_is hG k1 hG.v4 rfl (D S).2.2.1, fun S => told_is hG k1 hG.v5 rfl ?_, ok ab db, ok cb bb, ok bb db, ok ab cb, ok bb cb⟩
    have := (D S).2.2.2
    rw [if_neg c0] at this
    exact this
/-- each deed refuses what is no fraction -/
theorem deed_loop (hG : HasF2 G) (hn : 5 ≤ n) {x h : D} (hx : BadF x) (hh : IsF h) {s c x2 x3 x4 x5 x7 x8 o x10 x11 : Option D} {body : Env → Store → SR} (hb : ∀ env S, body env S = Ev.Ss.ev (run G n) G w01 env S) :
    forGo (.nm 9) none body [.fn 10, .fn 11, .fn 12, .fn 13] [s, c, x2, x3, x4, x5, some h, x7, x8, o, x10, x11, some x] S = .nx [s, c, x2, x3, x4, x5, some h, x7, x8, some (.fn 13), x10, x11, some x] S := by
  have d1 := deeds_no (n := n - 1) (S := S) hG (by omega) (x := x) (y := h) (.inl hx)
  have d2 := deeds_no (n := n - 1) (S := S) hG (by omega) (x := h) (y := x) (.inr ⟨hh, hx⟩)
  have k1 : 1 ≤ n := by omega
  have nn : cmpV .nis .non .non S = .ok (.bl false) S := rfl
  have t : ∀ (f : D), run G n 8 [f, x, h] S = .ok .non S → run G n 8 [f, h, x] S = .ok .non S → Ev.Ss.ev (run G n) G w01 [s, c, x2, x3, x4, x5, some h, x7, x8, some f, x10, x11, some x] S = .nx [s, c, x2, x3, x4, x5, some h, x7, x8, some f, x10, x11, some x] S := fun f e1 e2 => by
    simp [w01, e1, e2, nn]
  have a1 := t (.fn 10) (told_no hG k1 hG.v2 d1.1) (told_no hG k1 hG.v2 d2.1)
  have a2 := t (.fn 11) (told_no hG k1 hG.v3 d1.2.1) (told_no hG k1 hG.v3 d2.2.1)
  have a3 := t (.fn 12) (told_no hG k1 hG.v4 d1.2.2.1) (told_no hG k1 hG.v4 d2.2.2.1)
  have a4 := t (.fn 13) (told_no hG k1 hG.v5 d1.2.2.2) (told_no hG k1 hG.v5 d2.2.2.2)
  have sets : ∀ (k : Nat) (o : Option D), Ev.T.asg (.nm 9) (.fn k) [s, c, x2, x3, x4, x5, some h, x7, x8, o, x10, x11, some x] = some [s, c, x2, x3, x4, x5, some h, x7, x8, some (.fn k), x10, x11, some x] := fun _ _ => rfl
  rw [for_step, sets]
  simp only [hb, a1]
  rw [for_step, sets]
  simp only [hb, a2]
  rw [for_step, sets]
  simp only [hb, a3]
  rw [for_step, sets]
  simp only [hb, a4]
  rfl
end
end Ev
set_option exponentiation.threshold 1000
namespace Ev
open PySem PySem.Spec L2
section
variable {G : Cfg} {n l B : Nat} {S : Store} {st : List D}
def oddL (t m : Int) : List D := [.non, .int t, .bl true, .str "1/2", .lst [.int 1, .int 2], .tup [.int 1], .tup [.int 1, .int 2, .int 1], .tup [.int (m * 3), .int (m * 2)], .tup [.int 1, .int 0], .tup [.int (-1), .int (-2)]]
def oddR : List D := [.tup [.bl true, .int 1], .tup [.int 1, .str "1"]]
theorem odd_bad {t m : Int} (h2 : 2 ≤ m) (hm : m ≤ 1000) {x : D} (h : x ∈ oddL t m ++ oddR) : BadF x := by
  simp only [oddL, oddR, List.cons_append, List.nil_append, List.mem_cons, List.not_mem_nil, or_false] at h
  rcases h with rfl | rfl | rfl | rfl | rfl | rfl | rfl | rfl | rfl | rfl | rfl | rfl
  · exact .nt _ fun _ => rfl
  · exact .nt _ fun _ => rfl
  · exact .nt _ fun _ => rfl
  · exact .nt _ fun _ => rfl
  · exact .nt _ fun _ => rfl
  · exact .len _ (by simp) (by simp)
  · exact .len _ (by simp) (by simp)
  · exact .com m h2 hm
  · exact .low _ _ (by omega)
  · exact .low _ _ (by omega)
  · exact .bl _
  · exact .str _ _
theorem law_turn01 (hG : HasF2 G) (hn : 10 ≤ n) {s : D} (a : Int) (rest : List (Option D)) (S : Store) (hr : rest.length = 11) :
    ∃ rest' S', Ev.Ss.ev (run G n) G b01 (some s :: some (.int a) :: rest) S = .nx (some s :: some (.int a) :: rest') S' ∧ rest'.length = 11 := by
  obtain ⟨x2, x3, x4, x5, x6, x7, x8, x9, x10, x11, x12, rfl⟩ : ∃ x2 x3 x4 x5 x6 x7 x8 x9 x10 x11 x12, rest = [x2, x3, x4, x5, x6, x7, x8, x9, x10, x11, x12] := by
    match rest, hr with
    | [x2, x3, x4, x5, x6, x7, x8, x9, x10, x11, x12], _ => exact ⟨_, _, _, _, _, _, _, _, _, _, _, rfl⟩
  obtain ⟨st0, e1, w0⟩ := well_at (n := n) (S := S) (i := a) (by omega) hG.f_well
  obtain ⟨S1, hS1⟩ : ∃ S1, S1 = S ++ [Ob.lst st0] := ⟨_, rfl⟩
  have c1 : S1[S.length]? = some (.lst st0) := by rw [hS1]; simp
  have hl1 : S.length < S1.length := (List.getElem?_eq_some_iff.mp c1).1
  have hw : ∀ o, (S1.set S.length o)[S.length]? = some o := fun o => List.getElem?_set_self hl1
  rw [← hS1] at e1
  obtain ⟨t, st1, e2, ht, w1⟩ := great (n := n) hG.toHasF (by omega) c1 w0 (by omega)
  obtain ⟨b, st2, e3, hb, w2⟩ := great (n := n) hG.toHasF (by omega) (hw (.lst st1)) w1 (by omega)
  rw [set_same] at e3
  obtain ⟨g, st3, e4, hg, w3⟩ := great (n := n) hG.toHasF (by omega) (hw (.lst st2)) w2 (by omega)
  rw [set_same] at e4
  obtain ⟨r, st4, e5, r0, r1, w4⟩ := drawF (n := n) hG.toHasF (many := 40) (by omega) (hw (.lst st3)) w3 (by omega) (by omega)
  rw [set_same] at e5
  obtain ⟨d0, o, f1, f2, f3, ho, f4⟩ := first (n := n) hG (by omega) ht hb
  have small : (2 : Nat) ^ 10 ≤ 2 ^ 200 := Nat.pow_le_pow_right (by omega) (by omega)
  have h0 : (1 + r) ≠ 0 := by omega
  have hb2 : (1 + r).natAbs < 2 ^ 200 := by
    obtain ⟨M, hM⟩ : ∃ M : Nat, M = 2 ^ 200 := ⟨_, rfl⟩
    rw [← hM] at small ⊢
    omega
  have k402 : ∀ {i : Int}, i.natAbs < 2 ^ 200 → i.natAbs < 2 ^ 402 := fun h => Nat.lt_of_lt_of_le h (Nat.pow_le_pow_right (by omega) (by omega))
  have e6 := fun S => lowest (n := n) (S := S) hG.toHasF (by omega) h0 (k402 hg) (k402 hb2)
  have hh : IsF (fr g (1 + r)) := fr_is h0 hg hb2
  obtain ⟨h, eh⟩ : ∃ h, h = fr g (1 + r) := ⟨_, rfl⟩
  rw [← eh] at e6 hh
  have i1 := fun S => is_frac (n := n) (S := S) hG (by omega) ho
  have ho' := ho
  have hh' := hh
  obtain ⟨p, q, rfl, _⟩ := ho
  obtain ⟨c, d, rfl, _⟩ := hh
  obtain ⟨d4, t4, l1, l2, l3, l4, k1, k2, k3, k4, m1, m2, m3, m4, m5⟩ := dues (n := n) hG (by omega) ho' hh'
  obtain ⟨S4, hS4⟩ : ∃ S4, S4 = S1.set S.length (.lst st4) := ⟨_, rfl⟩
  have c4 : S4[S.length]? = some (.lst st4) := by rw [hS4]; exact hw _
  have hl4 : S.length < S4.length := (List.getElem?_eq_some_iff.mp c4).1
  rw [← hS4] at e5
  have nd0 := fun S => ne_tf (S := S) f3
  have nd1 := fun S => ne_tf (S := S) (fr_tf (t := p * d + c * q) (b := q * d))
  obtain ⟨u1, hu1⟩ : ∃ u1, u1 = fr (p * d + c * q) (q * d) := ⟨_, rfl⟩
  obtain ⟨u2, hu2⟩ : ∃ u2, u2 = fr (p * d - c * q) (q * d) := ⟨_, rfl⟩
  obtain ⟨u3, hu3⟩ : ∃ u3, u3 = fr (p * c) (q * d) := ⟨_, rfl⟩
  have t1 : tupF u1 := by rw [hu1]; exact fr_tf
  have t2 : tupF u2 := by rw [hu2]; exact fr_tf
  have t3 : tupF u3 := by rw [hu3]; exact fr_tf
  rw [← hu1] at l1 k1
  rw [← hu2] at l2 k2
  rw [← hu3] at l3 k3
  have cl : ∀ L : List D, (S4 ++ [Ob.lst L])[S4.length]? = some (.lst L) := fun L => by simp
  have stL : ∀ (L L' : List D), List.set (S4 ++ [Ob.lst L]) S4.length (Ob.lst L') = S4 ++ [Ob.lst L'] := fun L L' => by simp
  have ap : ∀ (L : List D) (y : D), L.length ≤ 1000 → mthV .append (.ref S4.length) [y] (S4 ++ [.lst L]) = .ok .non (S4 ++ [.lst (L ++ [y])]) := fun L y hz => by rw [m_append (cl L) (Nat.lt_of_lt_of_le (by omega) (sz (n := 1000000) (Nat.le_refl _))), stL]
  have okA : ∀ L : List D, mtOk .append (.ref S4.length) (S4 ++ [.lst L]) = true := fun L => ok_ref (cl L) (m := .append)
  obtain ⟨S5, hS5⟩ : ∃ S5, S5 = S4 ++ [Ob.lst [u1, u2, u3, d4]] := ⟨_, rfl⟩
  have c5 : S5[S.length]? = some (.lst st4) := by rw [hS5, List.getElem?_append_left hl4]; exact c4
  have cd : S5[S4.length]? = some (.lst [u1, u2, u3, d4]) := by rw [hS5]; simp
  have nl := ne_lst_cell cd (by
    intro x hx
    simp only [List.mem_cons, List.not_mem_nil, or_false] at hx
    rcases hx with rfl | rfl | rfl | rfl
    · exact t1
    · exact t2
    · exact t3
    · exact t4)
  have hl5 : S.length < S5.length := (List.getElem?_eq_some_iff.mp c5).1
  have hw5 : ∀ o, (S5.set S.length o)[S.length]? = some o := fun o => List.getElem?_set_self hl5
  have fd : ∀ S, run G n 14 [.int t, .int 1] S = .ok (.tup [.int t, .int 1]) S := fun S => by
    rw [← fr_one]
    exact (fraction hG.toHasF (by omega) (by decide) (by decide)).2
  have nfd : ∀ S, cmpV .ne (.tup [.int t, .int 1]) (.tup [.int t, .int 1]) S = .ok (.bl false) S := fun S => ne_tf (.inr ⟨_, _, rfl⟩)
  obtain ⟨z, st5, e7, z0, z1, w5⟩ := drawF (n := n) hG.toHasF (many := 7) (by omega) c5 w4 (by omega) (by omega)
  have mz1 : okMul (2 + z) 3 = true := okMul_of 10 2 (by omega) (by decide) (by omega)
  have mz2 : okMul (2 + z) 2 = true := okMul_small (by omega)
  have ad : ∀ S, binV false .add (.lst (oddL t (2 + z))) (.lst oddR) S = .ok (.lst (oddL t (2 + z) ++ oddR)) S := fun S => mkL_val (sz (by simp [oddL, oddR]))
  obtain ⟨x, st6, e8, hx, w6⟩ := oneF (n := n) hG.toHasF (xs := oddL t (2 + z) ++ oddR) (by omega) (hw5 (.lst st5)) w5 (by omega) (by simp [oddL, oddR])
  rw [set_same] at e8
  have hbx := odd_bad (by omega) (by omega) hx
  obtain ⟨S6, hS6⟩ : ∃ S6, S6 = S5.set S.length (.lst st6) := ⟨_, rfl⟩
  have c6 : S6[S.length]? = some (.lst st6) := by rw [hS6]; exact hw5 _
  rw [← hS6] at e8
  obtain ⟨w, ew⟩ : ∃ w, w = w01 := ⟨_, rfl⟩
  obtain ⟨eo, eeo⟩ : ∃ eo, eo = eo01 := ⟨_, rfl⟩
  obtain ⟨ec, eec⟩ : ∃ ec, ec = ec01 := ⟨_, rfl⟩
  have lp := deed_loop (n := n) (S := S6) hG (by omega) hbx hh' (s := some s) (c := some (.int a)) (x2 := some (.ref S.length)) (x3 := some (.int t)) (x4 := some (.int b)) (x5 := some (.tup [.int p, .int q])) (x7 := some (.ref S4.length)) (x8 := some (.lst [.fn 10, .fn 11, .fn 12, .fn 13])) (o := x9) (x10 := some (.int (2 + z))) (x11 := some (.lst (oddL t (2 + z) ++ oddR))) (body := fun env S => Ev.Ss.ev (run G n) G w01 env S) (fun _ _ => rfl)
  rw [← ew] at lp
  have ib := is_bad (n := n) (S := S6) hG (by omega) hbx
  have tn : run G n 8 [.fn 7, .str "1", .int 2] S6 = .ok .non S6 := by
    refine told_no hG (by omega) hG.v1 ?_
    have wn := whole_no (n := n - 1 - 1) (S := S6) hG.toHasF (by omega) (d := .str "1") (l := .non) (h := .non) (.inr ⟨rfl, rfl⟩)
    have hf := fin_x (S := S6) (k := 10) (env := [some (.str "1"), some (.int 2), none])
    rw [run_at (by omega) hG.f_fr rfl]
    simp [ffraction, tffraction, wn, hf]
  obtain ⟨S7, st7, e9, _, _⟩ := bounds (n := n) (i := t) hG (by omega) c6 w6 (by omega)
  have fo := f4 (some s) (some (.int a)) (some (.ref S.length))
  rw [← eeo] at fo
  have fc : ∀ (S' : Store) (x10 x11 x12 o9 : Option D), E.ev (run G n) G ec [some s, some (.int a), some (.ref S.length), some (.int t), some (.int b), some (.tup [.int p, .int q]), some (.tup [.int c, .int d]), some (.ref S4.length), some (.lst [.fn 10, .fn 11, .fn 12, .fn 13]), o9, x10, x11, x12] S' = .ok (.lst [u1, u2, u3, d4]) S' := fun S' x10 x11 x12 o9 => by
    rw [eec]
    simp [ec01, comp_def, step1, k1 S', k2 S', k3 S', k4 S', sz]
  have n1 : cmpV .nis (.bl false) (.bl false) S6 = .ok (.bl false) S6 := rfl
  have n2 : cmpV .nis .non .non S6 = .ok (.bl false) S6 := rfl
  have hB : b01 = (.cons (.set 2 (.call 1 (.cons (.var 1) (.nil)))) (.cons (.par 3 4 (.call 2 (.cons (.var 2) (.nil))) (.call 2 (.cons (.var 2) (.nil)))) (.cons (.set 5 eo) (.cons (.set 6 (.call 3 (.cons (.call 2 (.cons (.var 2) (.nil))) (.cons (.bin false .add (.con (.int 1)) (.call 4 (.cons (.var 2) (.cons (.con (.int 40)) (.nil))))) (.nil))))) (.cons (.ite (.or (.cmp .ne (.call 8 (.cons (.fnc 7) (.cons (.var 3) (.cons (.var 4) (.nil))))) (.call 3 (.cons (.var 3) (.cons (.var 4) (.nil))))) (.nt (.call 9 (.cons (.var 5) (.nil))))) (.cons (.ret (.con (.bl false))) (.nil)) (.nil)) (.cons (.set 7 (.lst true (.cons (.call 3 (.cons (.bin false .add (.bin false .mul (.ix (.var 5) (.con (.int 0))) (.ix (.var 6) (.con (.int 1)))) (.bin false .mul (.ix (.var 6) (.con (.int 0))) (.ix (.var 5) (.con (.int 1))))) (.cons (.bin false .mul (.ix (.var 5) (.con (.int 1))) (.ix (.var 6) (.con (.int 1)))) (.nil)))) (.nil)))) (.cons (.ex (.mth1 .append (.var 7) (.call 3 (.cons (.bin false .sub (.bin false .mul (.ix (.var 5) (.con (.int 0))) (.ix (.var 6) (.con (.int 1)))) (.bin false .mul (.ix (.var 6) (.con (.int 0))) (.ix (.var 5) (.con (.int 1))))) (.cons (.bin false .mul (.ix (.var 5) (.con (.int 1))) (.ix (.var 6) (.con (.int 1)))) (.nil)))))) (.cons (.ex (.mth1 .append (.var 7) (.call 3 (.cons (.bin false .mul (.ix (.var 5) (.con (.int 0))) (.ix (.var 6) (.con (.int 0)))) (.cons (.bin false .mul (.ix (.var 5) (.con (.int 1))) (.ix (.var 6) (.con (.int 1)))) (.nil)))))) (.cons (.ex (.mth1 .append (.var 7) (.call 3 (.cons (.bin false .mul (.ix (.var 5) (.con (.int 0))) (.ix (.var 6) (.con (.int 1)))) (.cons (.bin false .mul (.ix (.var 5) (.con (.int 1))) (.ix (.var 6) (.con (.int 0)))) (.nil)))))) (.cons (.set 8 (.lst false (.cons (.fnc 10) (.cons (.fnc 11) (.cons (.fnc 12) (.cons (.fnc 13) (.nil))))))) (.cons (.ite (.or (.cmp .ne ec (.var 7)) (.cmp .ne (.callD 14 (.cons (.var 3) (.nil)) (.int 1)) (.tup (.cons (.var 3) (.cons (.con (.int 1)) (.nil)))))) (.cons (.ret (.con (.bl false))) (.nil)) (.nil)) (.cons (.set 10 (.bin false .add (.con (.int 2)) (.call 4 (.cons (.var 2) (.cons (.con (.int 7)) (.nil)))))) (.cons (.set 11 (.lst false (.cons (.con .non) (.cons (.var 3) (.cons (.con (.bl true)) (.cons (.con (.str "1/2")) (.cons (.lst false (.cons (.con (.int 1)) (.cons (.con (.int 2)) (.nil)))) (.cons (.tup (.cons (.con (.int 1)) (.nil))) (.cons (.tup (.cons (.con (.int 1)) (.cons (.con (.int 2)) (.cons (.con (.int 1)) (.nil))))) (.cons (.tup (.cons (.bin false .mul (.var 10) (.con (.int 3))) (.cons (.bin false .mul (.var 10) (.con (.int 2))) (.nil)))) (.cons (.tup (.cons (.con (.int 1)) (.cons (.con (.int 0)) (.nil)))) (.cons (.tup (.cons (.neg (.con (.int 1))) (.cons (.neg (.con (.int 2))) (.nil)))) (.nil))))))))))))) (.cons (.set 11 (.bin false .add (.var 11) (.lst false (.cons (.tup (.cons (.con (.bl true)) (.cons (.con (.int 1)) (.nil)))) (.cons (.tup (.cons (.con (.int 1)) (.cons (.con (.str "1")) (.nil)))) (.nil)))))) (.cons (.set 12 (.call 5 (.cons (.var 2) (.cons (.var 11) (.nil))))) (.cons (.for (.nm 9) (.seq (.var 8)) w) (.cons (.ite (.or (.cmp .nis (.call 9 (.cons (.var 12) (.nil))) (.con (.bl false))) (.or (.cmp .nis (.call 8 (.cons (.fnc 7) (.cons (.con (.str "1")) (.cons (.con (.int 2)) (.nil))))) (.con .non)) (.nt (.call 15 (.cons (.var 2) (.cons (.var 3) (.nil))))))) (.cons (.ret (.con (.bl false))) (.nil)) (.nil)) (.nil)))))))))))))))))) := by rw [ew, eeo, eec]; rfl
  refine ⟨[some (.ref S.length), some (.int t), some (.int b), some (.tup [.int p, .int q]), some (.tup [.int c, .int d]), some (.ref S4.length), some (.lst [.fn 10, .fn 11, .fn 12, .fn 13]), some (.fn 13), some (.int (2 + z)), some (.lst (oddL t (2 + z) ++ oddR)), some x], S7, ?_, rfl⟩
  rw [hB]
  simp only [oddL, oddR, List.cons_append, List.nil_append] at ad e8 lp
  simp [e1, e2, e3, e4, e5, e6, fo, f1, f2, nd0, i1, l1, l2, l3, l4, m1, m2, m3, m4, m5, ap, okA, ← hS5, fc, nl, fd, nfd, e7, mz1, mz2, ad, e8, lp, ib, tn, e9, n1, n2, List.contains_iff_mem.mp hG.v1, List.contains_iff_mem.mp hG.v2, List.contains_iff_mem.mp hG.v3, List.contains_iff_mem.mp hG.v4, List.contains_iff_mem.mp hG.v5, sz]
  rfl
theorem turnsF {body : Env → Store → SR} {s : D} {m : Nat} (turn : ∀ (a : Int) (rest : List (Option D)) (S : Store), rest.length = m → ∃ rest' S', body (some s :: some (.int a) :: rest) S = .nx (some s :: some (.int a) :: rest') S' ∧ rest'.length = m) :
    ∀ (as : List Int) (o : Option D) (rest : List (Option D)) (S : Store), rest.length = m → ∃ o' rest' S', forGo (.nm 1) none body (as.map .int) (some s :: o :: rest) S = .nx (some s :: o' :: rest') S' ∧ rest'.length = m
  | [], o, rest, S, h => ⟨o, rest, S, rfl, h⟩
  | a :: as, o, rest, S, h => by
    obtain ⟨r1, S1, e1, h1⟩ := turn a rest S h
    obtain ⟨o2, r2, S2, e2, h2⟩ := turnsF turn as (some (.int a)) r1 S1 h1
    refine ⟨o2, r2, S2, ?_, h2⟩
    rw [List.map_cons, for_step, asg_nm]
    simp only [List.set_cons_succ, List.set_cons_zero]
    rw [e1]
    exact e2
theorem law01 (hG : HasF2 G) (hn : 11 ≤ n) (ns : List Int) (hl : ns.length ≤ 63) : ∃ S, run G n 6 [.scr ns] [] = .ok (.bl true) S := by
  have e1 : binV false .add (.scr ns) (.lst [.int 0]) ([] : Store) = .ok (.lst ((ns ++ [0]).map .int)) [] := by
    show mkL false (ns.map .int ++ [.int 0]) [] = _
    rw [show ns.map D.int ++ [D.int 0] = (ns ++ [0]).map D.int by simp]
    exact mkL_val (sz (by rw [List.length_map, List.length_append]; simp only [List.length_cons, List.length_nil]; omega))
  have hc : (cutD (ns ++ [0]) none (some 8)).length ≤ 64 := by
    unfold cutD
    rw [List.length_take, List.length_drop, List.length_append]
    simp only [List.length_cons, List.length_nil]
    omega
  have e2 : cutV false (.lst ((ns ++ [0]).map .int)) none (some 8) ([] : Store) = .ok (.lst ((cutD (ns ++ [0]) none (some 8)).map .int)) [] := by
    show mkL false (cutD ((ns ++ [0]).map D.int) none (some 8)) [] = _
    have hm : cutD ((ns ++ [0]).map D.int) none (some 8) = (cutD (ns ++ [0]) none (some 8)).map D.int := by
      unfold cutD
      rw [List.length_map, List.map_take, List.map_drop]
    rw [hm]
    exact mkL_val (sz (by rw [List.length_map]; omega))
  obtain ⟨o', rest', S', e4, _⟩ := turnsF (body := fun env S => Ev.Ss.ev (run G (n - 1)) G b01 env S) (s := .scr ns) (m := 11) (fun a rest S hr => law_turn01 (n := n - 1) hG (by omega) a rest S hr) (cutD (ns ++ [0]) none (some 8)) none [none, none, none, none, none, none, none, none, none, none, none] [] rfl
  obtain ⟨L, hL⟩ : ∃ L, L = (cutD (ns ++ [0]) none (some 8)).map D.int := ⟨_, rfl⟩
  rw [← hL] at e2 e4
  obtain ⟨L0, hL0⟩ : ∃ L0, L0 = (ns ++ [0]).map D.int := ⟨_, rfl⟩
  rw [← hL0] at e1 e2
  obtain ⟨w, ew⟩ : ∃ w, w = b01 := ⟨_, rfl⟩
  rw [← ew] at e4
  have hB : flaw_20.body = .cons (.for (.nm 1) (.seq (.cutB false (.bin false .add (.var 0) (.lst false (.cons (.con (.int 0)) (.nil)))) (.con (.int 8)))) w) (.cons (.ret (.con (.bl true))) .nil) := by rw [ew]; rfl
  have hnp : flaw_20.np = 1 := rfl
  have hnv : flaw_20.nv = 13 := rfl
  obtain ⟨b, hpu⟩ : ∃ b, flaw_20.pure = b := ⟨_, rfl⟩
  have hf : ∃ S2, finish b [] (.rt (.bl true) S') = .ok (.bl true) S2 := by
    cases b with
    | false => exact ⟨S', rfl⟩
    | true => exact ⟨[], finish_pure rfl (frz_plain rfl)⟩
  obtain ⟨S2, hf⟩ := hf
  refine ⟨S2, ?_⟩
  rw [run_at (by omega) hG.f_law rfl, hB, hnp, hnv, hpu]
  simp [e1, e2, e4, sz, hf]
end
end Ev
namespace Ev
open PySem PySem.Spec L2 PyProof.Rows
def gG : Cfg := ⟨[fis_whole, c_law_well, f_law_great, f_law_lowest, f_law_draw, f_law_one, flaw_20, ffraction, f_law_told, fis_fraction, fplus, fminus, ftimes, fshared, dfraction, f_law_bounds_right, fshared_out, ffractions_unless, f_law_digit, f_law_grown, fis_condition, fcondition_text, fread_condition, cparts_of, fparts_of, f_law_pick, fmany_parts, fcondition_unless, fwords_in, fread_from, cparts_in, fparts_in, fis_word, f_law_one_1, f_law_draw_1], [], 1000, [], [(10, 10, true), (10, 5, true)], [], [], [], none, [7, 10, 11, 12, 13]⟩
def gNm : Names := ⟨("is_whole" :: "_law_well" :: "_law_great" :: "_law_lowest" :: "_law_draw" :: "_law_one" :: "law" :: "fraction" :: "_law_told" :: "is_fraction" :: "plus" :: "minus" :: "times" :: "shared" :: "fraction" :: "_law_bounds_right" :: "shared_out" :: "fractions_unless" :: []), ([]), ("NoFraction" :: "NoFraction" :: "NoFraction" :: "NoFraction" :: "NoFraction" :: "RanError" :: "NoFraction" :: "NoFraction" :: "NoFraction" :: "NoFraction" :: "NoFraction" :: []), ("abs" :: "bool" :: "int" :: "isinstance" :: "len" :: "tuple" :: []), [], ([]), [(14, "bottom", (.int 1))], []⟩
theorem has01 : HasF2 gG := by
  repeat' first | rfl | decide | (intro _; rfl) | constructor
theorem lawrun (ns : List Int) (hl : ns.length ≤ 63) : ∃ S, run gG 15 6 [.scr ns] [] = .ok (.bl true) S := law01 has01 (by decide) ns hl
def top (i : Nat) : Stmt := PySem.Challenge.pw_whatran_k01_shares_as_fractions.main.body.getD i (.Pass ⟨0, 0, 0, 0⟩)
theorem k_fis_whole : chkF gNm ["thing", "low", "high"] ["thing", "low", "high"] fis_whole (C8.fnScope (top 4)) (C8.fnBody (top 4)) = true := by kernel_rfl
theorem k_c_law_well : chkF gNm ["_law_cell"] ["_law_cell"] c_law_well (C8.fnScope (top 16)) (C8.fnBody (top 16)) = true := by kernel_rfl
theorem k_f_law_great : chkF gNm ["_law_well_here", "_law_kind"] ["_law_well_here"] f_law_great (C8.fnScope (top 19)) (C8.fnBody (top 19)) = true := by kernel_rfl
theorem k_f_law_lowest : chkF gNm ["_law_top", "_law_bottom", "_law_one_here", "_law_other", "_law_sign"] ["_law_top", "_law_bottom"] f_law_lowest (C8.fnScope (top 20)) (C8.fnBody (top 20)) = true := by kernel_rfl
theorem k_f_law_draw : chkF gNm ["_law_well_here", "_law_many", "_law_found", "_law_mix"] ["_law_well_here", "_law_many"] f_law_draw (C8.fnScope (top 17)) (C8.fnBody (top 17)) = true := by kernel_rfl
theorem k_f_law_one : chkF gNm ["_law_well_here", "_law_some"] ["_law_well_here", "_law_some"] f_law_one (C8.fnScope (top 18)) (C8.fnBody (top 18)) = true := by kernel_rfl
theorem k_flaw_20 : chkF gNm ["_law_script", "_law_cell", "_law_well_here", "_law_top", "_law_bottom", "_law_one_here", "_law_other", "_law_due", "_law_deeds", "_law_deed", "_law_many", "_law_odd", "_law_bad"] ["_law_script"] flaw_20 (C8.fnScope (top 23)) (C8.fnBody (top 23)) = true := by kernel_rfl
theorem k_ffraction : chkF gNm ["top", "bottom", "common"] ["top", "bottom"] ffraction (C8.fnScope (top 8)) (C8.fnBody (top 8)) = true := by kernel_rfl
theorem k_f_law_told : chkF gNm ["_law_deed", "_law_one_here", "_law_other"] ["_law_deed", "_law_one_here", "_law_other"] f_law_told (C8.fnScope (top 21)) (C8.fnBody (top 21)) = true := by kernel_rfl
theorem k_fis_fraction : chkF gNm ["thing"] ["thing"] fis_fraction (C8.fnScope (top 9)) (C8.fnBody (top 9)) = true := by kernel_rfl
theorem k_fplus : chkF gNm ["one", "other", "top", "bottom", "more", "under"] ["one", "other"] fplus (C8.fnScope (top 11)) (C8.fnBody (top 11)) = true := by kernel_rfl
theorem k_fminus : chkF gNm ["one", "other", "top", "bottom", "less", "under"] ["one", "other"] fminus (C8.fnScope (top 12)) (C8.fnBody (top 12)) = true := by kernel_rfl
theorem k_ftimes : chkF gNm ["one", "other"] ["one", "other"] ftimes (C8.fnScope (top 13)) (C8.fnBody (top 13)) = true := by kernel_rfl
theorem k_fshared : chkF gNm ["one", "other"] ["one", "other"] fshared (C8.fnScope (top 14)) (C8.fnBody (top 14)) = true := by kernel_rfl
theorem k_dfraction : chkF gNm ["top", "bottom", "common"] ["top", "bottom"] dfraction (C8.fnScope (top 8)) (C8.fnBody (top 8)) = true := by kernel_rfl
theorem k_f_law_bounds_right : chkF gNm ["_law_well_here", "_law_number", "_law_thing", "_law_low", "_law_high", "_law_due"] ["_law_well_here", "_law_number"] f_law_bounds_right (C8.fnScope (top 22)) (C8.fnBody (top 22)) = true := by kernel_rfl
theorem k_fshared_out : chkF gNm ["one", "other"] ["one", "other"] fshared_out (C8.fnScope (top 7)) (C8.fnBody (top 7)) = true := by kernel_rfl
theorem k_ffractions_unless : chkF gNm ["one", "other"] ["one", "other"] ffractions_unless (C8.fnScope (top 10)) (C8.fnBody (top 10)) = true := by kernel_rfl
def gPs (k : Nat) : List Str := (["thing", "low", "high"] :: ["_law_cell"] :: ["_law_well_here"] :: ["_law_top", "_law_bottom"] :: ["_law_well_here", "_law_many"] :: ["_law_well_here", "_law_some"] :: ["_law_script"] :: ["top", "bottom"] :: ["_law_deed", "_law_one_here", "_law_other"] :: ["thing"] :: ["one", "other"] :: ["one", "other"] :: ["one", "other"] :: ["one", "other"] :: ["top", "bottom"] :: ["_law_well_here", "_law_number"] :: ["one", "other"] :: ["one", "other"] :: [] : List (List Str)).getD k []
theorem xl_0 : List.lookup ("NoFraction" : Str) gNm.xfd = none := by kernel_rfl
theorem xl_1 : List.lookup ("NoFraction" : Str) gNm.xfd = none := by kernel_rfl
theorem xl_2 : List.lookup ("NoFraction" : Str) gNm.xfd = none := by kernel_rfl
theorem xl_3 : List.lookup ("NoFraction" : Str) gNm.xfd = none := by kernel_rfl
theorem xl_4 : List.lookup ("NoFraction" : Str) gNm.xfd = none := by kernel_rfl
theorem xl_5 : List.lookup ("RanError" : Str) gNm.xfd = none := by kernel_rfl
theorem xl_6 : List.lookup ("NoFraction" : Str) gNm.xfd = none := by kernel_rfl
theorem xl_7 : List.lookup ("NoFraction" : Str) gNm.xfd = none := by kernel_rfl
theorem xl_8 : List.lookup ("NoFraction" : Str) gNm.xfd = none := by kernel_rfl
theorem xl_9 : List.lookup ("NoFraction" : Str) gNm.xfd = none := by kernel_rfl
theorem xl_10 : List.lookup ("NoFraction" : Str) gNm.xfd = none := by kernel_rfl
theorem all_mk {l : PySem.W.OpenLaw} {w : World} {K : PySem.W.Frag} {h : Heap} {mg : Str → Option Value} {fa : Addr} (X : K.In h) (G : h.Ns mainGlobals mg) (hfa : mg "law" = some (.ref fa))
    {f0 : Addr} {od0 an0 : Option Addr} {sl0 : Array (Option Value)} {oc0 kV0 dc0 pm0 cd0 ct0 : Value}
    {f1 : Addr} {od1 an1 : Option Addr} {sl1 : Array (Option Value)} {oc1 kV1 dc1 pm1 cd1 ct1 : Value}
    {f2 : Addr} {od2 an2 : Option Addr} {sl2 : Array (Option Value)} {oc2 kV2 dc2 pm2 cd2 ct2 : Value}
    {f3 : Addr} {od3 an3 : Option Addr} {sl3 : Array (Option Value)} {oc3 kV3 dc3 pm3 cd3 ct3 : Value}
    {f4 : Addr} {od4 an4 : Option Addr} {sl4 : Array (Option Value)} {oc4 kV4 dc4 pm4 cd4 ct4 : Value}
    {f5 : Addr} {od5 an5 : Option Addr} {sl5 : Array (Option Value)} {oc5 kV5 dc5 pm5 cd5 ct5 : Value}
    {f6 : Addr} {od6 an6 : Option Addr} {sl6 : Array (Option Value)} {oc6 kV6 dc6 pm6 cd6 ct6 : Value}
    {f7 : Addr} {od7 an7 : Option Addr} {sl7 : Array (Option Value)} {oc7 kV7 dc7 pm7 cd7 ct7 : Value}
    {dT7 : Addr} {dd7 : Option Addr} {du7 : Tok} {dn7 : Nat} {ds7 : Array (Option Value)}
    {f8 : Addr} {od8 an8 : Option Addr} {sl8 : Array (Option Value)} {oc8 kV8 dc8 pm8 cd8 ct8 : Value}
    {f9 : Addr} {od9 an9 : Option Addr} {sl9 : Array (Option Value)} {oc9 kV9 dc9 pm9 cd9 ct9 : Value}
    {f10 : Addr} {od10 an10 : Option Addr} {sl10 : Array (Option Value)} {oc10 kV10 dc10 pm10 cd10 ct10 : Value}
    {f11 : Addr} {od11 an11 : Option Addr} {sl11 : Array (Option Value)} {oc11 kV11 dc11 pm11 cd11 ct11 : Value}
    {f12 : Addr} {od12 an12 : Option Addr} {sl12 : Array (Option Value)} {oc12 kV12 dc12 pm12 cd12 ct12 : Value}
    {f13 : Addr} {od13 an13 : Option Addr} {sl13 : Array (Option Value)} {oc13 kV13 dc13 pm13 cd13 ct13 : Value}
    {f14 : Addr} {od14 an14 : Option Addr} {sl14 : Array (Option Value)} {oc14 kV14 dc14 pm14 cd14 ct14 : Value}
    {f15 : Addr} {od15 an15 : Option Addr} {sl15 : Array (Option Value)} {oc15 kV15 dc15 pm15 cd15 ct15 : Value}
    {f16 : Addr} {od16 an16 : Option Addr} {sl16 : Array (Option Value)} {oc16 kV16 dc16 pm16 cd16 ct16 : Value}
    {e0 : Addr}
    {e1 : Addr}
    (a0 : PySem.W.nsIn K mainGlobals "is_whole" = some (some (.ref f0))) (l0 : K.lookup f0 = some ⟨oc0, od0, .func (PySem.W.fnOf "is_whole" "is_whole" (C8.fnArgs (top 4)) (C8.fnBody (top 4)) (C8.fnScope (top 4)) .none kV0 dc0 pm0 an0 cd0 ct0), sl0⟩) (c0 : PySem.W.codeIn K cd0 "is_whole" = true) (k0 : PySem.W.keepIn K (.ref f0) = true)
    (a1 : PySem.W.nsIn K mainGlobals "_law_well" = some (some (.ref f1))) (l1 : K.lookup f1 = some ⟨oc1, od1, .func (PySem.W.fnOf "_law_well" "_law_well" (C8.fnArgs (top 16)) (C8.fnBody (top 16)) (C8.fnScope (top 16)) .none kV1 dc1 pm1 an1 cd1 ct1), sl1⟩) (c1 : PySem.W.codeIn K cd1 "_law_well" = true) (k1 : PySem.W.keepIn K (.ref f1) = true)
    (a2 : PySem.W.nsIn K mainGlobals "_law_great" = some (some (.ref f2))) (l2 : K.lookup f2 = some ⟨oc2, od2, .func (PySem.W.fnOf "_law_great" "_law_great" (C8.fnArgs (top 19)) (C8.fnBody (top 19)) (C8.fnScope (top 19)) .none kV2 dc2 pm2 an2 cd2 ct2), sl2⟩) (c2 : PySem.W.codeIn K cd2 "_law_great" = true) (k2 : PySem.W.keepIn K (.ref f2) = true)
    (a3 : PySem.W.nsIn K mainGlobals "_law_lowest" = some (some (.ref f3))) (l3 : K.lookup f3 = some ⟨oc3, od3, .func (PySem.W.fnOf "_law_lowest" "_law_lowest" (C8.fnArgs (top 20)) (C8.fnBody (top 20)) (C8.fnScope (top 20)) .none kV3 dc3 pm3 an3 cd3 ct3), sl3⟩) (c3 : PySem.W.codeIn K cd3 "_law_lowest" = true) (k3 : PySem.W.keepIn K (.ref f3) = true)
    (a4 : PySem.W.nsIn K mainGlobals "_law_draw" = some (some (.ref f4))) (l4 : K.lookup f4 = some ⟨oc4, od4, .func (PySem.W.fnOf "_law_draw" "_law_draw" (C8.fnArgs (top 17)) (C8.fnBody (top 17)) (C8.fnScope (top 17)) .none kV4 dc4 pm4 an4 cd4 ct4), sl4⟩) (c4 : PySem.W.codeIn K cd4 "_law_draw" = true) (k4 : PySem.W.keepIn K (.ref f4) = true)
    (a5 : PySem.W.nsIn K mainGlobals "_law_one" = some (some (.ref f5))) (l5 : K.lookup f5 = some ⟨oc5, od5, .func (PySem.W.fnOf "_law_one" "_law_one" (C8.fnArgs (top 18)) (C8.fnBody (top 18)) (C8.fnScope (top 18)) .none kV5 dc5 pm5 an5 cd5 ct5), sl5⟩) (c5 : PySem.W.codeIn K cd5 "_law_one" = true) (k5 : PySem.W.keepIn K (.ref f5) = true)
    (a6 : PySem.W.nsIn K mainGlobals "law" = some (some (.ref f6))) (l6 : K.lookup f6 = some ⟨oc6, od6, .func (PySem.W.fnOf "law" "law" (C8.fnArgs (top 23)) (C8.fnBody (top 23)) (C8.fnScope (top 23)) .none kV6 dc6 pm6 an6 cd6 ct6), sl6⟩) (c6 : PySem.W.codeIn K cd6 "law" = true) (k6 : PySem.W.keepIn K (.ref f6) = true)
    (a7 : PySem.W.nsIn K mainGlobals "fraction" = some (some (.ref f7))) (l7 : K.lookup f7 = some ⟨oc7, od7, .func (PySem.W.fnOf "fraction" "fraction" (C8.fnArgs (top 8)) (C8.fnBody (top 8)) (C8.fnScope (top 8)) (.ref dT7) kV7 dc7 pm7 an7 cd7 ct7), sl7⟩) (c7 : PySem.W.codeIn K cd7 "fraction" = true) (k7 : PySem.W.keepIn K (.ref f7) = true)
    (dl7 : K.lookup dT7 = some ⟨.type "tuple", dd7, .seq #[.int 1 du7] dn7, ds7⟩)
    (a8 : PySem.W.nsIn K mainGlobals "_law_told" = some (some (.ref f8))) (l8 : K.lookup f8 = some ⟨oc8, od8, .func (PySem.W.fnOf "_law_told" "_law_told" (C8.fnArgs (top 21)) (C8.fnBody (top 21)) (C8.fnScope (top 21)) .none kV8 dc8 pm8 an8 cd8 ct8), sl8⟩) (c8 : PySem.W.codeIn K cd8 "_law_told" = true) (k8 : PySem.W.keepIn K (.ref f8) = true)
    (a9 : PySem.W.nsIn K mainGlobals "is_fraction" = some (some (.ref f9))) (l9 : K.lookup f9 = some ⟨oc9, od9, .func (PySem.W.fnOf "is_fraction" "is_fraction" (C8.fnArgs (top 9)) (C8.fnBody (top 9)) (C8.fnScope (top 9)) .none kV9 dc9 pm9 an9 cd9 ct9), sl9⟩) (c9 : PySem.W.codeIn K cd9 "is_fraction" = true) (k9 : PySem.W.keepIn K (.ref f9) = true)
    (a10 : PySem.W.nsIn K mainGlobals "plus" = some (some (.ref f10))) (l10 : K.lookup f10 = some ⟨oc10, od10, .func (PySem.W.fnOf "plus" "plus" (C8.fnArgs (top 11)) (C8.fnBody (top 11)) (C8.fnScope (top 11)) .none kV10 dc10 pm10 an10 cd10 ct10), sl10⟩) (c10 : PySem.W.codeIn K cd10 "plus" = true) (k10 : PySem.W.keepIn K (.ref f10) = true)
    (a11 : PySem.W.nsIn K mainGlobals "minus" = some (some (.ref f11))) (l11 : K.lookup f11 = some ⟨oc11, od11, .func (PySem.W.fnOf "minus" "minus" (C8.fnArgs (top 12)) (C8.fnBody (top 12)) (C8.fnScope (top 12)) .none kV11 dc11 pm11 an11 cd11 ct11), sl11⟩) (c11 : PySem.W.codeIn K cd11 "minus" = true) (k11 : PySem.W.keepIn K (.ref f11) = true)
    (a12 : PySem.W.nsIn K mainGlobals "times" = some (some (.ref f12))) (l12 : K.lookup f12 = some ⟨oc12, od12, .func (PySem.W.fnOf "times" "times" (C8.fnArgs (top 13)) (C8.fnBody (top 13)) (C8.fnScope (top 13)) .none kV12 dc12 pm12 an12 cd12 ct12), sl12⟩) (c12 : PySem.W.codeIn K cd12 "times" = true) (k12 : PySem.W.keepIn K (.ref f12) = true)
    (a13 : PySem.W.nsIn K mainGlobals "shared" = some (some (.ref f13))) (l13 : K.lookup f13 = some ⟨oc13, od13, .func (PySem.W.fnOf "shared" "shared" (C8.fnArgs (top 14)) (C8.fnBody (top 14)) (C8.fnScope (top 14)) .none kV13 dc13 pm13 an13 cd13 ct13), sl13⟩) (c13 : PySem.W.codeIn K cd13 "shared" = true) (k13 : PySem.W.keepIn K (.ref f13) = true)
    (a14 : PySem.W.nsIn K mainGlobals "_law_bounds_right" = some (some (.ref f14))) (l14 : K.lookup f14 = some ⟨oc14, od14, .func (PySem.W.fnOf "_law_bounds_right" "_law_bounds_right" (C8.fnArgs (top 22)) (C8.fnBody (top 22)) (C8.fnScope (top 22)) .none kV14 dc14 pm14 an14 cd14 ct14), sl14⟩) (c14 : PySem.W.codeIn K cd14 "_law_bounds_right" = true) (k14 : PySem.W.keepIn K (.ref f14) = true)
    (a15 : PySem.W.nsIn K mainGlobals "shared_out" = some (some (.ref f15))) (l15 : K.lookup f15 = some ⟨oc15, od15, .func (PySem.W.fnOf "shared_out" "shared_out" (C8.fnArgs (top 7)) (C8.fnBody (top 7)) (C8.fnScope (top 7)) .none kV15 dc15 pm15 an15 cd15 ct15), sl15⟩) (c15 : PySem.W.codeIn K cd15 "shared_out" = true) (k15 : PySem.W.keepIn K (.ref f15) = true)
    (a16 : PySem.W.nsIn K mainGlobals "fractions_unless" = some (some (.ref f16))) (l16 : K.lookup f16 = some ⟨oc16, od16, .func (PySem.W.fnOf "fractions_unless" "fractions_unless" (C8.fnArgs (top 10)) (C8.fnBody (top 10)) (C8.fnScope (top 10)) .none kV16 dc16 pm16 an16 cd16 ct16), sl16⟩) (c16 : PySem.W.codeIn K cd16 "fractions_unless" = true) (k16 : PySem.W.keepIn K (.ref f16) = true)
    (z0 : PySem.W.nsIn K mainGlobals "abs" = some none)
    (z1 : PySem.W.nsIn K mainGlobals "bool" = some none)
    (z2 : PySem.W.nsIn K mainGlobals "int" = some none)
    (z3 : PySem.W.nsIn K mainGlobals "isinstance" = some none)
    (z4 : PySem.W.nsIn K mainGlobals "len" = some none)
    (z5 : PySem.W.nsIn K mainGlobals "tuple" = some none)
    (ea0 : PySem.W.nsIn K mainGlobals "NoFraction" = some (some (.ref e0))) (ek0 : PySem.W.keepIn K (.ref e0) = true) (ex0 : PySem.W.excIn K e0 [.type "ValueError", .type "Exception", .type "BaseException", .type "object"] "ValueError.__new__" = true) (eb0 : PySem.W.subIn K (.ref e0) (.type "BaseException") = some true) (et0 : PySem.W.typeIn K (.ref e0) = some (.type "type"))
    (ea1 : PySem.W.nsIn K mainGlobals "RanError" = some (some (.ref e1))) (ek1 : PySem.W.keepIn K (.ref e1) = true) (ex1 : PySem.W.excIn K e1 [.type "ValueError", .type "Exception", .type "BaseException", .type "object"] "ValueError.__new__" = true) (eb1 : PySem.W.subIn K (.ref e1) (.type "BaseException") = some true) (et1 : PySem.W.typeIn K (.ref e1) = some (.type "type"))
    (xe0 : PySem.W.exmOne K (.ref e0) (.ref e0) = some true)
    (xe1 : PySem.W.exmOne K (.ref e0) (.ref e1) = some true) :
    ∃ (A0 : Ad) (fd : Nat → FuncData), A0.K = K ∧ A0.fa 6 = fa ∧ (∀ base : Heap, K.In base → base.Ns mainGlobals mg → Tops { toAd := { A0 with P := l.prog, w := w, tb := [] }, mg := mg, base := base, G := gG, nm := gNm, fd := fd, ps := gPs }) ∧ ∀ (s : Shared) (u : Value), BindsTo s (fd 6) ⟨[u], []⟩ [("_law_script", u)] := by
  cases hfa.symm.trans (PySem.W.mg_of X G a6)
  have FD7 : FunD K "fraction" "fraction" (C8.fnArgs (top 8)) (C8.fnBody (top 8)) (C8.fnScope (top 8)) [.int 1] [] f7 (PySem.W.fnOf "fraction" "fraction" (C8.fnArgs (top 8)) (C8.fnBody (top 8)) (C8.fnScope (top 8)) (.ref dT7) kV7 dc7 pm7 an7 cd7 ct7) := ⟨⟨_, _, _, _, _, _, _, _, _, _, rfl, l7, c7, .inr ⟨by simp, dT7, _, [.int 1 du7], _, rfl, dl7, rfl, .cons ⟨_, rfl⟩ .nil⟩, .inl rfl⟩, k7⟩
  obtain ⟨dz7, dv7, B2_7⟩ := FD7.binds1 (ps := ["top", "bottom"]) 2 1 (by simp) rfl (fun T kV doc pm an cdv ct us its h1 h2 => match us, its, h1, h2 with | [_, _], [_], _, _ => ⟨_, rfl, rfl⟩)
  cases dv7
  obtain ⟨dy7, dw7, B1_7⟩ := FD7.binds1 (ps := ["top", "bottom"]) 1 0 (by simp) rfl (fun T kV doc pm an cdv ct us its h1 h2 => match us, its, h1, h2 with | [_], [_], _, _ => ⟨_, rfl, rfl⟩)
  refine ⟨⟨K, fun k => ([f0, f1, f2, f3, f4, f5, fa, f7, f8, f9, f10, f11, f12, f13, f7, f14, f15, f16] : List Addr).getD k 0, fun k => ([e0, e0, e0, e0, e0, e1, e0, e0, e0, e0, e0] : List Addr).getD k 0, l.prog, w, [], fun k => ([] : List Addr).getD k 0⟩,
    fun k => ([PySem.W.fnOf "is_whole" "is_whole" (C8.fnArgs (top 4)) (C8.fnBody (top 4)) (C8.fnScope (top 4)) .none kV0 dc0 pm0 an0 cd0 ct0, PySem.W.fnOf "_law_well" "_law_well" (C8.fnArgs (top 16)) (C8.fnBody (top 16)) (C8.fnScope (top 16)) .none kV1 dc1 pm1 an1 cd1 ct1, PySem.W.fnOf "_law_great" "_law_great" (C8.fnArgs (top 19)) (C8.fnBody (top 19)) (C8.fnScope (top 19)) .none kV2 dc2 pm2 an2 cd2 ct2, PySem.W.fnOf "_law_lowest" "_law_lowest" (C8.fnArgs (top 20)) (C8.fnBody (top 20)) (C8.fnScope (top 20)) .none kV3 dc3 pm3 an3 cd3 ct3, PySem.W.fnOf "_law_draw" "_law_draw" (C8.fnArgs (top 17)) (C8.fnBody (top 17)) (C8.fnScope (top 17)) .none kV4 dc4 pm4 an4 cd4 ct4, PySem.W.fnOf "_law_one" "_law_one" (C8.fnArgs (top 18)) (C8.fnBody (top 18)) (C8.fnScope (top 18)) .none kV5 dc5 pm5 an5 cd5 ct5, PySem.W.fnOf "law" "law" (C8.fnArgs (top 23)) (C8.fnBody (top 23)) (C8.fnScope (top 23)) .none kV6 dc6 pm6 an6 cd6 ct6, PySem.W.fnOf "fraction" "fraction" (C8.fnArgs (top 8)) (C8.fnBody (top 8)) (C8.fnScope (top 8)) (.ref dT7) kV7 dc7 pm7 an7 cd7 ct7, PySem.W.fnOf "_law_told" "_law_told" (C8.fnArgs (top 21)) (C8.fnBody (top 21)) (C8.fnScope (top 21)) .none kV8 dc8 pm8 an8 cd8 ct8, PySem.W.fnOf "is_fraction" "is_fraction" (C8.fnArgs (top 9)) (C8.fnBody (top 9)) (C8.fnScope (top 9)) .none kV9 dc9 pm9 an9 cd9 ct9, PySem.W.fnOf "plus" "plus" (C8.fnArgs (top 11)) (C8.fnBody (top 11)) (C8.fnScope (top 11)) .none kV10 dc10 pm10 an10 cd10 ct10, PySem.W.fnOf "minus" "minus" (C8.fnArgs (top 12)) (C8.fnBody (top 12)) (C8.fnScope (top 12)) .none kV11 dc11 pm11 an11 cd11 ct11, PySem.W.fnOf "times" "times" (C8.fnArgs (top 13)) (C8.fnBody (top 13)) (C8.fnScope (top 13)) .none kV12 dc12 pm12 an12 cd12 ct12, PySem.W.fnOf "shared" "shared" (C8.fnArgs (top 14)) (C8.fnBody (top 14)) (C8.fnScope (top 14)) .none kV13 dc13 pm13 an13 cd13 ct13, PySem.W.fnOf "fraction" "fraction" (C8.fnArgs (top 8)) (C8.fnBody (top 8)) (C8.fnScope (top 8)) (.ref dT7) kV7 dc7 pm7 an7 cd7 ct7, PySem.W.fnOf "_law_bounds_right" "_law_bounds_right" (C8.fnArgs (top 22)) (C8.fnBody (top 22)) (C8.fnScope (top 22)) .none kV14 dc14 pm14 an14 cd14 ct14, PySem.W.fnOf "shared_out" "shared_out" (C8.fnArgs (top 7)) (C8.fnBody (top 7)) (C8.fnScope (top 7)) .none kV15 dc15 pm15 an15 cd15 ct15, PySem.W.fnOf "fractions_unless" "fractions_unless" (C8.fnArgs (top 10)) (C8.fnBody (top 10)) (C8.fnScope (top 10)) .none kV16 dc16 pm16 an16 cd16 ct16] : List FuncData).getD k (PySem.W.fnOf "law" "law" (C8.fnArgs (top 23)) (C8.fnBody (top 23)) (C8.fnScope (top 23)) .none kV6 dc6 pm6 an6 cd6 ct6), rfl, rfl, fun base _ _ => ?_, fun s u => .of_eq rfl⟩
  refine ⟨fns_of ⟨?t0, ?t1, ?t2, ?t3, ?t4, ?t5, ?t6, ?t7, ?t8, ?t9, ?t10, ?t11, ?t12, ?t13, ?t14, ?t15, ?t16, ?t17, trivial⟩, (kw_of1 (k0 := 14) (q0 := ("bottom", (.int 1))) rfl ?kw), blt_of' ⟨PySem.W.mg_none_of X G z0, PySem.W.mg_none_of X G z1, PySem.W.mg_none_of X G z2, PySem.W.mg_none_of X G z3, PySem.W.mg_none_of X G z4, PySem.W.mg_none_of X G z5, trivial⟩, gls_of trivial, cls_of ⟨⟨PySem.W.mg_of X G ea0, ek0, (fun _ => ex0), eb0, et0⟩, ⟨PySem.W.mg_of X G ea0, ek0, (fun _ => ex0), eb0, et0⟩, ⟨PySem.W.mg_of X G ea0, ek0, (fun _ => ex0), eb0, et0⟩, ⟨PySem.W.mg_of X G ea0, ek0, (fun _ => ex0), eb0, et0⟩, ⟨PySem.W.mg_of X G ea0, ek0, (fun _ => ex0), eb0, et0⟩, ⟨PySem.W.mg_of X G ea1, ek1, (fun _ => ex1), eb1, et1⟩, ⟨PySem.W.mg_of X G ea0, ek0, (fun _ => ex0), eb0, et0⟩, ⟨PySem.W.mg_of X G ea0, ek0, (fun _ => ex0), eb0, et0⟩, ⟨PySem.W.mg_of X G ea0, ek0, (fun _ => ex0), eb0, et0⟩, ⟨PySem.W.mg_of X G ea0, ek0, (fun _ => ex0), eb0, et0⟩, ⟨PySem.W.mg_of X G ea0, ek0, (fun _ => ex0), eb0, et0⟩, trivial⟩, xks_of ⟨(fun f h => nomatch (xl_0.symm.trans h)), (fun f h => nomatch (xl_1.symm.trans h)), (fun f h => nomatch (xl_2.symm.trans h)), (fun f h => nomatch (xl_3.symm.trans h)), (fun f h => nomatch (xl_4.symm.trans h)), (fun f h => nomatch (xl_5.symm.trans h)), (fun f h => nomatch (xl_6.symm.trans h)), (fun f h => nomatch (xl_7.symm.trans h)), (fun f h => nomatch (xl_8.symm.trans h)), (fun f h => nomatch (xl_9.symm.trans h)), (fun f h => nomatch (xl_10.symm.trans h)), trivial⟩, xfs_of trivial, xis_of trivial, fun h => absurd rfl h, vf_of (by kernel_rfl), kls_of trivial, exs_of ⟨?ex0, ?ex1, trivial⟩, xos_of trivial, kns_of trivial⟩
  case ex0 => exact xe0
  case ex1 => exact xe1
  case kw =>
    match dy7, dw7, B1_7 with
    | [u], .cons rv .nil, b => exact ⟨_, u, b, rv, fun _ _ => rfl⟩
  case t0 => exact top_mk ["thing", "low", "high"] rfl rfl rfl rfl l0 c0 k_fis_whole (fun _ => PySem.W.mg_of X G a0) k0 (fun _ => .all fun us hl => match us, hl with | [_, _, _], _ => rfl) (noLam (by first | rfl | kernel_rfl))
  case t1 => exact top_mk ["_law_cell"] rfl rfl rfl rfl l1 c1 k_c_law_well (fun _ => PySem.W.mg_of X G a1) k1 (fun _ => .all fun us hl => match us, hl with | [_], _ => rfl) (noLam (by first | rfl | kernel_rfl))
  case t2 => exact top_mk ["_law_well_here", "_law_kind"] rfl rfl rfl rfl l2 c2 k_f_law_great (fun _ => PySem.W.mg_of X G a2) k2 (fun _ => .all fun us hl => match us, hl with | [_], _ => rfl) (noLam (by first | rfl | kernel_rfl))
  case t3 => exact top_mk ["_law_top", "_law_bottom", "_law_one_here", "_law_other", "_law_sign"] rfl rfl rfl rfl l3 c3 k_f_law_lowest (fun _ => PySem.W.mg_of X G a3) k3 (fun _ => .all fun us hl => match us, hl with | [_, _], _ => rfl) (noLam (by first | rfl | kernel_rfl))
  case t4 => exact top_mk ["_law_well_here", "_law_many", "_law_found", "_law_mix"] rfl rfl rfl rfl l4 c4 k_f_law_draw (fun _ => PySem.W.mg_of X G a4) k4 (fun _ => .all fun us hl => match us, hl with | [_, _], _ => rfl) (noLam (by first | rfl | kernel_rfl))
  case t5 => exact top_mk ["_law_well_here", "_law_some"] rfl rfl rfl rfl l5 c5 k_f_law_one (fun _ => PySem.W.mg_of X G a5) k5 (fun _ => .all fun us hl => match us, hl with | [_, _], _ => rfl) (noLam (by first | rfl | kernel_rfl))
  case t6 => exact top_mk ["_law_script", "_law_cell", "_law_well_here", "_law_top", "_law_bottom", "_law_one_here", "_law_other", "_law_due", "_law_deeds", "_law_deed", "_law_many", "_law_odd", "_law_bad"] rfl rfl rfl rfl l6 c6 k_flaw_20 (fun _ => PySem.W.mg_of X G a6) k6 (fun _ => .all fun us hl => match us, hl with | [_], _ => rfl) (noLam (by first | rfl | kernel_rfl))
  case t7 => exact top_mk ["top", "bottom", "common"] rfl rfl rfl rfl l7 c7 k_ffraction (fun _ => PySem.W.mg_of X G a7) k7 (fun _ => B2_7) (noLam (by first | rfl | kernel_rfl))
  case t8 => exact top_mk ["_law_deed", "_law_one_here", "_law_other"] rfl rfl rfl rfl l8 c8 k_f_law_told (fun _ => PySem.W.mg_of X G a8) k8 (fun _ => .all fun us hl => match us, hl with | [_, _, _], _ => rfl) (noLam (by first | rfl | kernel_rfl))
  case t9 => exact top_mk ["thing"] rfl rfl rfl rfl l9 c9 k_fis_fraction (fun _ => PySem.W.mg_of X G a9) k9 (fun _ => .all fun us hl => match us, hl with | [_], _ => rfl) (noLam (by first | rfl | kernel_rfl))
  case t10 => exact top_mk ["one", "other", "top", "bottom", "more", "under"] rfl rfl rfl rfl l10 c10 k_fplus (fun _ => PySem.W.mg_of X G a10) k10 (fun _ => .all fun us hl => match us, hl with | [_, _], _ => rfl) (noLam (by first | rfl | kernel_rfl))
  case t11 => exact top_mk ["one", "other", "top", "bottom", "less", "under"] rfl rfl rfl rfl l11 c11 k_fminus (fun _ => PySem.W.mg_of X G a11) k11 (fun _ => .all fun us hl => match us, hl with | [_, _], _ => rfl) (noLam (by first | rfl | kernel_rfl))
  case t12 => exact top_mk ["one", "other"] rfl rfl rfl rfl l12 c12 k_ftimes (fun _ => PySem.W.mg_of X G a12) k12 (fun _ => .all fun us hl => match us, hl with | [_, _], _ => rfl) (noLam (by first | rfl | kernel_rfl))
  case t13 => exact top_mk ["one", "other"] rfl rfl rfl rfl l13 c13 k_fshared (fun _ => PySem.W.mg_of X G a13) k13 (fun _ => .all fun us hl => match us, hl with | [_, _], _ => rfl) (noLam (by first | rfl | kernel_rfl))
  case t14 => exact top_mk ["top", "bottom", "common"] rfl rfl rfl rfl l7 c7 k_dfraction (fun _ => PySem.W.mg_of X G a7) k7 (fun h => nomatch (show (some _ : Option (Str × D)) = none from h)) (noLam (by first | rfl | kernel_rfl))
  case t15 => exact top_mk ["_law_well_here", "_law_number", "_law_thing", "_law_low", "_law_high", "_law_due"] rfl rfl rfl rfl l14 c14 k_f_law_bounds_right (fun _ => PySem.W.mg_of X G a14) k14 (fun _ => .all fun us hl => match us, hl with | [_, _], _ => rfl) (noLam (by first | rfl | kernel_rfl))
  case t16 => exact top_mk ["one", "other"] rfl rfl rfl rfl l15 c15 k_fshared_out (fun _ => PySem.W.mg_of X G a15) k15 (fun _ => .all fun us hl => match us, hl with | [_, _], _ => rfl) (noLam (by first | rfl | kernel_rfl))
  case t17 => exact top_mk ["one", "other"] rfl rfl rfl rfl l16 c16 k_ffractions_unless (fun _ => PySem.W.mg_of X G a16) k16 (fun _ => .all fun us hl => match us, hl with | [_, _], _ => rfl) (noLam (by first | rfl | kernel_rfl))
end Ev
open PySem PySem.W PyProof.Rows
theorem PySem.Challenge.cw_whatran_k01_shares_as_fractions_holds : PySem.Challenge.rw_whatran_k01_shares_as_fractions.Holds := by
  w_on; o_law; k_head; (case hw => w_witness2)
  k_fill
  refine Ev.walkG (l := PySem.Challenge.rw_whatran_k01_shares_as_fractions) (dp := 15) (x := "_law_script") (G := Ev.gG) (nm := Ev.gNm) (ps := Ev.gPs) (kl := 6) rfl (by decide) rfl ⟨rfl, by decide, by decide⟩ rfl rfl (fun w h Y => PySem.W.kIn_of Y) ?F Ev.lawrun
  case F =>
    intro w mg fa h KX G hmg
    refine' Ev.all_mk KX G hmg ?qa0 ?ql0 ?qc0 ?qk0 ?qa1 ?ql1 ?qc1 ?qk1 ?qa2 ?ql2 ?qc2 ?qk2 ?qa3 ?ql3 ?qc3 ?qk3 ?qa4 ?ql4 ?qc4 ?qk4 ?qa5 ?ql5 ?qc5 ?qk5 ?qa6 ?ql6 ?qc6 ?qk6 ?qa7 ?ql7 ?qc7 ?qk7 ?qdl7 ?qa8 ?ql8 ?qc8 ?qk8 ?qa9 ?ql9 ?qc9 ?qk9 ?qa10 ?ql10 ?qc10 ?qk10 ?qa11 ?ql11 ?qc11 ?qk11 ?qa12 ?ql12 ?qc12 ?qk12 ?qa13 ?ql13 ?qc13 ?qk13 ?qa14 ?ql14 ?qc14 ?qk14 ?qa15 ?ql15 ?qc15 ?qk15 ?qa16 ?ql16 ?qc16 ?qk16 ?qz0 ?qz1 ?qz2 ?qz3 ?qz4 ?qz5 ?qea0 ?qek0 ?qex0 ?qeb0 ?qet0 ?qea1 ?qek1 ?qex1 ?qeb1 ?qet1 ?qxe0 ?qxe1
    (case qa0 => k_is)
    (case ql0 => k_is)
    (case qc0 => k_is)
    (case qk0 => k_is)
    (case qa1 => k_is)
    (case ql1 => k_is)
    (case qc1 => k_is)
    (case qk1 => k_is)
    (case qa2 => k_is)
    (case ql2 => k_is)
    (case qc2 => k_is)
    (case qk2 => k_is)
    (case qa3 => k_is)
    (case ql3 => k_is)
    (case qc3 => k_is)
    (case qk3 => k_is)
    (case qa4 => k_is)
    (case ql4 => k_is)
    (case qc4 => k_is)
    (case qk4 => k_is)
    (case qa5 => k_is)
    (case ql5 => k_is)
    (case qc5 => k_is)
    (case qk5 => k_is)
    (case qa6 => k_is)
    (case ql6 => k_is)
    (case qc6 => k_is)
    (case qk6 => k_is)
    (case qa7 => k_is)
    (case ql7 => k_is)
    (case qc7 => k_is)
    (case qk7 => k_is)
    (case qdl7 => k_is)
    (case qa8 => k_is)
    (case ql8 => k_is)
    (case qc8 => k_is)
    (case qk8 => k_is)
    (case qa9 => k_is)
    (case ql9 => k_is)
    (case qc9 => k_is)
    (case qk9 => k_is)
    (case qa10 => k_is)
    (case ql10 => k_is)
    (case qc10 => k_is)
    (case qk10 => k_is)
    (case qa11 => k_is)
    (case ql11 => k_is)
    (case qc11 => k_is)
    (case qk11 => k_is)
    (case qa12 => k_is)
    (case ql12 => k_is)
    (case qc12 => k_is)
    (case qk12 => k_is)
    (case qa13 => k_is)
    (case ql13 => k_is)
    (case qc13 => k_is)
    (case qk13 => k_is)
    (case qa14 => k_is)
    (case ql14 => k_is)
    (case qc14 => k_is)
    (case qk14 => k_is)
    (case qa15 => k_is)
    (case ql15 => k_is)
    (case qc15 => k_is)
    (case qk15 => k_is)
    (case qa16 => k_is)
    (case ql16 => k_is)
    (case qc16 => k_is)
    (case qk16 => k_is)
    (case qz0 => k_is)
    (case qz1 => k_is)
    (case qz2 => k_is)
    (case qz3 => k_is)
    (case qz4 => k_is)
    (case qz5 => k_is)
    (case qea0 => k_is)
    (case qek0 => k_is)
    (case qex0 => first | k_is | kernel_rfl)
    (case qeb0 => k_is)
    (case qet0 => k_is)
    (case qea1 => k_is)
    (case qek1 => k_is)
    (case qex1 => first | k_is | kernel_rfl)
    (case qeb1 => k_is)
    (case qet1 => k_is)
    (case qxe0 => first | k_is | kernel_rfl)
    (case qxe1 => first | k_is | kernel_rfl)
